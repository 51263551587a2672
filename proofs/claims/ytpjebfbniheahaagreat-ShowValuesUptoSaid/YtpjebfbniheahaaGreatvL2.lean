/- The evaluator's library. -/
import Derived.Test.YtpjebfbniheahaaGreatvL1
import Derived.Lib.Builder
import Derived.Laws.IdiomStrings
import Derived.Laws.BytesString
import Derived.Laws.RangeString
import Derived.Lib.MakeNoZero
import Derived.Lib.UnsafeStr
import Derived.Laws.Externs
import Derived.Calls
import Derived.AtR
set_option linter.unusedVariables false
set_option linter.unusedSimpArgs false
namespace Dv
open Go Go.RowKit
section
variable {E:Env} (hE:EnvOk E) {w0 w:World} {Wx:Nat→Nat→Prop} {bl:zh} {objs:List Obj}
theorem Does.ext {objs1 objs2:List Obj} {w1 w2:World} {bl1 bl2:zh} {m:Sem Value} {p:PV} {v:Value} (hm:m.run E.P w=.ok v w2)
  (H1:Ext w (WT Wx bl objs) bl objs w1 (WT Wx bl1 objs1) bl1 objs1) (S:Sim w0 Wx w2 bl2 objs2) (H2:Ext w1 (WT Wx bl1 objs1) bl1 objs1 w2 (WT Wx bl2 objs2) bl2 objs2)
  (hv:VR w2 (WT Wx bl2 objs2) bl2 objs2 p v):Does E w0 Wx w bl objs m p objs2:=⟨v,w2,bl2,hm,S,H1.trans H2,hv⟩
theorem z1l4 (S:Sim w0 Wx w bl objs) {sz:Nat} {x:PV} {xs:List PV} {vx:Value} (hx:VR w (WT Wx bl objs) bl objs x vx)
  (h:z1ie sz objs x=some xs) :
  ∃ arr,(∀ w':World,(Builtin.lenOf vx).run E.P w'=.ok xs.length w')∧Holds w (WT Wx bl objs) arr sz xs∧∀ w':World,w'.heap=w.heap→(Builtin.firstCells sz xs.length vx).run E.P w'=.ok arr w':=by
 have other:zj3 sz objs x=some xs→∃ arr,(∀ w':World,(Builtin.lenOf vx).run E.P w'=.ok xs.length w')∧Holds w (WT Wx bl objs) arr sz xs∧∀ w':World,w'.heap=w.heap→(Builtin.firstCells sz xs.length vx).run E.P w'=.ok arr w':=by
  intro h
  obtain ⟨a,c,arr,rfl,_,h1,h2,_⟩:=zlu (P:=E.P) S hx h
  exact ⟨arr,fun w'=>rfl,h1,h2⟩
 unfold z1ie at h
 cases x with
 | str s =>
  simp only at h
  cases hc:(sz == 1) with
  | false=>rw [hc] at h; simp at h
  | true =>
   rw [hc] at h
   simp only [cond_true,oJ] at h
   subst h
   rw [beq_iff_eq] at hc
   subst hc
   have:=hx.frozen_leaf trivial
   cases this
   refine ⟨(s.map fun b=>Value.int .u8 b.toNat).toArray,fun w'=>by simp [Builtin.lenOf,ByteArray.size],⟨by simp,fun k p hp=>?_⟩,fun w' _=>?_⟩
   ·simp only [List.getElem?_map,Option.map_eq_some_iff] at hp
    obtain ⟨b,hb,rfl⟩:=hp
    refine ⟨rfl,rfl,fun j q hq=>?_⟩
    cases j with
    | succ j=>simp [byteV,PV.cellsL] at hq
    | zero =>
     simp [byteV,PV.cellsL] at hq
     subst hq
     exact ⟨.int .u8 b.toNat,by simp [hb],.int _ _⟩
   ·simp only [Builtin.firstCells,List.length_map]
    have:(⟨s.toArray⟩:ByteArray).extract 0 s.length=⟨s.toArray⟩:=by
     have:s.length=(⟨s.toArray⟩:ByteArray).size:=by simp [ByteArray.size]
     rw [this,ByteArray.extract_zero_size]
    rw [this]
    simp
 | _=>exact other h
include hE
theorem isRow_und {u:Nat} (h:(E.ti u).d.isRow=true):(∃ e',E.P.underlying u=some (.slice e'))∨E.P.underlying u=some .string:=by
 cases hd:(E.ti u).d <;> rw [hd] at h <;> simp [TD.isRow] at h
 ·exact .inr (und hE hd)
 ·exact .inl ⟨_,und hE hd⟩
theorem zkf {t e:Nat} (h:zmz E t=some e):E.P.underlying t=some (.slice e):=by
 unfold zmz at h
 cases hd:(E.ti t).d <;> rw [hd] at h <;> simp at h
 subst h
 exact und hE hd
theorem z1es (S:Sim w0 Wx w bl objs) {t u:Nat} (ty:Nat) (hu:(E.ti u).d.isRow=true) {d x p:PV} {vd vx:Value} {objs':List Obj}
  (hd:VR w (WT Wx bl objs) bl objs d vd) (hx:VR w (WT Wx bl objs) bl objs x vx) (h:z100 E t objs d x (fun v o=>some (v,o))=some (p,objs')) :
  Does E w0 Wx w bl objs (Builtin.append_ #[t,u] ty #[vd,vx]) p objs':=by
 unfold z100 at h
 cases he:zmz E t with
 | none=>rw [he] at h; cases h
 | some e =>
 rw [he] at h
 simp only at h
 cases hk:((E.ti e).d.known&&!Nat.beq (E.ti e).bytes 0) with
 | false=>rw [hk] at h; simp at h
 | true =>
 rw [hk] at h
 simp only [Bool.not_true,cond_false] at h
 simp only [Bool.and_eq_true,Bool.not_eq_true'] at hk
 obtain ⟨hkn,hby⟩:=hk
 have hby:(E.ti e).bytes≠0:=by intro h0; rw [h0] at hby; cases hby
 cases hxs:z1ie (E.ti e).size objs x with
 | none=>rw [hxs] at h; cases h
 | some xs =>
 rw [hxs] at h
 simp only at h
 obtain ⟨arr,hlen,hA,hfc⟩:=z1l4 (E:=E) S hx hxs
 obtain ⟨i,z,hi,hsz,hbytes,hz,hzk,hzs⟩:=zfq hE hkn
 have ht:=zkf hE he
 have hu':=isRow_und hE hu
 rw [← hsz] at hfc hA hzs h
 rw [← hbytes] at hby h
 have out:∀ (objs1:List Obj) (old:Array Value) (lold:List PV) (base:Option Addr) (sCap fz:Nat),Sim w0 Wx w bl objs1→Ext w (WT Wx bl objs) bl objs w (WT Wx bl objs1) bl objs1→objs1.length=objs.length →
   vd=.slice base lold.length sCap→Holds w (WT Wx bl objs) old i.size lold→(∀ w':World,w'.heap=w.heap→(Builtin.firstCells i.size lold.length vd).run E.P w'=.ok old w')→¬ lold.length+xs.length≤sCap →
   (lold.length+xs.length)*i.bytes≤2 ^ 46→p=.lall objs.length→objs'=objs1++[.row e i.size (lold++xs) fz none]→Does E w0 Wx w bl objs (Builtin.append_ #[t,u] ty #[vd,vx]) p objs':=by
  rintro objs1 old lold base sCap fz S1 H1 hL rfl hO hfo hneed hfit rfl rfl
  have hrun:=z16q (P:=E.P) (w:=w) t u ty e i z ht hi hz hu' vx xs.length (hlen w) arr old (hfc _ rfl) base lold.length sCap (hfo _ rfl) hneed hby hfit
  have hS2:=zlw S1
  have H2:=H1.trans (zea (w:=w) (Wx:=Wx) (bl:=bl) (objs:=objs1))
  have hcap:=grownCap_ge w (lold.length+xs.length) sCap e
  have hOA:=(hO.append hA).mono H2.keep
  have hsize:(old++arr++Builtin.zeroCells z.cells (grownCap w (lold.length+xs.length) sCap e-(lold.length+xs.length))).size=grownCap w (lold.length+xs.length) sCap e*i.size:=by
   rw [Array.size_append,Array.size_append,size_zeroCells,hzs,hO.1,hA.1,← Nat.add_mul,← Nat.add_mul]
   congr 1; omega
  obtain ⟨h1,h2,h3⟩:=zvk hS2 (old++arr++Builtin.zeroCells z.cells (grownCap w (lold.length+xs.length) sCap e-(lold.length+xs.length))) e (0,0) (noFz0 _) i.size (lold++xs) none fz
   (by rw [hsize,List.length_append]; exact Nat.mul_le_mul_right _ hcap) (fun k q hq=>by
    obtain ⟨a1,a2,a3⟩:=hOA.2 k q hq
    refine ⟨a1,fun j x hx=>?_⟩
    obtain ⟨v,b1,b2⟩:=a3 j x hx
    refine ⟨zk a2 x (List.mem_of_getElem? hx),v,?_,b2⟩
    have hlt:k*i.size+j<(old++arr).size:=by
     rcases Nat.lt_or_ge (k*i.size+j) (old++arr).size with h' | h'
     ·exact h'
     ·rw [Array.getElem?_eq_none h'] at b1; cases b1
    rw [Array.getElem?_append_left hlt]; exact b1)
  have h4:=h3 (grownCap w (lold.length+xs.length) sCap e) (by rw [List.length_append]; exact hcap) (by rw [hsize]; exact Nat.le_refl _) (fun m hm=>by cases hm)
  rw [List.length_append,hL] at h4
  exact ⟨_,_,_,hrun,h1,H2.trans h2,h4⟩
 have none_:∀ (objs1:List Obj) (a:Option Addr),Sim w0 Wx w bl objs1→Ext w (WT Wx bl objs) bl objs w (WT Wx bl objs1) bl objs1→objs1.length=objs.length→vd=.slice a 0 0→xs=[]→p=.lall objs.length →
   objs'=objs1++[.row e i.size [] 0 none]→Does E w0 Wx w bl objs (Builtin.append_ #[t,u] ty #[vd,vx]) p objs':=by
  rintro objs1 a S1 H1 hL rfl rfl rfl rfl
  have harr:arr=#[]:=by
   have:=hA.1
   simp at this
   exact this
  have hrun:=zbo (P:=E.P) (w:=w) t u ty e i ht hi hu' vx 0 (hlen w) arr (hfc _ rfl) a 0 0 (Nat.le_refl _)
  have hrun':(Builtin.append_ #[t,u] ty #[.slice a 0 0,vx]).run E.P w=.ok (.slice a 0 0) w:=by
   rw [hrun,harr]
   cases a <;> rfl
  refine ⟨_,w,bl++[none],hrun',z158 S1 e _,H1.trans (zpc S1 e _),?_⟩
  rw [← hL]
  exact .lallE objs1.length i.size 0 a (by simp) (z11 _ _ _) (by rw [← S1.len]; simp)
 have appL_some:∀ (l l':List PV),appL i.bytes l xs=some l'→l'=l++xs∧(l.length+xs.length)*i.bytes≤2 ^ 46:=by
  intro l l' h
  unfold appL at h
  by_cases hle:(l.length+xs.length)*i.bytes≤2 ^ 46
  ·rw [decide_eq_true hle] at h
   simp only [cond_true,oJ] at h
   exact ⟨h.symm,hle⟩
  ·rw [decide_eq_false hle] at h; simp at h
 cases d with
 | sl0 =>
  simp only at h
  cases hl':appL i.bytes [] xs with
  | none=>rw [hl'] at h; cases h
  | some l' =>
   rw [hl'] at h
   simp only [oB,oJ,pJ] at h
   obtain ⟨hll,hfit⟩:=appL_some _ _ hl'
   rw [hll] at h
   obtain ⟨a,rfl⟩:∃ a,vd=.slice a 0 0:=by
    cases hd with
    | fz _ _ h=>cases h
    | sl0=>exact ⟨none,rfl⟩
    | dead p v i _ hr=>simp [refOf] at hr
   by_cases hne:xs=[]
   ·subst hne
    exact none_ objs a S (Ext.refl _ _ _ _) rfl rfl rfl h.1.symm h.2.symm
   ·have:0<xs.length:=List.length_pos_iff.2 hne
    exact out objs #[] [] a 0 0 S (Ext.refl _ _ _ _) rfl rfl Holds.nil (fun w' _=>z4k w' _ _ _) (by simp; omega) hfit h.1.symm h.2.symm
 | se =>
  simp only at h
  cases hl':appL i.bytes [] xs with
  | none=>rw [hl'] at h; cases h
  | some l' =>
   rw [hl'] at h
   simp only [oB,oJ,pJ] at h
   obtain ⟨hll,hfit⟩:=appL_some _ _ hl'
   rw [hll] at h
   obtain ⟨a,rfl⟩:∃ a,vd=.slice a 0 0:=by
    cases hd with
    | fz _ _ h=>cases h
    | se a=>exact ⟨a,rfl⟩
    | dead p v i _ hr=>simp [refOf] at hr
   by_cases hne:xs=[]
   ·subst hne
    exact none_ objs a S (Ext.refl _ _ _ _) rfl rfl rfl h.1.symm h.2.symm
   ·have:0<xs.length:=List.length_pos_iff.2 hne
    exact out objs #[] [] a 0 0 S (Ext.refl _ _ _ _) rfl rfl Holds.nil (fun w' _=>z4k w' _ _ _) (by simp; omega) hfit h.1.symm h.2.symm
 | lall j =>
  simp only at h
  cases ho:nthD .dead objs j with
  | row u1 s l fz cap =>
   rw [ho] at h
   have hj:=zem ho (by simp)
   have main:∀ (l':List PV),s=i.size→(cap=none→u1=e)→fz≤l.length→appL i.bytes l xs=some l'→p=.lall objs.length →
     ((∀ m,cap=some m→l'.length≤m)→(cap=none→u1=e)→objs'=setN objs j .dead++[.row u1 s l' fz cap]) →
     ((∀ m,cap=some m→¬ l'.length≤m)→objs'=setN objs j .dead++[.row e s l' fz none])→Does E w0 Wx w bl objs (Builtin.append_ #[t,u] ty #[vd,vx]) p objs':=by
    intro l' hs hue hfz hl' hp hin hout
    subst hs
    obtain ⟨rfl,hfit⟩:=appL_some _ _ hl'
    cases hd with
    | fz _ _ h=>cases h
    | dead p v k _ hr _ hdd=>simp only [refOf,oJ] at hr; subst hr; rw [ho] at hdd; cases hdd
    | lall k b o s' fz' c l2 cap2 hk ho' hb hc hm hr =>
     rw [ho] at ho'; cases ho'
     obtain ⟨cs,ee,fr,hheap,hcs⟩:=hr
     by_cases hneed:l.length+xs.length≤c
     ·obtain ⟨cs',fr',hheap',hlen',hnf',hel'⟩:=zdo S hj ho hb
      rw [hheap] at hheap'
      simp only [oJ,Go.Obj.cells.injEq] at hheap'
      obtain ⟨rfl,rfl,rfl⟩:=hheap'
      have hobjs:=hin (fun m hm'=>by rw [List.length_append]; have:=hm m hm'; omega) hue
      obtain ⟨h1,h2,h3⟩:=inplace S hj ho hb hheap hnf' 0 l.length c (by simpa using hcs) hA hneed (by omega) (by omega) cap hm
      have e1:(l.drop 0).take l.length++xs=l++xs:=by simp
      rw [e1,Nat.sub_zero,Nat.zero_mul,Nat.add_zero,Nat.zero_add] at h1 h2 h3
      have hrun:=zbo (P:=E.P) (w:=w) t u ty e i ht hi hu' vx xs.length (hlen w) arr (hfc _ rfl) (some ⟨b,o,none⟩) l.length c hneed
      have hst:=z79 (P:=E.P) b (o+l.length*i.size) arr.toList 0 w cs ee fr hheap hnf' (by
       have m1:(l.length+xs.length)*i.size≤c*i.size:=Nat.mul_le_mul_right _ hneed
       rw [Nat.add_mul] at m1
       have:=hA.1
       simp; omega) hA.one
      simp only [zl7] at hrun
      rw [hst] at hrun
      rw [hp,hobjs]
      exact ⟨_,_,_,hrun,h1,h2,h3⟩
     ·obtain ⟨a',c',old,hv,_,hO,hfo,_⟩:=zlu (P:=E.P) S (x:=.lall j) (sz:=i.size) (xs:=l) (.lall j b o i.size fz c l cap hk ho hb hc hm ⟨cs,ee,fr,hheap,hcs⟩) (by simp [zj3,ho])
      exact out (setN objs j .dead) old l _ c fz (zsf S j) (ziv j) (by simp) rfl hO hfo hneed hfit hp (hout (fun m hm'=>by rw [List.length_append]; have:=hm m hm'; omega))
    | lallE k s' fz' a hk ho' hb =>
     rw [ho] at ho'; cases ho'
     have hobj:objs'=setN objs j .dead++[.row e i.size ([]++xs) fz none]:=hout (fun m hm=>by cases hm)
     obtain rfl:fz=0:=by simpa using hfz
     by_cases hne:xs=[]
     ·subst hne
      exact none_ _ a (zsf S j) (ziv j) (by simp) rfl rfl hp hobj
     ·have:0<xs.length:=List.length_pos_iff.2 hne
      exact out (setN objs j .dead) #[] [] a 0 0 (zsf S j) (ziv j) (by simp) rfl Holds.nil (fun w' _=>z4k w' _ _ _) (by simp; omega) hfit hp hobj
   cases cap with
   | none =>
    simp only at h
    cases hc:((s == i.size)&&(u1 == e)) with
    | false=>rw [hc] at h; simp at h
    | true =>
     rw [hc] at h
     simp only [cond_true] at h
     simp only [Bool.and_eq_true,beq_iff_eq] at hc
     obtain ⟨hc,rfl⟩:=hc
     obtain ⟨hg,h⟩:=zc h
     cases hl':appL i.bytes l xs with
     | none=>rw [hl'] at h; cases h
     | some l' =>
      rw [hl'] at h
      simp only [oB,oJ,pJ] at h
      exact main l' hc (fun _=>rfl) (zp5 hg) hl' h.1.symm (fun _ _=>h.2.symm) (fun _=>h.2.symm)
   | some m =>
    simp only at h
    cases hc:(s == i.size) with
    | false=>rw [hc] at h; simp at h
    | true =>
     rw [hc] at h
     simp only [cond_true] at h
     obtain ⟨hg,h⟩:=zc h
     cases hl':appL i.bytes l xs with
     | none=>rw [hl'] at h; cases h
     | some l' =>
      rw [hl'] at h
      simp only [oB] at h
      by_cases hle:l'.length≤m
      ·rw [decide_eq_true hle] at h
       simp only [cond_true,oJ,pJ] at h
       exact main l' (by simpa using hc) (fun hn=>by cases hn) (zp5 hg) hl' h.1.symm (fun _ _=>h.2.symm) (fun hn=>absurd hle (hn m rfl))
      ·rw [decide_eq_false hle] at h
       simp only [cond_false,oJ,pJ] at h
       exact main l' (by simpa using hc) (fun hn=>by cases hn) (zp5 hg) hl' h.1.symm (fun hn=>absurd (hn m rfl) hle) (fun _=>h.2.symm)
  | _=>rw [ho] at h; cases h
 | lsl j off len lim =>
  simp only at h
  cases ho:nthD .dead objs j with
  | row u1 s l fz cap =>
   rw [ho] at h
   simp only at h
   have hj:=zem ho (by simp)
   cases hc:((s == i.size)&&(u1 == e)) with
   | false=>rw [hc] at h; simp at h
   | true =>
    rw [hc] at h
    simp only [cond_true] at h
    simp only [Bool.and_eq_true,beq_iff_eq] at hc
    obtain ⟨rfl,rfl⟩:=hc
    obtain ⟨hg,hh⟩:=zc h
    clear h
    have h:=hh
    clear hh
    have hfz:=zp5 hg
    by_cases hin:lim=none∧off+len+xs.length≤l.length
    ·rw [show (lim.isNone&&decide (off+len+xs.length≤l.length))=true by rw [hin.1,decide_eq_true hin.2]; rfl] at h
     simp only [cond_true,oJ,pJ] at h
     obtain ⟨rfl,hin⟩:=hin
     cases hd with
     | fz _ _ h=>cases h
     | dead p v k _ hr _ hdd=>simp only [refOf,oJ] at hr; subst hr; rw [ho] at hdd; cases hdd
     | lsl k _ _ b o s' fz' c _ cap2 l2 hk ho' hb hl hc hm hm' hx' hr =>
      rw [ho] at ho'; cases ho'
      have hx':=hx' rfl
      obtain ⟨cs,ee,fr,hheap,hcs⟩:=hr
      obtain ⟨cs',fr',hheap',hlen',hnf',hel'⟩:=zdo S hj ho hb
      rw [hheap] at hheap'
      simp only [oJ,Go.Obj.cells.injEq] at hheap'
      obtain ⟨rfl,rfl,rfl⟩:=hheap'
      have hneed:len+xs.length≤c:=by omega
      obtain ⟨h1,h2⟩:=rowset S hj ho hb hheap (off+len) hA (by omega) hfz
      have hrun:=zbo (P:=E.P) (w:=w) t u ty _ i ht hi hu' vx xs.length (hlen w) arr (hfc _ rfl) (some ⟨b,o+off*i.size,none⟩) len c hneed
      have n1:(off+len)*i.size=off*i.size+len*i.size:=Nat.add_mul ..
      have hst:=z79 (P:=E.P) b (o+(off+len)*i.size) arr.toList 0 w cs ee fr hheap hnf' (by
       have m1:(len+xs.length)*i.size≤c*i.size:=Nat.mul_le_mul_right _ hneed
       rw [Nat.add_mul] at m1
       rw [Nat.add_mul] at hcs
       have:=hA.1
       simp; omega) hA.one
      simp only [zl7] at hrun
      rw [show o+off*i.size+len*i.size=o+(off+len)*i.size by omega,hst] at hrun
      rw [← h.1,← h.2]
      have hlen2:(l.take (off+len)++(xs++l.drop (off+len+xs.length))).length=l.length:=by simp; omega
      refine ⟨_,_,_,hrun,h1,h2,?_⟩
      exact .lsl j off (len+xs.length) b o i.size fz c none cap _ (by simpa using hj) (z8 _ _ _ _ hj) hb (by rw [hlen2]; omega) hneed (fun m hm=>by cases hm) hm' (fun _=>by rw [hlen2]; exact hx') ⟨_,ee,fr,z1v hheap,by simpa using hcs⟩
     | lslE k _ s' fz' _ cap2 l2 a hk ho' hl hm hm' hx' =>
      rw [ho] at ho'; cases ho'
      have hx':=hx' rfl
      obtain rfl:xs=[]:=List.eq_nil_of_length_eq_zero (by omega)
      have harr:arr=#[]:=by
       have:=hA.1
       simp at this
       exact this
      have hrun:=zbo (P:=E.P) (w:=w) t u ty _ i ht hi hu' vx 0 (hlen w) arr (hfc _ rfl) a 0 0 (Nat.le_refl _)
      have hrun':(Builtin.append_ #[t,u] ty #[.slice a 0 0,vx]).run E.P w=.ok (.slice a 0 0) w:=by
       rw [hrun,harr]
       cases a <;> rfl
      rw [← h.1,← h.2]
      have e1:(l.take (off+0)++([]++l.drop (off+0+([]:List PV).length)))=l:=by simp
      rw [e1]
      have e2:setN objs j (.row u1 i.size l fz cap)=objs:=by rw [← ho,z2z,z4l,List.getElem?_eq_getElem hj]; simp
      rw [e2]
      exact ⟨_,w,bl,hrun',S,Ext.refl _ _ _ _,.lslE j off i.size fz none cap l a hj ho hl hm hm' (fun _=>hx')⟩
    rw [show (lim.isNone&&decide (off+len+xs.length≤l.length))=false by
     cases lim with
     | none=>rw [decide_eq_false (fun hx=>hin ⟨rfl,hx⟩)]; rfl
     | some _=>rfl] at h
    simp only [cond_false] at h
    cases hl':appL i.bytes ((l.drop off).take len) xs with
    | none=>rw [hl'] at h; cases h
    | some l' =>
     rw [hl'] at h
     simp only [oB,oJ,pJ] at h
     obtain ⟨rfl,hfit⟩:=appL_some _ _ hl'
     cases hd with
     | fz _ _ h=>cases h
     | dead p v k _ hr _ hdd=>simp only [refOf,oJ] at hr; subst hr; rw [ho] at hdd; cases hdd
     | lsl k _ _ b o s' fz' c _ cap2 l2 hk ho' hb hl hc hm hm' hx' hr =>
      rw [ho] at ho'; cases ho'
      have hr':=hr
      obtain ⟨cs,ee,fr,hheap,hcs⟩:=hr
      have hll:((l.drop off).take len).length=len:=by simp; omega
      by_cases hneed:len+xs.length≤c
      ·obtain ⟨cs',fr',hheap',hlen',hnf',hel'⟩:=zdo S hj ho hb
       rw [hheap] at hheap'
       simp only [oJ,Go.Obj.cells.injEq] at hheap'
       obtain ⟨rfl,rfl,rfl⟩:=hheap'
       obtain ⟨h1,h2,h3⟩:=inplace S hj ho hb hheap hnf' off len c hcs hA hneed hl hfz none (fun m hm=>by cases hm)
       have hrun:=zbo (P:=E.P) (w:=w) t u ty _ i ht hi hu' vx xs.length (hlen w) arr (hfc _ rfl) (some ⟨b,o+off*i.size,none⟩) len c hneed
       have n1:(off+len)*i.size=off*i.size+len*i.size:=Nat.add_mul ..
       have hst:=z79 (P:=E.P) b (o+(off+len)*i.size) arr.toList 0 w cs ee fr hheap hnf' (by
        have m1:(len+xs.length)*i.size≤c*i.size:=Nat.mul_le_mul_right _ hneed
        rw [Nat.add_mul] at m1
        rw [Nat.add_mul] at hcs
        have:=hA.1
        simp; omega) hA.one
       simp only [zl7] at hrun
       rw [show o+off*i.size+len*i.size=o+(off+len)*i.size by omega,hst] at hrun
       rw [← h.1,← h.2]
       exact ⟨_,_,_,hrun,h1,h2,h3⟩
      ·obtain ⟨a',c',old,hv,_,hO,hfo,_⟩:=zlu (P:=E.P) S (x:=.lsl j off len lim) (sz:=i.size) (xs:=(l.drop off).take len) (.lsl j off len b o i.size fz c lim cap l hk ho hb hl hc hm hm' hx' hr') (by simp [zj3,ho])
       exact out (setN objs j .dead) old ((l.drop off).take len) _ c (fz-off) (zsf S j) (ziv j) (by simp) (by rw [hll]) hO hfo (by rw [hll]; exact hneed) hfit h.1.symm h.2.symm
     | lslE k _ s' fz' _ cap2 l2 a hk ho' hl hm hm' hx' =>
      rw [ho] at ho'; cases ho'
      have hz0:fz-off=0:=by omega
      rw [hz0,List.take_zero,List.nil_append] at h
      by_cases hne:xs=[]
      ·subst hne
       exact none_ _ a (zsf S j) (ziv j) (by simp) rfl rfl h.1.symm h.2.symm
      ·have:0<xs.length:=List.length_pos_iff.2 hne
       exact out (setN objs j .dead) #[] [] a 0 0 (zsf S j) (ziv j) (by simp) rfl Holds.nil (fun w' _=>z4k w' _ _ _) (by simp; omega) (by simpa using hfit) h.1.symm h.2.symm
  | _=>rw [ho] at h; cases h
 | _=>simp at h
end
end Dv

namespace Dv
open Go Go.RowKit
theorem z12y:∀ (vs:List Value) (off k:Nat) (cs:Array Value),(vs.zipIdx k).foldl (fun (cs:Array Value) (x:Value×Nat)=>cs.setIfInBounds (off+x.2) x.1) cs=z45 cs (off+k) vs
 | [],_,_,_=>rfl
 | v::vs,off,k,cs=>by
  rw [List.zipIdx_cons,List.foldl_cons,z12y vs off (k+1)]
  rfl
theorem z1e7 (place:Nat→Option (Nat×Nat)) (cells:Array Value) (i:Nat) (v:Value) (rest:List (Nat×Value)) (off size:Nat) (hp:place i=some (off,size)) (hs:v.cells.size=size) (hle:off+size≤cells.size) :
  Instr.fill place cells ((i,v)::rest)=Instr.fill place (z45 cells off v.cells.toList) rest:=by
 simp only [Instr.fill,hp]
 have h1:(decide (v.cells.size≠size)||decide (off+v.cells.size>cells.size))=false:=by
  simp [hs]; omega
 rw [h1]
 simp only [Bool.false_eq_true,if_false]
 congr 1
 rw [← Array.foldl_toList,Array.toList_zipIdx,z12y]
 rfl
section
variable {w:World} {W:Nat→Nat→Prop} {bl:zh} {objs:List Obj}
def PRel (w:World) (W:Nat→Nat→Prop) (bl:zh) (objs:List Obj):List (Nat×PV)→List (Nat×Value)→Prop
 | [],[]=>True
 | (i,p)::ps,(j,v)::vs=>i=j∧VR w W bl objs p v∧PRel w W bl objs ps vs
 | _,_=>False
def CRel (w:World) (W:Nat→Nat→Prop) (bl:zh) (objs:List Obj) (l:List PV) (cs:Array Value):Prop :=
 l.length=cs.size∧∀ (j:Nat) (p:PV),l[j]?=some p→VR w W bl objs p (cs.getD j undef)
theorem z1at {cs:Array Value} {j:Nat} {v:Value} (h:cs[j]?=some v):cs.getD j undef=v:=by simp [Array.getD_eq_getD_getElem?,h]
theorem CRel.lay {l:List PV} {cs:Array Value} (h:CRel w W bl objs l cs) {p:PV} {v:Value} (hv:VR w W bl objs p v) (hs:allB PV.scalar p.cellsL=true) (off:Nat) (hle:off+p.cellsL.length≤l.length) :
  CRel w W bl objs (za5 l off p.cellsL) (z45 cs off v.cells.toList):=by
 obtain ⟨hsz,hc⟩:=zb8 hv hs
 refine ⟨by rw [z9k,z82]; exact h.1,fun j q hq=>?_⟩
 by_cases hin:off≤j∧j<off+p.cellsL.length
 ·obtain ⟨k,rfl⟩:∃ k,j=off+k:=⟨j-off,by omega⟩
  rw [zs8 _ _ _ _ (by omega) hle] at hq
  obtain ⟨u,h1,_,h3⟩:=hc k q hq
  have:(z45 cs off v.cells.toList)[off+k]?=some u:=by
   rw [zaq _ _ _ _ (by simp; omega) (by have:=h.1; simp; omega)]
   simpa using h1
  rw [z1at this]; exact h3
 ·rw [zhh _ _ _ _ (by omega)] at hq
  have h1:=h.2 j q hq
  have hj:j<cs.size:=by rw [← h.1]; exact z3j hq
  have h2:cs.getD j undef=cs[j]:=by simp [Array.getD_eq_getD_getElem?,hj]
  have:(z45 cs off v.cells.toList)[j]?=some cs[j]:=by
   rw [z3e _ _ _ _ (by simp; omega)]
   exact Array.getElem?_eq_getElem hj
  rw [z1at this,← h2]; exact h1
theorem zzp (place:Nat→Option (Nat×Nat)):∀ (ps:List (Nat×PV)) (vs:List (Nat×Value)) (l l':List PV) (cs:Array Value),PRel w W bl objs ps vs→CRel w W bl objs l cs→fillP place l ps=some l' →
  ∃ cs',Instr.fill place cs vs=some cs'∧CRel w W bl objs l' cs'
 | [],[],l,l',cs,_,hc,h=>by
  simp only [fillP,oJ] at h
  subst h
  exact ⟨cs,rfl,hc⟩
 | (i,p)::ps,(j,v)::vs,l,l',cs,hr,hc,h=>by
  obtain ⟨rfl,hv,hr⟩:=hr
  simp only [fillP] at h
  cases hp:place i with
  | none=>rw [hp] at h; cases h
  | some os =>
   obtain ⟨off,size⟩:=os
   rw [hp] at h
   simp only at h
   cases hb:((p.cellsL.length == size)&&Nat.ble (off+size) l.length&&allB PV.scalar p.cellsL) with
   | false=>rw [hb] at h; simp at h
   | true =>
    rw [hb] at h
    simp only [cond_true] at h
    simp only [Bool.and_eq_true,beq_iff_eq] at hb
    obtain ⟨⟨h1,h2⟩,h3⟩:=hb
    have h2:=Nat.le_of_ble_eq_true h2
    have hsz:=(zb8 hv h3).1
    rw [z1e7 place cs i v vs off size hp (by omega) (by rw [← hc.1]; exact h2)]
    exact zzp place ps vs _ l' _ hr (hc.lay hv h3 off (by omega)) h
 | [],_::_,_,_,_,h,_,_=>h.elim
 | _::_,[],_,_,_,h,_,_=>h.elim
end
section
variable {E:Env} (hE:EnvOk E) {w0 w:World} {Wx:Nat→Nat→Prop} {bl:zh} {objs:List Obj}
include hE
theorem z14b (w:World):∀ (fs:List Field),(∀ f∈fs,(E.ti f.type).d.known=true) →
  (fs.mapM fun f=>do pure (f.offset,← Go.sizeOf f.type):Sem (List (Nat×Nat))).run E.P w=.ok (fs.map fun f=>(f.offset,(E.ti f.type).size)) w
 | [],_=>by simp
 | f::fs,h=>by
  have ih:=z14b w fs (fun g hg=>h g (by simp [hg]))
  simp only [bind_pure_comp] at ih
  simp [List.mapM_cons,z7l hE w (h f (by simp)),ih]
theorem zero_rel {t:Nat} {zs:List PV} (hd:(E.ti t).d.known=true) (hz:(E.ti t).zero=.agg zs) (W:Nat→Nat→Prop):∃ z,(zeroValue t).run E.P w=.ok (.agg z) w∧CRel w W bl objs zs z:=by
 obtain ⟨v,h1,h2⟩:=zx7 hE w hd
 have:=(zla w W bl objs 1000).1 _ _ h2
 rw [hz] at this
 cases this with
 | fz _ _ h=>cases h with | agg _ cs hl hx=>exact ⟨cs,h1,hl,fun j p hp=>.fz _ _ (hx j p hp)⟩
 | agg _ cs hl hx=>exact ⟨cs,h1,hl,hx⟩
 | dead _ _ _ _ hr=>simp [refOf] at hr
theorem z1gy (S:Sim w0 Wx w bl objs) (t:Nat) {ps:List (Nat×PV)} {vs:Array (Nat×Value)} {p:PV} (hp:PRel w (WT Wx bl objs) bl objs ps vs.toList) (h:z18j E t ps some=some p) :
  Does E w0 Wx w bl objs (Instr.build t vs) p objs:=by
 unfold z18j at h
 simp only at h
 cases hd:(E.ti t).d.known with
 | false=>rw [hd] at h; simp at h
 | true =>
 rw [hd] at h
 simp only [Bool.not_true,cond_false] at h
 cases hz:(E.ti t).zero <;> rw [hz] at h <;> first | (cases h; done) | skip
 rename_i zs
 obtain ⟨z,hzr,hzc⟩:=zero_rel hE (w:=w) (bl:=bl) (objs:=objs) hd hz (WT Wx bl objs)
 cases hdd:(E.ti t).d <;> rw [hdd] at h <;> first | (cases h; done) | skip
 case arr n e =>
  simp only at h
  cases hk:(E.ti e).d.known with
  | false=>rw [hk] at h; simp at h
  | true =>
  rw [hk] at h
  simp only [Bool.not_true,cond_false] at h
  cases hf:fillP (fun i=>some (i*z6c E e,z6c E e)) zs ps with
  | none=>rw [hf] at h; cases h
  | some cs =>
   rw [hf] at h
   simp only [oJ] at h
   subst h
   obtain ⟨cs',hf',hc'⟩:=zzp _ ps vs.toList zs cs z hp hzc hf
   refine Does.same S (v:=.agg cs') ?_ (.agg _ _ hc'.1 hc'.2)
   have hu:E.P.underlying t=some (.array n e):=und hE hdd
   have hf'':Instr.fill (fun i=>some (i*(E.ti e).size,(E.ti e).size)) z vs.toList=some cs':=hf'
   simp [Instr.build,hzr,run_underlying hu,z7l hE _ hk,Value.cells,hf'']
 case struct fs =>
  simp only at h
  cases hk:allB (fun p:Nat×Nat=>(E.ti p.2).d.known) fs with
  | false=>rw [hk] at h; simp at h
  | true =>
  rw [hk] at h
  simp only [Bool.not_true,cond_false] at h
  cases hf:fillP (fun i=>(fs[i]?).map fun (o,ft)=>(o,z6c E ft)) zs ps with
  | none=>rw [hf] at h; cases h
  | some cs =>
   rw [hf] at h
   simp only [oJ] at h
   subst h
   obtain ⟨cs',hf',hc'⟩:=zzp _ ps vs.toList zs cs z hp hzc hf
   refine Does.same S (v:=.agg cs') ?_ (.agg _ _ hc'.1 hc'.2)
   obtain ⟨fields,hu,hfs⟩:∃ fields:Array Field,E.P.underlying t=some (.struct fields)∧fields.toList.map (fun f=>(f.offset,f.type))=fs:=und hE hdd
   have hm:=z14b hE w fields.toList (fun f hf=>zk hk (f.offset,f.type) (by rw [← hfs]; exact List.mem_map_of_mem (f:=fun f:Field=>(f.offset,f.type)) hf))
   have hplace:(fun (i:Nat)=>(fs[i]?).map fun (x:Nat×Nat)=>(x.1,z6c E x.2))=fun (i:Nat)=>((fields.toList.map fun f=>(f.offset,(E.ti f.type).size)).toArray)[i]?:=by
    funext i
    rw [← hfs]
    simp [z6c]
    cases fields[i]? <;> rfl
   have hf'':Instr.fill (fun (i:Nat)=>(fs[i]?).map fun (x:Nat×Nat)=>(x.1,z6c E x.2)) z vs.toList=some cs':=hf'
   rw [hplace] at hf''
   have hma:(fields.mapM fun f=>do pure (f.offset,← Go.sizeOf f.type):Sem (Array (Nat×Nat))).run E.P w=.ok (fields.toList.map fun f=>(f.offset,(E.ti f.type).size)).toArray w:=by
    rw [Array.mapM_eq_mapM_toList]
    simp only [bind_pure_comp] at hm
    simp [hm]
   unfold Instr.build
   simp only [Sem.run_bind,hzr,Result.andThen_ok,run_underlying hu,hma,Value.cells,hf'']
   rfl
end
end Dv

namespace Dv
open Go Go.RowKit
section
variable {w0 w:World} {Wx:Nat→Nat→Prop} {bl:zh} {objs:List Obj}
theorem zoz {W W':Nat→Nat→Prop} {n:Nat} {o o' objs1:List Obj} {p p':PV} {v:Value} (h:purify n o p=some (p',o')) (hs:allB PV.scalar p.cellsL=true) (hv:VR w W bl objs1 p v) (hv':VRf w W' p' v) :
  p'.cellsL.length=p.cellsL.length∧allB PV.scalar p'.cellsL=true∧∀ (j:Nat) (q:PV),p'.cellsL[j]?=some q→∃ u,v.cells[j]?=some u∧VRf w W' q u:=by
 obtain ⟨hsz,hc⟩:=zb8 hv hs
 have one:p.scalar=true→p'.cellsL.length=p.cellsL.length∧allB PV.scalar p'.cellsL=true∧∀ (j:Nat) (q:PV),p'.cellsL[j]?=some q→∃ u,v.cells[j]?=some u∧VRf w W' q u:=by
  intro hp
  have hp':=z81 h hp hv hv'
  rw [zbn hp,zbn hp']
  refine ⟨rfl,by simp [allB,hp'],fun j q hq=>?_⟩
  cases j with
  | succ j=>simp at hq
  | zero =>
   simp at hq
   subst hq
   have:=zk5 hv hp
   exact ⟨v,by rw [z1df this]; rfl,hv'⟩
 cases p with
 | agg l =>
  cases n with
  | zero=>simp [purify] at h
  | succ n =>
   simp only [purify] at h
   cases hl:purifyL n o l with
   | none=>rw [hl] at h; cases h
   | some y =>
    obtain ⟨l',o2⟩:=y
    rw [hl] at h
    simp only [oJ,pJ] at h
    obtain ⟨rfl,rfl⟩:=h
    cases hv' with
    | agg _ cs hlen hx =>
     have hlen':l.length=cs.size:=hsz.symm
     have hx':∀ (j:Nat) (q:PV),l'[j]?=some q→q.scalar=true∧∃ u,cs[j]?=some u∧VRf w W' q u:=by
      intro j q hq
      obtain ⟨m,q0,o1,o3,hq0,hpq⟩:=zap hl j q hq
      obtain ⟨u,h1,_,h3⟩:=hc j q0 hq0
      have h4:=hx j q hq
      have h1':cs[j]?=some u:=h1
      rw [z1at h1'] at h4
      exact ⟨z81 hpq (zk hs q0 (List.mem_of_getElem? hq0)) h3 h4,u,h1,h4⟩
     refine ⟨hlen.trans hlen'.symm,zw7 (fun q hq=>?_),fun j q hq=>(hx' j q hq).2⟩
     obtain ⟨j,hj⟩:=List.getElem?_of_mem hq
     exact (hx' j q hj).1
 | tuple l=>simp [PV.cellsL,PV.scalar,allB] at hs
 | undef=>simp [PV.cellsL,PV.scalar,allB] at hs
 | resv _=>simp [PV.cellsL,PV.scalar,allB] at hs
 | _=>exact one rfl
def zl8 (arr:Array Value) (s:Nat) (V:List Value):Prop :=
 arr.size=V.length*s∧∀ (k:Nat) (v:Value),V[k]?=some v→v.cells.size=s∧∀ j,j<s→arr[k*s+j]?=v.cells[j]?
def LRel (w:World) (W:Nat→Nat→Prop) (bl:zh) (objs:List Obj) (s:Nat) (L:List PV) (V:List Value):Prop :=
 L.length=V.length∧∀ (k:Nat) (p:PV),L[k]?=some p→p.cellsL.length=s∧allB PV.scalar p.cellsL=true∧VR w W bl objs p (V.getD k undef)
theorem zl8.made (z:Value) (n:Nat):zl8 (madeCells z.cells (n*z.cells.size)) z.cells.size (List.replicate n z):=by
 refine ⟨by simp [madeCells],fun k v hv=>?_⟩
 have hk:k<n:=by have:=(List.getElem?_eq_some_iff.1 hv).1; simpa using this
 have:v=z:=by
  rw [List.getElem?_replicate,if_pos hk] at hv
  exact (Option.some.inj hv).symm
 subst this
 refine ⟨rfl,fun j hj=>?_⟩
 have h1:(k+1)*v.cells.size≤n*v.cells.size:=Nat.mul_le_mul_right _ hk
 have h2:(k+1)*v.cells.size=k*v.cells.size+v.cells.size:=by rw [Nat.add_mul]; omega
 have hlt:k*v.cells.size+j<n*v.cells.size:=by omega
 unfold madeCells
 have hm:(k*v.cells.size+j) % v.cells.size=j:=by
  rw [Nat.add_comm,Nat.add_mul_mod_self_right,Nat.mod_eq_of_lt hj]
 rw [Array.getElem?_map,Array.getElem?_range,if_pos hlt,Option.map_some,hm,Array.getElem?_eq_getElem hj]
 simp [hj]
theorem zl8.set {arr:Array Value} {s:Nat} {V:List Value} (h:zl8 arr s V) {i:Nat} (hi:i<V.length) {v:Value} (hv:v.cells.size=s):zl8 (z45 arr (i*s) v.cells.toList) s (V.set i v):=by
 have hi1:(i+1)*s≤V.length*s:=Nat.mul_le_mul_right _ hi
 have hi2:(i+1)*s=i*s+s:=by rw [Nat.add_mul]; omega
 have hsz:=h.1
 refine ⟨by rw [z82,List.length_set]; exact h.1,fun k u hu=>?_⟩
 by_cases hik:i=k
 ·subst hik
  rw [List.getElem?_set_self hi] at hu
  simp only [oJ] at hu
  subst hu
  refine ⟨hv,fun j hj=>?_⟩
  rw [zaq _ _ _ _ (by simp; omega) (by simp; omega)]
  simp
 ·rw [List.getElem?_set_ne hik] at hu
  obtain ⟨h1,h2⟩:=h.2 k u hu
  refine ⟨h1,fun j hj=>?_⟩
  rw [z3e _ _ _ _ ?_,h2 j hj]
  rcases Nat.lt_or_ge k i with hlt | hge
  ·left
   have n1:(k+1)*s≤i*s:=Nat.mul_le_mul_right _ hlt
   have n2:(k+1)*s=k*s+s:=by rw [Nat.add_mul]; omega
   omega
  ·right
   have n1:(i+1)*s≤k*s:=Nat.mul_le_mul_right _ (by omega)
   simp; omega
theorem LRel.set {W:Nat→Nat→Prop} {s:Nat} {L:List PV} {V:List Value} (h:LRel w W bl objs s L V) (i:Nat) {p:PV} {v:Value} (h1:p.cellsL.length=s) (h2:allB PV.scalar p.cellsL=true) (hv:VR w W bl objs p v) :
  LRel w W bl objs s (setN L i p) (V.set i v):=by
 refine ⟨by simp [h.1],fun k q hq=>?_⟩
 rw [z2z] at hq
 by_cases hik:i=k
 ·subst hik
  have hi:i<L.length:=by have:=z3j hq; simpa using this
  rw [List.getElem?_set_self hi] at hq
  simp only [oJ] at hq
  subst hq
  refine ⟨h1,h2,?_⟩
  rw [List.getD_eq_getElem?_getD,List.getElem?_set_self (by rw [← h.1]; exact hi)]
  exact hv
 ·rw [List.getElem?_set_ne hik] at hq
  rw [List.getD_eq_getElem?_getD,List.getElem?_set_ne hik,← List.getD_eq_getElem?_getD]
  exact h.2 k q hq
theorem z18i {W:Nat→Nat→Prop} (s:Nat):∀ (ps:List (Nat×PV)) (vs:List (Nat×Value)) (arr:Array Value) (L:List PV) (V:List Value),PRel w W bl objs ps vs→zl8 arr s V→LRel w W bl objs s L V →
  (∀ x∈ps,x.1<V.length∧x.2.cellsL.length=s∧allB PV.scalar x.2.cellsL=true) →
  ∃ arr' V',Instr.fill (fun i=>some (i*s,s)) arr vs=some arr'∧zl8 arr' s V'∧LRel w W bl objs s (z12k L ps) V'∧V'.length=V.length
 | [],[],arr,L,V,_,hc,hl,_=>⟨arr,V,rfl,hc,hl,rfl⟩
 | (i,p)::ps,(j,v)::vs,arr,L,V,hr,hc,hl,hx=>by
  obtain ⟨rfl,hv,hr⟩:=hr
  obtain ⟨hi,h1,h2⟩:=hx (i,p) (by simp)
  have hvs:v.cells.size=s:=(zb8 hv h2).1.trans h1
  have hi1:(i+1)*s≤V.length*s:=Nat.mul_le_mul_right _ hi
  have hi2:(i+1)*s=i*s+s:=by rw [Nat.add_mul]; omega
  have hsz:=hc.1
  obtain ⟨arr',V',a1,a2,a3,a4⟩:=z18i s ps vs _ (setN L i p) (V.set i v) hr (hc.set hi hvs) (hl.set i h1 h2 hv) (fun x hxm=>by rw [List.length_set]; exact hx x (by simp [hxm]))
  refine ⟨arr',V',?_,a2,a3,by rw [a4,List.length_set]⟩
  rw [z1e7 _ arr i v vs (i*s) s rfl hvs (by omega)]
  exact a1
 | [],_::_,_,_,_,h,_,_,_=>h.elim
 | _::_,[],_,_,_,h,_,_,_=>h.elim
theorem z1g2 {α:Type} (a:α):∀ n,repl a n=List.replicate n a
 | 0=>rfl
 | n+1=>by rw [repl,z1g2 a n]; rfl
end
section
variable {E:Env} (hE:EnvOk E) {w0 w:World} {Wx:Nat→Nat→Prop} {bl:zh} {objs:List Obj}
include hE
omit hE in
theorem z19x (S:Sim w0 Wx w bl objs) {s:Nat} {arr:Array Value} {L:List PV} {V:List Value} (hc:zl8 arr s V) (hl:LRel w (WT Wx bl objs) bl objs s L V) {l:List PV} {objs1:List Obj}
  (h:purifyL pfuel objs L=some (l,objs1)) (e:TypeId) :
  Sim w0 Wx (w.alloc (.cells arr e)) (bl++[some (w.heap.size,0)]) (objs1++[.row e s l 0 (some V.length)]) ∧
  Ext w (WT Wx bl objs) bl objs (w.alloc (.cells arr e)) (WT Wx (bl++[some (w.heap.size,0)]) (objs1++[.row e s l 0 (some V.length)])) (bl++[some (w.heap.size,0)]) (objs1++[.row e s l 0 (some V.length)]) ∧
  VR (w.alloc (.cells arr e)) (WT Wx (bl++[some (w.heap.size,0)]) (objs1++[.row e s l 0 (some V.length)])) (bl++[some (w.heap.size,0)]) (objs1++[.row e s l 0 (some V.length)]) (.lall objs1.length)
   (.slice (some ⟨w.heap.size,0,none⟩) V.length V.length):=by
 obtain ⟨F,hlen,hr⟩:=(z3n w0 w Wx bl pfuel).2 objs L l objs1 (fun k=>V.getD k undef) S h (fun k p hp=>(hl.2 k p hp).2.2)
 have hll:l.length=V.length:=hlen.trans hl.1
 obtain ⟨h1,h2,h3⟩:=zvk (zcq S F) arr e (0,0) (noFz0 _) s l (some V.length) 0 (by rw [hll,hc.1]; exact Nat.le_refl _) (fun k p hp=>by
  obtain ⟨m,q0,o1,o2,hq0,hpq⟩:=zap h k p hp
  obtain ⟨a1,a2,a3⟩:=hl.2 k q0 hq0
  obtain ⟨b1,b2,b3⟩:=zoz hpq a2 a3 (hr k p hp)
  refine ⟨b1.trans a1,fun j q hq=>?_⟩
  obtain ⟨u,hu,hru⟩:=b3 j q hq
  have hk:k<V.length:=by rw [← hll]; exact z3j hp
  obtain ⟨c1,c2⟩:=hc.2 k V[k] (List.getElem?_eq_getElem hk)
  have hV:V.getD k undef=V[k]:=by rw [List.getD_eq_getElem?_getD,List.getElem?_eq_getElem hk]; rfl
  rw [hV] at hu
  refine ⟨zk b2 q (List.mem_of_getElem? hq),u,?_,hru⟩
  rw [c2 j (by have:=z3j hq; omega)]
  exact hu)
 refine ⟨h1,(zep F).trans h2,?_⟩
 have:=h3 V.length (by rw [hll]; exact Nat.le_refl _) (by rw [hc.1]; exact Nat.le_refl _) (fun m hm=>by cases hm; rfl)
 rwa [hll] at this
theorem z123 (S:Sim w0 Wx w bl objs) (t n:Nat) {ps:List (Nat×PV)} {vs:Array (Nat×Value)} {p:PV} {objs':List Obj} (hp:PRel w (WT Wx bl objs) bl objs ps vs.toList)
  (h:ze2 E t n ps objs (fun v o=>some (v,o))=some (p,objs')):Does E w0 Wx w bl objs (Instr.buildSlice t n vs) p objs':=by
 unfold ze2 at h
 cases he:zmz E t with
 | none=>rw [he] at h; cases h
 | some e =>
 rw [he] at h
 simp only at h
 cases hk:((E.ti e).d.known&&Nat.ble (n*(E.ti e).size) 16777216&&((E.ti e).zero.cellsL.length == (E.ti e).size)&&allB PV.scalar (E.ti e).zero.cellsL&&allB (fun p:Nat×PV=>Nat.blt p.1 n&&(p.2.cellsL.length == (E.ti e).size)&&allB PV.scalar p.2.cellsL) ps) with
 | false=>rw [hk] at h; simp at h
 | true =>
 rw [hk] at h
 simp only [Bool.not_true,cond_false] at h
 simp only [Bool.and_eq_true,beq_iff_eq] at hk
 obtain ⟨⟨⟨⟨hkn,hble⟩,hzl⟩,hzs⟩,hps⟩:=hk
 have hble:=Nat.le_of_ble_eq_true hble
 cases hpl:purifyL pfuel objs (z12k (repl (E.ti e).zero n) ps) with
 | none=>rw [hpl] at h; cases h
 | some y =>
 obtain ⟨l,objs1⟩:=y
 rw [hpl] at h
 simp only [oJ,pJ] at h
 obtain ⟨rfl,rfl⟩:=h
 obtain ⟨i,z,hi,hsz,hbytes,hz,hzk,hzc⟩:=zfq hE hkn
 have hzr:=(zla w (WT Wx bl objs) bl objs 1000).1 _ _ hzk
 have hL:LRel w (WT Wx bl objs) bl objs (E.ti e).size (repl (E.ti e).zero n) (List.replicate n z):=by
  rw [z1g2]
  refine ⟨by simp,fun k q hq=>?_⟩
  rw [List.getElem?_replicate] at hq
  split at hq
  ·rename_i hk
   simp only [oJ] at hq
   subst hq
   refine ⟨hzl,hzs,?_⟩
   rw [List.getD_eq_getElem?_getD,List.getElem?_replicate,if_pos hk]
   exact hzr
  ·cases hq
 have hC:zl8 (madeCells z.cells (n*(E.ti e).size)) (E.ti e).size (List.replicate n z):=by
  rw [← hzc]; exact zl8.made z n
 obtain ⟨arr',V',a1,a2,a3,a4⟩:=z18i (E.ti e).size ps vs.toList _ _ _ hp hC hL (fun x hx=>by
  have:=zk hps x hx
  simp only [Bool.and_eq_true,beq_iff_eq,Nat.blt_eq] at this
  exact ⟨by simpa using this.1.1,this.1.2,this.2⟩)
 obtain ⟨h1,h2,h3⟩:=z19x S a2 a3 hpl e
 have hV:V'.length=n:=by rw [a4]; simp
 rw [hV] at h1 h2 h3
 refine ⟨_,_,_,?_,h1,h2,h3⟩
 have hu:=zkf hE he
 have hne:¬ (n*(E.ti e).size>2 ^ 24):=by omega
 unfold Instr.buildSlice
 simp only [Sem.run_bind,run_underlying hu,Result.andThen_ok,z7l hE _ hkn,if_neg hne]
 have hza:(zeroValue e).run E.P w=.ok z w:=by simp [zeroValue,typeInfo,hi,hz]
 unfold madeCells at a1
 by_cases h0:n*(E.ti e).size=0
 ·rw [h0] at a1
  have a1':Instr.fill (fun i=>some (i*(E.ti e).size,(E.ti e).size)) #[] vs.toList=some arr':=by simpa [Array.range_zero'] using a1
  simp [h0,Array.range_zero',a1',newRow]
 ·simp [h0,hza,a1,newRow]
theorem z14d (S:Sim w0 Wx w bl objs) (t:Nat) {lp cp p:PV} {vl vc:Value} {objs':List Obj} (hl:VR w (WT Wx bl objs) bl objs lp vl) (hc:VR w (WT Wx bl objs) bl objs cp vc)
  (h:zh3 E t objs lp cp (fun v o=>some (v,o))=some (p,objs')):Does E w0 Wx w bl objs (Instr.makeSlice t vl vc) p objs':=by
 unfold zh3 at h
 cases he:zmz E t with
 | none=>rw [he] at h; simp at h
 | some e =>
 rw [he] at h
 split at h
 case h_2=>cases h
 case h_1 e' n m he' =>
 cases he'
 simp only at h
 cases hk:((E.ti e).d.known&&!Nat.beq (E.ti e).bytes 0&&((E.ti e).zero.cellsL.length == (E.ti e).size)&&allB PV.scalar (E.ti e).zero.cellsL) with
 | false=>rw [hk] at h; simp at h
 | true =>
 rw [hk] at h
 simp only [Bool.not_true,cond_false] at h
 simp only [Bool.and_eq_true,beq_iff_eq,Bool.not_eq_true'] at hk
 obtain ⟨⟨⟨hkn,hby⟩,hzl⟩,hzs⟩:=hk
 have hby:(E.ti e).bytes≠0:=by intro h0; rw [h0] at hby; cases hby
 cases hp:purify pfuel objs (E.ti e).zero with
 | none=>rw [hp] at h; cases h
 | some y =>
 obtain ⟨z',objs1⟩:=y
 rw [hp] at h
 simp only at h
 obtain ⟨hg,h⟩:=zc h
 have hg:=of_decide_eq_true hg
 simp only [oJ,pJ] at h
 obtain ⟨rfl,rfl⟩:=h
 obtain ⟨i,z,hi,hsz,hbytes,hz,hzk,hzc⟩:=zfq hE hkn
 have hzr:=(zla w (WT Wx bl objs) bl objs 1000).1 _ _ hzk
 have h1:=hl.frozen_leaf trivial
 have h2:=hc.frozen_leaf trivial
 cases h1
 cases h2
 obtain ⟨F,hzf⟩:=(z3n w0 w Wx bl pfuel).1 objs _ _ _ _ S hp hzr
 obtain ⟨b1,b2,b3⟩:=zoz hp hzs hzr hzf
 have hb1:(1:Int)≤(E.ti e).bytes:=by omega
 have hm0:0≤m:=by omega
 have hmb:m≤m*(E.ti e).bytes:=by
  have:=Int.mul_le_mul_of_nonneg_left hb1 hm0
  omega
 have hrun:=run_make (P:=E.P) w t e i z (zkf hE he) hi hz .i64 .i64 n m hg.1 hg.2.1 (by rw [hbytes,Int.mul_comm]; omega) (by omega)
 have hcells:(madeCells z.cells (m.toNat*i.size)).size=m.toNat*(E.ti e).size:=by rw [size_madeCells,hsz]
 have hC:zl8 (madeCells z.cells (m.toNat*(E.ti e).size)) (E.ti e).size (List.replicate m.toNat z):=by
  rw [← hzc]; exact zl8.made z _
 obtain ⟨c1,c2,c3⟩:=zvk (zcq S F) (madeCells z.cells (m.toNat*i.size)) e (0,0) (noFz0 _) (E.ti e).size (List.replicate n.toNat z') (some m.toNat) 0
  (by rw [hcells,List.length_replicate]; exact Nat.mul_le_mul_right _ (by omega)) (fun k q hq=>by
   rw [List.getElem?_replicate] at hq
   split at hq
   ·rename_i hk
    simp only [oJ] at hq
    subst hq
    refine ⟨b1.trans hzl,fun j x hx=>?_⟩
    obtain ⟨u,hu,hru⟩:=b3 j x hx
    refine ⟨zk b2 x (List.mem_of_getElem? hx),u,?_,hru⟩
    rw [hsz]
    have:=(hC.2 k z (by rw [List.getElem?_replicate,if_pos (by omega)])).2 j (by have:=z3j hx; omega)
    rw [this]; exact hu
   ·cases hq)
 have c4:=c3 m.toNat (by simp; omega) (by rw [hcells]; exact Nat.le_refl _) (fun x hx=>by cases hx; rfl)
 rw [List.length_replicate] at c4
 exact ⟨_,_,_,hrun,c1,(zep F).trans c2,c4⟩
end
end Dv

namespace Dv
open Go Go.RowKit
theorem zq5:∀ {xs:List PV} {s:List UInt8},z7h xs=some s→∃ ns:List Int,xs=ns.map (PV.int .u8)∧s=ns.map fun n=>UInt8.ofNat n.toNat
 | [],s,h=>by simp only [z7h,oJ] at h; exact ⟨[],rfl,h.symm⟩
 | p::xs,s,h=>by
  unfold z7h at h
  split at h
  ·rename_i heq; cases heq
  ·rename_i n l heq
   cases heq
   cases hb:z7h xs with
   | none=>rw [hb] at h; cases h
   | some s' =>
    rw [hb] at h
    simp only [Option.map_some,oJ] at h
    obtain ⟨ns,rfl,rfl⟩:=zq5 hb
    exact ⟨n::ns,rfl,h.symm⟩
  ·cases h
theorem zp6:∀ (ns:List Int) (r:ByteArray),ns.foldl (fun r n=>r.push (UInt8.ofNat n.toNat)) r=⟨r.data++(ns.map fun n=>UInt8.ofNat n.toNat).toArray⟩
 | [],r=>by simp
 | n::ns,r=>by
  simp only [List.foldl_cons]
  rw [zp6 ns]
  simp [ByteArray.push]
theorem ztu (s:ByteArray):∀ (bound i:Nat) (acc:Array Value),(∀ v∈acc.toList,∃ n,v=.int .i32 n)→∀ v∈(Conv.runesFrom s bound i acc).toList,∃ n,v=.int .i32 n
 | 0,_,acc,h=>h
 | bound+1,i,acc,h=>by
  unfold Conv.runesFrom
  split
  ·refine ztu s bound _ _ (fun v hv=>?_)
   simp at hv
   rcases hv with hv | rfl
   ·exact h v (by simpa using hv)
   ·exact ⟨_,rfl⟩
  ·exact h
section
variable {E:Env} (hE:EnvOk E) {w0 w:World} {Wx:Nat→Nat→Prop} {bl:zh} {objs:List Obj}
theorem z1lf {W:Nat→Nat→Prop} (k:IntKind) (ns:List Int):Holds w W ((ns.map (Value.int k)).toArray) 1 (ns.map (PV.int k)):=by
 refine ⟨by simp,fun i p hp=>?_⟩
 simp only [List.getElem?_map,Option.map_eq_some_iff] at hp
 obtain ⟨n,hn,rfl⟩:=hp
 refine ⟨rfl,rfl,fun j q hq=>?_⟩
 cases j with
 | succ j=>simp [PV.cellsL] at hq
 | zero =>
  simp [PV.cellsL] at hq
  subst hq
  exact ⟨.int k n,by simp [hn],.int _ _⟩
theorem z1ea (S:Sim w0 Wx w bl objs) (e:TypeId) (fr:Nat×Nat) (l:List PV) (arr rest:Array Value) (s c:Nat) (hfr:NoFz (arr++rest).size fr) (hA:Holds w (WT Wx bl objs) arr s l) (hlc:l.length≤c) (hc:c*s≤(arr++rest).size) :
  Sim w0 Wx (w.drew.alloc (.cells (arr++rest) e fr)) (bl++[some (w.heap.size,0)]) (objs++[.row e s l 0 none]) ∧
  Ext w (WT Wx bl objs) bl objs (w.drew.alloc (.cells (arr++rest) e fr)) (WT Wx (bl++[some (w.heap.size,0)]) (objs++[.row e s l 0 none])) (bl++[some (w.heap.size,0)]) (objs++[.row e s l 0 none]) ∧
  VR (w.drew.alloc (.cells (arr++rest) e fr)) (WT Wx (bl++[some (w.heap.size,0)]) (objs++[.row e s l 0 none])) (bl++[some (w.heap.size,0)]) (objs++[.row e s l 0 none]) (.lall objs.length) (.slice (some ⟨w.heap.size,0,none⟩) l.length c):=by
 have hS2:=zlw S
 have H2:=zea (w:=w) (Wx:=Wx) (bl:=bl) (objs:=objs)
 have hA2:=hA.mono H2.keep
 obtain ⟨h1,h2,h3⟩:=zvk hS2 (arr++rest) e fr hfr s l none 0 (by simp; have:=hA.1; omega) (fun k q hq=>by
  obtain ⟨a1,a2,a3⟩:=hA2.2 k q hq
  refine ⟨a1,fun j x hx=>?_⟩
  obtain ⟨v,b1,b2⟩:=a3 j x hx
  refine ⟨zk a2 x (List.mem_of_getElem? hx),v,?_,b2⟩
  have hlt:k*s+j<arr.size:=by
   rcases Nat.lt_or_ge (k*s+j) arr.size with h' | h'
   ·exact h'
   ·rw [Array.getElem?_eq_none h'] at b1; cases b1
  rw [Array.getElem?_append_left hlt]; exact b1)
 exact ⟨h1,H2.trans h2,h3 c hlc hc (fun m hm=>by cases hm)⟩
include hE
theorem z1h9 {t:Nat} (h:(E.ti t).d.known=true):∃ d,E.P.underlying t=some d:=by
 have hd:=(hE.ti t).desc
 cases hdd:(E.ti t).d <;> rw [hdd] at h hd <;> first
  | (simp [TD.known] at h; done)
  | exact ⟨_,hd⟩
  | (obtain ⟨x,hd,_⟩:=hd; exact ⟨_,hd⟩)
  | (obtain ⟨x,hd⟩:=hd; exact ⟨_,hd⟩)
  | (obtain ⟨x,y,z,hd⟩:=hd; exact ⟨_,hd⟩)
theorem z1lp (S:Sim w0 Wx w bl objs) (src dst:Nat) {x p:PV} {vx:Value} {objs':List Obj} (hx:VR w (WT Wx bl objs) bl objs x vx)
  (h:convK E src dst objs x (fun v o=>some (v,o))=some (p,objs')):Does E w0 Wx w bl objs (convert src dst vx) p objs':=by
 unfold convK at h
 cases hk:(E.ti src).d.known with
 | false=>rw [hk] at h; simp at h
 | true =>
 rw [hk] at h
 simp only [Bool.not_true,cond_false] at h
 obtain ⟨ds,hs⟩:=z1h9 hE hk
 split at h
 ·rename_i kd k n hd
  simp only [oJ,pJ] at h
  obtain ⟨rfl,rfl⟩:=h
  have:=hx.frozen_leaf trivial
  cases this
  have hu:E.P.underlying dst=some (.int kd):=und hE hd
  refine Does.same S (v:=.int kd (kd.wrap n)) ?_ (.fz _ _ (.int _ _))
  simp [convert,run_underlying hs,run_underlying hu,Conv.intToInt]
 ·rename_i k n hd
  simp only [oJ,pJ] at h
  obtain ⟨rfl,rfl⟩:=h
  have:=hx.frozen_leaf trivial
  cases this
  have hu:E.P.underlying dst=some .string:=und hE hd
  refine Does.same S (v:=.string (Utf8.encode n)) ?_ (.fz _ _ ?_)
  ·simp [convert,run_underlying hs,run_underlying hu,Conv.intToString]
  ·exact VRf.str (Utf8.encode n).data.toList
 ·rename_i s hd
  simp only [oJ,pJ] at h
  obtain ⟨rfl,rfl⟩:=h
  have:=hx.frozen_leaf trivial
  cases this
  have hu:E.P.underlying dst=some .string:=und hE hd
  refine Does.same S (v:=.string ⟨s.toArray⟩) ?_ hx
  simp [convert,run_underlying hs,run_underlying hu]
 ·rename_i e s hss hd
  have:=hx.frozen_leaf trivial
  cases this
  have hu:E.P.underlying dst=some (.slice e):=und hE hd
  have hus:E.P.underlying src=some .string:=und hE hss
  have hsz:(⟨s.toArray⟩:ByteArray).size=s.length:=by simp [ByteArray.size]
  split at h
  ·rename_i hde
   simp only [oJ,pJ] at h
   obtain ⟨rfl,rfl⟩:=h
   have hue:E.P.underlying e=some (.int .u8):=und hE hde
   have hrow:bytesRow ⟨s.toArray⟩ (grownCap w s.length 0 e)=((s.map fun b=>(b.toNat:Int)).map (Value.int .u8)).toArray++Array.replicate (grownCap w s.length 0 e-s.length) (Value.int .u8 0):=by
    simp [bytesRow,hsz,Function.comp_def]
   have hrun:=run_bytes_of_string (P:=E.P) w src dst e ⟨s.toArray⟩ hus hu hue
   rw [hsz,hrow] at hrun
   have hge:=grownCap_ge w s.length 0 e
   have hA:Holds w (WT Wx bl objs) (((s.map fun b=>(b.toNat:Int)).map (Value.int .u8)).toArray) 1 (s.map byteV):=by
    have:=z1lf (w:=w) (W:=WT Wx bl objs) .u8 (s.map fun b=>(b.toNat:Int))
    rw [show s.map byteV=(s.map fun b=>(b.toNat:Int)).map (PV.int .u8) by rw [List.map_map]; rfl]
    exact this
   obtain ⟨h1,h2,h3⟩:=z1ea S e ((((s.map fun b=>(b.toNat:Int)).map (Value.int .u8)).toArray++Array.replicate (grownCap w s.length 0 e-s.length) (Value.int .u8 0)).size,
     (((s.map fun b=>(b.toNat:Int)).map (Value.int .u8)).toArray++Array.replicate (grownCap w s.length 0 e-s.length) (Value.int .u8 0)).size+1) (s.map byteV) _
    (Array.replicate (grownCap w s.length 0 e-s.length) (Value.int .u8 0)) 1 (grownCap w s.length 0 e)
    (by intro o ho hf; have:=hf.1; simp only at this; omega) hA (by simpa using hge) (by simp; omega)
   rw [List.length_map] at h3
   exact ⟨_,_,_,hrun,h1,h2,h3⟩
  ·rename_i hde
   simp only [oJ,pJ] at h
   obtain ⟨rfl,rfl⟩:=h
   have hue:E.P.underlying e=some (.int .i32):=und hE hde
   have hints:=ztu ⟨s.toArray⟩ s.length 0 #[] (by simp)
   generalize hels:Conv.runesFrom ⟨s.toArray⟩ s.length 0 #[]=els at hints
   have hlen:(zzf s).length=els.size:=by unfold zzf; rw [hels]; simp
   have hge:=grownCap_ge w els.size 0 e
   have hA:Holds w (WT Wx bl objs) els 1 (zzf s):=by
    refine ⟨by rw [hlen]; omega,fun k q hq=>?_⟩
    unfold zzf at hq
    rw [hels,List.getElem?_map] at hq
    cases hv:els.toList[k]? with
    | none=>rw [hv] at hq; cases hq
    | some v =>
     obtain ⟨n,rfl⟩:=hints v (List.mem_of_getElem? hv)
     rw [hv] at hq
     simp only [Option.map_some,oJ] at hq
     subst hq
     refine ⟨rfl,rfl,fun j x hx=>?_⟩
     cases j with
     | succ j=>simp [PV.cellsL] at hx
     | zero =>
      simp [PV.cellsL] at hx
      subst hx
      exact ⟨_,by rw [Nat.mul_one,Nat.add_zero,← Array.getElem?_toList]; exact hv,.int _ _⟩
   obtain ⟨h1,h2,h3⟩:=z1ea S e (0,0) (zzf s) els (Array.replicate (grownCap w els.size 0 e-els.size) (Value.int .i32 0)) 1 (grownCap w els.size 0 e) (noFz0 _) hA (by rw [hlen]; exact hge) (by simp; omega)
   rw [hlen] at h3
   refine ⟨_,_,_,?_,h1,h2,h3⟩
   have hels':Conv.runesFrom ⟨s.toArray⟩ (⟨s.toArray⟩:ByteArray).size 0 #[]=els:=by rw [hsz]; exact hels
   simp [convert,run_underlying hus,run_underlying hu,run_underlying hue,Conv.stringToRunes,hels',Question.forced,newRow,grownCap]
  ·cases h
 ·rename_i x _ _ _ e hss hd _ _
  split at h
  ·rename_i hde
   cases hz:((E.ti e).size == 1) with
   | false=>rw [hz] at h; simp at h
   | true =>
   rw [hz] at h
   simp only [Bool.not_true,cond_false] at h
   cases hel:zj3 1 objs x with
   | none=>rw [hel] at h; cases h
   | some xs =>
   rw [hel] at h
   simp only at h
   cases hb:z7h xs with
   | none=>rw [hb] at h; cases h
   | some s =>
   rw [hb] at h
   simp only [oB,oJ,pJ] at h
   obtain ⟨rfl,rfl⟩:=h
   have hus:E.P.underlying src=some (.slice e):=und hE hss
   have hu:E.P.underlying dst=some .string:=und hE hd
   have hue:E.P.underlying e=some (.int .u8):=und hE hde
   obtain ⟨a,c,arr,rfl,_,hA,_,hload,hnone⟩:=zlu (P:=E.P) S hx hel
   obtain ⟨ns,rfl,rfl⟩:=zq5 hb
   refine Does.same S (v:=.string ⟨(ns.map fun n=>UInt8.ofNat n.toNat).toArray⟩) ?_ (.fz _ _ (.str _))
   have hrun:=run_convert_bytes_string (P:=E.P) w src dst e a (ns.map (PV.int .u8)).length c hus hue hu
   rw [hrun]
   cases a with
   | none =>
    have:=hnone rfl
    have:ns=[]:=by simpa using this
    subst this
    simp [Conv.bytesToString]
    rfl
   | some a =>
    have harr:arr=(ns.map (Value.int .u8)).toArray:=by
     have hsz:=hA.1
     simp only [List.length_map,Nat.mul_one] at hsz
     apply Array.ext_getElem?
     intro k
     by_cases hk:k<ns.length
     ·obtain ⟨_,_,h3⟩:=hA.2 k (.int .u8 ns[k]) (by simp [hk])
      obtain ⟨v,hv,hr⟩:=h3 0 _ rfl
      cases hr
      rw [Nat.mul_one,Nat.add_zero] at hv
      rw [hv]
      simp [hk]
     ·rw [Array.getElem?_eq_none (by omega),Array.getElem?_eq_none (by simp; omega)]
    have hl:=hload a rfl w rfl
    rw [harr] at hl
    simp only [List.length_map,Nat.mul_one] at hl
    rw [List.length_map,run_bytesToString w a ns.length c ns hl,zp6]
    simp
  ·cases h
 ·rename_i e i off hss hd
  have hu:E.P.underlying dst=some .unsafePointer:=und hE hd
  have hus:E.P.underlying src=some (.pointer e):=und hE hss
  split at h
  case h_2=>cases h
  rename_i ty l f ho
  cases hc:((E.ti e).d.known&&!((E.ti e).size == 0)&&Nat.blt off l.length) with
  | false=>rw [hc] at h; simp at h
  | true =>
  rw [hc] at h
  simp only [cond_true,oJ,pJ] at h
  obtain ⟨rfl,rfl⟩:=h
  simp only [Bool.and_eq_true,Bool.not_eq_true',beq_eq_false_iff_ne] at hc
  obtain ⟨⟨hkn,hsz⟩,hlt⟩:=hc
  have hlt:off<l.length:=by
   have:=Nat.le_of_ble_eq_true hlt
   omega
  obtain ⟨i',z,hi',hsz',_⟩:=zfq hE hkn
  have hi:=zem ho (by simp)
  obtain ⟨b,cs,fr,hb,hheap,hlen,_⟩:=zyi S hi ho
  cases hx with
  | fz _ _ h=>cases h
  | dead p v k _ hr _ hdd=>simp only [refOf,oJ] at hr; subst hr; rw [ho] at hdd; cases hdd
  | ptr _ _ b' o hi2 hb' =>
   rw [hb] at hb'
   simp at hb'
   obtain ⟨rfl,rfl⟩:=hb'
   refine Does.same S (v:=.pointer (some ⟨b,0+off,none⟩)) ?_ (.ptr i off b 0 hi hb)
   exact Lib.run_to_unsafe (P:=E.P) w ⟨b,0+off,none⟩ hus hu hi' (by rw [hsz']; exact hsz) (e:=ty) (cells:=cs.size) (by simp [World.shape?,hheap]) (by simp only; omega)
 ·rename_i u i off hss hd
  have hu:E.P.underlying dst=some (.pointer u):=und hE hd
  have hus:E.P.underlying src=some .unsafePointer:=und hE hss
  split at h
  case h_2=>cases h
  rename_i ty l f ho
  cases hc:((E.ti u).d.known&&liesAt E.P E.P.depth ty (l.length / E.P.cellsOf ty) off u 1) with
  | false=>rw [hc] at h; simp at h
  | true =>
  rw [hc] at h
  simp only [cond_true,oJ,pJ] at h
  obtain ⟨rfl,rfl⟩:=h
  simp only [Bool.and_eq_true] at hc
  obtain ⟨hkn,hlies⟩:=hc
  obtain ⟨i',z,hi',_⟩:=zfq hE hkn
  have hi:=zem ho (by simp)
  obtain ⟨b,cs,fr,hb,hheap,hlen,_⟩:=zyi S hi ho
  cases hx with
  | fz _ _ h=>cases h
  | dead p v k _ hr _ hdd=>simp only [refOf,oJ] at hr; subst hr; rw [ho] at hdd; cases hdd
  | ptr _ _ b' o hi2 hb' =>
   rw [hb] at hb'
   simp at hb'
   obtain ⟨rfl,rfl⟩:=hb'
   refine Does.same S (v:=.pointer (some ⟨b,0+off,none⟩)) ?_ (.ptr i off b 0 hi hb)
   refine Lib.run_from_unsafe (P:=E.P) w ⟨b,0+off,none⟩ hus hu hi' (e:=ty) (cells:=cs.size) (by simp [World.shape?,hheap]) ?_
   simp only [Nat.zero_add,hlen]
   exact hlies
 ·cases h
end
end Dv

namespace Dv
open Go Go.RowKit
section bounds
variable {P:Program} {w:World}
theorem bd0 (is:Bool) (len cap:Nat):(Instr.sliceBounds is len cap none none none).run P w=.ok (0,len,cap) w:=by simp [Instr.sliceBounds]
theorem bdLo (is:Bool) (len cap:Nat) (a:Int) (h:0≤a∧a≤len):(Instr.sliceBounds is len cap (some (.int .i64 a)) none none).run P w=.ok (a.toNat,len,cap) w:=by
 simp [Instr.sliceBounds,Instr.sliceBound,asIntOf,h]
theorem bdHi (is:Bool) (len cap:Nat) (b:Int) (h:0≤b∧b≤cap):(Instr.sliceBounds is len cap none (some (.int .i64 b)) none).run P w=.ok (0,b.toNat,cap) w:=by
 simp [Instr.sliceBounds,Instr.sliceBound,asIntOf,h]
theorem z15p (is:Bool) (len cap:Nat) (a b:Int) (h:0≤a∧a≤b∧b≤cap):(Instr.sliceBounds is len cap (some (.int .i64 a)) (some (.int .i64 b)) none).run P w=.ok (a.toNat,b.toNat,cap) w:=by
 have h1:0≤b:=by omega
 have h2:a≤(b.toNat:Int):=by omega
 simp [Instr.sliceBounds,Instr.sliceBound,asIntOf,h,h1,h2]
 intro hh; exact absurd hh (by omega)
theorem z1eo (is:Bool) (len cap:Nat) (b c:Int) (h:0≤b∧b≤c∧c≤cap):(Instr.sliceBounds is len cap none (some (.int .i64 b)) (some (.int .i64 c))).run P w=.ok (0,b.toNat,c.toNat) w:=by
 have h1:0≤c:=by omega
 have h2:b≤(c.toNat:Int):=by omega
 simp [Instr.sliceBounds,Instr.sliceBound,asIntOf,h,h1,h2]
 intro hh; exact absurd hh (by omega)
theorem z1jv (is:Bool) (len cap:Nat) (a b c:Int) (h:0≤a∧a≤b∧b≤c∧c≤cap):(Instr.sliceBounds is len cap (some (.int .i64 a)) (some (.int .i64 b)) (some (.int .i64 c))).run P w=.ok (a.toNat,b.toNat,c.toNat) w:=by
 have h1:0≤c:=by omega
 have h0:0≤b:=by omega
 have h2:b≤(c.toNat:Int):=by omega
 have h3:a≤(b.toNat:Int):=by omega
 simp only [Instr.sliceBounds,Instr.sliceBound,asIntOf]
 simp [h,h0,h1,h2,h3]
 rw [if_pos (by omega),if_pos (by omega)]
end bounds
section
variable {E:Env} (hE:EnvOk E) {w0 w:World} {Wx:Nat→Nat→Prop} {bl:zh} {objs:List Obj}
def BRel (w:World) (W:Nat→Nat→Prop) (bl:zh) (objs:List Obj):Option PV→Option Value→Prop
 | none,none=>True
 | some p,some v=>VR w W bl objs p v
 | _,_=>False
theorem BRel.none {v:Option Value} {W:Nat→Nat→Prop} (h:BRel w W bl objs none v):v=.none:=by cases v <;> first | rfl | exact h.elim
theorem BRel.int {v:Option Value} {W:Nat→Nat→Prop} {a:Int} (h:BRel w W bl objs (some (.int .i64 a)) v):v=some (.int .i64 a):=by
 cases v with
 | none=>exact h.elim
 | some v =>
  have h:VR w W bl objs (.int .i64 a) v:=h
  have:=h.frozen_leaf trivial
  cases this
  rfl
theorem z18e {α:Type} {s l:List α} {a:Int} (h:dropS s a=some l):(0≤a∧a≤s.length)∧l=s.drop a.toNat:=by
 unfold dropS at h
 by_cases hc:0≤a∧a≤s.length
 ·rw [decide_eq_true hc] at h; simp only [cond_true,oJ] at h; exact ⟨hc,h.symm⟩
 ·rw [decide_eq_false hc] at h; simp at h
theorem z17d {α:Type} {s l:List α} {a:Int} (h:takeS s a=some l):(0≤a∧a≤s.length)∧l=s.take a.toNat:=by
 unfold takeS at h
 by_cases hc:0≤a∧a≤s.length
 ·rw [decide_eq_true hc] at h; simp only [cond_true,oJ] at h; exact ⟨hc,h.symm⟩
 ·rw [decide_eq_false hc] at h; simp at h
theorem z1cj {α:Type} {s l:List α} {a b:Int} (h:subS s a b=some l):(0≤a∧a≤b∧b≤s.length)∧l=(s.drop a.toNat).take (b.toNat-a.toNat):=by
 unfold subS at h
 by_cases hc:0≤a∧a≤b∧b≤s.length
 ·rw [decide_eq_true hc] at h; simp only [cond_true,oJ] at h; exact ⟨hc,h.symm⟩
 ·rw [decide_eq_false hc] at h; simp at h
theorem z1bg (s:List UInt8) (a b:Nat):(⟨s.toArray⟩:ByteArray).extract a b=⟨((s.drop a).take (b-a)).toArray⟩:=by
 apply ByteArray.ext
 rw [ByteArray.data_extract]
 apply Array.ext'
 rw [Array.toList_extract,List.extract_eq_take_drop]
theorem VRf.part {W:Nat→Nat→Prop} {s:Nat} {l:List PV} {a:Option Addr} {n c:Nat} (h:VRf w W (.sl s l) (.slice a n c)) (lo hi m:Nat) (h1:lo≤hi) (h2:hi≤l.length) (h3:hi≤m) :
  n=l.length∧l.length≤c∨l=[]→VRf w W (.sl s ((l.drop lo).take (hi-lo))) (.slice (if m=lo then a else a.map (·.add (lo*s))) (hi-lo) (m-lo)):=by
 intro _
 by_cases he:hi=lo
 ·subst he
  simp only [Nat.sub_self,List.take_zero]
  exact .slemp _ _ _
 ·have hm:¬ m=lo:=by omega
  rw [if_neg hm]
  cases h with
  | slemp _ a cap=>simp at h2; omega
  | sl _ _ b o cap f hc hs hcell hr =>
   have hlen:((l.drop lo).take (hi-lo)).length=hi-lo:=by simp; omega
   have hget:∀ (k:Nat) (p:PV),((l.drop lo).take (hi-lo))[k]?=some p→l[lo+k]?=some p:=by
    intro k p hk
    have hkn:k<hi-lo:=by have:=z3j hk; omega
    rwa [List.getElem?_take_of_lt hkn,List.getElem?_drop] at hk
   have e:∀ k j,o+lo*s+k*s+j=o+(lo+k)*s+j:=by intro k j; rw [Nat.add_mul]; omega
   have:=VRf.sl (w:=w) (W:=W) s ((l.drop lo).take (hi-lo)) b (o+lo*s) (m-lo) (fun k j=>f (lo+k) j) (by omega) (fun k p hk=>hs _ p (hget k p hk))
    (fun k p hk j q hq=>by rw [e]; exact hcell _ p (hget k p hk) j q hq) (fun k p hk j q hq=>hr _ p (hget k p hk) j q hq)
   rw [hlen] at this
   simpa [zl7] using this
theorem VRf.slice_len {W:Nat→Nat→Prop} {s:Nat} {l:List PV} {v:Value} (h:VRf w W (.sl s l) v):∃ a c,v=.slice a l.length c∧l.length≤c:=by
 cases h with
 | slemp _ a cap=>exact ⟨a,cap,rfl,Nat.zero_le _⟩
 | sl _ _ b o cap f hc hs hcell hr=>exact ⟨_,cap,rfl,hc⟩
theorem lsl_rel {W:Nat→Nat→Prop} {i e s fz:Nat} {l:List PV} {cap lim:Option Nat} (hi:i<objs.length) (ho:nthD .dead objs i=.row e s l fz cap) {b o:Nat} (hb:bl[i]?=some (some (b,o))) (off c a h m:Nat)
  (hroom:Room w b (o+(off+c)*s)) (h1:a≤h) (h2:off+h≤l.length) (h3:h≤m) (h4:m≤c) (hm:∀ x,lim=some x→m-a=x) (hm':lim=none→∀ x,cap=some x→m+off=x) (hx:lim=none→l.length≤off+m) :
  VR w W bl objs (.lsl i (off+a) (h-a) lim) (.slice (if m=a then some ⟨b,o+off*s,none⟩ else some ((⟨b,o+off*s,none⟩:Addr).add (a*s))) (h-a) (m-a)):=by
 by_cases he:m=a
 ·subst he
  have:h=m:=by omega
  subst this
  simp only [Nat.sub_self,if_true]
  exact .lslE i _ s fz lim cap l _ hi ho (by omega) (fun x hx=>by have:=hm x hx; omega) (fun hn x hx=>by have:=hm' hn x hx; omega) hx
 ·rw [if_neg he,zl7]
  have e:o+off*s+a*s=o+(off+a)*s:=by rw [Nat.add_mul]; omega
  rw [e]
  refine .lsl i (off+a) (h-a) b o s fz (m-a) lim cap l hi ho hb (by omega) (by omega) hm (fun hn x hx=>by have:=hm' hn x hx; omega) (fun hn=>by have:=hx hn; omega) ?_
  obtain ⟨cs,ee,fr,hh,hle⟩:=hroom
  refine ⟨cs,ee,fr,hh,Nat.le_trans (Nat.add_le_add_left (Nat.mul_le_mul_right s ?_) o) hle⟩
  omega
theorem z10d {W:Nat→Nat→Prop} {i e s fz n c:Nat} {l:List PV} {cap:Option Nat} (hi:i<objs.length) (ho:nthD .dead objs i=.row e s l fz cap) {b o:Nat} (hb:bl[i]?=some (some (b,o)))
  (hn:n=l.length) (hc:n≤c) (hcap:∀ m,cap=some m→c=m) (hroom:Room w b (o+c*s)) {lo hi' mx:Option PV} {vlo vhi vmx:Option Value}
  (hlo:BRel w W bl objs lo vlo) (hhi:BRel w W bl objs hi' vhi) (hmx:BRel w W bl objs mx vmx) (is:Bool) {p:PV} (h:z9i i n lo hi' mx some=some p) :
  ∃ x y z,(Instr.sliceBounds is n c vlo vhi vmx).run E.P w=.ok (x,y,z) w∧VR w W bl objs p (.slice (if z=x then some ⟨b,o,none⟩ else some ((⟨b,o,none⟩:Addr).add (x*s))) (y-x) (z-x)):=by
 have L:=fun (a h m:Nat) (lim:Option Nat)=>lsl_rel (w:=w) (W:=W) (lim:=lim) hi ho hb 0 c a h m (by simpa using hroom)
 simp only [Nat.zero_add,Nat.zero_mul,Nat.add_zero] at L
 unfold z9i at h
 split at h
 ·have e1:=hlo.none; have e2:=hhi.none; have e3:=hmx.none
  subst e1; subst e2; subst e3
  simp only [oJ] at h
  subst h
  refine ⟨0,n,c,bd0 is n c,?_⟩
  have:(if c=0 then some (⟨b,o,none⟩:Addr) else some ((⟨b,o,none⟩:Addr).add (0*s)))=some ⟨b,o,none⟩:=by
   split
   ·rfl
   ·rw [zl7]; simp
  rw [this]
  subst hn
  exact .lall i b o s fz c l cap hi ho hb hc hcap hroom
 ·rename_i a
  have e1:=hlo.int; have e2:=hhi.none; have e3:=hmx.none
  subst e1; subst e2; subst e3
  obtain ⟨hg,h⟩:=zc h
  have hg:=of_decide_eq_true hg
  simp only [oJ] at h
  subst h
  exact ⟨_,_,_,bdLo is n c a hg,L a.toNat n c none (by omega) (by omega) hc (Nat.le_refl _) (fun x hx=>by cases hx) (fun _ x hx=>hcap x hx) (fun _=>by omega)⟩
 ·rename_i b'
  have e1:=hlo.none; have e2:=hhi.int; have e3:=hmx.none
  subst e1; subst e2; subst e3
  obtain ⟨hg,h⟩:=zc h
  have hg:=of_decide_eq_true hg
  simp only [oJ] at h
  subst h
  exact ⟨_,_,_,bdHi is n c b' (by omega),L 0 b'.toNat c none (by omega) (by omega) (by omega) (Nat.le_refl _) (fun x hx=>by cases hx) (fun _ x hx=>hcap x hx) (fun _=>by omega)⟩
 ·rename_i a b'
  have e1:=hlo.int; have e2:=hhi.int; have e3:=hmx.none
  subst e1; subst e2; subst e3
  obtain ⟨hg,h⟩:=zc h
  have hg:=of_decide_eq_true hg
  simp only [oJ] at h
  subst h
  exact ⟨_,_,_,z15p is n c a b' (by omega),L a.toNat b'.toNat c none (by omega) (by omega) (by omega) (Nat.le_refl _) (fun x hx=>by cases hx) (fun _ x hx=>hcap x hx) (fun _=>by omega)⟩
 ·rename_i b' c'
  have e1:=hlo.none; have e2:=hhi.int; have e3:=hmx.int
  subst e1; subst e2; subst e3
  obtain ⟨hg,h⟩:=zc h
  have hg:=of_decide_eq_true hg
  simp only [oJ] at h
  subst h
  exact ⟨_,_,_,z1eo is n c b' c' (by omega),L 0 b'.toNat c'.toNat (some c'.toNat) (by omega) (by omega) (by omega) (by omega) (fun x hx=>by cases hx; rfl) (fun hn=>by cases hn) (fun hn=>by cases hn)⟩
 ·rename_i a b' c'
  have e1:=hlo.int; have e2:=hhi.int; have e3:=hmx.int
  subst e1; subst e2; subst e3
  obtain ⟨hg,h⟩:=zc h
  have hg:=of_decide_eq_true hg
  simp only [oJ] at h
  subst h
  exact ⟨_,_,_,z1jv is n c a b' c' (by omega),L a.toNat b'.toNat c'.toNat (some (c'.toNat-a.toNat)) (by omega) (by omega) (by omega) (by omega) (fun x hx=>by cases hx; rfl) (fun hn=>by cases hn) (fun hn=>by cases hn)⟩
 ·cases h
include hE
theorem z1fp (S:Sim w0 Wx w bl objs) (t:Nat) {x p:PV} {vx:Value} {lo hi mx:Option PV} {vlo vhi vmx:Option Value} (hx:VR w (WT Wx bl objs) bl objs x vx)
  (hlo:BRel w (WT Wx bl objs) bl objs lo vlo) (hhi:BRel w (WT Wx bl objs) bl objs hi vhi) (hmx:BRel w (WT Wx bl objs) bl objs mx vmx) (h:zk2 E t objs x lo hi mx some=some p) :
  Does E w0 Wx w bl objs (Instr.sliceAt t vx vlo vhi vmx) p objs:=by
 unfold zk2 at h
 have arr:∀ (n e:Nat),z9j E n e objs x lo hi mx some=some p→∃ a s y,vx=.pointer (some a)∧(Go.sizeOf e).run E.P w=.ok s w ∧
   ∃ x' z,(Instr.sliceBounds false n n vlo vhi vmx).run E.P w=.ok (x',y,z) w∧VR w (WT Wx bl objs) bl objs p (.slice (some (if z=x' then a else a.add (x'*s))) (y-x') (z-x')):=by
  intro n e ha
  clear h
  revert ha
  intro h
  unfold z9j at h
  split at h
  case h_2=>cases h
  rename_i i
  split at h
  case h_2=>cases h
  rename_i u1 s l fz c ho
  cases hk:((E.ti e).d.known&&(s == (E.ti e).size)) with
  | false=>rw [hk] at h; simp at h
  | true =>
   rw [hk] at h
   simp only [cond_true] at h
   simp only [Bool.and_eq_true,beq_iff_eq] at hk
   obtain ⟨hkn,rfl⟩:=hk
   obtain ⟨hg1,h⟩:=zc h
   obtain ⟨hg2,h⟩:=zc h
   have hl:=of_decide_eq_true hg1
   have hcn:=of_decide_eq_true hg2
   have hj:=zem ho (by simp)
   cases hx with
   | fz _ _ h=>cases h
   | dead p v k _ hr _ hdd=>simp only [refOf,oJ] at hr; subst hr; rw [ho] at hdd; cases hdd
   | ptr _ _ b o hi' hb =>
    obtain ⟨cs,fr,hheap,hlen,_,_⟩:=zdo S hj ho hb
    obtain ⟨x',y,z,h1,h2⟩:=z10d (E:=E) hj ho hb hl.symm (Nat.le_refl n) (fun m hm=>by cases hm; omega) ⟨cs,_,fr,hheap,by rw [← hl]; exact hlen⟩ hlo hhi hmx false h
    refine ⟨_,_,y,rfl,z7l hE w hkn,x',z,h1,?_⟩
    rw [Nat.add_zero]
    have e1:(some (if z=x' then (⟨b,o,none⟩:Addr) else (⟨b,o,none⟩:Addr).add (x'*(E.ti e).size)))=if z=x' then some ⟨b,o,none⟩ else some ((⟨b,o,none⟩:Addr).add (x'*(E.ti e).size)):=by split <;> rfl
    rw [e1]; exact h2
 cases hd:(E.ti t).d <;> rw [hd] at h <;> first | (cases h; done) | skip
 case str =>
  simp only at h
  split at h
  case h_2=>cases h
  rename_i s
  have:=hx.frozen_leaf trivial
  cases this
  have hu:E.P.underlying t=some .string:=und hE hd
  have fin:∀ x y z,(Instr.sliceBounds false s.length s.length vlo vhi none).run E.P w=.ok (x,y,z) w→vmx=none→p=.str ((s.drop x).take (y-x))→Does E w0 Wx w bl objs (Instr.sliceAt t (.string ⟨s.toArray⟩) vlo vhi vmx) p objs:=by
   rintro x y z h1 rfl rfl
   refine Does.same S (v:=.string ⟨((s.drop x).take (y-x)).toArray⟩) ?_ (.fz _ _ (.str _))
   have hsz:(⟨s.toArray⟩:ByteArray).size=s.length:=by simp [ByteArray.size]
   simp [Instr.sliceAt,Instr.slice,run_underlying hu,hsz,h1,z1bg]
  unfold zk1 at h
  split at h
  ·have e1:=hlo.none; have e2:=hhi.none; have e3:=hmx.none
   subst e1; subst e2; subst e3
   simp only [oJ] at h
   exact fin 0 s.length s.length (bd0 ..) rfl (by rw [← h]; simp)
  ·rename_i a
   have e1:=hlo.int; have e2:=hhi.none; have e3:=hmx.none
   subst e1; subst e2; subst e3
   cases hs:dropS s a with
   | none=>rw [hs] at h; cases h
   | some s' =>
    rw [hs] at h
    simp only [oB,oJ] at h
    obtain ⟨hg,rfl⟩:=z18e hs
    exact fin _ _ _ (bdLo _ _ _ _ hg) rfl (by rw [← h,List.take_of_length_le (by simp)])
  ·rename_i b
   have e1:=hlo.none; have e2:=hhi.int; have e3:=hmx.none
   subst e1; subst e2; subst e3
   cases hs:takeS s b with
   | none=>rw [hs] at h; cases h
   | some s' =>
    rw [hs] at h
    simp only [oB,oJ] at h
    obtain ⟨hg,rfl⟩:=z17d hs
    exact fin _ _ _ (bdHi _ _ _ _ hg) rfl (by rw [← h]; simp)
  ·rename_i a b
   have e1:=hlo.int; have e2:=hhi.int; have e3:=hmx.none
   subst e1; subst e2; subst e3
   cases hs:subS s a b with
   | none=>rw [hs] at h; cases h
   | some s' =>
    rw [hs] at h
    simp only [oB,oJ] at h
    obtain ⟨hg,rfl⟩:=z1cj hs
    exact fin _ _ _ (z15p _ _ _ _ _ hg) rfl h.symm
  ·cases h
 case arr n e =>
  simp only at h
  obtain ⟨a,s,y,rfl,h1,x',z,h2,h3⟩:=arr n e h
  have hu:E.P.underlying t=some (.array n e):=und hE hd
  refine Does.same S ?_ h3
  simp [Instr.sliceAt,run_underlying hu,Instr.sureAddr,h1,h2]
 case ptr e0 =>
  simp only at h
  cases hd2:(E.ti e0).d <;> rw [hd2] at h <;> first | (cases h; done) | skip
  rename_i n e
  simp only at h
  obtain ⟨a,s,y,rfl,h1,x',z,h2,h3⟩:=arr n e h
  have hu:E.P.underlying t=some (.pointer e0):=und hE hd
  have hu2:E.P.underlying e0=some (.array n e):=und hE hd2
  refine Does.same S ?_ h3
  simp [Instr.sliceAt,Instr.slice,run_underlying hu,run_underlying hu2,asAddr,h1,h2]
 case slice e =>
  simp only at h
  cases hk:(E.ti e).d.known with
  | false=>rw [hk] at h; simp at h
  | true =>
  rw [hk] at h
  simp only [Bool.not_true,cond_false] at h
  have hu:E.P.underlying t=some (.slice e):=und hE hd
  have fin:∀ (a:Option Addr) (n c x y z:Nat),vx=.slice a n c→(Instr.sliceBounds true n c vlo vhi vmx).run E.P w=.ok (x,y,z) w →
    VR w (WT Wx bl objs) bl objs p (.slice (if z=x then a else a.map (·.add (x*(E.ti e).size))) (y-x) (z-x))→Does E w0 Wx w bl objs (Instr.sliceAt t vx vlo vhi vmx) p objs:=by
   rintro a n c x y z rfl h1 h2
   refine Does.same S ?_ h2
   simp [Instr.sliceAt,Instr.slice,run_underlying hu,h1,z7l hE w hk]
  split at h
  ·rename_i sz l
   cases hc:((sz == (E.ti e).size)||isNilL l) with
   | false=>rw [hc] at h; simp at h
   | true =>
   rw [hc] at h
   simp only [cond_true] at h
   have hx:=hx.frozen_leaf trivial
   obtain ⟨a,c,rfl,hlc⟩:=hx.slice_len
   have part:∀ x y z,x≤y→y≤l.length→y≤z→VR w (WT Wx bl objs) bl objs (.sl sz ((l.drop x).take (y-x))) (.slice (if z=x then a else a.map (·.add (x*(E.ti e).size))) (y-x) (z-x)):=by
    intro x y z h1 h2 h3
    simp only [Bool.or_eq_true,beq_iff_eq] at hc
    rcases hc with rfl | hc
    ·exact .fz _ _ (hx.part x y z h1 h2 h3 (.inl ⟨rfl,hlc⟩))
    ·have:=z14i hc
     subst this
     have hy:y=0:=by simpa using h2
     have hx0:x=0:=by omega
     subst hy; subst hx0
     exact .fz _ _ (.slemp _ _ _)
   unfold zs5 at h
   split at h
   ·have e1:=hlo.none; have e2:=hhi.none; have e3:=hmx.none
    subst e1; subst e2; subst e3
    simp only [oJ] at h
    subst h
    have:=part 0 l.length c (Nat.zero_le _) (Nat.le_refl _) hlc
    simp only [List.drop_zero,Nat.sub_zero,List.take_length] at this
    exact fin a _ c 0 _ _ rfl (bd0 ..) this
   ·rename_i a'
    have e1:=hlo.int; have e2:=hhi.none; have e3:=hmx.none
    subst e1; subst e2; subst e3
    cases hs:dropS l a' with
    | none=>rw [hs] at h; cases h
    | some l' =>
     rw [hs] at h
     simp only [oB,oJ] at h
     obtain ⟨hg,rfl⟩:=z18e hs
     subst h
     have:=part a'.toNat l.length c (by omega) (Nat.le_refl _) hlc
     rw [List.take_of_length_le (by simp)] at this
     exact fin a _ c _ _ _ rfl (bdLo _ _ _ _ hg) this
   ·rename_i b'
    have e1:=hlo.none; have e2:=hhi.int; have e3:=hmx.none
    subst e1; subst e2; subst e3
    cases hs:takeS l b' with
    | none=>rw [hs] at h; cases h
    | some l' =>
     rw [hs] at h
     simp only [oB,oJ] at h
     obtain ⟨hg,rfl⟩:=z17d hs
     subst h
     have:=part 0 b'.toNat c (by omega) (by omega) (by omega)
     simp only [List.drop_zero,Nat.sub_zero] at this
     exact fin a _ c _ _ _ rfl (bdHi _ _ _ _ (by omega)) this
   ·rename_i a' b'
    have e1:=hlo.int; have e2:=hhi.int; have e3:=hmx.none
    subst e1; subst e2; subst e3
    cases hs:subS l a' b' with
    | none=>rw [hs] at h; cases h
    | some l' =>
     rw [hs] at h
     simp only [oB,oJ] at h
     obtain ⟨hg,rfl⟩:=z1cj hs
     subst h
     exact fin a _ c _ _ _ rfl (z15p _ _ _ _ _ (by omega)) (part _ _ c (by omega) (by omega) (by omega))
   ·have e1:=hlo.none; have e2:=hhi.int; have e3:=hmx.int
    subst e1; subst e2; subst e3
    simp only [oJ] at h
    subst h
    exact fin a _ c _ _ _ rfl (z1eo _ _ _ _ _ (by simp)) (by simpa using VR.se _)
   ·cases h
  ·obtain ⟨a,rfl⟩:∃ a,vx=.slice a 0 0:=by
    cases hx with
    | fz _ _ h=>cases h
    | sl0=>exact ⟨none,rfl⟩
    | dead _ _ _ _ hr=>simp [refOf] at hr
   unfold zej at h
   split at h
   ·have e1:=hlo.none; have e2:=hhi.none; have e3:=hmx.none
    subst e1; subst e2; subst e3
    simp only [oJ] at h
    subst h
    exact fin a 0 0 0 0 0 rfl (bd0 ..) (by simpa using VR.se _)
   ·rename_i a'
    have e1:=hlo.int; have e2:=hhi.none; have e3:=hmx.none
    subst e1; subst e2; subst e3
    obtain ⟨hg,h⟩:=zc h
    simp only [oJ] at h
    subst h
    have hg:=of_decide_eq_true hg
    subst hg
    exact fin a 0 0 _ _ _ rfl (bdLo _ _ _ _ (by simp)) (by simpa using VR.se _)
   ·rename_i a'
    have e1:=hlo.none; have e2:=hhi.int; have e3:=hmx.none
    subst e1; subst e2; subst e3
    obtain ⟨hg,h⟩:=zc h
    simp only [oJ] at h
    subst h
    have hg:=of_decide_eq_true hg
    subst hg
    exact fin a 0 0 _ _ _ rfl (bdHi _ _ _ _ (by simp)) (by simpa using VR.se _)
   ·rename_i b' c'
    have e1:=hlo.none; have e2:=hhi.int; have e3:=hmx.int
    subst e1; subst e2; subst e3
    obtain ⟨hg,h⟩:=zc h
    simp only [oJ] at h
    subst h
    obtain ⟨hg1,hg2⟩:=of_decide_eq_true hg
    subst hg1; subst hg2
    exact fin a 0 0 _ _ _ rfl (z1eo _ _ _ _ _ (by simp)) (by simpa using VR.se _)
   ·rename_i a' b'
    have e1:=hlo.int; have e2:=hhi.int; have e3:=hmx.none
    subst e1; subst e2; subst e3
    obtain ⟨hg,h⟩:=zc h
    simp only [oJ] at h
    subst h
    obtain ⟨hg1,hg2⟩:=of_decide_eq_true hg
    subst hg1; subst hg2
    exact fin a 0 0 _ _ _ rfl (z15p _ _ _ _ _ (by simp)) (by simpa using VR.se _)
   ·cases h
  ·obtain ⟨a,rfl⟩:∃ a,vx=.slice a 0 0:=by
    cases hx with
    | fz _ _ h=>cases h
    | se a=>exact ⟨a,rfl⟩
    | dead _ _ _ _ hr=>simp [refOf] at hr
   unfold zej at h
   split at h
   ·have e1:=hlo.none; have e2:=hhi.none; have e3:=hmx.none
    subst e1; subst e2; subst e3
    simp only [oJ] at h
    subst h
    exact fin a 0 0 0 0 0 rfl (bd0 ..) (by simpa using VR.se _)
   ·rename_i a'
    have e1:=hlo.int; have e2:=hhi.none; have e3:=hmx.none
    subst e1; subst e2; subst e3
    obtain ⟨hg,h⟩:=zc h
    simp only [oJ] at h
    subst h
    have hg:=of_decide_eq_true hg
    subst hg
    exact fin a 0 0 _ _ _ rfl (bdLo _ _ _ _ (by simp)) (by simpa using VR.se _)
   ·rename_i a'
    have e1:=hlo.none; have e2:=hhi.int; have e3:=hmx.none
    subst e1; subst e2; subst e3
    obtain ⟨hg,h⟩:=zc h
    simp only [oJ] at h
    subst h
    have hg:=of_decide_eq_true hg
    subst hg
    exact fin a 0 0 _ _ _ rfl (bdHi _ _ _ _ (by simp)) (by simpa using VR.se _)
   ·rename_i b' c'
    have e1:=hlo.none; have e2:=hhi.int; have e3:=hmx.int
    subst e1; subst e2; subst e3
    obtain ⟨hg,h⟩:=zc h
    simp only [oJ] at h
    subst h
    obtain ⟨hg1,hg2⟩:=of_decide_eq_true hg
    subst hg1; subst hg2
    exact fin a 0 0 _ _ _ rfl (z1eo _ _ _ _ _ (by simp)) (by simpa using VR.se _)
   ·rename_i a' b'
    have e1:=hlo.int; have e2:=hhi.int; have e3:=hmx.none
    subst e1; subst e2; subst e3
    obtain ⟨hg,h⟩:=zc h
    simp only [oJ] at h
    subst h
    obtain ⟨hg1,hg2⟩:=of_decide_eq_true hg
    subst hg1; subst hg2
    exact fin a 0 0 _ _ _ rfl (z15p _ _ _ _ _ (by simp)) (by simpa using VR.se _)
   ·cases h
  ·rename_i i
   split at h
   case h_2=>cases h
   rename_i s l fz cap ho
   cases hc:(s == (E.ti e).size) with
   | false=>rw [hc] at h; simp at h
   | true =>
   rw [hc] at h
   simp only [cond_true] at h
   rw [beq_iff_eq] at hc
   subst hc
   have hj:=zem ho (by simp)
   cases hx with
   | fz _ _ h=>cases h
   | dead p v k _ hr _ hdd=>simp only [refOf,oJ] at hr; subst hr; rw [ho] at hdd; cases hdd
   | lall k b o s' fz' c l2 cap2 hk' ho' hb hlc hm hr =>
    rw [ho] at ho'; cases ho'
    obtain ⟨x',y,z,h1,h2⟩:=z10d (E:=E) hj ho hb rfl hlc hm hr hlo hhi hmx true h
    exact fin _ _ _ _ _ _ rfl h1 (by simpa using h2)
   | lallE k s' fz' a hk' ho' hb =>
    rw [ho] at ho'; cases ho'
    unfold z9i at h
    simp only [List.length_nil] at h
    split at h
    ·have e1:=hlo.none; have e2:=hhi.none; have e3:=hmx.none
     subst e1; subst e2; subst e3
     simp only [oJ] at h
     subst h
     exact fin a 0 0 _ _ _ rfl (bd0 ..) (by simpa using VR.lallE i _ fz a hj ho hb)
    ·rename_i a'
     have e1:=hlo.int; have e2:=hhi.none; have e3:=hmx.none
     subst e1; subst e2; subst e3
     obtain ⟨hg,h⟩:=zc h
     have hg:=of_decide_eq_true hg
     simp only [oJ] at h
     obtain rfl:a'=0:=by omega
     subst h
     exact fin a 0 0 _ _ _ rfl (bdLo _ _ _ _ (by simp)) (by simpa using VR.lslE i 0 _ fz none none [] a hj ho (by simp) (fun x hx=>by cases hx) (fun _ x hx=>by cases hx) (fun _=>Nat.le_refl _))
    ·rename_i a'
     have e1:=hlo.none; have e2:=hhi.int; have e3:=hmx.none
     subst e1; subst e2; subst e3
     obtain ⟨hg,h⟩:=zc h
     have hg:=of_decide_eq_true hg
     simp only [oJ] at h
     obtain rfl:a'=0:=by omega
     subst h
     exact fin a 0 0 _ _ _ rfl (bdHi _ _ _ _ (by simp)) (by simpa using VR.lslE i 0 _ fz none none [] a hj ho (by simp) (fun x hx=>by cases hx) (fun _ x hx=>by cases hx) (fun _=>Nat.le_refl _))
    ·rename_i a' b'
     have e1:=hlo.int; have e2:=hhi.int; have e3:=hmx.none
     subst e1; subst e2; subst e3
     obtain ⟨hg,h⟩:=zc h
     have hg:=of_decide_eq_true hg
     simp only [oJ] at h
     obtain rfl:a'=0:=by omega
     obtain rfl:b'=0:=by omega
     subst h
     exact fin a 0 0 _ _ _ rfl (z15p _ _ _ _ _ (by simp)) (by simpa using VR.lslE i 0 _ fz none none [] a hj ho (by simp) (fun x hx=>by cases hx) (fun _ x hx=>by cases hx) (fun _=>Nat.le_refl _))
    ·rename_i b' c'
     have e1:=hlo.none; have e2:=hhi.int; have e3:=hmx.int
     subst e1; subst e2; subst e3
     obtain ⟨hg,h⟩:=zc h
     have hg:=of_decide_eq_true hg
     simp only [oJ] at h
     obtain rfl:b'=0:=by omega
     obtain rfl:c'=0:=by omega
     subst h
     exact fin a 0 0 _ _ _ rfl (z1eo _ _ _ _ _ (by simp)) (by simpa using VR.lslE i 0 _ fz (some 0) none [] a hj ho (by simp) (fun x hx=>by cases hx; rfl) (fun _ x hx=>by cases hx) (fun _=>Nat.le_refl _))
    ·rename_i a' b' c'
     have e1:=hlo.int; have e2:=hhi.int; have e3:=hmx.int
     subst e1; subst e2; subst e3
     obtain ⟨hg,h⟩:=zc h
     have hg:=of_decide_eq_true hg
     simp only [oJ] at h
     obtain rfl:a'=0:=by omega
     obtain rfl:b'=0:=by omega
     obtain rfl:c'=0:=by omega
     subst h
     exact fin a 0 0 _ _ _ rfl (z1jv _ _ _ _ _ _ (by simp)) (by simpa using VR.lslE i 0 _ fz (some 0) none [] a hj ho (by simp) (fun x hx=>by cases hx; rfl) (fun _ x hx=>by cases hx) (fun _=>Nat.le_refl _))
    ·cases h
  ·split at h
   case h_2=>cases h
   rename_i b' ho
   have e1:=hlo.none; have e2:=hhi.int; have e3:=hmx.none
   subst e1; subst e2; subst e3
   cases hc:((E.ti e).size == 1) with
   | false=>rw [hc] at h; simp at h
   | true =>
   rw [hc] at h
   simp only [cond_true] at h
   obtain ⟨hg,h⟩:=zc h
   simp only [oJ] at h
   subst h
   have hg:=of_decide_eq_true hg
   subst hg
   cases hx with
   | fz _ _ h=>cases h
   | dead p v k _ hr _ hdd=>simp only [refOf,oJ] at hr; subst hr; rw [ho] at hdd; cases hdd
   | raw _ n b o fz c hi ho' hb hnc hr =>
    rw [ho] at ho'; cases ho'
    refine fin _ _ c _ _ _ rfl (bdHi _ _ _ _ (by simp)) ?_
    simp only [Int.toNat_zero,Nat.sub_zero,Nat.zero_mul]
    have:=VR.lall (W:=WT Wx bl objs) _ b o 1 _ c [] none hi ho hb (Nat.zero_le _) (fun m hm=>by cases hm) (by rw [Nat.mul_one]; exact hr)
    by_cases hc0:c=0
    ·subst hc0; simpa using this
    ·rw [if_neg hc0]; simpa [Addr.add] using this
  ·rename_i i off len
   split at h
   case h_2=>cases h
   rename_i s l fz cap ho
   cases hc:(s == (E.ti e).size) with
   | false=>rw [hc] at h; simp at h
   | true =>
   rw [hc] at h
   simp only [cond_true] at h
   rw [beq_iff_eq] at hc
   subst hc
   have hj:=zem ho (by simp)
   have gen:∃ a c,vx=.slice a len c∧len≤c∧off+len≤l.length∧(∀ y,off+y≤l.length→y≤c)∧∀ x y,x≤y→off+y≤l.length→VR w (WT Wx bl objs) bl objs (.lsl i (off+x) (y-x) none) (.slice (if c=x then a else a.map (·.add (x*(E.ti e).size))) (y-x) (c-x)):=by
    cases hx with
    | fz _ _ h=>cases h
    | dead p v k _ hr _ hdd=>simp only [refOf,oJ] at hr; subst hr; rw [ho] at hdd; cases hdd
    | lsl k _ _ b o s' fz' c _ cap2 l2 hk' ho' hb hl hlc hm hm' hx' hr =>
     rw [ho] at ho'; cases ho'
     have hx':=hx' rfl
     refine ⟨_,c,rfl,hlc,hl,fun y hy=>by omega,fun x y h1 h2=>?_⟩
     have:=lsl_rel (w:=w) (W:=WT Wx bl objs) (lim:=none) hj ho hb off c x y c hr h1 (by omega) (by omega) (Nat.le_refl _) (fun x hx=>by cases hx) (fun _ x hx=>hm' rfl x hx) (fun _=>hx')
     simpa using this
    | lslE k _ s' fz' _ cap2 l2 a hk' ho' hl hm hm' hx' =>
     rw [ho] at ho'; cases ho'
     have hx':=hx' rfl
     refine ⟨a,0,rfl,Nat.le_refl _,by omega,fun y hy=>by omega,fun x y h1 h2=>?_⟩
     obtain rfl:y=0:=by omega
     obtain rfl:x=0:=by omega
     simpa using VR.lslE i off _ fz none cap l a hj ho hl hm hm' (fun _=>hx')
   obtain ⟨a,c,rfl,hlc,hol,hyc,gen⟩:=gen
   unfold zh2 at h
   split at h
   ·have e1:=hlo.none; have e2:=hhi.none; have e3:=hmx.none
    subst e1; subst e2; subst e3
    simp only [oJ] at h
    subst h
    exact fin a len c 0 len c rfl (bd0 ..) (by simpa using gen 0 len (Nat.zero_le _) hol)
   ·rename_i a'
    have e1:=hlo.int; have e2:=hhi.none; have e3:=hmx.none
    subst e1; subst e2; subst e3
    obtain ⟨hg,h⟩:=zc h
    have hg:=of_decide_eq_true hg
    simp only [oJ] at h
    subst h
    exact fin a len c _ _ _ rfl (bdLo _ _ _ _ hg) (gen _ _ (by omega) hol)
   ·rename_i b'
    have e1:=hlo.none; have e2:=hhi.int; have e3:=hmx.none
    subst e1; subst e2; subst e3
    obtain ⟨hg,h⟩:=zc h
    have hg:=of_decide_eq_true hg
    simp only [oJ] at h
    subst h
    exact fin a len c _ _ _ rfl (bdHi _ _ _ _ (by have:=hyc b'.toNat (by omega); omega)) (by simpa using gen 0 b'.toNat (by omega) (by omega))
   ·rename_i a' b'
    have e1:=hlo.int; have e2:=hhi.int; have e3:=hmx.none
    subst e1; subst e2; subst e3
    obtain ⟨hg,h⟩:=zc h
    have hg:=of_decide_eq_true hg
    simp only [oJ] at h
    subst h
    exact fin a len c _ _ _ rfl (z15p _ _ _ _ _ (by have:=hyc b'.toNat (by omega); omega)) (gen _ _ (by omega) (by omega))
   ·cases h
  ·cases h
end
end Dv

namespace Dv
open Go Go.RowKit
section
variable {w:World} {W:Nat→Nat→Prop}
theorem leafF {k:LK} {p:PV} {v:Value} (hk:zel k p=true) (h:VRf w W p v):VRf w W (zu1 k p) v:=by
 cases k with
 | int k =>
  cases p <;> simp only [zel,Bool.false_eq_true] at hk
  rw [zfr hk]; exact h
 | bool=>cases p <;> simp only [zel,Bool.false_eq_true] at hk; exact h
 | str=>cases p <;> simp only [zel,Bool.false_eq_true] at hk; exact h
 | slice s =>
  cases p <;> simp only [zel,Bool.false_eq_true] at hk
  simp only [Bool.or_eq_true,beq_iff_eq,List.isEmpty_iff] at hk
  rcases hk with rfl | rfl
  ·exact h
  ·exact h.sl_nil
 | other=>exact .opq0 _ _ (by simpa [zel] using hk) h
theorem z17j {t:TI} {p:PV} {v:Value} (hk:hasTy t p=true) (h:VRf w W p v):VRf w W (z6l t p) v:=by
 unfold hasTy at hk
 unfold z6l
 cases ha:t.isAgg with
 | true =>
  rw [ha] at hk
  cases p <;> simp only [Bool.false_eq_true] at hk
  rename_i l
  cases h with
  | agg _ cs hl hx =>
   obtain ⟨h1,h2⟩:=zk4 t.leaves 0 l
   obtain ⟨h3,h4⟩:=z83 hk
   refine .agg _ _ (by rw [h1,h3]; exact hl) (fun j q hq=>?_)
   obtain ⟨k,hkj,rfl⟩:=h2 j q hq
   have hj:j<l.length:=by rw [← h3]; exact (List.getElem?_eq_some_iff.1 hkj).1
   have hg:l[j]?=some l[j]:=List.getElem?_eq_getElem hj
   have:nthD .undef l (0+j)=l[j]:=by rw [z4l]; simp [hj]
   rw [this]
   exact leafF (h4 j k _ hkj hg) (hx j _ hg)
 | false =>
  rw [ha] at hk
  simp only at hk ⊢
  match hl:t.leaves,hk with
  | [k],hk=>simp only [z21,Bool.and_true] at hk; exact leafF hk h
  | [],hk=>simp [z21] at hk
  | _::_::_,hk=>simp [z21] at hk
end
section
variable {E:Env} (hE:EnvOk E) {w0 w:World} {Wx:Nat→Nat→Prop} {bl:zh} {objs:List Obj}
theorem z143 {W:Nat→Nat→Prop} {i off:Nat} {v:Value} (h:VR w W bl objs (.ptr i off) v) (ha:nthD .dead objs i≠.dead):∃ b o,i<objs.length∧bl[i]?=some (some (b,o))∧v=.pointer (some ⟨b,o+off,none⟩):=by
 cases h with
 | fz _ _ h=>cases h
 | dead p v k _ hr _ hdd=>simp only [refOf,oJ] at hr; subst hr; exact absurd hdd ha
 | ptr _ _ b o hi hb=>exact ⟨b,o,hi,hb,rfl⟩
theorem z19w {W:Nat→Nat→Prop} {i kk off e s fz:Nat} {l:List PV} {cap:Option Nat} {v:Value} (h:VR w W bl objs (.rptr i kk off) v) (ho:nthD .dead objs i=.row e s l fz cap) :
  ∃ b o,i<objs.length∧bl[i]?=some (some (b,o))∧v=.pointer (some ⟨b,o+kk*s+off,none⟩):=by
 cases h with
 | fz _ _ h=>cases h
 | dead p v k _ hr _ hdd=>simp only [refOf,oJ] at hr; subst hr; rw [ho] at hdd; cases hdd
 | rptr _ _ _ b o s' fz' l' cap' hi ho' hb=>rw [ho] at ho'; cases ho'; exact ⟨b,o,hi,hb,rfl⟩
theorem z1g7 {W:Nat→Nat→Prop} {p:PV} {off:Nat} {v:Value} (h:VR w W bl objs (.opq p off) v) (hr:p.refR=some ()):∃ b o,v=.pointer (some ⟨b,o+off,none⟩)∧VRf w W p (.pointer (some ⟨b,o,none⟩)):=by
 cases p <;> simp [PV.refR] at hr
 rename_i cells o1
 have key:∀ v,VRf w W (.ref cells o1) v→∃ b o,v=.pointer (some ⟨b,o,none⟩):=by
  intro v h
  cases h with
  | ref _ _ b o f _ _=>exact ⟨b,_,rfl⟩
 cases h with
 | fz _ _ h=>cases h with | opq0 _ _ _ h=>obtain ⟨b,o,rfl⟩:=key _ h; exact ⟨b,o,rfl,h⟩
 | dead _ _ _ _ hr=>simp [refOf] at hr
 | opq0 _ _ _ h=>obtain ⟨b,o,rfl⟩:=key _ h; exact ⟨b,o,rfl,h⟩
 | opq _ b o _ _ h=>exact ⟨b,o,rfl,h⟩
theorem z1a0 {W:Nat→Nat→Prop} {cells:List PV} {off:Nat} {v:Value} (h:VR w W bl objs (.ref cells off) v):∃ (b o:Nat) (f:Nat→Value),v=.pointer (some ⟨b,o+off,none⟩) ∧
  (∀ (j:Nat) (q:PV),cells[j]?=some q→w.cell? ⟨b,o+j,none⟩=some (f j)∧¬ W b (o+j))∧(∀ (j:Nat) (q:PV),cells[j]?=some q→VRf w W q (f j)):=by
 have h:=h.frozen_leaf trivial
 cases h with
 | ref _ _ b o f hc hr=>exact ⟨b,o,f,rfl,hc,hr⟩
theorem ztz {W:Nat→Nat→Prop} {x p:PV} {v:Value} (hx:VR w W bl objs x v) (h:z4m objs x some=some p):p=x∧∃ a,v=.pointer (some a):=by
 unfold z4m at h
 split at h
 ·rename_i i off
  split at h
  ·cases h
  ·rename_i o hne
   simp only [oJ] at h
   obtain ⟨b,o,_,_,rfl⟩:=z143 hx hne
   exact ⟨h.symm,_,rfl⟩
 ·rename_i i kk off
  split at h
  ·rename_i ho
   simp only [oJ] at h
   obtain ⟨b,o,_,_,rfl⟩:=z19w hx ho
   exact ⟨h.symm,_,rfl⟩
  ·cases h
 ·simp only [oJ] at h
  obtain ⟨b,o,f,rfl,_⟩:=z1a0 hx
  exact ⟨h.symm,_,rfl⟩
 ·rename_i v' off
  cases hr:v'.refR with
  | none=>rw [hr] at h; cases h
  | some u =>
   rw [hr] at h
   simp only [oB,oJ] at h
   obtain ⟨b,o,rfl,_⟩:=z1g7 hx hr
   exact ⟨h.symm,_,rfl⟩
 ·cases h
include hE
theorem zvv {t f o ft:Nat} (h:zzq E t f=some (o,ft)):∃ (fields:Array Field) (fl:Field),E.P.underlying t=some (.struct fields)∧fields[f]?=some fl∧fl.offset=o∧fl.type=ft:=by
 unfold zzq at h
 cases hd:(E.ti t).d <;> rw [hd] at h <;> first | (cases h; done) | skip
 rename_i fs
 simp only at h
 obtain ⟨fields,hu,hfs⟩:∃ fields:Array Field,E.P.underlying t=some (.struct fields)∧fields.toList.map (fun f=>(f.offset,f.type))=fs:=und hE hd
 rw [← hfs,List.getElem?_map] at h
 cases hf:fields.toList[f]? with
 | none=>rw [hf] at h; cases h
 | some fl =>
  rw [hf] at h
  simp only [Option.map_some,oJ,pJ] at h
  exact ⟨fields,fl,hu,by simpa using hf,h.1,h.2⟩
theorem z152 (S:Sim w0 Wx w bl objs) (t f:Nat) {x p:PV} {vx:Value} (hx:VR w (WT Wx bl objs) bl objs x vx) (h:z1p E t objs x f some=some p):Does E w0 Wx w bl objs (Instr.fieldAt t vx f) p objs:=by
 unfold z1p at h
 cases hf:zzq E t f with
 | none=>rw [hf] at h; cases h
 | some of =>
 obtain ⟨o,ft⟩:=of
 rw [hf] at h
 simp only at h
 cases hk:(!(E.ti ft).d.known||(z6c E ft == 0)) with
 | true=>rw [hk] at h; simp at h
 | false =>
 rw [hk] at h
 simp only [cond_false] at h
 simp only [Bool.or_eq_false_iff,Bool.not_eq_false'] at hk
 obtain ⟨hkn,hsz⟩:=hk
 have hsz:(E.ti ft).size≠0:=by
  intro h0
  rw [show z6c E ft=(E.ti ft).size from rfl,h0] at hsz
  cases hsz
 obtain ⟨fields,fl,hu,hfl,rfl,rfl⟩:=zvv hE hf
 have run:∀ b y,(Instr.fieldAt t (.pointer (some ⟨b,y,none⟩)) f).run E.P w=.ok (.pointer (some ⟨b,y+fl.offset,none⟩)) w:=by
  intro b y
  simp [Instr.fieldAt,run_underlying hu,hfl,Instr.sureAddr,fieldPlace,z7l hE w hkn,hsz,zl7]
 split at h
 ·rename_i i off
  split at h
  ·cases h
  ·rename_i ob hne
   simp only [oJ] at h
   subst h
   obtain ⟨b,o,hi,hb,rfl⟩:=z143 hx hne
   refine Does.same S (run _ _) ?_
   rw [Nat.add_assoc]; exact .ptr _ _ _ _ hi hb
 ·rename_i i kk off
  split at h
  ·rename_i ho
   simp only [oJ] at h
   subst h
   obtain ⟨b,o,hi,hb,rfl⟩:=z19w hx ho
   refine Does.same S (run _ _) ?_
   rw [Nat.add_assoc]; exact .rptr _ _ _ _ _ _ _ _ _ hi ho hb
  ·cases h
 ·rename_i l off
  simp only [oJ] at h
  subst h
  obtain ⟨b,o,g,rfl,h1,h2⟩:=z1a0 hx
  refine Does.same S (run _ _) (.fz _ _ ?_)
  rw [Nat.add_assoc]; exact .ref _ _ _ _ _ h1 h2
 ·rename_i v off
  cases hr:v.refR with
  | none=>rw [hr] at h; cases h
  | some u =>
   rw [hr] at h
   simp only [oB,oJ] at h
   subst h
   obtain ⟨b,o,rfl,hv⟩:=z1g7 hx hr
   refine Does.same S (run _ _) ?_
   rw [Nat.add_assoc]
   exact .opq _ _ _ _ (by cases v <;> simp [PV.refR] at hr; rfl) hv
 ·cases h
theorem z1gq (S:Sim w0 Wx w bl objs) (t f:Nat) {x p:PV} {vx:Value} (hx:VR w (WT Wx bl objs) bl objs x vx) (h:z18c E t x f some=some p):Does E w0 Wx w bl objs (Instr.field t vx f) p objs:=by
 unfold z18c at h
 split at h
 case h_2=>cases h
 rename_i o ft cs hf
 obtain ⟨fields,fl,hu,hfl,rfl,rfl⟩:=zvv hE hf
 unfold z1dc at h
 simp only at h
 cases hk:(E.ti fl.type).d.known with
 | false=>rw [hk] at h; simp at h
 | true =>
 rw [hk] at h
 simp only [Bool.not_true,cond_false] at h
 obtain ⟨vs,rfl,hl,hel⟩:∃ vs:Array Value,vx=.agg vs∧cs.length=vs.size∧∀ (j:Nat) (q:PV),cs[j]?=some q→VR w (WT Wx bl objs) bl objs q (vs.getD j undef):=by
  cases hx with
  | fz _ _ h=>cases h with | agg _ vs h1 h2=>exact ⟨vs,rfl,h1,fun j q hq=>.fz _ _ (h2 j q hq)⟩
  | agg _ vs h1 h2=>exact ⟨vs,rfl,h1,h2⟩
  | dead _ _ _ _ hr=>simp [refOf] at hr
 cases ha:(E.ti fl.type).isAgg with
 | true =>
  rw [ha] at h
  simp only [cond_true,oJ] at h
  subst h
  refine Does.same S (v:=.agg (vs.extract fl.offset (fl.offset+(E.ti fl.type).size))) ?_ (.agg _ _ ?_ ?_)
  ·simp [Instr.field,run_underlying hu,hfl,asAgg,part,z19v hE w hk,ha,z7l hE w hk]
  ·simp; omega
  ·intro j q hq
   have hj:j<(E.ti fl.type).size:=by have:=z3j hq; simp at this; omega
   rw [List.getElem?_take_of_lt hj,List.getElem?_drop] at hq
   have h1:=hel _ q hq
   have hlt:fl.offset+j<vs.size:=by rw [← hl]; exact z3j hq
   have h2:(vs.extract fl.offset (fl.offset+(E.ti fl.type).size))[j]?=some vs[fl.offset+j]:=by
    rw [Array.getElem?_extract_of_lt (by omega)]
    try exact Array.getElem?_eq_getElem hlt
   rw [z1at h2]
   have h3:vs.getD (fl.offset+j) undef=vs[fl.offset+j]:=by simp [Array.getD_eq_getD_getElem?,hlt]
   rw [← h3]; exact h1
 | false =>
  rw [ha] at h
  simp only [cond_false] at h
  cases hc:cs[fl.offset]? with
  | none=>rw [hc] at h; cases h
  | some q =>
   rw [hc] at h
   simp only [oJ] at h
   subst h
   have hlt:fl.offset<vs.size:=by rw [← hl]; exact z3j hc
   have h1:=hel _ q hc
   have h3:vs.getD fl.offset undef=vs[fl.offset]:=by simp [Array.getD_eq_getD_getElem?,hlt]
   rw [h3] at h1
   refine Does.same S ?_ h1
   simp [Instr.field,run_underlying hu,hfl,asAgg,part,z19v hE w hk,ha,hlt]
end
end Dv

namespace Dv
open Go Go.RowKit
section
variable {E:Env} (hE:EnvOk E) {w0 w:World} {Wx:Nat→Nat→Prop} {bl:zh} {objs:List Obj}
theorem rdT_some {t:TI} {l:List PV} {k off:Nat} {x:PV} (h:rdT t l k off=some x):∃ p,l[k]?=some p∧z21 t.leaves ((p.cellsL.drop off).take t.size)=true ∧
  x=bif t.isAgg then .agg ((p.cellsL.drop off).take t.size) else nthD .undef ((p.cellsL.drop off).take t.size) 0:=by
 unfold rdT at h
 cases hk:l[k]? with
 | none=>rw [hk] at h; cases h
 | some p =>
  rw [hk] at h
  simp only at h
  cases hok:z21 t.leaves ((p.cellsL.drop off).take t.size) with
  | false=>rw [hok] at h; cases h
  | true =>
   rw [hok] at h
   simp only [cond_true,oJ] at h
   exact ⟨p,rfl,hok,h.symm⟩
theorem zx9 {W:Nat→Nat→Prop} {i e s fz:Nat} {l:List PV} {cap:Option Nat} {v:Value} (h:VR w W bl objs (.lall i) v) (ho:nthD .dead objs i=.row e s l fz cap) :
  ∃ a c,v=.slice a l.length c∧(∀ k,k<l.length→∃ b o,a=some ⟨b,o,none⟩∧i<objs.length∧bl[i]?=some (some (b,o)))∧(∀ m,cap=some m→c=m):=by
 cases h with
 | fz _ _ h=>cases h
 | dead p v k _ hr _ hdd=>simp only [refOf,oJ] at hr; subst hr; rw [ho] at hdd; cases hdd
 | lall _ b o s' fz' c l' cap' hi ho' hb hc hm hr=>rw [ho] at ho'; cases ho'; exact ⟨_,c,rfl,fun k _=>⟨b,o,rfl,hi,hb⟩,hm⟩
 | lallE _ s' fz' a hi ho' hb=>rw [ho] at ho'; cases ho'; exact ⟨a,0,rfl,fun k hk=>by simp at hk,fun m hm=>by cases hm⟩
theorem zsb {W:Nat→Nat→Prop} {i off len e s fz:Nat} {lim:Option Nat} {l:List PV} {cap:Option Nat} {v:Value} (h:VR w W bl objs (.lsl i off len lim) v) (ho:nthD .dead objs i=.row e s l fz cap) :
  ∃ a c,v=.slice a len c∧(∀ k,k<len→∃ b o,a=some ⟨b,o+off*s,none⟩∧i<objs.length∧bl[i]?=some (some (b,o))∧off+len≤l.length)∧(∀ m,lim=some m→c=m)∧(lim=none→∀ m,cap=some m→c+off=m):=by
 cases h with
 | fz _ _ h=>cases h
 | dead p v k _ hr _ hdd=>simp only [refOf,oJ] at hr; subst hr; rw [ho] at hdd; cases hdd
 | lsl _ _ _ b o s' fz' c _ cap' l' hi ho' hb hl hc hm hm' hx' hr=>rw [ho] at ho'; cases ho'; exact ⟨_,c,rfl,fun k _=>⟨b,o,rfl,hi,hb,hl⟩,hm,hm'⟩
 | lslE _ _ s' fz' _ cap' l' a hi ho' hl hm hm' hx'=>rw [ho] at ho'; cases ho'; exact ⟨a,0,rfl,fun k hk=>by omega,fun m hx=>(hm m hx).symm,fun hn m hx=>by rw [Nat.zero_add]; exact hm' hn m hx⟩
include hE
theorem z14k (S:Sim w0 Wx w bl objs) (t:Nat) {x ix p:PV} {vx vi:Value} (hx:VR w (WT Wx bl objs) bl objs x vx) (hi:VR w (WT Wx bl objs) bl objs ix vi)
  (h:z56 E t objs x ix some=some p):Does E w0 Wx w bl objs (Instr.indexAt t vx vi) p objs:=by
 unfold z56 at h
 split at h
 case h_3=>cases h
 ·rename_i e k i hd
  have hi:=hi.frozen_leaf trivial
  cases hi
  have hu:E.P.underlying t=some (.slice e):=und hE hd
  cases hk:(E.ti e).d.known with
  | false=>rw [hk] at h; simp at h
  | true =>
  rw [hk] at h
  simp only [Bool.not_true,cond_false] at h
  have run:∀ (b y n c:Nat),0≤i∧i<n→(Instr.indexAt t (.slice (some ⟨b,y,none⟩) n c) (.int k i)).run E.P w=.ok (.pointer (some ⟨b,y+i.toNat*(E.ti e).size,none⟩)) w:=by
   intro b y n c hin
   simp [Instr.indexAt,asIntOf,run_underlying hu,hin,z7l hE w hk,zl7]
  split at h
  ·rename_i s l
   cases hc:((s == (E.ti e).size)||isNilL l) with
   | false=>rw [hc] at h; simp at h
   | true =>
   rw [hc] at h
   simp only [cond_true] at h
   cases hr:rdI (E.ti e) l i with
   | none=>rw [hr] at h; cases h
   | some y =>
   rw [hr] at h
   simp only [oB,oJ] at h
   subst h
   unfold rdI at hr
   by_cases h0:0≤i
   ·rw [decide_eq_true h0] at hr
    simp only [cond_true] at hr
    obtain ⟨q,hq,hok,rfl⟩:=rdT_some hr
    have hlt:=z3j hq
    have hx:=hx.frozen_leaf trivial
    cases hx with
    | slemp _ a cap=>simp at hlt
    | sl _ _ b o cap f hcap hs hcell hrr =>
     have hsz:s=(E.ti e).size:=by
      simp only [Bool.or_eq_true,beq_iff_eq] at hc
      rcases hc with h | h
      ·exact h
      ·rw [z14i h] at hlt; simp at hlt
     subst hsz
     refine Does.same S (run b o l.length cap (by omega)) (.fz _ _ ?_)
     have hqs:=hs _ q hq
     have hsub:(q.cellsL.drop 0).take (E.ti e).size=q.cellsL:=by rw [List.drop_zero,List.take_of_length_le (by rw [hqs.1]; exact Nat.le_refl _)]
     rw [hsub] at hok ⊢
     obtain ⟨hlen,hokg⟩:=z83 hok
     have hcells:∀ (j:Nat) (z:PV),(z6l (E.ti e) (bif (E.ti e).isAgg then .agg q.cellsL else nthD .undef q.cellsL 0)).cellsL[j]?=some z→∃ z0,q.cellsL[j]?=some z0∧VRf w (WT Wx bl objs) z (f i.toNat j):=by
      intro j z hz
      unfold z6l at hz
      cases ha:(E.ti e).isAgg with
      | true =>
       rw [ha] at hz
       simp only [cond_true,PV.cellsL] at hz
       obtain ⟨h1,h2⟩:=zk4 (E.ti e).leaves 0 q.cellsL
       obtain ⟨k',hkj,rfl⟩:=h2 j z hz
       have hj:j<q.cellsL.length:=by rw [← hlen]; exact (List.getElem?_eq_some_iff.1 hkj).1
       have hg:q.cellsL[j]?=some q.cellsL[j]:=List.getElem?_eq_getElem hj
       have:nthD .undef q.cellsL (0+j)=q.cellsL[j]:=by rw [z4l]; simp [hj]
       refine ⟨_,hg,?_⟩
       rw [this]
       exact leafF (hokg j k' _ hkj hg) (hrr _ q hq j _ hg)
      | false =>
       rw [ha] at hz
       simp only [cond_false] at hz
       match hl':(E.ti e).leaves,hlen,hokg,hz with
       | [k'],hlen,hokg,hz =>
        match hql:q.cellsL,hlen with
        | [q0],_ =>
         rw [hql] at hz hokg
         simp only [nthD] at hz
         have hsc:(zu1 k' q0).cellsL=[zu1 k' q0]:=by cases k' <;> rfl
         rw [hsc] at hz
         cases j with
         | succ j=>simp at hz
         | zero =>
          simp at hz
          subst hz
          exact ⟨q0,rfl,leafF (hokg 0 k' q0 rfl rfl) (hrr _ q hq 0 q0 (by rw [hql]; rfl))⟩
       | [],hlen,_,_ =>
        have:=(hE.ti e).one ha hk
        rw [hl'] at this; simp at this
       | _::_::_,hlen,_,_ =>
        have:=(hE.ti e).one ha hk
        rw [hl'] at this; simp at this
     refine .ref _ 0 b (o+i.toNat*(E.ti e).size) (f i.toNat) (fun j z hz=>?_) (fun j z hz=>?_)
     ·obtain ⟨z0,h1,_⟩:=hcells j z hz
      exact hcell _ q hq j z0 h1
     ·obtain ⟨z0,_,h2⟩:=hcells j z hz
      exact h2
   ·rw [decide_eq_false h0] at hr; simp at hr
  ·rename_i j
   split at h
   case h_2=>cases h
   rename_i s l fz cap ho
   cases hc:(s == (E.ti e).size) with
   | false=>rw [hc] at h; simp at h
   | true =>
   rw [hc] at h
   simp only [cond_true] at h
   rw [beq_iff_eq] at hc
   subst hc
   obtain ⟨hg,h⟩:=zc h
   have hg:=of_decide_eq_true hg
   simp only [oJ] at h
   subst h
   obtain ⟨a,c,rfl,hb,_⟩:=zx9 hx ho
   obtain ⟨b,o,rfl,hj,hbl⟩:=hb i.toNat (by omega)
   exact Does.same S (run b o l.length c hg) (.rptr j i.toNat 0 b o _ fz l cap hj ho hbl)
  ·rename_i j off len lim
   split at h
   case h_2=>cases h
   rename_i s l fz cap ho
   cases hc:(s == (E.ti e).size) with
   | false=>rw [hc] at h; simp at h
   | true =>
   rw [hc] at h
   simp only [cond_true] at h
   rw [beq_iff_eq] at hc
   subst hc
   obtain ⟨hg,h⟩:=zc h
   have hg:=of_decide_eq_true hg
   simp only [oJ] at h
   subst h
   obtain ⟨a,c,rfl,hb,_⟩:=zsb hx ho
   obtain ⟨b,o,rfl,hj,hbl,_⟩:=hb i.toNat (by omega)
   refine Does.same S (run b _ len c hg) ?_
   have:=VR.rptr (w:=w) (W:=WT Wx bl objs) j (off+i.toNat) 0 b o _ fz l cap hj ho hbl
   rw [Nat.add_mul,Nat.add_zero,← Nat.add_assoc] at this
   exact this
  ·cases h
 ·rename_i n e k i hd
  have hi:=hi.frozen_leaf trivial
  cases hi
  have hu:E.P.underlying t=some (.array n e):=und hE hd
  cases hk:(E.ti e).d.known with
  | false=>rw [hk] at h; simp at h
  | true =>
  rw [hk] at h
  simp only [Bool.not_true,cond_false] at h
  split at h
  case h_2=>cases h
  rename_i j
  split at h
  case h_2=>cases h
  rename_i s l fz cap ho
  cases hc:(s == (E.ti e).size) with
  | false=>rw [hc] at h; simp at h
  | true =>
  rw [hc] at h
  simp only [cond_true] at h
  rw [beq_iff_eq] at hc
  subst hc
  obtain ⟨hg,h⟩:=zc h
  have hg:=of_decide_eq_true hg
  simp only [oJ] at h
  subst h
  obtain ⟨b,o,hj,hbl,rfl⟩:=z143 hx (by rw [ho]; simp)
  refine Does.same S (v:=.pointer (some ⟨b,o+i.toNat*(E.ti e).size+0,none⟩)) ?_ (.rptr j i.toNat 0 b o _ fz l cap hj ho hbl)
  simp [Instr.indexAt,Instr.sureAddr,asIntOf,run_underlying hu,hg,z7l hE w hk,zl7]
theorem z1gi (S:Sim w0 Wx w bl objs) (t:Nat) {x ix p:PV} {vx vi:Value} (hx:VR w (WT Wx bl objs) bl objs x vx) (hi:VR w (WT Wx bl objs) bl objs ix vi)
  (h:z17y E t x ix some=some p):Does E w0 Wx w bl objs (Instr.index t vx vi) p objs:=by
 unfold z17y at h
 split at h
 case h_3=>cases h
 ·rename_i s k i hd
  have hi:=hi.frozen_leaf trivial
  cases hi
  have hx:=hx.frozen_leaf trivial
  cases hx
  have hu:E.P.underlying t=some .string:=und hE hd
  cases hs:atS s i with
  | none=>rw [hs] at h; cases h
  | some c =>
  rw [hs] at h
  simp only [oB,oJ] at h
  subst h
  unfold atS at hs
  by_cases h0:0≤i
  ·rw [decide_eq_true h0] at hs
   simp only [cond_true] at hs
   cases hb:s[i.toNat]? with
   | none=>rw [hb] at hs; cases hs
   | some b =>
    rw [hb] at hs
    simp only [Option.map_some,oJ] at hs
    subst hs
    have hlt:i.toNat<s.length:=(List.getElem?_eq_some_iff.1 hb).1
    have hget:(⟨s.toArray⟩:ByteArray)[i.toNat]?=some b:=by
     rw [ByteArray.getElem?_lt' _ _ (by simpa [ByteArray.size] using hlt)]
     congr 1
     have:s[i.toNat]=b:=(List.getElem?_eq_some_iff.1 hb).2
     rw [← this]
     rfl
    refine Does.same S (v:=.int .u8 b.toNat) ?_ (.fz _ _ (.int _ _))
    simp [Instr.index,asIntOf,run_underlying hu,h0,hget]
  ·rw [decide_eq_false h0] at hs; simp at hs
 ·rename_i n e cs k i hd
  have hi:=hi.frozen_leaf trivial
  cases hi
  have hu:E.P.underlying t=some (.array n e):=und hE hd
  cases hk:(!(E.ti e).d.known||(E.ti e).isAgg||!allB z1ac (E.ti e).leaves) with
  | true=>rw [hk] at h; simp at h
  | false =>
  rw [hk] at h
  simp only [cond_false] at h
  simp only [Bool.or_eq_false_iff,Bool.not_eq_false'] at hk
  obtain ⟨⟨hkn,hag⟩,hno⟩:=hk
  obtain ⟨hg,h⟩:=zc h
  have hg:=of_decide_eq_true hg
  cases hr:rdC (E.ti e) cs i.toNat with
  | none=>rw [hr] at h; cases h
  | some q =>
  rw [hr] at h
  simp only [oB,oJ] at h
  subst h
  obtain ⟨hq,hok⟩:cs[i.toNat]?=some q∧z21 (E.ti e).leaves [q]=true:=by
   unfold rdC at hr
   cases hc:cs[i.toNat]? with
   | none=>rw [hc] at hr; cases hr
   | some v =>
    rw [hc] at hr
    simp only at hr
    cases hv:z21 (E.ti e).leaves [v] with
    | false=>rw [hv] at hr; cases hr
    | true=>rw [hv] at hr; simp only [cond_true,oJ] at hr; subst hr; exact ⟨rfl,hv⟩
  obtain ⟨vs,rfl,hl,hel⟩:∃ vs:Array Value,vx=.agg vs∧cs.length=vs.size∧∀ (j:Nat) (q:PV),cs[j]?=some q→VR w (WT Wx bl objs) bl objs q (vs.getD j undef):=by
   cases hx with
   | fz _ _ h=>cases h with | agg _ vs h1 h2=>exact ⟨vs,rfl,h1,fun j q hq=>.fz _ _ (h2 j q hq)⟩
   | agg _ vs h1 h2=>exact ⟨vs,rfl,h1,h2⟩
   | dead _ _ _ _ hr=>simp [refOf] at hr
  have hone:=(hE.ti e).one hag hkn
  have hlt:i.toNat<vs.size:=by rw [← hl]; exact z3j hq
  have h1:=hel _ q hq
  have h3:vs.getD i.toNat undef=vs[i.toNat]:=by simp [Array.getD_eq_getD_getElem?,hlt]
  rw [h3] at h1
  refine Does.same S (v:=vs[i.toNat]) ?_ ?_
  ·simp [Instr.index,asIntOf,run_underlying hu,hg,part,z19v hE w hkn,hag,z7l hE w hkn,hone.1,hlt]
  ·unfold z6l
   rw [hag]
   simp only
   match hl':(E.ti e).leaves,hone.2,hno with
   | [k'],_,hno =>
    rw [hl'] at hok
    simp only [allB,Bool.and_true] at hno
    simp only [z21,Bool.and_true] at hok
    have hleaf:leafP q:=by cases k' <;> cases q <;> simp [zel,z1ac] at hok hno <;> trivial
    exact .fz _ _ (leafF hok (h1.frozen_leaf hleaf))
end
end Dv

namespace Dv
open Go Go.RowKit
section
variable {E:Env} (hE:EnvOk E) {w0 w:World} {Wx:Nat→Nat→Prop} {bl:zh} {objs:List Obj}
theorem VR.tuple1 {W:Nat→Nat→Prop} {p:PV} {v:Value} (h:VR w W bl objs p v) (b:Bool):VR w W bl objs (.tuple [p,.bool b]) (.tuple #[v,.bool b]):=by
 refine .tuple _ _ rfl (fun j q hq=>?_)
 match j with
 | 0=>simp at hq; subst hq; exact h
 | 1=>simp at hq; subst hq; exact .fz _ _ (.bool _)
 | j+2=>simp at hq
theorem z1in (S:Sim w0 Wx w bl objs) (mx:Bool) (argTypes:Array TypeId) (ty:TypeId) {ps:List PV} {vs:List Value} {p:PV} (hl:ps.length=vs.length) (hr:∀ (j:Nat) (q:PV),ps[j]?=some q→VR w (WT Wx bl objs) bl objs q (vs.getD j undef))
  (h:mmK mx ps some=some p):Does E w0 Wx w bl objs (if mx then Builtin.max_ argTypes ty vs.toArray else Builtin.min_ argTypes ty vs.toArray) p objs:=by
 have get:∀ (j:Nat) (k:IntKind) (a:Int),ps[j]?=some (.int k a)→vs[j]?=some (.int k a):=by
  intro j k a hj
  have h1:=(hr j _ hj).frozen_leaf trivial
  have hlt:j<vs.length:=by rw [← hl]; exact z3j hj
  rw [List.getD_eq_getElem?_getD,List.getElem?_eq_getElem hlt] at h1
  rw [List.getElem?_eq_getElem hlt]
  simp only [Option.getD_some] at h1
  generalize vs[j]=v at h1
  cases h1
  rfl
 unfold mmK at h
 split at h
 ·rename_i kd a kd' b
  cases hk:ikEq kd kd' with
  | false=>rw [hk] at h; simp at h
  | true =>
  rw [hk] at h
  obtain rfl:=zfr hk
  simp only [cond_true,oJ] at h
  subst h
  have e0:=get 0 _ _ rfl
  have e1:=get 1 _ _ rfl
  match vs,hl,e0,e1 with
  | [v0,v1],_,e0,e1 =>
   simp at e0 e1
   subst e0; subst e1
   cases mx
   ·refine Does.same S (v:=.int kd (minI a b)) ?_ (.fz _ _ (.int _ _))
    by_cases hb:b<a <;> simp [Builtin.min_,Builtin.min2,minI,hb]
   ·refine Does.same S (v:=.int kd (maxI a b)) ?_ (.fz _ _ (.int _ _))
    by_cases hb:b>a <;> simp [Builtin.max_,Builtin.max2,maxI,hb]
 ·rename_i kd a kd' b kd'' c
  cases hk:(ikEq kd kd'&&ikEq kd kd'') with
  | false=>rw [hk] at h; simp at h
  | true =>
  rw [hk] at h
  simp only [Bool.and_eq_true] at hk
  obtain rfl:=zfr hk.1
  obtain rfl:=zfr hk.2
  simp only [cond_true,oJ] at h
  subst h
  have e0:=get 0 _ _ rfl
  have e1:=get 1 _ _ rfl
  have e2:=get 2 _ _ rfl
  match vs,hl,e0,e1,e2 with
  | [v0,v1,v2],_,e0,e1,e2 =>
   simp at e0 e1 e2
   subst e0; subst e1; subst e2
   cases mx
   ·refine Does.same S (v:=.int kd (minI (minI a b) c)) ?_ (.fz _ _ (.int _ _))
    by_cases hb:b<a <;> by_cases hc:c<b <;> by_cases hd:c<a <;> simp [Builtin.min_,Builtin.min2,minI,hb,hc,hd]
   ·refine Does.same S (v:=.int kd (maxI (maxI a b) c)) ?_ (.fz _ _ (.int _ _))
    by_cases hb:b>a <;> by_cases hc:c>b <;> by_cases hd:c>a <;> simp [Builtin.max_,Builtin.max2,maxI,hb,hc,hd]
 ·cases h
theorem range_new (S:Sim w0 Wx w bl objs) (s:List UInt8) :
  Sim w0 Wx (w.iter ⟨s.toArray⟩ 0) (bl++[some (w.heap.size,0)]) (objs++[.iter s 0]) ∧
  Ext w (WT Wx bl objs) bl objs (w.iter ⟨s.toArray⟩ 0) (WT Wx (bl++[some (w.heap.size,0)]) (objs++[.iter s 0])) (bl++[some (w.heap.size,0)]) (objs++[.iter s 0]) ∧
  VR (w.iter ⟨s.toArray⟩ 0) (WT Wx (bl++[some (w.heap.size,0)]) (objs++[.iter s 0])) (bl++[some (w.heap.size,0)]) (objs++[.iter s 0]) (.ptr objs.length 0) (.pointer (some ⟨w.heap.size,0,none⟩)):=by
 have hbl:(bl++[some (w.heap.size,0)])[objs.length]?=some (some (w.heap.size,0)):=by rw [← S.len]; simp
 refine ⟨zl5 S _ _ 0 ?_,zi4 S _ _ 0,?_⟩
 ·unfold ORel
  rw [z11]
  exact ⟨w.heap.size,hbl,new_heap w _⟩
 ·exact .ptr objs.length 0 w.heap.size 0 (by simp) hbl
def oset (w:World) (b:Nat) (o:Go.Obj):World:={ w with heap:=w.heap.setIfInBounds b o }
theorem iter_step (S:Sim w0 Wx w bl objs) {i:Nat} {s:List UInt8} {pos:Nat} (hi:i<objs.length) (ho:nthD .dead objs i=.iter s pos) {b o:Nat} (hb:bl[i]?=some (some (b,o))) (pos':Nat) :
  w.heap[b]?=some (.stringIter ⟨s.toArray⟩ pos)∧Sim w0 Wx (oset w b (.stringIter ⟨s.toArray⟩ pos')) bl (setN objs i (.iter s pos')) ∧
  Ext w (WT Wx bl objs) bl objs (oset w b (.stringIter ⟨s.toArray⟩ pos')) (WT Wx bl (setN objs i (.iter s pos'))) bl (setN objs i (.iter s pos')):=by
 have hO:=S.obj i hi
 unfold ORel at hO
 rw [ho] at hO
 obtain ⟨b',hb',hheap⟩:=hO
 rw [hb] at hb'
 simp at hb'
 obtain ⟨rfl,rfl⟩:=hb'
 have hlt:b<w.heap.size:=(S.own i b 0 hb).2
 have hne:∀ b',b≠b'→(oset w b (.stringIter ⟨s.toArray⟩ pos')).heap[b']?=w.heap[b']?:=fun b' h=>by simp [oset,Array.getElem?_setIfInBounds_ne h]
 have hself:(oset w b (.stringIter ⟨s.toArray⟩ pos')).heap[b]?=some (.stringIter ⟨s.toArray⟩ pos'):=by simp [oset,Array.getElem?_setIfInBounds,hlt]
 have hal:alive objs i:=by unfold alive; rw [ho]; trivial
 have H:Ext w (WT Wx bl objs) bl objs (oset w b (.stringIter ⟨s.toArray⟩ pos')) (WT Wx bl (setN objs i (.iter s pos'))) bl (setN objs i (.iter s pos')):=by
  refine ⟨⟨fun b' x v hv hnw=>⟨?_,fun h=>hnw (h.imp id (z15r hi (fun _ _ _ _ _=>by rw [ho]; trivial) b' x))⟩,
   fun b' es c hv hnw=>⟨?_,fun h=>hnw (h.imp id (z15r hi (fun _ _ _ _ _=>by rw [ho]; trivial) b' 0))⟩⟩,by simp,fun j hj=>.inr ⟨rfl,?_⟩,?_⟩
  rotate_left
  ·by_cases hbb:b=b'
   ·subst hbb; rw [hheap] at hv; cases hv
   ·rw [hne b' hbb]; exact hv
  rotate_left 2
  ·by_cases hbb:b=b'
   ·subst hbb
    exfalso
    unfold World.cell? at hv
    simp only [hheap] at hv
    cases hv
   ·unfold World.cell? at hv ⊢
    simp only at hv ⊢
    rw [hne b' hbb]; exact hv
  ·by_cases hij:i=j
   ·subst hij; rw [z8 _ _ _ _ hi,ho]; trivial
   ·rw [zd _ _ _ _ _ hij]; exact z4u.refl _
  ·rintro b' n ⟨cs,e,fr,hh,hn⟩
   by_cases hbb:b=b'
   ·subst hbb; rw [hheap] at hh; cases hh
   ·exact ⟨cs,e,fr,(hne b' hbb).trans hh,hn⟩
 refine ⟨hheap,⟨?_,by simp [S.len],?_,?_,?_,S.wx⟩,H⟩
 ·exact S.below.trans ⟨rfl,rfl,rfl,by simp [oset],fun k hk=>hne k (by have:=(S.own i b 0 hb).1; omega)⟩
 ·intro j b' x hj
  have:=S.own j b' x hj
  exact ⟨this.1,by simpa [oset] using this.2⟩
 ·intro j k b' x y hj hk aj ak
  have key:∀ j,alive (setN objs i (.iter s pos')) j→alive objs j:=by
   intro j h
   by_cases hij:i=j
   ·subst hij; exact hal
   ·unfold alive at h ⊢; rwa [zd _ _ _ _ _ hij] at h
  exact S.inj j k b' x y hj hk (key j aj) (key k ak)
 ·intro j hj
  by_cases hij:i=j
  ·subst hij
   unfold ORel
   rw [z8 _ _ _ _ hi]
   exact ⟨b,hb,hself⟩
  ·have hsame:nthD .dead (setN objs i (.iter s pos')) j=nthD .dead objs j:=zd _ _ _ _ _ hij
   by_cases haj:alive objs j
   ·refine (S.obj j (by simpa using hj)).keep H (by rw [hsame]; exact sameO.refl _) rfl (fun b' x hb'=>hne b' (fun hbb=>?_))
    subst hbb
    exact hij (S.inj i j b 0 x hb hb' hal haj)
   ·exact ORel.of_dead (by rw [hsame]; exact zvx haj)
theorem z1l2 (S:Sim w0 Wx w bl objs) {x p:PV} {vx:Value} {objs':List Obj} (ty:TypeId) (hx:VR w (WT Wx bl objs) bl objs x vx) (h:nextK objs x (fun v o=>some (v,o))=some (p,objs')) :
  Does E w0 Wx w bl objs (Instr.next vx true ty) p objs':=by
 unfold nextK at h
 split at h
 case h_2=>cases h
 rename_i i
 split at h
 case h_2=>cases h
 rename_i s pos ho
 obtain ⟨b,o,hi,hb,rfl⟩:=z143 hx (by rw [ho]; simp)
 obtain ⟨hheap,hS,hX⟩:=iter_step S hi ho hb (pos+(decR s pos).2)
 have ho0:o=0:=by
  have hO:=S.obj i hi
  unfold ORel at hO
  rw [ho] at hO
  obtain ⟨b',hb',_⟩:=hO
  rw [hb] at hb'
  simp at hb'
  exact hb'.2
 subst ho0
 have hsz:(⟨s.toArray⟩:ByteArray).size=s.length:=by simp [ByteArray.size]
 by_cases hp:pos<s.length
 ·rw [decide_eq_true hp] at h
  simp only [cond_true,oJ,pJ] at h
  obtain ⟨rfl,rfl⟩:=h
  refine ⟨.tuple #[.bool true,goInt pos,.int .i32 (decR s pos).1],_,bl,?_,hS,hX,.tuple _ _ rfl (fun j q hq=>?_)⟩
  ·simp only [Instr.next,getObj,setObj,Sem.run_bind,Sem.run,hheap,Result.andThen,hsz,hp,if_true,Nat.add_zero]
   simp [Sem.run,hheap,oset,decR]
  ·match j with
   | 0=>simp at hq; subst hq; exact .fz _ _ (.bool _)
   | 1=>simp at hq; subst hq; exact .fz _ _ (.int _ _)
   | 2=>simp at hq; subst hq; exact .fz _ _ (.int _ _)
   | j+3=>simp at hq
 ·rw [decide_eq_false hp] at h
  simp only [cond_false,oJ,pJ] at h
  obtain ⟨rfl,rfl⟩:=h
  refine Does.same S (v:=.tuple #[.bool false]) ?_ (.tuple _ _ rfl (fun j q hq=>?_))
  ·simp [Instr.next,getObj,Sem.run,hheap,hsz,hp]
  ·match j with
   | 0=>simp at hq; subst hq; exact .fz _ _ (.bool _)
   | j+1=>simp at hq
include hE
theorem z1g4 (S:Sim w0 Wx w bl objs) (t:Nat) (hd:(E.ti t).d=.str) {s:List UInt8} {vx:Value} (hx:VR w (WT Wx bl objs) bl objs (.str s) vx) :
  Does E w0 Wx w bl objs (Instr.range t vx) (.ptr objs.length 0) (objs++[.iter s 0]):=by
 have:=hx.frozen_leaf trivial
 cases this
 obtain ⟨h1,h2,h3⟩:=range_new S s
 exact ⟨_,_,_,run_range_string w t ⟨s.toArray⟩ (und hE hd),h1,h2,h3⟩
theorem len_sound (S:Sim w0 Wx w bl objs) (t ty:Nat) (r:Array TypeId) (hr:r[0]?=some t) {x p:PV} {vx:Value} (hx:VR w (WT Wx bl objs) bl objs x vx) (h:lenK E t objs x some=some p) :
  Does E w0 Wx w bl objs (Builtin.len_ r ty #[vx]) p objs:=by
 unfold lenK at h
 cases hd:(E.ti t).d <;> rw [hd] at h <;> first | (cases h; done) | skip
 case arr n e =>
  simp only [oJ] at h
  subst h
  have hu:E.P.underlying t=some (.array n e):=und hE hd
  exact Does.same S (v:=goInt n) (by simp [Builtin.len_,hr,run_underlying hu]) (.fz _ _ (.int _ _))
 case ptr e =>
  simp only at h
  cases hd2:(E.ti e).d <;> rw [hd2] at h <;> first | (cases h; done) | skip
  rename_i n e2
  simp only [oJ] at h
  subst h
  have hu:E.P.underlying t=some (.pointer e):=und hE hd
  have hu2:E.P.underlying e=some (.array n e2):=und hE hd2
  exact Does.same S (v:=goInt n) (by simp [Builtin.len_,hr,run_underlying hu,run_underlying hu2]) (.fz _ _ (.int _ _))
 case str =>
  simp only at h
  split at h
  case h_2=>cases h
  simp only [oJ] at h
  subst h
  have:=hx.frozen_leaf trivial
  cases this
  have hu:E.P.underlying t=some .string:=und hE hd
  rename_i s
  have hsz:(⟨s.toArray⟩:ByteArray).size=s.length:=by simp [ByteArray.size]
  exact Does.same S (v:=goInt s.length) (by simp [Builtin.len_,hr,run_underlying hu,hsz]) (.fz _ _ (.int _ _))
 case map kt et =>
  have hu:E.P.underlying t=some (.map kt et):=und hE hd
  have none_:VRf w (WT Wx bl objs) .nilm vx→p=.int .i64 0→Does E w0 Wx w bl objs (Builtin.len_ r ty #[vx]) p objs:=by
   intro hv hp
   cases hv
   subst hp
   exact Does.same S (v:=goInt 0) (by simp [Builtin.len_,hr,run_underlying hu]) (.fz _ _ (.int _ _))
  have some_:∀ (b:Nat) (es:List MapEntry) (clock:Nat) (ks:List PV),vx=.map (some b)→w.heap[b]?=some (.map es.toArray clock)→ks.length=es.length→p=.int .i64 ks.length →
    Does E w0 Wx w bl objs (Builtin.len_ r ty #[vx]) p objs:=by
   rintro b es clock ks rfl hh hl rfl
   refine Does.same S (v:=goInt es.length) ?_ (by rw [hl]; exact .fz _ _ (.int _ _))
   simp [Builtin.len_,hr,run_underlying hu,getObj,Sem.run,hh]
  have mp:∀ ks vs,VRf w (WT Wx bl objs) (.mp ks vs) vx→p=.int .i64 ks.length→Does E w0 Wx w bl objs (Builtin.len_ r ty #[vx]) p objs:=by
   intro ks vs hv hp
   cases hv with
   | mp _ _ b es clock hh hw hk1 hv1 hx1 hy1=>exact some_ b es clock ks rfl hh hk1 hp
  simp only at h
  split at h
  ·simp only [oJ] at h; exact none_ (hx.frozen_leaf trivial) h.symm
  ·simp only [oJ] at h; exact mp _ _ (hx.frozen_leaf trivial) h.symm
  ·rename_i v
   have hv:VRf w (WT Wx bl objs) v vx:=by
    cases hx with
    | fz _ _ h=>cases h with | opq0 _ _ _ h=>exact h
    | opq0 _ _ _ h=>exact h
    | opq _ b o _ _ h=>exact h
    | dead _ _ _ _ hr=>simp [refOf] at hr
   cases v <;> simp only [mapOf,reduceCtorEq,oB,Option.bind_none,oJ] at h
   ·exact none_ hv h.symm
   ·exact mp _ _ hv h.symm
  ·split at h
   case h_2=>cases h
   rename_i i ks vs im fz ho
   simp only [oJ] at h
   cases hx with
   | fz _ _ h=>cases h
   | dead p v k _ hr _ hdd=>simp only [refOf,oJ] at hr; subst hr; rw [ho] at hdd; cases hdd
   | mapr _ b hi hb =>
    have hO:=S.obj _ hi
    unfold ORel at hO
    rw [ho] at hO
    obtain ⟨b',es,clock,hb',hh,hl,_⟩:=hO
    rw [hb] at hb'
    simp at hb'
    subst hb'
    exact some_ b es clock ks rfl hh hl h.symm
  ·cases h
 case slice e =>
  have hu:E.P.underlying t=some (.slice e):=und hE hd
  have fin:∀ a n c,vx=.slice a n c→p=.int .i64 (n:Nat)→Does E w0 Wx w bl objs (Builtin.len_ r ty #[vx]) p objs:=by
   rintro a n c rfl rfl
   exact Does.same S (v:=goInt n) (by simp [Builtin.len_,hr,run_underlying hu]) (.fz _ _ (.int _ _))
  simp only at h
  split at h
  ·simp only [oJ] at h
   cases hx with
   | fz _ _ h=>cases h
   | sl0=>exact fin none 0 0 rfl h.symm
   | dead _ _ _ _ hr=>simp [refOf] at hr
  ·simp only [oJ] at h
   cases hx with
   | fz _ _ h=>cases h
   | se a=>exact fin a 0 0 rfl h.symm
   | dead _ _ _ _ hr=>simp [refOf] at hr
  ·simp only [oJ] at h
   have hx:=hx.frozen_leaf trivial
   obtain ⟨a,c,rfl,_⟩:=hx.slice_len
   exact fin _ _ _ rfl h.symm
  ·split at h
   case h_2=>cases h
   rename_i ho
   simp only [oJ] at h
   obtain ⟨a,c,rfl,_⟩:=zx9 hx ho
   exact fin _ _ _ rfl h.symm
  ·split at h
   case h_2=>cases h
   rename_i ho
   simp only [oJ] at h
   obtain ⟨a,c,rfl,_⟩:=zsb hx ho
   exact fin _ _ _ rfl h.symm
  ·cases h
theorem z1lo (S:Sim w0 Wx w bl objs) (ty:Nat) (r:Array TypeId) {t e:Nat} (hr:r[0]?=some t) (hd:(E.ti t).d=.slice e) (hkn:(E.ti e).d.known=true) {d x p:PV} {vd vx:Value}
  (hv:VR w (WT Wx bl objs) bl objs d vd) (hx:VR w (WT Wx bl objs) bl objs x vx) (h:copyK objs d x some=some p):Does E w0 Wx w bl objs (Builtin.copy_ r ty #[vd,vx]) p objs:=by
 unfold copyK at h
 split at h
 case h_2=>cases h
 rename_i i
 split at h
 case h_2=>cases h
 rename_i ho
 simp only [oJ] at h
 subst h
 have hu:E.P.underlying t=some (.slice e):=und hE hd
 obtain ⟨a,c,rfl,_⟩:=zx9 hv ho
 have hxe:vx=.slice none 0 0:=by
  cases hx with
  | fz _ _ h=>cases h
  | sl0=>rfl
  | dead _ _ _ _ hr=>simp [refOf] at hr
 subst hxe
 refine Does.same S (v:=goInt 0) ?_ (.fz _ _ (.int _ _))
 unfold Builtin.copy_
 simp only [hr,List.getElem?_toArray,List.getElem?_cons_zero,List.getElem?_cons_succ,Sem.run_bind,run_underlying hu,Result.andThen_ok,Builtin.lenOf,Sem.run_pure,Nat.zero_min,Nat.min_def,z7l hE w hkn,Builtin.firstCells]
 cases a <;> simp [storeCells]
theorem cap_sound (S:Sim w0 Wx w bl objs) (t ty:Nat) (r:Array TypeId) (hr:r[0]?=some t) {x p:PV} {vx:Value} (hx:VR w (WT Wx bl objs) bl objs x vx) (h:capK E t objs x some=some p) :
  Does E w0 Wx w bl objs (Builtin.cap_ r ty #[vx]) p objs:=by
 unfold capK at h
 cases hd:(E.ti t).d <;> rw [hd] at h <;> first | (cases h; done) | skip
 rename_i e
 have hu:E.P.underlying t=some (.slice e):=und hE hd
 have fin:∀ a n c,vx=.slice a n c→p=.int .i64 (c:Nat)→Does E w0 Wx w bl objs (Builtin.cap_ r ty #[vx]) p objs:=by
  rintro a n c rfl rfl
  exact Does.same S (v:=goInt c) (by simp [Builtin.cap_,hr,run_underlying hu]) (.fz _ _ (.int _ _))
 simp only at h
 split at h
 ·simp only [oJ] at h
  cases hx with
  | fz _ _ h=>cases h
  | sl0=>exact fin none 0 0 rfl h.symm
  | dead _ _ _ _ hr=>simp [refOf] at hr
 ·simp only [oJ] at h
  cases hx with
  | fz _ _ h=>cases h
  | se a=>exact fin a 0 0 rfl h.symm
  | dead _ _ _ _ hr=>simp [refOf] at hr
 ·split at h
  case h_2=>cases h
  rename_i m ho
  simp only [oJ] at h
  obtain ⟨a,c,rfl,_,hm⟩:=zx9 hx ho
  exact fin _ _ _ rfl (by rw [hm m rfl]; exact h.symm)
 ·split at h
  case h_2=>cases h
  rename_i m _ _ _ _ _ _ ho
  simp only [oJ] at h
  obtain ⟨a,c,rfl,_,hm,_⟩:=zsb hx ho
  exact fin _ _ _ rfl (by rw [hm m rfl]; exact h.symm)
 ·split at h
  case h_2=>cases h
  rename_i m ho
  simp only [oJ] at h
  obtain ⟨a,c,rfl,_,_,hm⟩:=zsb hx ho
  have:=hm rfl m rfl
  exact fin _ _ _ rfl (by rw [← h]; congr 2; omega)
 ·cases h
theorem zero_does {t:Nat} (hd:(E.ti t).d.known=true) (W:Nat→Nat→Prop):∃ z,(zeroValue t).run E.P w=.ok z w∧VR w W bl objs (E.ti t).zero z:=by
 obtain ⟨v,h1,h2⟩:=zx7 hE w hd
 exact ⟨v,h1,(zla w W bl objs 1000).1 _ _ h2⟩
theorem z1ep (S:Sim w0 Wx w bl objs) (xt at_:Nat) (ok:Bool) {x p:PV} {vx:Value} (hx:VR w (WT Wx bl objs) bl objs x vx) (h:zzz E x at_ ok some=some p) :
  Does E w0 Wx w bl objs (Instr.typeAssert vx xt at_ ok) p objs:=by
 unfold zzz at h
 split at h
 ·cases h
 rename_i hni
 cases hk:(E.ti at_).d.known with
 | false=>rw [hk] at h; simp at h
 | true =>
 rw [hk] at h
 simp only [Bool.not_true,cond_false] at h
 obtain ⟨du,hu⟩:=z1h9 hE hk
 have hdu:∀ ms,du≠.interface ms:=by
  rintro ms rfl
  have hd:=(hE.ti at_).desc
  cases hdd:(E.ti at_).d <;> rw [hdd] at hd hk <;> first
   | exact hni _ hdd
   | (simp [TD.known] at hk; done)
   | (rw [hu] at hd; cases hd; done)
   | (obtain ⟨f,hd,_⟩:=hd; rw [hu] at hd; cases hd; done)
   | (obtain ⟨a,b,c,hd⟩:=hd; rw [hu] at hd; cases hd; done)
 obtain ⟨z,hz,hzr⟩:=zero_does hE (w:=w) (bl:=bl) (objs:=objs) hk (WT Wx bl objs)
 have isNil:vx=.nilIface→(bif ok then some (PV.tuple [(E.ti at_).zero,.bool false]) else none)=some p→Does E w0 Wx w bl objs (Instr.typeAssert vx xt at_ ok) p objs:=by
  rintro rfl h
  cases ok with
  | false=>simp at h
  | true =>
   simp only [cond_true,oJ] at h
   subst h
   refine Does.same S (v:=.tuple #[z,.bool false]) ?_ (hzr.tuple1 false)
   unfold Instr.typeAssert
   simp only [Sem.run_bind,run_underlying hu,Result.andThen_ok]
   cases du <;> first | exact absurd rfl (hdu _) | simp [hz]
 have other:∀ t v,vx=.iface t v→t≠at_→(bif ok then some (PV.tuple [(E.ti at_).zero,.bool false]) else none)=some p→Does E w0 Wx w bl objs (Instr.typeAssert vx xt at_ ok) p objs:=by
  rintro t v rfl hne h
  cases ok with
  | false=>simp at h
  | true =>
   simp only [cond_true,oJ] at h
   subst h
   refine Does.same S (v:=.tuple #[z,.bool false]) ?_ (hzr.tuple1 false)
   unfold Instr.typeAssert
   simp only [Sem.run_bind,run_underlying hu,Result.andThen_ok]
   cases du <;> first | exact absurd rfl (hdu _) | simp [hz,hne]
 have holds:∀ q v,vx=.iface at_ v→VR w (WT Wx bl objs) bl objs q v→p=(bif ok then .tuple [q,.bool true] else q)→Does E w0 Wx w bl objs (Instr.typeAssert vx xt at_ ok) p objs:=by
  rintro q v rfl hq rfl
  cases ok with
  | false =>
   refine Does.same S (v:=v) ?_ hq
   unfold Instr.typeAssert
   simp only [Sem.run_bind,run_underlying hu,Result.andThen_ok]
   cases du <;> first | exact absurd rfl (hdu _) | simp
  | true =>
   refine Does.same S (v:=.tuple #[v,.bool true]) ?_ (hq.tuple1 true)
   unfold Instr.typeAssert
   simp only [Sem.run_bind,run_underlying hu,Result.andThen_ok]
   cases du <;> first | exact absurd rfl (hdu _) | simp
 split at h
 ·rename_i t q
  obtain ⟨v,rfl,hq⟩:∃ v,vx=.iface t v∧VR w (WT Wx bl objs) bl objs q v:=by
   cases hx with
   | fz _ _ h=>cases h with | iface _ _ v h=>exact ⟨v,rfl,.fz _ _ h⟩
   | iface _ _ v h=>exact ⟨v,rfl,h⟩
   | dead _ _ _ _ hr=>simp [refOf] at hr
  by_cases ht:t=at_
  ·subst ht
   simp only [beq_self_eq_true,cond_true,oJ] at h
   exact holds q v rfl hq h.symm
  ·have:(t == at_)=false:=by simpa using ht
   rw [this] at h
   simp only [cond_false] at h
   exact other t v rfl ht h
 ·have hx:=hx.frozen_leaf trivial
  cases hx
  exact isNil rfl h
 ·rename_i q
  have hx:VRf w (WT Wx bl objs) q vx:=by
   cases hx with
   | fz _ _ h=>cases h with | opq0 _ _ _ h=>exact h
   | opq0 _ _ _ h=>exact h
   | opq _ b o _ _ h=>exact h
   | dead _ _ _ _ hr=>simp [refOf] at hr
  cases ha:asT (E.ti at_) at_ q with
  | none=>rw [ha] at h; cases h
  | some r =>
  rw [ha] at h
  simp only [oB] at h
  unfold asT at ha
  split at ha
  ·simp only [oJ] at ha
   subst ha
   cases hx
   exact isNil rfl h
  ·rename_i u y _
   cases hx with
   | iface _ _ v hv =>
   by_cases hu':u=at_
   ·subst hu'
    simp only [beq_self_eq_true,cond_true] at ha
    cases hty:hasTy (E.ti u) y with
    | false=>rw [hty] at ha; simp at ha
    | true =>
    rw [hty] at ha
    simp only [cond_true,oJ] at ha
    subst ha
    simp only [z52,oJ] at h
    exact holds _ v rfl (.fz _ _ (z17j hty hv)) h.symm
   ·have:(u == at_)=false:=by simpa using hu'
    rw [this] at ha
    simp only [cond_false,oJ] at ha
    subst ha
    exact other u v rfl hu' h
  ·cases ha
 ·cases h
end
end Dv

namespace Dv
open Go Go.RowKit
section
variable {E:Env} (hE:EnvOk E) {w0 w:World} {Wx:Nat→Nat→Prop} {bl:zh} {objs:List Obj}
theorem guard_int (op:BinOp) (t:TypeId) (x y:Operand) (k k':IntKind) (a b:Int):(eqGuard op t x y (.int k a) (.int k' b)).run E.P w=.ok () w:=by cases op <;> simp [eqGuard]
theorem guard_str (op:BinOp) (t:TypeId) (x y:Operand) (a b:ByteArray):(eqGuard op t x y (.string a) (.string b)).run E.P w=.ok () w:=by cases op <;> simp [eqGuard]
theorem z1lg (op:BinOp) (t:TypeId) (x y:Operand) (a b:Bool):(eqGuard op t x y (.bool a) (.bool b)).run E.P w=.ok () w:=by cases op <;> simp [eqGuard]
def neOf (neg b:Bool):Bool:=bif neg then !b else b
def opOf (neg:Bool):BinOp:=bif neg then .neq else .eql
theorem z1jf (neg:Bool) (t:TypeId) (xo yo:Operand) (vx vy:Value) (b:Bool) (hg:(eqGuard (opOf neg) t xo yo vx vy).run E.P w=.ok () w) (hb:∀ op,op=BinOp.eql→binOp op t vx vy=do pure (.bool (← Op.equal t vx vy)))
  (hb':∀ op,op=BinOp.neq→binOp op t vx vy=do pure (.bool (!(← Op.equal t vx vy)))) (he:(Op.equal t vx vy).run E.P w=.ok b w) :
  (do eqGuard (opOf neg) t xo yo vx vy; binOp (opOf neg) t vx vy:Sem Value).run E.P w=.ok (.bool (neOf neg b)) w:=by
 simp only [Sem.run_bind,hg,Result.andThen_ok]
 cases neg with
 | false =>
  rw [show opOf false=BinOp.eql from rfl,hb _ rfl]
  simp [he,neOf]
 | true =>
  rw [show opOf true=BinOp.neq from rfl,hb' _ rfl]
  simp [he,neOf]
section eqs
variable {P:Program} (d:Nat) {t:TypeId}
theorem eqi_ptr {e:TypeId} (h:P.underlying t=some (.pointer e)) (a:Option Addr):(Op.equalIn (d+1) t (.pointer a) (.pointer none)).run P w=.ok a.isNone w:=by
 cases a <;> simp [Op.equalIn,run_underlying h]
theorem eqi_nili {ms} (h:P.underlying t=some (.interface ms)):(Op.equalIn (d+1) t .nilIface .nilIface).run P w=.ok true w:=by simp [Op.equalIn,run_underlying h]
theorem eqi_iface {ms} (h:P.underlying t=some (.interface ms)) (u:TypeId) (v:Value):(Op.equalIn (d+1) t (.iface u v) .nilIface).run P w=.ok false w:=by simp [Op.equalIn,run_underlying h]
theorem eqi_nilfn {a b c} (h:P.underlying t=some (.func a b c)):(Op.equalIn (d+1) t .nilFunc .nilFunc).run P w=.ok true w:=by simp [Op.equalIn,run_underlying h]
theorem eqi_func {a b c} (h:P.underlying t=some (.func a b c)) (f x y):(Op.equalIn (d+1) t (.func f x y) .nilFunc).run P w=.ok false w:=by simp [Op.equalIn,run_underlying h]
theorem eqi_nilm {k e} (h:P.underlying t=some (.map k e)):(Op.equalIn (d+1) t (.map none) (.map none)).run P w=.ok true w:=by simp [Op.equalIn,run_underlying h]
theorem eqi_slice {e:TypeId} (h:P.underlying t=some (.slice e)) (a:Option Addr) (n c:Nat):(Op.equalIn (d+1) t (.slice a n c) (.slice none 0 0)).run P w=.ok a.isNone w:=by
 cases a <;> simp [Op.equalIn,run_underlying h]
theorem eqi_bool (h:P.underlying t=some .bool) (a b:Bool):(Op.equalIn (d+1) t (.bool a) (.bool b)).run P w=.ok (a == b) w:=by simp [Op.equalIn,run_underlying h]
end eqs
def NilAns:TD→Value→Bool→Prop
 | .ptr _,v,b=>∃ a,v=.pointer a∧b=a.isNone
 | .iface _,v,b=>(v=.nilIface∧b=true)∨∃ u x,v=.iface u x∧b=false
 | .func,v,b=>(v=.nilFunc∧b=true)∨∃ f x y,v=.func f x y∧b=false
 | .map ..,v,b=>v=.map none∧b=true
 | _,_,_=>False
theorem z1ic {W:Nat→Nat→Prop} {d:TD} {x:PV} {vx:Value} {b:Bool} (hx:VR w W bl objs x vx) (h:x.nilR d=some b):NilAns d vx b:=by
 unfold PV.nilR at h
 split at h <;> first | (cases h; done) | skip
 ·simp only [oJ] at h; subst h; have:=hx.frozen_leaf trivial; cases this; exact ⟨_,rfl,rfl⟩
 ·simp only [oJ] at h; subst h; have:=hx.frozen_leaf trivial; cases this; exact .inl ⟨rfl,rfl⟩
 ·simp only [oJ] at h; subst h; have:=hx.frozen_leaf trivial; cases this; exact .inl ⟨rfl,rfl⟩
 ·simp only [oJ] at h; subst h; have:=hx.frozen_leaf trivial; cases this; exact ⟨rfl,rfl⟩
 ·simp only [oJ] at h; subst h; obtain ⟨bb,o,f,rfl,_⟩:=z1a0 hx; exact ⟨_,rfl,rfl⟩
 ·simp only [oJ] at h
  subst h
  cases hx with
  | fz _ _ h=>cases h
  | dead _ _ _ _ _ _ _ hq=>obtain ⟨a,rfl⟩:=hq rfl; exact ⟨_,rfl,rfl⟩
  | ptr _ _ b o _ _=>exact ⟨_,rfl,rfl⟩
 ·simp only [oJ] at h
  subst h
  cases hx with
  | fz _ _ h=>cases h
  | dead _ _ _ _ _ _ _ hq=>obtain ⟨a,rfl⟩:=hq rfl; exact ⟨_,rfl,rfl⟩
  | rptr _ _ _ b o _ _ _ _ _ _ _=>exact ⟨_,rfl,rfl⟩
 ·simp only [oJ] at h
  subst h
  cases hx with
  | fz _ _ h=>cases h; exact .inr ⟨_,_,rfl,rfl⟩
  | iface _ _ v h=>exact .inr ⟨_,_,rfl,rfl⟩
  | dead _ _ _ _ hr=>simp [refOf] at hr
 ·simp only [oJ] at h
  subst h
  cases hx with
  | fz _ _ h=>cases h; exact .inr ⟨_,_,_,rfl,rfl⟩
  | func _ _ _ xs ys=>exact .inr ⟨_,_,_,rfl,rfl⟩
  | yv _ _ _ _=>exact .inr ⟨_,_,_,rfl,rfl⟩
  | dead _ _ _ _ hr=>simp [refOf] at hr
theorem nilOf_ans {W:Nat→Nat→Prop} {d:TD} {x:PV} {vx:Value} {b:Bool} (hx:VR w W bl objs x vx) (h:x.nilOf d=some b):NilAns d vx b:=by
 unfold PV.nilOf at h
 split at h
 ·rename_i v
  have:VRf w W v vx:=by
   cases hx with
   | fz _ _ h=>cases h with | opq0 _ _ _ h=>exact h
   | opq0 _ _ _ h=>exact h
   | opq _ b o _ _ h=>exact h
   | dead _ _ _ _ hr=>simp [refOf] at hr
  exact z1ic (bl:=bl) (objs:=objs) (.fz _ _ this) h
 ·cases h
 ·exact z1ic hx h
include hE
theorem nil_sound (neg:Bool) (t:Nat) (xo yo:Operand) (hyc:∃ c,yo=.const c) {W:Nat→Nat→Prop} {x y:PV} {vx vy:Value} {b:Bool} (hx:VR w W bl objs x vx) (hy:VR w W bl objs y vy) (hf:z1ad (E.ti t).d y=true)
  (hn:x.nilOf (E.ti t).d=some b):(do eqGuard (opOf neg) t xo yo vx vy; binOp (opOf neg) t vx vy:Sem Value).run E.P w=.ok (.bool (neOf neg b)) w:=by
 have ha:=nilOf_ans hx hn
 obtain ⟨c,rfl⟩:=hyc
 have e1:(binOp .eql t vx vy=do pure (.bool (← Op.equal t vx vy)))→(binOp .neq t vx vy=do pure (.bool (!(← Op.equal t vx vy))))→(eqGuard (opOf neg) t xo (.const c) vx vy).run E.P w=.ok () w→(Op.equal t vx vy).run E.P w=.ok b w →
   (do eqGuard (opOf neg) t xo (.const c) vx vy; binOp (opOf neg) t vx vy:Sem Value).run E.P w=.ok (.bool (neOf neg b)) w :=
  fun h1 h2 h3 h4=>z1jf neg t xo _ vx vy b h3 (fun op h=>by rw [h]; exact h1) (fun op h=>by rw [h]; exact h2) h4
 cases hd:(E.ti t).d <;> rw [hd] at ha hf <;> cases y <;> simp only [z1ad,Bool.false_eq_true] at hf
 case ptr.nilp e =>
  have hy:=hy.frozen_leaf trivial
  cases hy
  obtain ⟨a,rfl,rfl⟩:=ha
  refine e1 rfl rfl ?_ (eqi_ptr 9999 (und hE hd) a)
  cases neg <;> simp [eqGuard,opOf]
 case iface.nili m =>
  have hy:=hy.frozen_leaf trivial
  cases hy
  obtain ⟨ms,hu⟩:=und hE hd
  rcases ha with ⟨rfl,rfl⟩ | ⟨u,v,rfl,rfl⟩
  ·refine e1 rfl rfl ?_ (eqi_nili 9999 hu)
   cases neg <;> simp [eqGuard,opOf]
  ·refine e1 rfl rfl ?_ (eqi_iface 9999 hu u v)
   cases neg <;> simp [eqGuard,opOf]
 case func.nilfn =>
  have hy:=hy.frozen_leaf trivial
  cases hy
  obtain ⟨a,bb,cc,hu⟩:=und hE hd
  rcases ha with ⟨rfl,rfl⟩ | ⟨f,x,y,rfl,rfl⟩
  ·refine e1 rfl rfl ?_ (eqi_nilfn 9999 hu)
   cases neg <;> simp [eqGuard,opOf]
  ·refine e1 rfl rfl ?_ (eqi_func 9999 hu f x y)
   cases neg <;> simp [eqGuard,opOf]
 case map.nilm k e =>
  have hy:=hy.frozen_leaf trivial
  cases hy
  obtain ⟨rfl,rfl⟩:=ha
  refine e1 rfl rfl ?_ (eqi_nilm 9999 (und hE hd))
  cases neg <;> simp [eqGuard,opOf]
omit hE in
theorem z155:∀ {ks:List LK} {a b:List PV} {c:Bool},z1n ks a b=some c→a.length=b.length
 | [],[],[],_,_=>rfl
 | [],[],_::_,_,h=>by simp [z1n] at h
 | [],_::_,_,_,h=>by simp [z1n] at h
 | _::_,[],_,_,h=>by simp [z1n] at h
 | _::_,_::_,[],_,h=>by simp [z1n] at h
 | k::ks,x::a,y::b,c,h=>by
  unfold z1n at h
  cases hx:z156 k x y with
  | none=>rw [hx] at h; simp at h
  | some d =>
   cases hr:z1n ks a b with
   | none=>rw [hx,hr] at h; simp at h
   | some e=>simp [z155 hr]
theorem z1je (neg:Bool) (t:Nat) (xo yo:Operand) (yc:Bool) (hyc:yc=true→∃ c,yo=.const c) {x y p:PV} {vx vy:Value} (hx:VR w (WT Wx bl objs) bl objs x vx) (hy:VR w (WT Wx bl objs) bl objs y vy)
  (h:eqK E t neg yc x y some=some p):∃ v,(do eqGuard (opOf neg) t xo yo vx vy; binOp (opOf neg) t vx vy:Sem Value).run E.P w=.ok v w∧VR w (WT Wx bl objs) bl objs p v:=by
 unfold eqK at h
 split at h
 ·rename_i a b
  have hx:=hx.frozen_leaf trivial
  have hy:=hy.frozen_leaf trivial
  cases hx; cases hy
  split at h
  ·rename_i hd
   simp only [oJ] at h
   subst h
   exact ⟨_,z1jf neg t xo yo _ _ (a == b) (z1lg _ _ _ _ _ _) (fun op h=>by rw [h]; rfl) (fun op h=>by rw [h]; rfl) (eqi_bool 9999 (und hE hd) a b),.fz _ _ (.bool _)⟩
  ·cases h
 ·rename_i a b
  cases hm:(memN t E.eqs&&(a.length == z6c E t)) with
  | false=>rw [hm] at h; simp at h
  | true =>
  rw [hm] at h
  simp only [cond_true] at h
  simp only [Bool.and_eq_true,beq_iff_eq] at hm
  cases hc:z1n (E.ti t).leaves a b with
  | none=>rw [hc] at h; cases h
  | some c =>
  rw [hc] at h
  simp only [oJ] at h
  subst h
  have agg:∀ {l:List PV} {v:Value},VR w (WT Wx bl objs) bl objs (.agg l) v→∃ xs,v=.agg xs∧l.length=xs.size∧∀ (j:Nat) (q:PV),l[j]?=some q→zyn q (xs.getD j undef):=by
   intro l v h
   have leaf:∀ q u,VR w (WT Wx bl objs) bl objs q u→zyn q u:=by
    intro q u hq
    cases q <;> first | trivial | (have:=hq.frozen_leaf trivial; cases this; rfl)
   cases h with
   | fz _ _ h=>cases h with | agg _ xs h1 h2=>exact ⟨xs,rfl,h1,fun j q hq=>leaf _ _ (.fz _ _ (h2 j q hq))⟩
   | agg _ xs h1 h2=>exact ⟨xs,rfl,h1,fun j q hq=>leaf _ _ (h2 j q hq)⟩
   | dead _ _ _ _ hr=>simp [refOf] at hr
  obtain ⟨xs,rfl,hl1,hc1⟩:=agg hx
  obtain ⟨ys,rfl,hl2,hc2⟩:=agg hy
  have hlen:=z155 hc
  have hq:=hE.eqs t hm.1
  have hs:a.length=(E.ti t).size:=hm.2
  exact ⟨_,z1jf neg t xo yo _ _ c (run_eqGuard_agg w _ t xo yo xs ys hq.guard) (fun op h=>by rw [h]; rfl) (fun op h=>by rw [h]; rfl) (hq.eql w a b xs ys c hs (by omega) (by omega) hc1 hc2 hc),.fz _ _ (.bool _)⟩
 ·rename_i s l
  cases hm:(yc&&isSlTD (E.ti t).d) with
  | false=>rw [hm] at h; simp at h
  | true =>
  rw [hm] at h
  simp only [cond_true] at h
  simp only [Bool.and_eq_true] at hm
  obtain ⟨hg,h⟩:=zc h
  have hg:=of_decide_eq_true hg
  simp only [oJ] at h
  subst h
  have hy0:vy=.slice none 0 0:=by
   cases hy with
   | fz _ _ h=>cases h
   | sl0=>rfl
   | dead _ _ _ _ hr=>simp [refOf] at hr
  subst hy0
  have hd:∃ e,(E.ti t).d=.slice e:=by
   cases hd:(E.ti t).d <;> rw [hd] at hm <;> simp [isSlTD] at hm
   exact ⟨_,rfl⟩
  obtain ⟨e,hd⟩:=hd
  have hxs:∃ a n c,vx=.slice (some a) n c:=by
   cases hx with
   | fz _ _ h =>
    cases h with
    | slemp=>simp at hg
    | sl _ _ b o cap=>exact ⟨_,_,_,rfl⟩
   | dead _ _ _ _ hr=>simp [refOf] at hr
  obtain ⟨a,n,c,rfl⟩:=hxs
  refine ⟨_,z1jf neg t xo yo _ _ false (by cases neg <;> simp [eqGuard,opOf]) (fun op h=>by rw [h]; rfl) (fun op h=>by rw [h]; rfl) (eqi_slice 9999 (und hE hd) (some a) n c),?_⟩
  have:neOf neg false=neg:=by cases neg <;> rfl
  rw [this]
  exact .fz _ _ (.bool _)
 ·cases hm:(yc&&z1ad (E.ti t).d y) with
  | false=>rw [hm] at h; simp at h
  | true =>
  rw [hm] at h
  simp only [cond_true] at h
  simp only [Bool.and_eq_true] at hm
  cases hn:x.nilOf (E.ti t).d with
  | none=>rw [hn] at h; cases h
  | some b =>
  rw [hn] at h
  simp only [oB,oJ] at h
  subst h
  exact ⟨_,nil_sound hE neg t xo yo (hyc hm.1) hx hy hm.2 hn,.fz _ _ (.bool _)⟩
theorem bin_sound (op:BinOp) (t:Nat) (xo yo:Operand) (yc:Bool) (hyc:yc=true→∃ c,yo=.const c) {x y p:PV} {vx vy:Value} (hx:VR w (WT Wx bl objs) bl objs x vx) (hy:VR w (WT Wx bl objs) bl objs y vy)
  (h:binK E op t yc x y some=some p):∃ v,(do eqGuard op t xo yo vx vy; binOp op t vx vy:Sem Value).run E.P w=.ok v w∧VR w (WT Wx bl objs) bl objs p v:=by
 unfold binK at h
 split at h
 ·rename_i kd a kd' b
  have hx:=hx.frozen_leaf trivial
  have hy:=hy.frozen_leaf trivial
  cases hx; cases hy
  simp only [Sem.run_bind,guard_int,Result.andThen_ok]
  split at h
  ·by_cases hb:b<0
   ·simp [hb] at h
   ·simp only [hb,decide_false,cond_false,oJ] at h
    subst h
    exact ⟨_,shl_sound kd kd' a b t hb,.fz _ _ (.int _ _)⟩
  ·by_cases hb:b<0
   ·simp [hb] at h
   ·simp only [hb,decide_false,cond_false,oJ] at h
    subst h
    exact ⟨_,shr_sound kd kd' a b t hb,.fz _ _ (.int _ _)⟩
  ·rename_i h1 h2
   cases hk:ikEq kd kd' with
   | false=>rw [hk] at h; simp at h
   | true =>
   rw [hk] at h
   obtain rfl:=zfr hk
   exact z1lc op kd a b p t ⟨h1,h2⟩ h
 ·rename_i a b
  have hx:=hx.frozen_leaf trivial
  have hy:=hy.frozen_leaf trivial
  cases hx; cases hy
  simp only [Sem.run_bind,guard_str,Result.andThen_ok]
  refine z1kj op a b p t ?_ h
  constructor <;> rintro rfl <;> simp [strK] at h
 ·split at h
  ·exact z1je hE false t xo yo yc hyc hx hy h
  ·exact z1je hE true t xo yo yc hyc hx hy h
  ·cases h
end
end Dv

namespace Dv
open Go Go.RowKit
theorem zb {α β:Type} {o:Option α} {f:α→Option β} {b:β} (h:o.bind f=some b):∃ a,o=some a∧f a=some b:=by
 cases o with
 | none=>cases h
 | some a=>exact ⟨a,rfl,h⟩
theorem z1j4 (w:World) (o:Go.Obj):(w.alloc o).heap[w.heap.size]?=some o:=by
 show (w.heap.push o)[w.heap.size]?=some o
 simp
def keyIx:List PV→PV→Option (Option Nat)
 | [],_=>some none
 | a::ks,key=>match keyEq a key with
  | some true=>some (some 0)
  | some false=>match keyIx ks key with | some r=>some (r.map (·+1)) | none=>none
  | none=>none
theorem mapGet_ix {t:TI} {key:PV}:∀ {ks vs:List PV} {r:Option PV},z14c t ks vs key=some r →
  (keyIx ks key=some none∧r=none)∨∃ i v,keyIx ks key=some (some i)∧vs[i]?=some v∧r=some v∧hasTy t v=true
 | [],[],r,h=>by simp only [z14c,oJ] at h; exact .inl ⟨rfl,h.symm⟩
 | [],_::_,r,h=>by simp [z14c] at h
 | _::_,[],r,h=>by simp [z14c] at h
 | a::ks,v::vs,r,h=>by
  simp only [z14c] at h
  simp only [keyIx]
  cases hk:keyEq a key with
  | none=>rw [hk] at h; cases h
  | some c =>
   rw [hk] at h
   cases c with
   | true =>
    simp only at h
    cases ht:hasTy t v with
    | false=>rw [ht] at h; cases h
    | true=>rw [ht] at h; simp only [cond_true,oJ] at h; exact .inr ⟨0,v,rfl,rfl,h.symm,ht⟩
   | false =>
    rcases mapGet_ix h with ⟨h1,h2⟩ | ⟨i,u,h1,h2,h3,h4⟩
    ·exact .inl ⟨by rw [h1]; rfl,h2⟩
    ·exact .inr ⟨i+1,u,by rw [h1]; rfl,by simpa using h2,h3,h4⟩
theorem findC_ix {R:Type} {key:PV} {nf:Option R} {f:PV→Option R} {q:R}:∀ {ks vs:List PV},findC key nf f ks vs=some q →
  (keyIx ks key=some none∧nf=some q)∨∃ i v,keyIx ks key=some (some i)∧vs[i]?=some v∧f v=some q
 | [],[],h=>.inl ⟨rfl,h⟩
 | [],_::_,h=>by simp [findC] at h
 | _::_,[],h=>by simp [findC] at h
 | a::ks,v::vs,h=>by
  simp only [findC] at h
  simp only [keyIx]
  cases hk:keyEq a key with
  | none=>rw [hk] at h; cases h
  | some c =>
   rw [hk] at h
   cases c with
   | true=>exact .inr ⟨0,v,rfl,rfl,h⟩
   | false =>
    rcases findC_ix h with ⟨h1,h2⟩ | ⟨i,u,h1,h2,h3⟩
    ·exact .inl ⟨by rw [h1]; rfl,h2⟩
    ·exact .inr ⟨i+1,u,by rw [h1]; rfl,by simpa using h2,h3⟩
theorem mapPut_ix {key x:PV}:∀ {ks vs ks' vs':List PV},z10u ks vs key x=some (ks',vs') →
  (keyIx ks key=some none∧ks'=ks++[key]∧vs'=vs++[x])∨∃ i,keyIx ks key=some (some i)∧ks'=ks∧vs'=vs.set i x
 | [],[],_,_,h=>by simp only [z10u,oJ,pJ] at h; exact .inl ⟨rfl,h.1.symm,h.2.symm⟩
 | [],_::_,_,_,h=>by simp [z10u] at h
 | _::_,[],_,_,h=>by simp [z10u] at h
 | a::ks,v::vs,ks',vs',h=>by
  simp only [z10u] at h
  simp only [keyIx]
  cases hk:keyEq a key with
  | none=>rw [hk] at h; cases h
  | some c =>
   rw [hk] at h
   cases c with
   | true=>simp only [oJ,pJ] at h; exact .inr ⟨0,rfl,h.1.symm,h.2.symm⟩
   | false =>
    simp only at h
    cases hp:z10u ks vs key x with
    | none=>rw [hp] at h; cases h
    | some y =>
     obtain ⟨k1,v1⟩:=y
     rw [hp] at h
     simp only [oJ,pJ] at h
     obtain ⟨rfl,rfl⟩:=h
     rcases mapPut_ix hp with ⟨h1,rfl,rfl⟩ | ⟨i,h1,rfl,rfl⟩
     ·exact .inl ⟨by rw [h1]; rfl,rfl,rfl⟩
     ·exact .inr ⟨i+1,by rw [h1]; rfl,rfl,rfl⟩
theorem putC_ix {R:Type} {key x:PV} {f:List PV→List PV→Option R} {q:R}:∀ {ks vs ks0 vs0:List PV},putC key x f ks0 vs0 ks vs=some q →
  (keyIx ks key=some none∧f (ks0++ks++[key]) (vs0++vs++[x])=some q)∨∃ i,keyIx ks key=some (some i)∧f (ks0++ks) (vs0++vs.set i x)=some q
 | [],[],ks0,vs0,h=>.inl ⟨rfl,by simpa [putC] using h⟩
 | [],_::_,_,_,h=>by simp [putC] at h
 | _::_,[],_,_,h=>by simp [putC] at h
 | a::ks,v::vs,ks0,vs0,h=>by
  simp only [putC] at h
  simp only [keyIx]
  cases hk:keyEq a key with
  | none=>rw [hk] at h; cases h
  | some c =>
   rw [hk] at h
   cases c with
   | true=>exact .inr ⟨0,rfl,h⟩
   | false =>
    rcases putC_ix h with ⟨h1,h2⟩ | ⟨i,h1,h2⟩
    ·exact .inl ⟨by rw [h1]; rfl,by simpa using h2⟩
    ·exact .inr ⟨i+1,by rw [h1]; rfl,by simpa using h2⟩
def zi5:TypeDesc→PV→Prop
 | .int k,.int k' _=>k=k'
 | .string,.str _ | .bool,.bool _=>True
 | _,_=>False
section
variable {w:World} {W:Nat→Nat→Prop}
theorem beq_str (a b:List UInt8):((⟨a.toArray⟩:ByteArray) == ⟨b.toArray⟩)=decide (a=b):=by
 rw [beq_toListBytes,zq4,zq4]
 by_cases h:a=b <;> simp [h]
theorem z1l9 {d:TypeDesc} {a key:PV} {va vk:Value} {c:Bool} (hd:zi5 d key) (ha:VRf w W a va) (hk:VRf w W key vk) (h:keyEq a key=some c) :
  Instr.sameNow d vk va=some c∧(c=true→a=key∧va=vk):=by
 cases a <;> cases key <;> simp only [keyEq,reduceCtorEq] at h
 case int.int k a k' b =>
  cases hik:ikEq k k' with
  | false=>rw [hik] at h; cases h
  | true =>
  rw [hik] at h
  simp only [cond_true,oJ] at h
  have hkk:=zfr hik
  subst hkk
  cases ha; cases hk
  cases d <;> simp only [zi5] at hd
  subst hd
  subst h
  refine ⟨?_,fun hc=>?_⟩
  ·simp only [Instr.sameNow,if_true,oJ]
   by_cases hab:a=b
   ·subst hab; simp
   ·simp [hab,show ¬ b=a from fun h=>hab (Eq.symm h)]
  ·have:=of_decide_eq_true hc
   subst this
   exact ⟨rfl,rfl⟩
 case str.str a b =>
  simp only [oJ] at h
  cases ha; cases hk
  cases d <;> simp only [zi5] at hd
  subst h
  refine ⟨?_,fun hc=>?_⟩
  ·simp only [Instr.sameNow,oJ,beq_str]
   by_cases hab:a=b
   ·subst hab; simp
   ·simp [hab,show ¬ b=a from fun h=>hab (Eq.symm h)]
  ·have:=of_decide_eq_true hc
   subst this
   exact ⟨rfl,rfl⟩
 case bool.bool a b =>
  simp only [oJ] at h
  cases ha; cases hk
  cases d <;> simp only [zi5] at hd
  subst h
  refine ⟨?_,fun hc=>?_⟩
  ·simp only [Instr.sameNow,oJ]; cases a <;> cases b <;> rfl
  ·have:=eq_of_beq hc
   subst this
   exact ⟨rfl,rfl⟩
theorem z8q {d:TypeDesc} {key:PV} {vk:Value} (hd:zi5 d key) (hk:VRf w W key vk):∀ (ks:List PV) (es:List MapEntry) (n:Nat) (r:Option Nat),ks.length=es.length →
  (∀ (j:Nat) (p:PV) (e:MapEntry),ks[j]?=some p→es[j]?=some e→VRf w W p e.key)→keyIx ks key=some r →
  match r with
  | none=>Instr.findNow d vk es n=some none
  | some i=>∃ e,es[i]?=some e∧Instr.findNow d vk es n=some (some (n+i,e.val))∧ks[i]?=some key∧e.key=vk
 | [],[],n,r,_,_,h=>by simp only [keyIx,oJ] at h; subst h; rfl
 | [],_::_,_,_,hl,_,_=>by simp at hl
 | _::_,[],_,_,hl,_,_=>by simp at hl
 | a::ks,e::es,n,r,hl,hx,h=>by
  simp only [keyIx] at h
  cases hke:keyEq a key with
  | none=>rw [hke] at h; cases h
  | some c =>
   rw [hke] at h
   obtain ⟨h1,h2⟩:=z1l9 hd (hx 0 a e rfl rfl) hk hke
   cases c with
   | true =>
    simp only [oJ] at h
    subst h
    obtain ⟨rfl,h4⟩:=h2 rfl
    exact ⟨e,rfl,by simp only [Instr.findNow,h1,Nat.add_zero],rfl,h4⟩
   | false =>
    simp only at h
    cases hr:keyIx ks key with
    | none=>rw [hr] at h; cases h
    | some r' =>
     rw [hr] at h
     simp only [oJ] at h
     subst h
     have ih:=z8q hd hk ks es (n+1) r' (by simpa using hl) (fun j p e hp he=>hx (j+1) p e (by simpa using hp) (by simpa using he)) hr
     cases r' with
     | none=>simp only [Option.map_none,Instr.findNow,h1]; exact ih
     | some i =>
      obtain ⟨e',a1,a2,a3,a4⟩:=ih
      exact ⟨e',by simpa using a1,by simp only [Instr.findNow,h1]; rw [a2]; congr 3; omega,by simpa using a3,a4⟩
end
section
variable {E:Env} (hE:EnvOk E) {w0 w:World} {Wx:Nat→Nat→Prop} {bl:zh} {objs:List Obj}
include hE
theorem kind_of {t:Nat} {key:PV} (h:keyOk (E.ti t).d key=true):∃ d,E.P.underlying t=some d∧zi5 d key:=by
 have hd:=(hE.ti t).desc
 cases hdd:(E.ti t).d <;> rw [hdd] at h hd <;> cases key <;> simp only [keyOk,Bool.false_eq_true] at h
 case bool.bool=>exact ⟨_,hd,trivial⟩
 case int.int=>exact ⟨_,hd,(zfr h)⟩
 case str.str=>exact ⟨_,hd,trivial⟩
omit hE in
theorem ziq {t:Nat} {key:PV} {d:TypeDesc} (hd:E.P.underlying t=some d) (hk:zi5 d key) (em:Bool) (v:Value):(Instr.checkKey em 10000 t v).run E.P w=.ok () w:=by
 unfold Instr.checkKey
 simp only [Sem.run_bind,run_underlying hd,Result.andThen_ok]
 cases d <;> cases key <;> first | exact hk.elim | rfl
omit hE in
theorem zll {t:Nat} {d:TypeDesc} (hd:E.P.underlying t=some d) {v:Value} {es:List MapEntry} {r:Option (Nat×Value)} (h:Instr.findNow d v es 0=some r) :
  (Instr.findKey t v es).run E.P w=.ok r w:=by
 unfold Instr.findKey
 simp only [Sem.run_bind,run_underlying hd,Result.andThen_ok,h]
 rfl
omit hE in
theorem z13r {b:Nat} {es:List MapEntry} {clock:Nat} (h:w.heap[b]?=some (.map es.toArray clock)):(getObj b).run E.P w=.ok (.map es.toArray clock) w:=by
 simp [getObj,Sem.run,h]
theorem zxi (S:Sim w0 Wx w bl objs) {t kt et:Nat} (ht:(E.ti t).d=.map kt et) (ok:Bool) {key:PV} {vk vx:Value} (hkey:keyOk (E.ti kt).d key=true) (hkn:(E.ti et).d.known=true)
  {es:List MapEntry} (hes:(vx=.map none∧es=[])∨∃ b clock,vx=.map (some b)∧w.heap[b]?=some (.map es.toArray clock))
  {p:PV} (hr:∀ d,E.P.underlying kt=some d→zi5 d key→(Instr.findNow d vk es 0=some none∧p=mapNo E et ok) ∨
   ∃ i v q,Instr.findNow d vk es 0=some (some (i,v))∧VR w (WT Wx bl objs) bl objs q v∧p=z14a ok q) :
  Does E w0 Wx w bl objs (Instr.lookup t vx vk ok) p objs:=by
 obtain ⟨d,hd,hkk⟩:=kind_of hE hkey
 have hr:=hr d hd hkk
 have hu:E.P.underlying t=some (.map kt et):=und hE ht
 obtain ⟨z,hz1,hz⟩:=zx7 hE w hkn
 have hz2:VR w (WT Wx bl objs) bl objs (E.ti et).zero z:=(zla _ _ _ _ 1000).1 _ _ hz
 have pre:∀ (r:Option (Nat×Value)),Instr.findNow d vk es 0=some r→(Instr.lookup t vx vk ok).run E.P w=((do
   let (v,ok') ← match r with
    | some (_,v)=>pure (v,true)
    | none=>pure (← zeroValue et,false)
   pure (if ok then .tuple #[v,.bool ok'] else v):Sem Value)).run E.P w:=by
  intro r hf
  unfold Instr.lookup
  rcases hes with ⟨rfl,rfl⟩ | ⟨b,clock,rfl,hh⟩
  ·simp only [Sem.run_bind,run_underlying hu,Result.andThen_ok,Sem.run_pure,ziq hd hkk,zll hd hf]
   cases r <;> rfl
  ·simp only [Sem.run_bind,run_underlying hu,Result.andThen_ok,Sem.run_pure,z13r hh,ziq hd hkk,zll hd hf]
   cases r <;> rfl
 rcases hr with ⟨h1,rfl⟩ | ⟨i,v,q,h1,h2,rfl⟩
 ·refine Does.same S (v:=if ok then .tuple #[z,.bool false] else z) ?_ ?_
  ·rw [pre _ h1]
   simp only [Sem.run_bind,hz1,Result.andThen_ok,Sem.run_pure]
  ·unfold mapNo
   cases ok with
   | false=>exact hz2
   | true=>exact .tuple _ _ rfl (fun j p hp=>by
     match j with
     | 0=>simp at hp; subst hp; exact hz2
     | 1=>simp at hp; subst hp; exact .fz _ _ (.bool _)
     | j+2=>simp at hp)
 ·refine Does.same S (v:=if ok then .tuple #[v,.bool true] else v) ?_ ?_
  ·rw [pre _ h1]
   simp only [Sem.run_bind,Result.andThen_ok,Sem.run_pure]
  ·unfold z14a
   cases ok with
   | false=>exact h2
   | true=>exact .tuple _ _ rfl (fun j p hp=>by
     match j with
     | 0=>simp at hp; subst hp; exact h2
     | 1=>simp at hp; subst hp; exact .fz _ _ (.bool _)
     | j+2=>simp at hp)
omit hE in
theorem z12p {W:Nat→Nat→Prop} {i:Nat} {v:Value} {ks vs:List PV} {im fz:Bool} (h:VR w W bl objs (.mapr i) v) (ho:nthD .dead objs i=.map ks vs im fz) :
  ∃ b,i<objs.length∧bl[i]?=some (some (b,0))∧v=.map (some b):=by
 cases h with
 | fz _ _ h=>cases h
 | dead p v k _ hr _ hdd=>simp only [refOf,oJ] at hr; subst hr; rw [ho] at hdd; cases hdd
 | mapr _ b hi hb=>exact ⟨b,hi,hb,rfl⟩
omit hE in
theorem z1jr {W:Nat→Nat→Prop} {i:Nat} {v:Value} {e0 e1:Option PV} (h:VR w W bl objs (.mapr i) v) (ho:nthD .dead objs i=.bmap e0 e1) :
  ∃ b,i<objs.length∧bl[i]?=some (some (b,0))∧v=.map (some b):=by
 cases h with
 | fz _ _ h=>cases h
 | dead p v k _ hr _ hdd=>simp only [refOf,oJ] at hr; subst hr; rw [ho] at hdd; cases hdd
 | mapr _ b hi hb=>exact ⟨b,hi,hb,rfl⟩
omit hE in
theorem z1ah (S:Sim w0 Wx w bl objs) {i b:Nat} {ks vs:List PV} {im fz:Bool} (hi:i<objs.length) (ho:nthD .dead objs i=.map ks vs im fz) (hb:bl[i]?=some (some (b,0))) :
  ∃ (es:List MapEntry) (clock:Nat),w.heap[b]?=some (.map es.toArray clock)∧ks.length=es.length∧vs.length=es.length ∧
   (∀ (j:Nat) (p:PV) (e:MapEntry),ks[j]?=some p→es[j]?=some e→VRf w (WT Wx bl objs) p e.key) ∧
   ∀ (j:Nat) (p:PV) (e:MapEntry),vs[j]?=some p→es[j]?=some e→VR w (WT Wx bl objs) bl objs p e.val∧(im=false→VRf w (WT Wx bl objs) p e.val):=by
 have hO:=S.obj i hi
 unfold ORel at hO
 rw [ho] at hO
 obtain ⟨b',es,clock,hb',hh,rest⟩:=hO
 rw [hb] at hb'
 simp at hb'
 subst hb'
 exact ⟨es,clock,hh,rest⟩
omit hE in
theorem z1js (S:Sim w0 Wx w bl objs) {i b:Nat} {e0 e1:Option PV} (hi:i<objs.length) (ho:nthD .dead objs i=.bmap e0 e1) (hb:bl[i]?=some (some (b,0))) :
  ∃ (ks vs:List PV) (es:List MapEntry) (clock:Nat),Ords e0 e1 ks vs∧w.heap[b]?=some (.map es.toArray clock)∧ks.length=es.length∧vs.length=es.length ∧
   (∀ (j:Nat) (p:PV) (e:MapEntry),ks[j]?=some p→es[j]?=some e→VRf w (WT Wx bl objs) p e.key) ∧
   ∀ (j:Nat) (p:PV) (e:MapEntry),vs[j]?=some p→es[j]?=some e→VR w (WT Wx bl objs) bl objs p e.val:=by
 have hO:=S.obj i hi
 unfold ORel at hO
 rw [ho] at hO
 obtain ⟨ks,vs,b',es,clock,h0,hb',hh,rest⟩:=hO
 rw [hb] at hb'
 simp at hb'
 subst hb'
 exact ⟨ks,vs,es,clock,h0,hh,rest⟩
omit hE in
theorem ords_ix {e0 e1:Option PV} {ks vs:List PV} (h:Ords e0 e1 ks vs) (c:Bool) :
  (keyIx ks (.bool c)=some none∧(bif c then e1 else e0)=none)∨∃ j v,keyIx ks (.bool c)=some (some j)∧vs[j]?=some v∧(bif c then e1 else e0)=some v:=by
 cases e0 <;> cases e1
 ·obtain ⟨rfl,rfl⟩:=h; exact .inl ⟨rfl,by cases c <;> rfl⟩
 ·obtain ⟨rfl,rfl⟩:=h
  cases c with
  | true=>exact .inr ⟨0,_,rfl,rfl,rfl⟩
  | false=>exact .inl ⟨rfl,rfl⟩
 ·obtain ⟨rfl,rfl⟩:=h
  cases c with
  | false=>exact .inr ⟨0,_,rfl,rfl,rfl⟩
  | true=>exact .inl ⟨rfl,rfl⟩
 ·rcases h with ⟨rfl,rfl⟩ | ⟨rfl,rfl⟩
  ·cases c with
   | false=>exact .inr ⟨0,_,rfl,rfl,rfl⟩
   | true=>exact .inr ⟨1,_,rfl,rfl,rfl⟩
  ·cases c with
   | false=>exact .inr ⟨1,_,rfl,rfl,rfl⟩
   | true=>exact .inr ⟨0,_,rfl,rfl,rfl⟩
omit hE in
theorem ords_push {e0 e1:Option PV} {ks vs:List PV} (h:Ords e0 e1 ks vs) (c:Bool) (hn:(bif c then e1 else e0)=none) (x:PV) :
  Ords (bif c then e0 else some x) (bif c then some x else e1) (ks++[.bool c]) (vs++[x]):=by
 cases c with
 | true =>
  simp only [cond_true] at hn ⊢
  subst hn
  cases e0
  ·obtain ⟨rfl,rfl⟩:=h; exact ⟨rfl,rfl⟩
  ·obtain ⟨rfl,rfl⟩:=h; exact .inl ⟨rfl,rfl⟩
 | false =>
  simp only [cond_false] at hn ⊢
  subst hn
  cases e1
  ·obtain ⟨rfl,rfl⟩:=h; exact ⟨rfl,rfl⟩
  ·obtain ⟨rfl,rfl⟩:=h; exact .inr ⟨rfl,rfl⟩
omit hE in
theorem retake (S:Sim w0 Wx w bl objs) {i:Nat} (hi:i<objs.length) (o':Obj) (hal:alive objs i) (hak:z4u (nthD .dead objs i) o') (hmw:∀ y x,mayW o' y x→mayW (nthD .dead objs i) y x)
  (hO:Ext w (WT Wx bl objs) bl objs w (WT Wx bl (setN objs i o')) bl (setN objs i o')→ORel w (WT Wx bl (setN objs i o')) bl (setN objs i o') i) :
  Sim w0 Wx w bl (setN objs i o')∧Ext w (WT Wx bl objs) bl objs w (WT Wx bl (setN objs i o')) bl (setN objs i o'):=by
 have hwo:∀ b' x,WO bl (setN objs i o') b' x→WO bl objs b' x:=by
  rintro b' x ⟨j,o1,hj,hm⟩
  by_cases hij:i=j
  ·subst hij; rw [z8 _ _ _ _ hi] at hm; exact ⟨i,o1,hj,hmw _ _ hm⟩
  ·rw [zd _ _ _ _ _ hij] at hm; exact ⟨j,o1,hj,hm⟩
 have H:Ext w (WT Wx bl objs) bl objs w (WT Wx bl (setN objs i o')) bl (setN objs i o'):=by
  refine ⟨⟨fun b' x v hv hnw=>⟨hv,fun h=>hnw (h.imp id (hwo b' x))⟩,fun b' es c hv hnw=>⟨hv,fun h=>hnw (h.imp id (hwo b' 0))⟩⟩,by simp,fun j hj=>.inr ⟨rfl,?_⟩,fun _ _ h=>h⟩
  by_cases hij:i=j
  ·subst hij; rw [z8 _ _ _ _ hi]; exact hak
  ·rw [zd _ _ _ _ _ hij]; exact z4u.refl _
 refine ⟨⟨S.below,by simp [S.len],S.own,?_,?_,S.wx⟩,H⟩
 ·intro j k b' x y hj hk aj ak
  have key:∀ j,alive (setN objs i o') j→alive objs j:=by
   intro j h
   by_cases hij:i=j
   ·subst hij; exact hal
   ·unfold alive at h ⊢; rwa [zd _ _ _ _ _ hij] at h
  exact S.inj j k b' x y hj hk (key j aj) (key k ak)
 ·intro j hj
  by_cases hij:i=j
  ·subst hij; exact hO H
  ·have hsame:nthD .dead (setN objs i o') j=nthD .dead objs j:=zd _ _ _ _ _ hij
   by_cases haj:alive objs j
   ·exact (S.obj j (by simpa using hj)).keep H (by rw [hsame]; exact sameO.refl _) rfl (fun _ _ _=>rfl)
   ·exact ORel.of_dead (by rw [hsame]; exact zvx haj)
omit hE in
theorem zsg {W:Nat→Nat→Prop} {d:TypeDesc} {key:PV} {v:Value} (hk:zi5 d key) (h:VR w W bl objs key v):VRf w W key v:=by
 cases d <;> cases key <;> first | exact hk.elim | exact h.frozen_leaf trivial
theorem zje (S:Sim w0 Wx w bl objs) {t kt et:Nat} (ht:(E.ti t).d=.map kt et) (ok:Bool) {key:PV} {vk vx:Value} (hk:VR w (WT Wx bl objs) bl objs key vk)
  (hkey:keyOk (E.ti kt).d key=true) (hkn:(E.ti et).d.known=true) {ks vs:List PV}
  {es:List MapEntry} (hes:(vx=.map none∧es=[])∨∃ b clock,vx=.map (some b)∧w.heap[b]?=some (.map es.toArray clock)) (h1:ks.length=es.length) (h2:vs.length=es.length)
  (hx:∀ (j:Nat) (p:PV) (e:MapEntry),ks[j]?=some p→es[j]?=some e→VRf w (WT Wx bl objs) p e.key)
  (hy:∀ (j:Nat) (p:PV) (e:MapEntry),vs[j]?=some p→es[j]?=some e→VRf w (WT Wx bl objs) p e.val) {p:PV} (h:zgu E et ok ks vs key some=some p) :
  Does E w0 Wx w bl objs (Instr.lookup t vx vk ok) p objs:=by
 unfold zgu at h
 obtain ⟨r,hr,h⟩:=zb h
 refine zxi hE S ht ok hkey hkn hes (fun d hd hkk=>?_)
 have hkf:=zsg hkk hk
 rcases mapGet_ix hr with ⟨g1,rfl⟩ | ⟨i,v,g1,g2,rfl,g3⟩
 ·simp only [z52,oJ] at h
  exact .inl ⟨z8q hkk hkf ks es 0 none h1 hx g1,h.symm⟩
 ·simp only [z52,oJ] at h
  obtain ⟨e,a1,a2,_,_⟩:=z8q hkk hkf ks es 0 (some i) h1 hx g1
  exact .inr ⟨0+i,e.val,_,a2,.fz _ _ (z17j g3 (hy i v e g2 a1)),h.symm⟩
theorem z1dq (S:Sim w0 Wx w bl objs) (t:Nat) (ok:Bool) {x key p:PV} {vx vk:Value} (hx:VR w (WT Wx bl objs) bl objs x vx) (hk:VR w (WT Wx bl objs) bl objs key vk)
  (h:zvm E t ok objs x key some=some p):Does E w0 Wx w bl objs (Instr.lookup t vx vk ok) p objs:=by
 unfold zvm at h
 cases hd:(E.ti t).d <;> rw [hd] at h <;> first | (cases h; done) | skip
 rename_i kt et
 simp only at h
 cases hc:(keyOk (E.ti kt).d key&&(E.ti et).d.known) with
 | false=>rw [hc] at h; cases h
 | true =>
 rw [hc] at h
 simp only [Bool.and_eq_true] at hc
 obtain ⟨hkey,hkn⟩:=hc
 simp only [Bool.not_true,cond_false] at h
 have mp:∀ ks vs,VRf w (WT Wx bl objs) (.mp ks vs) vx→zgu E et ok ks vs key some=some p→Does E w0 Wx w bl objs (Instr.lookup t vx vk ok) p objs:=by
  intro ks vs hx h
  cases hx with
  | mp _ _ b es clock hh hw hk1 hv1 hx1 hy1=>exact zje hE S hd ok hk hkey hkn (.inr ⟨b,clock,rfl,hh⟩) hk1 hv1 hx1 hy1 h
 have nilm:VRf w (WT Wx bl objs) .nilm vx→vx=.map none:=by intro h; cases h; rfl
 split at h
 ·have hx:=nilm (hx.frozen_leaf trivial)
  simp only [oJ] at h
  exact zxi hE S hd ok hkey hkn (.inl ⟨hx,rfl⟩) (fun d hd hkk=>.inl ⟨rfl,h.symm⟩)
 ·exact mp _ _ (hx.frozen_leaf trivial) h
 ·rename_i v
  obtain ⟨q,hq,h⟩:=zb h
  have hv:VRf w (WT Wx bl objs) v vx:=by
   cases hx with
   | fz _ _ h=>cases h with | opq0 _ _ _ h=>exact h
   | opq0 _ _ _ h=>exact h
   | opq _ b o _ _ h=>exact h
   | dead _ _ _ _ hr=>simp [refOf] at hr
  cases v <;> simp only [mapOf,reduceCtorEq,oJ] at hq
  ·subst hq
   have hx:=nilm hv
   exact zje hE S hd ok hk hkey hkn (.inl ⟨hx,rfl⟩) rfl rfl (fun j p e hp he=>by simp at he) (fun j p e hp he=>by simp at he) h
  ·subst hq
   exact mp _ _ hv h
 ·split at h
  ·rename_i i e0 e1 ho
   split at h
   case h_2=>cases h
   rename_i c
   obtain ⟨b,hi,hb,rfl⟩:=z1jr hx ho
   obtain ⟨ks,vs,es,clock,h0,hh,h1,h2,h3,h4⟩:=z1js S hi ho hb
   refine zxi hE S hd ok hkey hkn (.inr ⟨b,clock,rfl,hh⟩) (fun d hd hkk=>?_)
   have hkf:=zsg hkk hk
   have h':z52 (bif c then e1 else e0) (some (mapNo E et ok)) (fun v=>some (z14a ok v))=some p:=by cases c <;> exact h
   rcases ords_ix h0 c with ⟨g1,g2⟩ | ⟨j,v,g1,g2,g3⟩
   ·rw [g2] at h'
    simp only [z52,oJ] at h'
    exact .inl ⟨z8q hkk hkf ks es 0 none h1 h3 g1,h'.symm⟩
   ·rw [g3] at h'
    simp only [z52,oJ] at h'
    obtain ⟨e,a1,a2,_,_⟩:=z8q hkk hkf ks es 0 (some j) h1 h3 g1
    exact .inr ⟨0+j,e.val,v,a2,h4 j v e g2 a1,h'.symm⟩
  ·rename_i ks vs _ ho
   obtain ⟨b,hi,hb,rfl⟩:=z12p hx ho
   obtain ⟨es,clock,hh,h1,h2,h3,h4⟩:=z1ah S hi ho hb
   refine zxi hE S hd ok hkey hkn (.inr ⟨b,clock,rfl,hh⟩) (fun d hd hkk=>?_)
   have hkf:=zsg hkk hk
   rcases findC_ix h with ⟨g1,g2⟩ | ⟨j,v,g1,g2,g3⟩
   ·simp only [oJ] at g2
    exact .inl ⟨z8q hkk hkf ks es 0 none h1 h3 g1,g2.symm⟩
   ·simp only [oJ] at g3
    obtain ⟨e,a1,a2,_,_⟩:=z8q hkk hkf ks es 0 (some j) h1 h3 g1
    exact .inr ⟨0+j,e.val,v,a2,(h4 j v e g2 a1).1,g3.symm⟩
  ·rename_i ks vs _ ho
   obtain ⟨b,hi,hb,rfl⟩:=z12p hx ho
   obtain ⟨es,clock,hh,h1,h2,h3,h4⟩:=z1ah S hi ho hb
   exact zje hE S hd ok hk hkey hkn (.inr ⟨b,clock,rfl,hh⟩) h1 h2 h3 (fun j p e hp he=>(h4 j p e hp he).2 rfl) h
  ·cases h
 ·cases h
theorem z1aj (S:Sim w0 Wx w bl objs) (t:Nat) {r:Option PV} {vr:Option Value} (hr:match r,vr with | none,none=>True | some p,some v=>VR w (WT Wx bl objs) bl objs p v | _,_=>False)
  {p:PV} {objs':List Obj} (h:zlq E t objs r (fun v o=>some (v,o))=some (p,objs')):Does E w0 Wx w bl objs (Instr.makeMap t vr) p objs':=by
 unfold zlq at h
 cases hd:(E.ti t).d <;> rw [hd] at h <;> first | (cases h; done) | skip
 rename_i kt et
 have hu:E.P.underlying t=some (.map kt et):=und hE hd
 have fin:∀ (m:Sem Value),(Instr.makeMap t vr).run E.P w=m.run E.P w→m=(do pure (.map (some (← newObj (.map #[] 0)))))→some (PV.mapr objs.length,objs++[bif boolD (E.ti kt).d then .bmap none none else .map [] [] (memN t E.mcs) false])=some (p,objs') →
   Does E w0 Wx w bl objs (Instr.makeMap t vr) p objs':=by
  rintro m hm rfl h
  simp only [oJ,pJ] at h
  obtain ⟨rfl,rfl⟩:=h
  refine ⟨.map (some w.heap.size),w.alloc (.map #[] 0),bl++[some (w.heap.size,0)],?_,?_,zi4 S (.map #[] 0) _ 0,?_⟩
  ·rw [hm]; rfl
  ·refine zl5 S _ _ 0 ?_
   unfold ORel
   rw [z11]
   cases boolD (E.ti kt).d with
   | true=>exact ⟨[],[],w.heap.size,[],0,⟨rfl,rfl⟩,by rw [← S.len]; simp,z1j4 w _,rfl,rfl,fun j p e hp=>by simp at hp,fun j p e hp=>by simp at hp⟩
   | false=>exact ⟨w.heap.size,[],0,by rw [← S.len]; simp,z1j4 w _,rfl,rfl,fun j p e hp=>by simp at hp,fun j p e hp=>by simp at hp⟩
  ·exact .mapr _ _ (by simp) (by rw [← S.len]; simp)
 simp only at h
 split at h
 ·cases vr with
  | none=>exact fin _ rfl (by rfl) h
  | some v=>exact hr.elim
 ·rename_i n
  cases vr with
  | none=>exact hr.elim
  | some v =>
   have hv:VR w (WT Wx bl objs) bl objs (.int .i64 n) v:=hr
   have:=hv.frozen_leaf trivial
   cases this
   refine fin _ ?_ rfl h
   simp only [Instr.makeMap,Sem.run_bind,run_underlying hu,asInt,Sem.run_pure,Result.andThen_ok]
   rfl
 ·cases h
end
section
variable {w0 w:World} {Wx:Nat→Nat→Prop} {bl:zh} {objs:List Obj}
theorem z1iq (S:Sim w0 Wx w bl objs) {i b:Nat} {ks vs ks' vs':List PV} {im:Bool} (hi:i<objs.length) (ho:nthD .dead objs i=.map ks vs im false) (hb:bl[i]?=some (some (b,0)))
  {es es':List MapEntry} {clock clock':Nat} (hheap:w.heap[b]?=some (.map es.toArray clock)) (h1:ks'.length=es'.length) (h2:vs'.length=es'.length)
  (hx:∀ (j:Nat) (p:PV) (e:MapEntry),ks'[j]?=some p→es'[j]?=some e→VRf w (WT Wx bl objs) p e.key)
  (hy:∀ (j:Nat) (p:PV) (e:MapEntry),vs'[j]?=some p→es'[j]?=some e→VR w (WT Wx bl objs) bl objs p e.val∧(im=false→VRf w (WT Wx bl objs) p e.val)) :
  Sim w0 Wx (oset w b (.map es'.toArray clock')) bl (setN objs i (.map ks' vs' im false)) ∧
  Ext w (WT Wx bl objs) bl objs (oset w b (.map es'.toArray clock')) (WT Wx bl (setN objs i (.map ks' vs' im false))) bl (setN objs i (.map ks' vs' im false)):=by
 have hlt:b<w.heap.size:=(S.own i b 0 hb).2
 have hne:∀ b',b≠b'→(oset w b (.map es'.toArray clock')).heap[b']?=w.heap[b']?:=fun b' h=>by simp [oset,Array.getElem?_setIfInBounds_ne h]
 have hself:(oset w b (.map es'.toArray clock')).heap[b]?=some (.map es'.toArray clock'):=by simp [oset,Array.getElem?_setIfInBounds,hlt]
 have hal:alive objs i:=by unfold alive; rw [ho]; trivial
 have hWO:∀ b' x,WO bl (setN objs i (.map ks' vs' im false)) b' x→WO bl objs b' x:=fun b' x=>z15r hi (fun _ _ _ _ _=>by rw [ho]; trivial) b' x
 have H:Ext w (WT Wx bl objs) bl objs (oset w b (.map es'.toArray clock')) (WT Wx bl (setN objs i (.map ks' vs' im false))) bl (setN objs i (.map ks' vs' im false)):=by
  refine ⟨⟨fun b' x v hv hnw=>⟨?_,fun h=>hnw (h.imp id (hWO b' x))⟩,fun b' es c hv hnw=>⟨?_,fun h=>hnw (h.imp id (hWO b' 0))⟩⟩,by simp,fun j hj=>.inr ⟨rfl,?_⟩,?_⟩
  ·by_cases hbb:b=b'
   ·subst hbb
    exfalso
    unfold World.cell? at hv
    simp only [hheap] at hv
    cases hv
   ·unfold World.cell? at hv ⊢
    simp only at hv ⊢
    rw [hne b' hbb]; exact hv
  ·by_cases hbb:b=b'
   ·subst hbb
    exact absurd (.inr ⟨i,0,hb,by rw [ho]; trivial⟩) hnw
   ·rw [hne b' hbb]; exact hv
  ·by_cases hij:i=j
   ·subst hij; rw [z8 _ _ _ _ hi,ho]; rfl
   ·rw [zd _ _ _ _ _ hij]; exact z4u.refl _
  ·rintro b' n ⟨cs,e,fr,hh,hn⟩
   by_cases hbb:b=b'
   ·subst hbb; rw [hheap] at hh; cases hh
   ·exact ⟨cs,e,fr,(hne b' hbb).trans hh,hn⟩
 refine ⟨⟨?_,by simp [S.len],?_,?_,?_,S.wx⟩,H⟩
 ·exact S.below.trans ⟨rfl,rfl,rfl,by simp [oset],fun k hk=>hne k (by have:=(S.own i b 0 hb).1; omega)⟩
 ·intro j b' x hj
  have:=S.own j b' x hj
  exact ⟨this.1,by simpa [oset] using this.2⟩
 ·intro j k b' x y hj hk aj ak
  have key:∀ j,alive (setN objs i (.map ks' vs' im false)) j→alive objs j:=by
   intro j h
   by_cases hij:i=j
   ·subst hij; exact hal
   ·unfold alive at h ⊢; rwa [zd _ _ _ _ _ hij] at h
  exact S.inj j k b' x y hj hk (key j aj) (key k ak)
 ·intro j hj
  by_cases hij:i=j
  ·subst hij
   unfold ORel
   rw [z8 _ _ _ _ hi]
   exact ⟨b,es',clock',hb,hself,h1,h2,fun j p e hp he=>(hx j p e hp he).mono H.keep,fun j p e hp he=>⟨(hy j p e hp he).1.mono H,fun him=>((hy j p e hp he).2 him).mono H.keep⟩⟩
  ·have hsame:nthD .dead (setN objs i (.map ks' vs' im false)) j=nthD .dead objs j:=zd _ _ _ _ _ hij
   by_cases haj:alive objs j
   ·refine (S.obj j (by simpa using hj)).keep H (by rw [hsame]; exact sameO.refl _) rfl (fun b' x hb'=>hne b' (fun hbb=>?_))
    subst hbb
    exact hij (S.inj i j b 0 x hb hb' hal haj)
   ·exact ORel.of_dead (by rw [hsame]; exact zvx haj)
end
section
variable {E:Env} (hE:EnvOk E) {w0 w:World} {Wx:Nat→Nat→Prop} {bl:zh} {objs:List Obj}
theorem z1cx {d:TypeDesc} {key:PV} {v:Value} {W:Nat→Nat→Prop} (hk:zi5 d key) (h:VRf w W key v):Instr.sameBits 10000 v v=true:=by
 cases d <;> cases key <;> first | exact hk.elim | skip
 all_goals (cases h; simp [Instr.sameBits])
 ·rw [beq_toListBytes]; simp
theorem z1cz {P:Program} {d:TypeDesc} {key:PV} {v:Value} {W:Nat→Nat→Prop} (hk:zi5 d key) (h:VRf w W key v) (w':World):(Instr.keyThatStays v v).run P w'=.ok v w':=by
 unfold Instr.keyThatStays
 simp only [z1cx hk h,if_true]
 rfl
theorem z17k {P:Program} {b:Nat} {o:Go.Obj} {es:Array MapEntry} {clock:Nat} (h:w.heap[b]?=some (.map es clock)):(setObj b o).run P w=.ok () (oset w b o):=by
 simp only [setObj,Sem.run,oset,h]
include hE
theorem zwm (S:Sim w0 Wx w bl objs) {t kt et i b:Nat} (ht:(E.ti t).d=.map kt et) {ks vs:List PV} {im:Bool} {key x:PV} {vk vx:Value} (hi:i<objs.length)
  (ho:nthD .dead objs i=.map ks vs im false) (hb:bl[i]?=some (some (b,0))) (hkey:keyOk (E.ti kt).d key=true) (hk:VR w (WT Wx bl objs) bl objs key vk)
  (hx:VR w (WT Wx bl objs) bl objs x vx) (him:im=false→VRf w (WT Wx bl objs) x vx) {ks' vs':List PV}
  (hr:(keyIx ks key=some none∧ks'=ks++[key]∧vs'=vs++[x])∨∃ j,keyIx ks key=some (some j)∧ks=ks'∧vs'=vs.set j x) :
  ∃ w',(Instr.mapUpdate t (.map (some b)) vk vx).run E.P w=.ok () w'∧Sim w0 Wx w' bl (setN objs i (.map ks' vs' im false)) ∧
   Ext w (WT Wx bl objs) bl objs w' (WT Wx bl (setN objs i (.map ks' vs' im false))) bl (setN objs i (.map ks' vs' im false)):=by
 obtain ⟨d,hd,hkk⟩:=kind_of hE hkey
 have hkf:=zsg hkk hk
 obtain ⟨es,clock,hh,h1,h2,h3,h4⟩:=z1ah S hi ho hb
 have hlt:b<w.heap.size:=(S.own i b 0 hb).2
 have hu:E.P.underlying t=some (.map kt et):=und hE ht
 rcases hr with ⟨g1,rfl,rfl⟩ | ⟨j,g1,rfl,rfl⟩
 ·have hf:Instr.findNow d vk es 0=some none:=z8q hkk hkf ks es 0 none h1 h3 g1
  have st:=z1iq S hi ho hb (es':=es++[{ key:=vk,val:=vx,born:=clock }]) (ks':=ks++[key]) (vs':=vs++[x]) (clock':=clock+1) hh (by simp [h1]) (by simp [h2])
   (fun j p e hp he=>by
    rcases Nat.lt_or_ge j ks.length with hj | hj
    ·rw [List.getElem?_append_left hj] at hp
     rw [List.getElem?_append_left (by omega)] at he
     exact h3 j p e hp he
    ·have:j=ks.length:=by have:=z3j hp; simp at this; omega
     subst this
     simp at hp
     rw [h1] at he
     simp at he
     subst hp; subst he
     exact hkf)
   (fun j p e hp he=>by
    rcases Nat.lt_or_ge j vs.length with hj | hj
    ·rw [List.getElem?_append_left hj] at hp
     rw [List.getElem?_append_left (by omega)] at he
     exact h4 j p e hp he
    ·have:j=vs.length:=by have:=z3j hp; simp at this; omega
     subst this
     simp at hp
     rw [h2] at he
     simp at he
     subst hp; subst he
     exact ⟨hx,him⟩)
  refine ⟨_,?_,st⟩
  unfold Instr.mapUpdate
  simp only [Sem.run_bind,run_underlying hu,Result.andThen_ok,z13r hh,ziq hd hkk,zll hd hf]
  have:es.toArray.push ({ key:=vk,val:=vx,born:=clock }:MapEntry)=(es++[({ key:=vk,val:=vx,born:=clock }:MapEntry)]).toArray:=by simp
  rw [this]
  exact z17k hh
 ·obtain ⟨e,a1,a2,a3,a4⟩:=z8q hkk hkf ks es 0 (some j) h1 h3 g1
  have hjl:j<es.length:=(List.getElem?_eq_some_iff.1 a1).1
  have st:=z1iq S hi ho hb (es':=es.set j { e with key:=vk,val:=vx }) (ks':=ks) (vs':=vs.set j x) (clock':=clock) hh (by simp [h1]) (by simp [h2])
   (fun m p e' hp he=>by
    rw [List.getElem?_set] at he
    by_cases hm:j=m
    ·subst hm
     rw [if_pos rfl,if_pos hjl] at he
     simp only [oJ] at he
     subst he
     rw [a3] at hp
     simp only [oJ] at hp
     subst hp
     exact hkf
    ·rw [if_neg hm] at he
     exact h3 m p e' hp he)
   (fun m p e' hp he=>by
    rw [List.getElem?_set] at he hp
    by_cases hm:j=m
    ·subst hm
     rw [if_pos rfl,if_pos hjl] at he
     rw [if_pos rfl,if_pos (by omega)] at hp
     simp only [oJ] at he hp
     subst he; subst hp
     exact ⟨hx,him⟩
    ·rw [if_neg hm] at he hp
     exact h4 m p e' hp he)
  refine ⟨_,?_,st⟩
  unfold Instr.mapUpdate
  simp only [Sem.run_bind,run_underlying hu,Result.andThen_ok,z13r hh,ziq hd hkk,zll hd a2]
  have hg:(es.toArray[0+j]?.map (·.key)).getD vk=vk:=by simp [a1,a4]
  rw [hg,z1cz hkk hkf]
  simp only [Result.andThen_ok]
  have:(es.toArray.modify (0+j) fun e=>{ e with key:=vk,val:=vx })=(es.set j { e with key:=vk,val:=vx }).toArray:=by
   apply Array.ext'
   simp only [Nat.zero_add,Array.toList_modify]
   apply List.ext_getElem?
   intro m
   rw [List.getElem?_modify,List.getElem?_set]
   by_cases hm:j=m
   ·subst hm; simp [hjl,(List.getElem?_eq_some_iff.1 a1).2]
   ·simp [hm]
  rw [this]
  exact z17k hh
theorem zp2 (S:Sim w0 Wx w bl objs) (t:Nat) {m key x:PV} {vm vk vx:Value} (hm:VR w (WT Wx bl objs) bl objs m vm) (hk:VR w (WT Wx bl objs) bl objs key vk)
  (hx:VR w (WT Wx bl objs) bl objs x vx) {objs':List Obj} (h:z8o E t objs m key x some=some objs') :
  ∃ w',(Instr.mapUpdate t vm vk vx).run E.P w=.ok () w'∧Sim w0 Wx w' bl objs'∧Ext w (WT Wx bl objs) bl objs w' (WT Wx bl objs') bl objs':=by
 unfold z8o at h
 split at h
 case h_2=>cases h
 rename_i kt et i ht
 cases hkey:keyOk (E.ti kt).d key with
 | false=>rw [hkey] at h; cases h
 | true =>
 rw [hkey] at h
 simp only [Bool.not_true,cond_false] at h
 split at h
 ·rename_i e0 e1 ho
  split at h
  case h_2=>cases h
  rename_i c
  obtain ⟨b,hi,hb,rfl⟩:=z1jr hm ho
  obtain ⟨ks,vs,es,clock,h0,hh,h1,h2,h3,h4⟩:=z1js S hi ho hb
  have h':(bif c then e1 else e0)=none∧objs'=setN objs i (.bmap (bif c then e0 else some x) (bif c then some x else e1)):=by
   cases c with
   | true=>cases e1 <;> simp only [cond_true,z52,oJ,reduceCtorEq] at h <;> exact ⟨rfl,h.symm⟩
   | false=>cases e0 <;> simp only [cond_false,z52,oJ,reduceCtorEq] at h <;> exact ⟨rfl,h.symm⟩
  obtain ⟨hn,rfl⟩:=h'
  obtain ⟨S1,X1⟩:=retake S hi (.map ks vs true false) (by unfold alive; rw [ho]; trivial) (by rw [ho]; rfl) (fun _ _ _=>by rw [ho]; trivial) (fun X=>by
   unfold ORel
   rw [z8 _ _ _ _ hi]
   exact ⟨b,es,clock,hb,hh,h1,h2,fun j p e hp he=>(h3 j p e hp he).mono X.keep,fun j p e hp he=>⟨(h4 j p e hp he).mono X,fun h=>by cases h⟩⟩)
  have ho1:nthD .dead (setN objs i (.map ks vs true false)) i=.map ks vs true false:=z8 _ _ _ _ hi
  obtain ⟨g1,_⟩ | ⟨j,v,_,_,g3⟩:=ords_ix h0 c
  case inr=>rw [hn] at g3; cases g3
  obtain ⟨w',r1,r2,r3⟩:=zwm hE S1 ht (by simpa using hi) ho1 hb hkey (hk.mono X1) (hx.mono X1) (fun h=>by cases h) (.inl ⟨g1,rfl,rfl⟩)
  have e2:setN (setN objs i (.map ks vs true false)) i (.map (ks++[.bool c]) (vs++[x]) true false)=setN objs i (.map (ks++[.bool c]) (vs++[x]) true false):=by simp only [z2z,List.set_set]
  rw [e2] at r2 r3
  have ho2:nthD .dead (setN objs i (.map (ks++[.bool c]) (vs++[x]) true false)) i=.map (ks++[.bool c]) (vs++[x]) true false:=z8 _ _ _ _ hi
  obtain ⟨es2,clock2,q1,q2,q3,q4,q5⟩:=z1ah r2 (by simpa using hi) ho2 hb
  have e3:∀ o',setN (setN objs i (.map (ks++[.bool c]) (vs++[x]) true false)) i o'=setN objs i o':=by intro o'; simp only [z2z,List.set_set]
  obtain ⟨S3,X3⟩:=retake r2 (by simpa using hi) (.bmap (bif c then e0 else some x) (bif c then some x else e1)) (by unfold alive; rw [ho2]; trivial) (by rw [ho2]; rfl) (fun _ _ _=>by rw [ho2]; trivial) (fun X=>by
   unfold ORel
   rw [z8 _ _ _ _ (by simpa using hi)]
   exact ⟨_,_,b,es2,clock2,ords_push h0 c hn x,hb,q1,q2,q3,fun j p e hp he=>(q4 j p e hp he).mono X.keep,fun j p e hp he=>((q5 j p e hp he).1).mono X⟩)
  rw [e3] at S3 X3
  exact ⟨w',r1,S3,(X1.trans r3).trans X3⟩
 ·rename_i ks vs ho
  cases hbd:boolD (E.ti kt).d with
  | true=>rw [hbd] at h; cases h
  | false =>
  rw [hbd] at h
  simp only [cond_false] at h
  obtain ⟨b,hi,hb,rfl⟩:=z12p hm ho
  rcases putC_ix h with ⟨g1,g2⟩ | ⟨j,g1,g2⟩
  ·simp only [List.nil_append,oJ] at g2
   subst g2
   exact zwm hE S ht hi ho hb hkey hk hx (fun h=>by cases h) (.inl ⟨g1,rfl,rfl⟩)
  ·simp only [List.nil_append,oJ] at g2
   subst g2
   exact zwm hE S ht hi ho hb hkey hk hx (fun h=>by cases h) (.inr ⟨j,g1,rfl,rfl⟩)
 ·cases hbd:boolD (E.ti kt).d with
  | true=>rw [hbd] at h; cases h
  | false =>
  rw [hbd] at h
  simp only [cond_false] at h
  cases hp:purify pfuel objs x with
  | none=>rw [hp] at h; cases h
  | some y =>
  obtain ⟨x',objs1⟩:=y
  rw [hp] at h
  simp only at h
  split at h
  case h_2=>cases h
  rename_i ks vs ho1
  obtain ⟨⟨ks',vs'⟩,hput,h⟩:=zb h
  simp only [oJ] at h
  subst h
  obtain ⟨F,hxf⟩:=(z3n w0 w Wx bl pfuel).1 objs x x' objs1 vx S hp hx
  have S1:=zcq S F
  have X1:Ext w (WT Wx bl objs) bl objs w (WT Wx bl objs1) bl objs1:=zep F
  obtain ⟨b,hi,hb,rfl⟩:=z12p (hm.mono X1) ho1
  obtain ⟨w',r1,r2,r3⟩:=zwm hE S1 ht hi ho1 hb hkey (hk.mono X1) (.fz _ _ hxf) (fun _=>hxf) ((mapPut_ix hput).imp id (fun ⟨j,a,b,c⟩=>⟨j,a,b.symm,c⟩))
  exact ⟨w',r1,r2,X1.trans r3⟩
 ·cases h
end
end Dv

namespace Dv
open Go Go.RowKit
theorem z11y {P:Program} (w:World) (a:Option Addr) (t u ty e:TypeId) (k:IntKind) (i:TypeInfo) (z:Value) (ht:P.underlying t=some (.slice e)) (hi:P.info? e=some i) (hz:i.zero=some z) (hu:P.underlying u=some (.int k))
  (n:Int) (h0:n=0):(Builtin.append_ #[t,u] ty #[.slice a 0 0,.int .i64 n]).run P w=.ok (.slice a 0 0) w:=by
 subst h0
 have hw:IntKind.i64.wrap 0=0:=rfl
 cases a <;> simp [Builtin.append_,run_underlying ht,run_underlying hu,Go.sizeOf,typeInfo,hi,asInt,asIntOf,hw,storeCells]
theorem z13t {P:Program} (w:World) (a:Option Addr) (t u ty e:TypeId) (k:IntKind) (i:TypeInfo) (z:Value) (ht:P.underlying t=some (.slice e)) (hi:P.info? e=some i) (hz:i.zero=some z) (hu:P.underlying u=some (.int k))
  (n:Nat) (h0:0<n) (hby:i.bytes≠0) (hfit:n*i.bytes≤70368744177664) (hzs:z.cells.size=i.size) :
  (Builtin.append_ #[t,u] ty #[.slice a 0 0,.int .i64 n]).run P w =
   .ok (.slice (some ⟨w.heap.size,0,none⟩) n (grownCap w n 0 e)) (w.drew.alloc (.cells (#[]++Builtin.zeroCells z.cells n++Builtin.zeroCells z.cells (grownCap w n 0 e-n)) e)):=by
 have hnb:n≤n*i.bytes:=Nat.le_mul_of_pos_right n (by omega)
 have h48:Builtin.nextslicecap n 0*i.bytes≤281474976710656:=growslice_fits (by omega) (by omega)
 have h48':¬ (281474976710656<Builtin.nextslicecap n 0*i.bytes):=by omega
 have hw:IntKind.i64.wrap (n:Int)=n:=by rw [IntKind.wrap_i64]; omega
 have hn0:¬ ((n:Int)<0):=by omega
 have hfi:¬ ((281474976710656:Int)<(n:Int)*(i.bytes:Int)):=by
  have:((n*i.bytes:Nat):Int)≤70368744177664:=Int.ofNat_le.2 hfit
  rw [Int.natCast_mul] at this; omega
 have hni:¬ ((9223372036854775807:Int)<(n:Int)):=by omega
 have hne:n≠0:=by omega
 have hmax:IntKind.i64.max=9223372036854775807:=rfl
 by_cases hs:i.size=0
 ·have hze:Builtin.zeroCells z.cells n=#[]:=by apply Array.eq_empty_of_size_eq_zero; rw [size_zeroCells,hzs,hs,Nat.mul_zero]
  cases a <;> simp [Builtin.append_,run_underlying ht,run_underlying hu,Go.sizeOf,typeInfo,zeroValue,hi,hz,asInt,asIntOf,hw,hn0,hfi,hne,hni,hmax,h48',hby,Question.forced,Builtin.firstCells,loadCells,loadCellsFrom,newRow,grownCap,hs,hze]
 ·cases a <;> simp [Builtin.append_,run_underlying ht,run_underlying hu,Go.sizeOf,typeInfo,zeroValue,hi,hz,asInt,asIntOf,hw,hn0,hfi,hne,hni,hmax,h48',hby,Question.forced,Builtin.firstCells,loadCells,loadCellsFrom,newRow,grownCap,hs]
  all_goals (intro h; exact absurd h (Nat.mul_ne_zero hne hs))
section
variable {E:Env} (hE:EnvOk E) {w0 w:World} {Wx:Nat→Nat→Prop} {bl:zh} {objs:List Obj}
theorem z173 {W W':Nat→Nat→Prop} {o':List Obj} {n m s:Nat} {p z':PV} {z:Value} (h:purify n objs p=some (z',o')) (hs:allB PV.scalar p.cellsL=true) (hl:p.cellsL.length=s) (hzc:z.cells.size=s)
  (hv:VR w W bl objs p z) (hv':VRf w W' z' z):Holds w W' (Builtin.zeroCells z.cells m) s (List.replicate m z'):=by
 obtain ⟨b1,b2,b3⟩:=zoz h hs hv hv'
 refine ⟨by rw [size_zeroCells,hzc]; simp,fun k q hq=>?_⟩
 rw [List.getElem?_replicate] at hq
 split at hq
 ·rename_i hk
  simp only [oJ] at hq
  subst hq
  refine ⟨b1.trans hl,b2,fun j x hx=>?_⟩
  obtain ⟨u,hu,hru⟩:=b3 j x hx
  refine ⟨u,?_,hru⟩
  have hc:=zl8.made z m
  have:=(hc.2 k z (by rw [List.getElem?_replicate,if_pos hk])).2 j (by have:=z3j hx; omega)
  rw [hzc] at this
  show (Builtin.zeroCells z.cells m)[k*s+j]?=some u
  have e:Builtin.zeroCells z.cells m=madeCells z.cells (m*s):=by rw [← hzc]; rfl
  rw [e,this]; exact hu
 ·cases hq
include hE
theorem z1gv (S:Sim w0 Wx w bl objs) (ty t:Nat) {x:PV} {vx:Value} {objs':List Obj} (hx:VR w (WT Wx bl objs) bl objs x vx)
  (h:z18g E t objs x some=some objs'):Does E w0 Wx w bl objs (Builtin.clear_ #[t] ty #[vx]) (.tuple []) objs':=by
 unfold z18g at h
 cases he:zmz E t with
 | none=>rw [he] at h; simp at h
 | some e =>
 rw [he] at h
 simp only at h
 cases hk:((E.ti e).d.known&&((E.ti e).zero.cellsL.length == (E.ti e).size)&&allB PV.scalar (E.ti e).zero.cellsL) with
 | false=>rw [hk] at h; simp at h
 | true =>
 rw [hk] at h
 simp only [Bool.not_true,cond_false] at h
 simp only [Bool.and_eq_true,beq_iff_eq] at hk
 obtain ⟨⟨hkn,hzl⟩,hzs⟩:=hk
 cases hp:purify pfuel objs (E.ti e).zero with
 | none=>rw [hp] at h; cases h
 | some y =>
 obtain ⟨z',objs1⟩:=y
 rw [hp] at h
 simp only at h
 obtain ⟨i,z,hi,hsz,hbytes,hz,hzk,hzc⟩:=zfq hE hkn
 have hzr:=(zla w (WT Wx bl objs) bl objs 1000).1 _ _ hzk
 obtain ⟨F,hzf⟩:=(z3n w0 w Wx bl pfuel).1 objs _ _ _ _ S hp hzr
 have S1:=zcq S F
 have X1:=zep (w:=w) (Wx:=Wx) (bl:=bl) F
 have hx1:=hx.mono X1
 have hu:=zkf hE he
 have hza:∀ w:World,(zeroValue e).run E.P w=.ok z w:=fun w=>by simp [zeroValue,typeInfo,hi,hz]
 have unit:∀ w',VR w' (WT Wx bl objs') bl objs' (.tuple []) (.tuple #[]):=fun w'=>.fz _ _ (.tuple _ _ rfl (fun j p hp=>by simp at hp))
 have noth:∀ (a:Option Addr) (c j u fz k:Nat) (l:List PV) (cap:Option Nat),nthD .dead objs1 j=.row u (E.ti e).size l fz cap→vx=.slice a 0 c→k≤l.length →
   objs'=setN objs1 j (.row u (E.ti e).size (l.take k++(List.replicate 0 z'++l.drop (k+0))) fz cap)→Does E w0 Wx w bl objs (Builtin.clear_ #[t] ty #[vx]) (.tuple []) objs':=by
  rintro a c j u fz k l cap ho rfl hk hobj
  have hj:=zem ho (by simp)
  have e2:objs'=objs1:=by
   rw [hobj]
   simp only [List.replicate_zero,List.nil_append,Nat.add_zero,List.take_append_drop]
   rw [← ho,z2z,z4l,List.getElem?_eq_getElem hj]; simp
  subst e2
  refine ⟨_,w,bl,?_,S1,X1,unit w⟩
  cases a <;> simp [Builtin.clear_,run_underlying hu]
 have main:∀ (j k len u fz:Nat) (l:List PV) (cap:Option Nat) (b o c:Nat),nthD .dead objs1 j=.row u (E.ti e).size l fz cap→bl[j]?=some (some (b,o))→k+len≤l.length→fz≤k →
   vx=.slice (some ⟨b,o+k*(E.ti e).size,none⟩) len c→objs'=setN objs1 j (.row u (E.ti e).size (l.take k++(List.replicate len z'++l.drop (k+len))) fz cap) →
   Does E w0 Wx w bl objs (Builtin.clear_ #[t] ty #[vx]) (.tuple []) objs':=by
  rintro j k len u fz l cap b o c ho hb hl hfz rfl rfl
  have hj:=zem ho (by simp)
  obtain ⟨cs,fr,hheap,hlen,hnf,hel⟩:=zdo S1 hj ho hb
  have hA:Holds w (WT Wx bl objs1) (Builtin.zeroCells z.cells len) (E.ti e).size (List.replicate len z'):=z173 hp hzs hzl hzc hzr hzf
  obtain ⟨h1,h2⟩:=rowset S1 hj ho hb hheap k hA (by simpa using hl) hfz
  rw [List.length_replicate] at h1 h2
  have hmul:(k+len)*(E.ti e).size≤l.length*(E.ti e).size:=Nat.mul_le_mul_right _ hl
  have hmul2:(k+len)*(E.ti e).size=k*(E.ti e).size+len*(E.ti e).size:=Nat.add_mul ..
  by_cases h0:len=0
  ·subst h0
   exact noth _ c j u fz k l cap ho rfl (by omega) (by simp)
  ·have hst:=z79 (P:=E.P) b (o+k*(E.ti e).size) (Builtin.zeroCells z.cells len).toList 0 w cs u fr hheap hnf (by
    have:=hA.1
    simp at this ⊢; omega) hA.one
   refine ⟨_,_,bl,?_,h1,X1.trans h2,unit _⟩
   obtain ⟨m,rfl⟩:∃ m,len=m+1:=⟨len-1,by omega⟩
   simp only [Builtin.clear_,Sem.run_bind,List.getElem?_toArray,List.getElem?_cons_zero,run_underlying hu,Result.andThen_ok,hza,hst,Sem.run_pure]
   rfl
 split at h
 ·rename_i j off len lim
  split at h
  case h_2=>cases h
  rename_i u s l fz cap ho
  cases hc:(s == (E.ti e).size) with
  | false=>rw [hc] at h; simp at h
  | true =>
  rw [hc] at h
  rw [beq_iff_eq] at hc
  subst hc
  simp only [cond_true] at h
  obtain ⟨hg,h⟩:=zc h
  simp only [oJ] at h
  have hfz:=zp5 hg
  cases hx1 with
  | fz _ _ h=>cases h
  | dead p v k _ hr _ hdd=>simp only [refOf,oJ] at hr; subst hr; rw [ho] at hdd; cases hdd
  | lsl k _ _ b o s' fz' c _ cap2 l2 hk ho' hb hl hc hm hm' hx' hr =>
   rw [ho] at ho'; cases ho'
   exact main j off len u fz l cap b o c ho hb hl hfz rfl h.symm
  | lslE k _ s' fz' _ cap2 l2 a hk ho' hl hm hm' hx' =>
   rw [ho] at ho'; cases ho'
   exact noth a 0 j u fz off l cap ho rfl hl h.symm
 ·rename_i j
  split at h
  case h_2=>cases h
  rename_i u s l fz cap ho
  cases hc:(s == (E.ti e).size) with
  | false=>rw [hc] at h; simp at h
  | true =>
  rw [hc] at h
  rw [beq_iff_eq] at hc
  subst hc
  simp only [cond_true] at h
  obtain ⟨hg,h⟩:=zc h
  simp only [oJ] at h
  have hfz:=zp5 hg
  cases hx1 with
  | fz _ _ h=>cases h
  | dead p v k _ hr _ hdd=>simp only [refOf,oJ] at hr; subst hr; rw [ho] at hdd; cases hdd
  | lall k b o s' fz' c l2 cap2 hk ho' hb hc hm hr =>
   rw [ho] at ho'; cases ho'
   exact main j 0 l.length u fz l cap b o c ho hb (by omega) hfz (by simp) (by rw [← h]; simp)
  | lallE k s' fz' a hk ho' hb =>
   rw [ho] at ho'; cases ho'
   exact noth a 0 j u fz 0 [] none ho rfl (by simp) (by rw [← h]; simp)
 ·cases h
theorem z127 (S:Sim w0 Wx w bl objs) (ty t u:Nat) (hu:z1ao (E.ti u).d=true) {d x p:PV} {vd vx:Value} {objs':List Obj} (hd:VR w (WT Wx bl objs) bl objs d vd) (hx:VR w (WT Wx bl objs) bl objs x vx)
  (h:ze3 E t objs d x (fun v o=>some (v,o))=some (p,objs')):Does E w0 Wx w bl objs (Builtin.append_ #[t,u] ty #[vd,vx]) p objs':=by
 unfold ze3 at h
 cases he:zmz E t with
 | none=>rw [he] at h; simp at h
 | some e =>
 rw [he] at h
 simp only at h
 cases hk:((E.ti e).d.known&&!Nat.beq (E.ti e).bytes 0&&((E.ti e).zero.cellsL.length == (E.ti e).size)&&allB PV.scalar (E.ti e).zero.cellsL) with
 | false=>rw [hk] at h; simp at h
 | true =>
 rw [hk] at h
 simp only [Bool.not_true,cond_false] at h
 simp only [Bool.and_eq_true,beq_iff_eq,Bool.not_eq_true'] at hk
 obtain ⟨⟨⟨hkn,hby⟩,hzl⟩,hzs⟩:=hk
 have hby:(E.ti e).bytes≠0:=by intro h0; rw [h0] at hby; cases hby
 cases hp:purify pfuel objs (E.ti e).zero with
 | none=>rw [hp] at h; cases h
 | some y =>
 obtain ⟨z',objs1⟩:=y
 rw [hp] at h
 simp only at h
 have main:∀ (a:Option Addr) (n:Int),vd=.slice a 0 0→VR w (WT Wx bl objs) bl objs (.int .i64 n) vx→z2o (decide (0≤n∧n*(E.ti e).bytes≤2 ^ 46)) (some (PV.lall objs1.length,objs1++[Obj.row e (E.ti e).size (List.replicate n.toNat z') 0 none]))=some (p,objs') →
   Does E w0 Wx w bl objs (Builtin.append_ #[t,u] ty #[vd,vx]) p objs':=by
  intro a n hd0 hx h
  obtain ⟨hg,h⟩:=zc h
  have hg:=of_decide_eq_true hg
  simp only [oJ,pJ] at h
  obtain ⟨rfl,rfl⟩:=h
  obtain ⟨i,z,hi,hsz,hbytes,hz,hzk,hzc⟩:=zfq hE hkn
  have hzr:=(zla w (WT Wx bl objs) bl objs 1000).1 _ _ hzk
  obtain ⟨F,hzf⟩:=(z3n w0 w Wx bl pfuel).1 objs _ _ _ _ S hp hzr
  have S1:=zcq S F
  have X1:=zep (w:=w) (Wx:=Wx) (bl:=bl) F
  have hxi:=hx.frozen_leaf trivial
  cases hxi
  subst hd0
  obtain ⟨k,hud⟩:∃ k,(E.ti u).d=.int k:=by
   cases hd:(E.ti u).d <;> rw [hd] at hu <;> simp [z1ao] at hu
   exact ⟨_,rfl⟩
  have hu':E.P.underlying u=some (.int k):=und hE hud
  have ht:=zkf hE he
  obtain ⟨m,rfl⟩:∃ m:Nat,n=(m:Int):=⟨n.toNat,by omega⟩
  rw [Int.toNat_natCast]
  by_cases hm:m=0
  ·subst hm
   have hrun:=z11y (P:=E.P) w a t u ty e k i z ht hi hz hu' 0 rfl
   refine ⟨_,w,bl++[none],hrun,z158 S1 e _,X1.trans (zpc S1 e _),?_⟩
   exact .lallE objs1.length (E.ti e).size 0 a (by simp) (z11 _ _ _) (by rw [← S1.len]; simp)
  ·have hfit:m*i.bytes≤70368744177664:=by
    have:=hg.2
    rw [← hbytes] at this
    have h2:((m*i.bytes:Nat):Int)≤70368744177664:=by rw [Int.natCast_mul]; exact this
    omega
   have hrun:=z13t (P:=E.P) w a t u ty e k i z ht hi hz hu' m (by omega) (by rw [hbytes]; exact hby) hfit (by rw [hzc,hsz])
   have hcap:=grownCap_ge w m 0 e
   have S2:=zlw S1
   have X2:=X1.trans (zea (w:=w) (Wx:=Wx) (bl:=bl) (objs:=objs1))
   have hA:Holds w.drew (WT Wx bl objs1) (Builtin.zeroCells z.cells m) (E.ti e).size (List.replicate m z'):=(z173 hp hzs hzl hzc hzr hzf).mono (zea (w:=w) (Wx:=Wx) (bl:=bl) (objs:=objs1)).keep
   have hsize:(#[]++Builtin.zeroCells z.cells m++Builtin.zeroCells z.cells (grownCap w m 0 e-m)).size=grownCap w m 0 e*(E.ti e).size:=by
    simp only [Array.size_append,size_zeroCells,hzc,Array.size_empty,Nat.zero_add]
    rw [← Nat.add_mul]
    congr 1; omega
   obtain ⟨h1,h2,h3⟩:=zvk S2 (#[]++Builtin.zeroCells z.cells m++Builtin.zeroCells z.cells (grownCap w m 0 e-m)) e (0,0) (noFz0 _) (E.ti e).size (List.replicate m z') none 0
    (by rw [hsize,List.length_replicate]; exact Nat.mul_le_mul_right _ hcap) (fun k q hq=>by
     obtain ⟨a1,a2,a3⟩:=hA.2 k q hq
     refine ⟨a1,fun j x hx=>?_⟩
     obtain ⟨v,b1,b2⟩:=a3 j x hx
     refine ⟨zk a2 x (List.mem_of_getElem? hx),v,?_,b2⟩
     have hlt:k*(E.ti e).size+j<(Builtin.zeroCells z.cells m).size:=by
      rcases Nat.lt_or_ge (k*(E.ti e).size+j) (Builtin.zeroCells z.cells m).size with h' | h'
      ·exact h'
      ·rw [Array.getElem?_eq_none h'] at b1; cases b1
     rw [Array.empty_append,Array.getElem?_append_left hlt]; exact b1)
   have h4:=h3 (grownCap w m 0 e) (by rw [List.length_replicate]; exact hcap) (by rw [hsize]; exact Nat.le_refl _) (fun m hm=>by cases hm)
   rw [List.length_replicate] at h4
   exact ⟨_,_,_,hrun,h1,X2.trans h2,h4⟩
 split at h
 ·refine main none _ ?_ hx h
  cases hd with
  | fz _ _ h=>cases h
  | sl0=>rfl
  | dead _ _ _ _ hr=>simp [refOf] at hr
 ·cases hd with
  | fz _ _ h=>cases h
  | se a=>exact main a _ rfl hx h
  | dead _ _ _ _ hr=>simp [refOf] at hr
 ·cases h
end
end Dv

namespace Dv
open Go Go.RowKit
def DoesN (E:Env) (w0:World) (Wx:Nat→Nat→Prop) (w:World) (bl:zh) (objs:List Obj) (m:Sem Next) (p:PV) (objs':List Obj):Prop :=
 ∃ nx v w' bl',m.run E.P w=.ok nx w'∧(nx=.value v∨(nx=.skip∧v=undef))∧Sim w0 Wx w' bl' objs'∧Ext w (WT Wx bl objs) bl objs w' (WT Wx bl' objs') bl' objs'∧VR w' (WT Wx bl' objs') bl' objs' p v
section
variable {E:Env} (hE:EnvOk E) {w0 w:World} {Wx:Nat→Nat→Prop} {bl:zh} {objs:List Obj}
theorem Does.next {m:Sem Value} {p:PV} {objs':List Obj} (h:Does E w0 Wx w bl objs m p objs'):DoesN E w0 Wx w bl objs (do pure (.value (← m))) p objs':=by
 obtain ⟨v,w',bl',h1,h2,h3,h4⟩:=h
 exact ⟨.value v,v,w',bl',by simp [h1],.inl rfl,h2,h3,h4⟩
theorem DoesN.here (S:Sim w0 Wx w bl objs) {m:Sem Next} {p:PV} {v:Value} (hm:m.run E.P w=.ok (.value v) w) (hv:VR w (WT Wx bl objs) bl objs p v):DoesN E w0 Wx w bl objs m p objs :=
 ⟨_,v,w,bl,hm,.inl rfl,S,Ext.refl _ _ _ _,hv⟩
theorem prel_of {T:List PV} {a:Act} {W:Nat→Nat→Prop} (hT:TRel w W bl objs T a.tmps):∀ (ps:List (Nat×Operand)),PRel w W bl objs (ps.map fun (i,x)=>(i,ev T x)) (ps.map fun (i,x)=>(i,a.eval x))
 | []=>trivial
 | (i,x)::ps=>⟨rfl,ev_rel hT x,prel_of hT ps⟩
theorem z1gz {T:List PV} {a:Act} {W:Nat→Nat→Prop} (hT:TRel w W bl objs T a.tmps) (x:Option Operand):BRel w W bl objs (x.map (ev T)) (x.map a.eval):=by
 cases x with
 | none=>trivial
 | some x=>exact ev_rel hT x
theorem zlr {T:List PV} {a:Act} {W:Nat→Nat→Prop} (hT:TRel w W bl objs T a.tmps) (xs:List Operand) (j:Nat) (p:PV) (h:(xs.map (ev T))[j]?=some p):VR w W bl objs p ((xs.map a.eval).getD j undef):=by
 rw [List.getElem?_map] at h
 cases hx:xs[j]? with
 | none=>rw [hx] at h; cases h
 | some x =>
  rw [hx] at h
  simp only [Option.map_some,oJ] at h
  subst h
  rw [List.getD_eq_getElem?_getD,List.getElem?_map,hx]
  exact ev_rel hT x
include hE
theorem op_sound (S:Sim w0 Wx w bl objs) {T:List PV} {a:Act} (hT:TRel w (WT Wx bl objs) bl objs T a.tmps) (o:Oper) {p:PV} {objs':List Obj} (h:opD E T objs o=some (p,objs')) :
  DoesN E w0 Wx w bl objs (execOp a.eval o) p objs':=by
 have R:=fun x=>ev_rel hT x
 obtain ⟨dst,op,type,guard,after,ps⟩:=o
 unfold opD opK at h
 simp only at h
 unfold execOp
 cases op <;> simp only at h ⊢ <;> first | (cases h; done) | skip
 case move x =>
  simp only [oJ,pJ] at h
  obtain ⟨rfl,rfl⟩:=h
  exact DoesN.here S rfl (R x)
 case assign x =>
  simp only [oJ,pJ] at h
  obtain ⟨rfl,rfl⟩:=h
  exact DoesN.here S rfl (R x)
 case pick c x y =>
  split at h
  case h_2=>cases h
  rename_i b hb
  have hc:=R c
  rw [hb] at hc
  have hc:=hc.frozen_leaf trivial
  generalize a.eval c=vc at hc ⊢
  cases hc
  cases b with
  | true=>simp only [cond_true,oJ,pJ] at h; obtain ⟨rfl,rfl⟩:=h; exact DoesN.here S (by simp [asBool]) (R x)
  | false=>simp only [cond_false,oJ,pJ] at h; obtain ⟨rfl,rfl⟩:=h; exact DoesN.here S (by simp [asBool]) (R y)
 case alloc t =>
  cases hk:(E.ti t).d.known with
  | false=>rw [hk] at h; simp at h
  | true=>rw [hk] at h; exact (z1h1 hE S t hk _ h).next
 case box t x =>
  cases hk:((ev T x).cellsL.length == z6c E t) with
  | false=>rw [hk] at h; simp at h
  | true=>rw [hk] at h; exact (z10s S t (R x) h).next
 case build t parts =>
  rw [zi3] at h
  obtain ⟨q,hq,h⟩:=zb h
  simp only [oJ,pJ] at h
  obtain ⟨rfl,rfl⟩:=h
  exact (z1gy hE S t (by rw [Array.toList_map]; exact prel_of hT parts.toList) hq).next
 case buildSlice t n parts=>exact (z123 hE S t n (by rw [Array.toList_map]; exact prel_of hT parts.toList) h).next
 case load t x =>
  rw [z3y] at h
  obtain ⟨q,hq,h⟩:=zb h
  simp only [oJ,pJ] at h
  obtain ⟨rfl,rfl⟩:=h
  obtain ⟨v,h1,h2⟩:=z17t hE S t (R x) hq
  exact (Does.same S h1 h2).next
 case store t x y =>
  rw [zv6] at h
  obtain ⟨q,hq,h⟩:=zb h
  simp only [oJ,pJ] at h
  obtain ⟨rfl,rfl⟩:=h
  obtain ⟨w',h1,h2,h3⟩:=z1fk hE S t (R x) (R y) hq
  exact ⟨.skip,undef,w',bl,by simp [h1],.inr ⟨rfl,rfl⟩,h2,h3,.fz _ _ (.tuple [] #[] rfl (fun j p hp=>by simp at hp))⟩
 case nilCheck x =>
  rw [z1y] at h
  obtain ⟨q,hq,h⟩:=zb h
  simp only [oJ,pJ] at h
  obtain ⟨rfl,rfl⟩:=h
  obtain ⟨rfl,b,hb⟩:=ztz (R x) hq
  have:=R x
  rw [hb] at this ⊢
  exact DoesN.here S rfl this
 case binOp bop t x y e =>
  rw [zl4] at h
  obtain ⟨q,hq,h⟩:=zb h
  simp only [oJ,pJ] at h
  obtain ⟨rfl,rfl⟩:=h
  obtain ⟨v,h1,h2⟩:=bin_sound hE (w:=w) bop t x y _ (fun hy=>by split at hy <;> first | exact ⟨_,rfl⟩ | cases hy) (R x) (R y) hq
  exact (Does.same S h1 h2).next
 case unOp uop t x =>
  rw [zwn] at h
  obtain ⟨q,hq,h⟩:=zb h
  simp only [oJ,pJ] at h
  obtain ⟨rfl,rfl⟩:=h
  obtain ⟨v,h1,h2⟩:=unK_sound (E:=E) uop _ _ _ (R x) hq
  exact (Does.same S h1 h2).next
 case convert s d x=>exact (z1lp hE S s d (R x) h).next
 case makeInterface t x =>
  have key:(∃ d,E.P.underlying t=some d∧∀ ms,d≠.interface ms)→some (PV.iface t (ev T x),objs)=some (p,objs')→DoesN E w0 Wx w bl objs (do pure (Next.value (← Instr.makeInterface t (a.eval x)))) p objs':=by
   rintro ⟨d,hu,hd⟩ h
   simp only [oJ,pJ] at h
   obtain ⟨rfl,rfl⟩:=h
   refine (Does.same S (v:=.iface t (a.eval x)) ?_ (.iface _ _ _ (R x))).next
   cases d <;> first | exact absurd rfl (hd _) | simp [Instr.makeInterface,run_underlying hu]
  have hd:=(hE.ti t).desc
  cases hdd:(E.ti t).d <;> rw [hdd] at h hd <;> simp only at h <;> first
   | (cases h; done)
   | exact key ⟨_,hd,fun ms=>by simp⟩ h
   | (obtain ⟨f,hd,_⟩:=hd; exact key ⟨_,hd,fun ms=>by simp⟩ h)
   | (obtain ⟨f,g,i,hd⟩:=hd; exact key ⟨_,hd,fun ms=>by simp⟩ h)
 case makeFunc fn first captured =>
  cases hyf:isYield fn with
  | true=>rw [hyf] at h; cases h
  | false =>
  rw [hyf] at h
  simp only [cond_false,oJ,pJ] at h
  obtain ⟨rfl,rfl⟩:=h
  refine (Does.same S (v:=.func fn (first.map a.eval) (captured.map a.eval)) rfl (.func fn _ _ _ _ (by simp) (by simp) (fun j p hp=>?_) (fun j p hp=>?_) hyf)).next
  ·have:=zlr hT first.toList j p hp
   simpa [List.getD_eq_getElem?_getD,Array.getD_eq_getD_getElem?] using this
  ·have:=zlr hT captured.toList j p hp
   simpa [List.getD_eq_getElem?_getD,Array.getD_eq_getD_getElem?] using this
 case makeSlice t l c=>exact (z14d hE S t (R l) (R c) h).next
 case slice t x lo hi mx =>
  rw [z6q] at h
  obtain ⟨q,hq,h⟩:=zb h
  simp only [oJ,pJ] at h
  obtain ⟨rfl,rfl⟩:=h
  exact (z1fp hE S t (R x) (z1gz hT lo) (z1gz hT hi) (z1gz hT mx) hq).next
 case fieldAddr t x f =>
  rw [z1h] at h
  obtain ⟨q,hq,h⟩:=zb h
  simp only [oJ,pJ] at h
  obtain ⟨rfl,rfl⟩:=h
  exact (z152 hE S t f (R x) hq).next
 case field t x f =>
  rw [zho] at h
  obtain ⟨q,hq,h⟩:=zb h
  simp only [oJ,pJ] at h
  obtain ⟨rfl,rfl⟩:=h
  exact (z1gq hE S t f (R x) hq).next
 case indexAddr t x i =>
  rw [z26] at h
  obtain ⟨q,hq,h⟩:=zb h
  simp only [oJ,pJ] at h
  obtain ⟨rfl,rfl⟩:=h
  exact (z14k hE S t (R x) (R i) hq).next
 case index t x i =>
  rw [zhj] at h
  obtain ⟨q,hq,h⟩:=zb h
  simp only [oJ,pJ] at h
  obtain ⟨rfl,rfl⟩:=h
  exact (z1gi hE S t (R x) (R i) hq).next
 case range t x =>
  split at h
  case h_2=>cases h
  rename_i s hd hs
  simp only [oJ,pJ] at h
  obtain ⟨rfl,rfl⟩:=h
  have:=R x
  rw [hs] at this
  exact (z1g4 hE S t hd this).next
 case next x st =>
  cases st with
  | false=>cases h
  | true=>exact (z1l2 S _ (R x) h).next
 case makeMap t r =>
  refine (z1aj hE S t (vr:=r.map a.eval) ?_ h).next
  cases r with
  | none=>trivial
  | some x=>exact R x
 case lookup t x i ok =>
  rw [zar] at h
  obtain ⟨q,hq,h⟩:=zb h
  simp only [oJ,pJ] at h
  obtain ⟨rfl,rfl⟩:=h
  exact (z1dq hE S t ok (R x) (R i) hq).next
 case mapUpdate t m i x =>
  rw [zbq] at h
  obtain ⟨o,ho,h⟩:=zb h
  simp only [oJ,pJ] at h
  obtain ⟨rfl,rfl⟩:=h
  obtain ⟨w',h1,h2,h3⟩:=zp2 hE S t (R m) (R i) (R x) ho
  exact ⟨.skip,undef,w',bl,by simp [h1],.inr ⟨rfl,rfl⟩,h2,h3,.fz _ _ (.tuple [] #[] rfl (fun j p hp=>by simp at hp))⟩
 case insert t m i x =>
  rw [zbq] at h
  obtain ⟨o,ho,h⟩:=zb h
  simp only [oJ,pJ] at h
  obtain ⟨rfl,rfl⟩:=h
  obtain ⟨w',h1,h2,h3⟩:=zp2 hE S t (R m) (R i) (R x) ho
  exact ⟨.skip,undef,w',bl,by simp [h1],.inr ⟨rfl,rfl⟩,h2,h3,.fz _ _ (.tuple [] #[] rfl (fun j p hp=>by simp at hp))⟩
 case typeAssert x xt at_ ok =>
  rw [zfk] at h
  obtain ⟨q,hq,h⟩:=zb h
  simp only [oJ,pJ] at h
  obtain ⟨rfl,rfl⟩:=h
  exact (z1ep hE S xt at_ ok (R x) hq).next
 case extract x i =>
  split at h
  case h_2=>cases h
  rename_i l hl
  cases hi:l[i]? with
  | none=>rw [hi] at h; cases h
  | some q =>
  rw [hi] at h
  simp only [oJ,pJ] at h
  obtain ⟨rfl,rfl⟩:=h
  have hx:=R x
  rw [hl] at hx
  have key:∀ cs:Array Value,l.length=cs.size→(∀ (j:Nat) (q:PV),l[j]?=some q→VR w (WT Wx bl objs) bl objs q (cs.getD j undef))→a.eval x=.tuple cs→DoesN E w0 Wx w bl objs (do pure (Next.value (← Instr.extract (a.eval x) i))) q objs:=by
   intro cs h1 h2 h3
   have hlt:i<cs.size:=by rw [← h1]; exact z3j hi
   have h4:=h2 i q hi
   have h5:cs.getD i undef=cs[i]:=by simp [Array.getD_eq_getD_getElem?,hlt]
   rw [h5] at h4
   refine (Does.same S (v:=cs[i]) ?_ h4).next
   rw [h3]
   simp [Instr.extract,hlt]
  generalize hv:a.eval x=v at hx
  cases hx with
  | fz _ _ h=>cases h with | tuple _ cs h1 h2=>rw [← hv]; exact key cs h1 (fun j q hq=>.fz _ _ (h2 j q hq)) hv
  | tuple _ cs h1 h2=>rw [← hv]; exact key cs h1 h2 hv
  | dead _ _ _ _ hr=>simp [refOf] at hr
 case call c =>
  obtain ⟨callee,args,argTypes⟩:=c
  cases callee with
  | value f=>cases h
  | invoke r name=>cases h
  | builtin b =>
   have go:∀ (m:Sem Value),Does E w0 Wx w bl objs m p objs'→(∀ consts,builtin b argTypes type consts (args.map a.eval)=do pure (.value (← m))) →
     DoesN E w0 Wx w bl objs (do let d ← resolve a.eval { callee:=.builtin b,args,argTypes } type; invoke d.target d.args) p objs':=by
    intro m hm hb
    obtain ⟨nx,v,w',bl',h1,h2⟩:=hm.next
    refine ⟨nx,v,w',bl',?_,h2⟩
    simp only [resolve,Sem.run_bind,Sem.run_pure,Result.andThen_ok,invoke]
    rw [hb]; exact h1
   cases b <;> simp only at h <;> first | (cases h; done) | skip
   case len =>
    split at h
    case h_2=>cases h
    rename_i x t ts hx ht
    rw [zeo] at h
    obtain ⟨q,hq,h⟩:=zb h
    simp only [oJ,pJ] at h
    obtain ⟨rfl,rfl⟩:=h
    have hargs:args=#[x]:=by apply Array.ext'; rw [hx]
    have h0:argTypes[0]?=some t:=by rw [← Array.getElem?_toList,ht]; rfl
    refine go _ (len_sound hE S t type argTypes h0 (R x) hq) (fun consts=>?_)
    rw [hargs,show Array.map a.eval #[x]=#[a.eval x] by simp]; rfl
   case cap =>
    split at h
    case h_2=>cases h
    rename_i x t ts hx ht
    rw [zl3] at h
    obtain ⟨q,hq,h⟩:=zb h
    simp only [oJ,pJ] at h
    obtain ⟨rfl,rfl⟩:=h
    have hargs:args=#[x]:=by apply Array.ext'; rw [hx]
    have h0:argTypes[0]?=some t:=by rw [← Array.getElem?_toList,ht]; rfl
    refine go _ (cap_sound hE S t type argTypes h0 (R x) hq) (fun consts=>?_)
    rw [hargs,show Array.map a.eval #[x]=#[a.eval x] by simp]; rfl
   case append =>
    split at h
    case h_2=>cases h
    rename_i d x t u hx ht
    have hargs:args=#[d,x]:=by apply Array.ext'; rw [hx]
    have hts:argTypes=#[t,u]:=by apply Array.ext'; rw [ht]
    cases hu:(E.ti u).d.isRow with
    | false =>
     rw [hu] at h
     simp only [cond_false] at h
     cases hi:z1ao (E.ti u).d with
     | false=>rw [hi] at h; simp at h
     | true =>
     rw [hi] at h
     simp only [cond_true] at h
     refine go _ (z127 hE S type t u hi (R d) (R x) h) (fun consts=>?_)
     rw [hargs,hts,show Array.map a.eval #[d,x]=#[a.eval d,a.eval x] by simp]; rfl
    | true =>
    rw [hu] at h
    simp only [cond_true] at h
    refine go _ (z1es hE S type hu (R d) (R x) h) (fun consts=>?_)
    rw [hargs,hts,show Array.map a.eval #[d,x]=#[a.eval d,a.eval x] by simp]; rfl
   case copy =>
    split at h
    case h_2=>cases h
    rename_i d x t u hx ht
    split at h
    case h_2=>cases h
    rename_i el hel
    cases hkn:(E.ti el).d.known with
    | false=>rw [hkn] at h; cases h
    | true =>
    rw [hkn] at h
    simp only [cond_true] at h
    rw [zzt] at h
    obtain ⟨q,hq,h⟩:=zb h
    simp only [oJ,pJ] at h
    obtain ⟨rfl,rfl⟩:=h
    have hargs:args=#[d,x]:=by apply Array.ext'; rw [hx]
    have hts:argTypes=#[t,u]:=by apply Array.ext'; rw [ht]
    refine go _ (z1lo hE S type argTypes (by rw [hts]; rfl) hel hkn (R d) (R x) hq) (fun consts=>?_)
    rw [hargs,show Array.map a.eval #[d,x]=#[a.eval d,a.eval x] by simp]; rfl
   case clear =>
    split at h
    case h_2=>cases h
    rename_i x t hx ht
    rw [zw2] at h
    obtain ⟨o',hq,h⟩:=zb h
    simp only [oJ,pJ] at h
    obtain ⟨rfl,rfl⟩:=h
    have hargs:args=#[x]:=by apply Array.ext'; rw [hx]
    have hts:argTypes=#[t]:=by apply Array.ext'; rw [ht]
    refine go _ (z1gv hE S type t (R x) hq) (fun consts=>?_)
    rw [hargs,hts,show Array.map a.eval #[x]=#[a.eval x] by simp]; rfl
   case max =>
    rw [zsd] at h
    obtain ⟨q,hq,h⟩:=zb h
    simp only [oJ,pJ] at h
    obtain ⟨rfl,rfl⟩:=h
    have:=z1in (E:=E) S true argTypes type (vs:=args.toList.map a.eval) (by simp) (fun j q hq=>zlr hT args.toList j q hq) hq
    refine go _ this (fun consts=>?_)
    simp only [if_true]
    rw [show args.map a.eval=(args.toList.map a.eval).toArray by apply Array.ext'; simp]; rfl
   case min =>
    rw [zsd] at h
    obtain ⟨q,hq,h⟩:=zb h
    simp only [oJ,pJ] at h
    obtain ⟨rfl,rfl⟩:=h
    have:=z1in (E:=E) S false argTypes type (vs:=args.toList.map a.eval) (by simp) (fun j q hq=>zlr hT args.toList j q hq) hq
    refine go _ this (fun consts=>?_)
    simp only [Bool.false_eq_true,if_false]
    rw [show args.map a.eval=(args.toList.map a.eval).toArray by apply Array.ext'; simp]; rfl
end
end Dv

namespace Dv
open Go Go.RowKit
section
variable {P:Program} (w:World)
theorem z1du {e:TypeId} (hc:P.cellsOf e=1) (count o n:Nat) (hn:o+n≤count):liesAt P P.depth e count o e n=true:=by
 have hd:P.depth=(2*(P.types.size+Made.depth)+1)+1:=rfl
 rw [hd]
 simp only [liesAt,Bool.or_eq_true]
 left
 rw [hd]
 simp [rowAt,hc,hn,sameLayout,Nat.mod_one]
theorem ztv:∀ (l:List Int) (a:Addr) (acc:ByteArray),(∀ j m,l[j]?=some m→w.cell? (a.add j)=some (.int .u8 m)) →
  (loadBytes a acc l.length).run P w=.ok ⟨acc.data++(l.map fun m=>UInt8.ofNat m.toNat).toArray⟩ w
 | [],a,acc,_=>by simp [loadBytes]
 | x::l,a,acc,h=>by
  have h0:w.cell? a=some (.int .u8 x):=by
   have:=h 0 x rfl
   simpa [Addr.add] using this
  have ih:=ztv l (a.add 1) (acc.push (UInt8.ofNat x.toNat)) (fun j y hy=>by
   have:=h (j+1) y (by simpa using hy)
   have e:(a.add 1).add j=a.add (j+1):=by
    unfold Addr.add
    by_cases hj:j=0
    ·subst hj; simp
    ·simp [hj]; omega
   rw [e]; exact this)
  have hx:x.toNat.toUInt8=UInt8.ofNat x.toNat:=rfl
  simp only [List.length_cons,loadBytes,Sem.run_bind,run_load,h0,Result.andThen,hx]
  rw [ih]
  congr 1
  apply ByteArray.ext
  simp [ByteArray.push]
theorem zvg (pt it ty e:TypeId) (hp:P.underlying pt=some (.pointer e)) (hc:P.cellsOf e=1) (g o cells:Nat) (hsh:w.shape? g=some (e,cells)) (l:List Int) (h0:l≠[]) (hn:o+l.length≤cells) (h63:l.length≤9223372036854775807)
  (hcell:∀ j x,l[j]?=some x→w.cell? ((⟨g,o,none⟩:Addr).add j)=some (.int .u8 x)) :
  (Builtin.unsafeString_ #[pt,it] ty #[.pointer (some ⟨g,o,none⟩),.int .i64 l.length]).run P w=.ok (.string ⟨(l.map fun m=>UInt8.ofNat m.toNat).toArray⟩) (w.freeze ⟨g,o,none⟩ l.length):=by
 have hl:l.length≠0:=by simpa using h0
 have hlb:=ztv (P:=P) w l ⟨g,o,none⟩ .empty hcell
 have hlies:=z1du (P:=P) hc (cells / P.cellsOf e) o l.length (by rw [hc]; simpa using hn)
 have h63':¬ (9223372036854775807:Int)<(l.length:Int):=by omega
 obtain ⟨msg,hdef⟩:∃ msg:String,Builtin.unsafeString_ #[pt,it] ty #[.pointer (some ⟨g,o,none⟩),.int .i64 l.length] =
   (do
    let n ← asInt (.int .i64 l.length)
    if n<0 then runtimePanic (.error msg)
    if n > IntKind.i64.max then unsupported (.unsafePointer "String: a length above the largest int")
    if n=0 then pure (.string .empty)
    else if ← variablesAt ⟨g,o,none⟩ (← elemOf pt) n.toNat then do
     let s ← loadBytes ⟨g,o,none⟩ .empty n.toNat
     freeze ⟨g,o,none⟩ n.toNat
     pure (.string s)
    else unsupported (.unsafePointer "String: not so many bytes at ptr")) := ⟨_, rfl⟩
 rw [hdef]
 have hmax:IntKind.i64.max=9223372036854775807:=rfl
 have hneg:¬ (l.length:Int)<0:=by omega
 simp [asInt,asIntOf,hmax,h63',hneg,hl,variablesAt,hsh,elemOf,run_underlying hp,hlies,hlb]
end
theorem freeze_heap (w:World) (a:Addr) (n k:Nat):(w.freeze a n).heap[k]?=w.heap[k]?∨∃ cs e fr fr',w.heap[k]?=some (.cells cs e fr)∧(w.freeze a n).heap[k]?=some (.cells cs e fr')∧k=a.block:=by
 unfold World.freeze
 split
 ·exact .inl rfl
 ·simp only [Array.getElem?_modify]
  by_cases hk:a.block=k
  ·subst hk
   simp only [if_true]
   cases h:w.heap[a.block]? with
   | none=>exact .inl rfl
   | some o =>
    cases o with
    | cells cs e fr=>obtain ⟨lo,hi⟩:=fr; exact .inr ⟨cs,e,_,_,rfl,rfl,trivial⟩
    | _=>exact .inl rfl
  ·rw [if_neg hk]; exact .inl rfl
theorem freeze_ne (w:World) (a:Addr) (n k:Nat) (h:k≠a.block):(w.freeze a n).heap[k]?=w.heap[k]?:=by
 rcases freeze_heap w a n k with h1 | ⟨_,_,_,_,_,_,h1⟩
 ·exact h1
 ·exact absurd h1 h
theorem z1gm (w:World) (a:Addr) (n:Nat):(w.freeze a n).heap.size=w.heap.size:=by
 unfold World.freeze
 split
 ·rfl
 ·simp
theorem z1gn (w:World) (a:Addr) (n b x:Nat):(w.freeze a n).cell? ⟨b,x,none⟩=w.cell? ⟨b,x,none⟩:=by
 unfold World.cell?
 rcases freeze_heap w a n b with h | ⟨cs,e,fr,fr',h1,h2,_⟩
 ·simp only [h]
 ·simp only [h1,h2]
section
variable {w0 w:World} {Wx:Nat→Nat→Prop} {bl:zh} {objs:List Obj}
theorem z180 (i b o n:Nat):Ext w (WT Wx bl objs) bl objs (w.freeze ⟨b,o,none⟩ n) (WT Wx bl (setN objs i .dead)) bl (setN objs i .dead) where
 keep:=⟨fun c x v hv hw=>⟨by rw [z1gn]; exact hv,fun h=>hw (h.imp id z15s)⟩,fun c es k hv hw=>by
  refine ⟨?_,fun h=>hw (h.imp id z15s)⟩
  rcases freeze_heap w ⟨b,o,none⟩ n c with h | ⟨cs',e',fr1,fr',h1,h2,_⟩
  ·exact h.trans hv
  ·rw [hv] at h1; cases h1⟩
 len:=by simp
 obj:=(ziv (w:=w) (Wx:=Wx) (bl:=bl) (objs:=objs) i).obj
 room:=by
  rintro c m ⟨cs,e,fr,hh,hm⟩
  rcases freeze_heap w ⟨b,o,none⟩ n c with h | ⟨cs',e',fr1,fr',h1,h2,_⟩
  ·exact ⟨cs,e,fr,h.trans hh,hm⟩
  ·rw [hh] at h1; cases h1; exact ⟨cs,e,fr',h2,hm⟩
theorem z1li (S:Sim w0 Wx w bl objs) {i b o:Nat} (hi:alive objs i) (hb:bl[i]?=some (some (b,o))) (n:Nat):Sim w0 Wx (w.freeze ⟨b,o,none⟩ n) bl (setN objs i .dead) where
 below:=Lib.below_freeze S.below (p:=⟨b,o,none⟩) (S.own i b o hb).1 n
 len:=by simp [S.len]
 own:=fun j c x h=>by rw [z1gm]; exact S.own j c x h
 inj:=fun j k c x x' hj hk aj ak=>S.inj j k c x x' hj hk (zl6 aj).1 (zl6 ak).1
 obj:=by
  intro j hj
  by_cases hij:i=j
  ·subst hij; exact ORel.of_dead (z8 _ _ _ _ (by simpa using hj))
  ·by_cases haj:alive objs j
   ·refine (S.obj j (by simpa using hj)).keep (z180 i b o n) (by rw [zd _ _ _ _ _ hij]; exact sameO.refl _) rfl (fun c x hc=>freeze_ne _ _ _ _ (fun hcb=>?_))
    simp only at hcb
    subst hcb
    exact hij (S.inj i j c o x hb hc hi haj)
   ·exact ORel.of_dead (by rw [zd _ _ _ _ _ hij]; exact zvx haj)
 wx:=S.wx
end
theorem z11x {P:Program} (w:World) {tp te:TypeId} {j:TypeInfo} (a:Addr) (hp:P.underlying tp=some (.pointer te)) (hte:P.info? te=some j) :
  (binOp .eql tp (.pointer (some a)) (.pointer (some a))).run P w=.ok (.bool true) w:=by
 have h:∀ d:Nat,(Op.equalIn (d+1) tp (.pointer (some a)) (.pointer (some a))).run P w=.ok true w:=fun d=>by
  simp [Op.equalIn,run_underlying hp,Go.sizeOf,typeInfo,hte,run_sameAddr_same]
 simp only [binOp]
 simp [Op.equal,Op.maxDepth,h 9999]
theorem z1d9 {E:Env} {T:List PV} {objs objs':List Obj} {neg:Bool} {t:Nat} {x y:Operand} {p:PV} {e:Nat} (h:specD E T objs (.peq neg t x y)=some (p,objs')) (hd:(E.ti t).d=.ptr e) :
  ∃ i k,(ev T x=.ptr i k∧∃ e l f,nthD .dead objs i=.cells e l f)∧ev T y=.ptr i k∧p=.bool (!neg)∧objs'=objs∧(E.ti e).d.known=true:=by
 simp only [specD,specK] at h
 split at h
 case h_2=>cases h
 rename_i i k j k' hx hy
 rw [hd] at h
 split at h
 case h_2=>cases h
 rename_i e' l f ee ho he
 cases he
 cases hc:((i == j)&&(k == k')&&(E.ti e).d.known) with
 | false=>rw [hc] at h; cases h
 | true =>
 rw [hc] at h
 simp only [cond_true,oJ,pJ] at h
 simp only [Bool.and_eq_true,beq_iff_eq] at hc
 obtain ⟨⟨rfl,rfl⟩,hk⟩:=hc
 exact ⟨i,k,⟨hx,e',l,f,ho⟩,hy,h.1.symm,h.2.symm,hk⟩
theorem z1i8 {w0 w:World} {Wx:Nat→Nat→Prop} {bl:zh} {objs:List Obj} (S:Sim w0 Wx w bl objs) {T:List PV} {a:Act} (hT:TRel w (WT Wx bl objs) bl objs T a.tmps) {i k:Nat} {x y:Operand}
  (hx:ev T x=.ptr i k∧∃ e l f,nthD .dead objs i=.cells e l f) (hy:ev T y=.ptr i k):∃ ad,a.eval x=.pointer (some ad)∧a.eval y=.pointer (some ad):=by
 obtain ⟨hx,e,l,f,ho⟩:=hx
 have h1:=ev_rel hT x
 have h2:=ev_rel hT y
 rw [hx] at h1; rw [hy] at h2
 have key:∀ v,VR w (WT Wx bl objs) bl objs (.ptr i k) v→∃ b o,bl[i]?=some (some (b,o))∧v=.pointer (some ⟨b,o+k,none⟩):=by
  intro v hv
  cases hv with
  | fz _ _ h=>cases h
  | dead p v k _ hr _ hdd=>simp only [refOf,oJ] at hr; subst hr; rw [ho] at hdd; cases hdd
  | ptr _ _ b o hi hb=>exact ⟨b,o,hb,rfl⟩
 obtain ⟨b,o,hb,e1⟩:=key _ h1
 obtain ⟨b',o',hb',e2⟩:=key _ h2
 rw [hb] at hb'
 simp at hb'
 obtain ⟨rfl,rfl⟩:=hb'
 exact ⟨_,e1,e2⟩
section
variable {E:Env} (hE:EnvOk E) {w0 w:World} {Wx:Nat→Nat→Prop} {bl:zh} {objs:List Obj}
omit hE in
theorem run_ext {E:Env} {g:Nat} {e:Array Value→Sem Value} (h:ExtAt E g e) (args:Array Value) (w:World):(callFunc g args).run E.P w=((e args).run E.P w).andThen fun v w'=>.ok (.value v) w':=by
 obtain ⟨fn,h1,h2,h3,h4,h5⟩:=h.at_
 exact run_callFunc_extern h1 h2 h3 h4 h5 args w
include hE
theorem z17g (S:Sim w0 Wx w bl objs) {T:List PV} {a:Act} (hT:TRel w (WT Wx bl objs) bl objs T a.tmps) (o:Oper) {s:Spec} (hs:z2a E o.op=some s) {p:PV} {objs':List Obj} (h:specD E T objs s=some (p,objs')) :
  DoesN E w0 Wx w bl objs (execOp a.eval o) p objs':=by
 obtain ⟨dst,op,type,guard,after,ps⟩:=o
 simp only at hs
 unfold z2a at hs
 split at hs
 ·
  rename_i g args ats
  split at hs
  case h_2=>cases hs
  rename_i x hx
  obtain ⟨l⟩:=args
  simp only at hx
  subst hx
  have hrun:∀ {e:Array Value→Sem Value},ExtAt E g e→(execOp a.eval (⟨dst,.call ⟨.value (.func g),#[x],ats⟩,type,guard,after,ps⟩:Oper)).run E.P w=((e #[a.eval x]).run E.P w).andThen fun v w'=>.ok (.value v) w':=by
   intro e he
   simp only [execOp,resolve,Sem.run_bind,Act.eval,Deferred.ofValue,Sem.run_pure,Result.andThen_ok,invoke]
   have:=run_ext he #[a.eval x] w
   simpa [Act.eval] using this
  cases hm:memN g E.same with
  | true =>
   rw [hm] at hs
   simp only [cond_true,oJ] at hs
   subst hs
   simp only [specD,specK,oJ,pJ] at h
   obtain ⟨rfl,rfl⟩:=h
   refine DoesN.here S (v:=a.eval x) ?_ (ev_rel hT x)
   rw [hrun (hE.same g hm)]
   rfl
  | false =>
   rw [hm] at hs
   simp only [cond_false] at hs
   split at hs
   case h_2=>cases hs
   rename_i e he
   simp only [oJ] at hs
   subst hs
   simp only [specD,specK] at h
   split at h
   case h_2=>cases h
   rename_i n hx
   obtain ⟨hg,h⟩:=zc h
   simp only [oJ,pJ] at h
   obtain ⟨rfl,rfl⟩:=h
   obtain ⟨h0,h1⟩:=of_decide_eq_true hg
   have hv:=ev_rel hT x
   rw [hx] at hv
   have hv:=hv.frozen_leaf trivial
   have hxe:a.eval x=.int .i64 n:=by generalize a.eval x=v at hv; cases hv; rfl
   obtain ⟨pts,t,hu,hext⟩:=hE.mnz g e he
   obtain ⟨cs,hcs,hn,_⟩:=Lib.run_makeNoZero (P:=E.P) w pts t e hu n.toNat (by omega)
   rw [Int.toNat_of_nonneg h0] at hcs
   have S2:=zlw (zlw S)
   have X2:=(zea (w:=w) (Wx:=Wx) (bl:=bl) (objs:=objs)).trans (zea (w:=w.drew) (Wx:=Wx) (bl:=bl) (objs:=objs))
   obtain ⟨s1,s2,_⟩:=zvk S2 cs e (0,0) (noFz0 _) 1 [] none 0 (by simp) (fun k q hq=>by simp at hq)
   refine ⟨.value (.slice (some ⟨w.heap.size,0,none⟩) n.toNat cs.size),_,_,_,?_,.inl rfl,s1,X2.trans s2,?_⟩
   ·rw [hrun hext,hxe,hcs]; rfl
   ·exact .raw objs.length n.toNat w.heap.size 0 0 cs.size (by simp) (z11 _ _ _) (by rw [← S.len]; simp) hn ⟨cs,e,(0,0),new_heap _ _,by omega⟩
 ·
  rename_i args ats
  split at hs
  case h_2=>cases hs
  rename_i x hx
  obtain ⟨l⟩:=args
  simp only at hx
  subst hx
  simp only [oJ] at hs
  subst hs
  simp only [specD,specK] at h
  have hv:=ev_rel hT x
  split at h
  ·rename_i hx
   simp only [oJ,pJ] at h
   obtain ⟨rfl,rfl⟩:=h
   rw [hx] at hv
   refine DoesN.here S (v:=.pointer none) ?_ (.fz _ _ .nilp)
   have hxe:a.eval x=.slice none 0 0:=by
    generalize a.eval x=v at hv
    cases hv with
    | fz _ _ h=>cases h
    | sl0=>rfl
    | dead p v i _ hr=>simp [refOf] at hr
   simp [execOp,resolve,invoke,builtin,hxe,Lib.run_unsafeSliceData_nil]
  ·rename_i i hx
   split at h
   case h_2=>cases h
   rename_i e s l fz cap ho
   cases hn:isNilL l with
   | true=>rw [hn] at h; cases h
   | false =>
   rw [hn] at h
   simp only [cond_false,oJ,pJ] at h
   obtain ⟨rfl,rfl⟩:=h
   rw [hx] at hv
   have hl0:l≠[]:=by rintro rfl; cases hn
   have hxe:∃ b o' c,a.eval x=.slice (some ⟨b,o',none⟩) l.length c∧l.length≤c∧i<objs.length∧bl[i]?=some (some (b,o')):=by
    generalize a.eval x=v at hv
    cases hv with
    | fz _ _ h=>cases h
    | dead p v k _ hr _ hdd=>simp only [refOf,oJ] at hr; subst hr; rw [ho] at hdd; cases hdd
    | lall _ b o' s' fz' c l' cap' hi ho' hb hc hm hr=>rw [ho] at ho'; cases ho'; exact ⟨b,o',c,rfl,hc,hi,hb⟩
    | lallE _ s' fz' a' hi ho' hb=>rw [ho] at ho'; cases ho'; exact absurd rfl hl0
   obtain ⟨b,o',c,hxe,hc,hi,hb⟩:=hxe
   have hpos:=List.length_pos_iff.2 hl0
   refine DoesN.here S (v:=.pointer (some ⟨b,o',none⟩)) ?_ ?_
   ·simp [execOp,resolve,invoke,builtin,hxe,Lib.run_unsafeSliceData_row w _ _ _ _ c (by omega)]
   ·have:=VR.rptr (w:=w) (W:=WT Wx bl objs) i 0 0 b o' s fz l cap hi ho hb
    simpa using this
  ·cases h
 ·
  rename_i args ats
  split at hs
  case h_2=>cases hs
  rename_i pp nn tt tu ha hat
  obtain ⟨l⟩:=args
  obtain ⟨l2⟩:=ats
  simp only at ha hat
  subst ha; subst hat
  split at hs
  case h_2=>cases hs
  rename_i u hd
  simp only [oJ] at hs
  subst hs
  simp only [specD,specK] at h
  have hvp:=ev_rel hT pp
  have hvn:=ev_rel hT nn
  split at h
  ·rename_i n hp hn
   obtain ⟨hg,h⟩:=zc h
   simp only [oJ,pJ] at h
   obtain ⟨rfl,rfl⟩:=h
   have hg:=of_decide_eq_true hg
   subst hg
   rw [hp] at hvp; rw [hn] at hvn
   have hvp:=hvp.frozen_leaf trivial
   have hvn:=hvn.frozen_leaf trivial
   have e1:a.eval pp=.pointer none:=by generalize a.eval pp=v at hvp; cases hvp; rfl
   have e2:a.eval nn=.int .i64 0:=by generalize a.eval nn=v at hvn; cases hvn; rfl
   refine DoesN.here S (v:=.string .empty) ?_ (.fz _ _ (VRf.str []))
   simp [execOp,resolve,invoke,builtin,e1,e2,Lib.run_unsafeString_none]
  ·rename_i i n hp hn
   split at h
   case h_2=>cases h
   rename_i e l fz cap ho
   cases hc:((e == u)&&(E.ti u).d.known&&((E.ti u).size == 1)&&!isNilL l) with
   | false=>rw [hc] at h; cases h
   | true =>
   rw [hc] at h
   simp only [cond_true] at h
   simp only [Bool.and_eq_true,beq_iff_eq,Bool.not_eq_true'] at hc
   obtain ⟨⟨⟨rfl,hkn⟩,hsz⟩,hnil⟩:=hc
   obtain ⟨hg,h⟩:=zc h
   obtain ⟨hg,hg63⟩:=of_decide_eq_true hg
   obtain ⟨str,hstr,h⟩:=zb h
   simp only [oJ,pJ] at h
   obtain ⟨rfl,rfl⟩:=h
   subst hg
   have hl0:l≠[]:=by rintro rfl; cases hnil
   rw [hp] at hvp; rw [hn] at hvn
   have hvn:=hvn.frozen_leaf trivial
   have e2:a.eval nn=.int .i64 (l.length:Nat):=by generalize a.eval nn=v at hvn; cases hvn; rfl
   have hxe:∃ b o',a.eval pp=.pointer (some ⟨b,o',none⟩)∧i<objs.length∧bl[i]?=some (some (b,o')):=by
    generalize a.eval pp=v at hvp
    cases hvp with
    | fz _ _ h=>cases h
    | dead p v k _ hr _ hdd=>simp only [refOf,oJ] at hr; subst hr; rw [ho] at hdd; cases hdd
    | rptr _ _ _ b o' s' fz' l' cap' hi ho' hb=>rw [ho] at ho'; cases ho'; exact ⟨b,o',by simp,hi,hb⟩
   obtain ⟨b,o',e1,hi,hb⟩:=hxe
   obtain ⟨cs,fr,hheap,hlen,_,hel⟩:=zdo S hi ho hb
   obtain ⟨ns,rfl,rfl⟩:=zq5 hstr
   obtain ⟨i',z,hi',hsz',_⟩:=zfq hE hkn
   have hco:E.P.cellsOf e=1:=by
    unfold Program.cellsOf
    rw [hi']; simp [hsz',hsz]
   have hu:E.P.underlying tt=some (.pointer e):=und hE hd
   have hcells:∀ (j:Nat) (m:Int),ns[j]?=some m→w.cell? ((⟨b,o',none⟩:Addr).add j)=some (.int .u8 m):=by
    intro j m hnj
    obtain ⟨_,h2⟩:=hel j (.int .u8 m) (by rw [List.getElem?_map,hnj]; rfl)
    obtain ⟨_,v,h3,h4⟩:=h2 0 (.int .u8 m) rfl
    cases h4
    have hadd:(⟨b,o',none⟩:Addr).add j=⟨b,o'+j,none⟩:=by
     unfold Addr.add
     split
     ·rename_i h0; simp [h0]
     ·rfl
    rw [hadd]
    unfold World.cell?
    simp only [hheap]
    simpa using h3
   have hlen2:(ns.map (PV.int .u8)).length=ns.length:=by simp
   rw [hlen2] at e2 hlen hg63
   have hrun:=zvg (P:=E.P) w tt tu type e hu hco b o' cs.size (by simp [World.shape?,hheap]) ns (by simpa using hl0) (by simpa using hlen) (by omega) hcells
   have hal:alive objs i:=by unfold alive; rw [ho]; trivial
   refine ⟨.value _,_,w.freeze ⟨b,o',none⟩ ns.length,bl,?_,.inl rfl,z1li S hal hb _,z180 i b o' _,.fz _ _ (VRf.str _)⟩
   simp only [execOp,resolve,Sem.run_bind,Sem.run_pure,Result.andThen_ok,invoke,builtin,List.map_toArray,List.map_cons,List.map_nil,e1,e2,hrun]
  ·cases h
 ·
  rename_i t x y yt
  split at hs
  case h_2=>cases hs
  rename_i e hd
  simp only [oJ] at hs
  subst hs
  obtain ⟨i,k,hx,hy,rfl,rfl,hkn⟩:=z1d9 h hd
  obtain ⟨ad,e1,e2⟩:=z1i8 S hT hx hy
  have hu:E.P.underlying t=some (.pointer e):=und hE hd
  obtain ⟨i',z,hi',_⟩:=zfq hE hkn
  refine DoesN.here S (v:=.bool true) ?_ (.fz _ _ (.bool _))
  have:=z11x (P:=E.P) w (tp:=t) (te:=e) ad hu hi'
  simp only [execOp,Act.eval] at e1 e2 ⊢
  rw [e1,e2]
  simp [eqGuard,this]
 ·
  rename_i t x y yt
  split at hs
  case h_2=>cases hs
  rename_i e hd
  simp only [oJ] at hs
  subst hs
  obtain ⟨i,k,hx,hy,rfl,rfl,hkn⟩:=z1d9 h hd
  obtain ⟨ad,e1,e2⟩:=z1i8 S hT hx hy
  have hu:E.P.underlying t=some (.pointer e):=und hE hd
  obtain ⟨i',z,hi',_⟩:=zfq hE hkn
  refine DoesN.here S (v:=.bool false) ?_ (.fz _ _ (.bool _))
  have:=Lib.run_neq_ptr_same (P:=E.P) w (tp:=t) (te:=e) ad hu hi'
  simp only [execOp,Act.eval] at e1 e2 ⊢
  rw [e1,e2]
  simp [eqGuard,this]
 ·cases hs
end
end Dv

namespace Dv
open Go Go.RowKit
theorem zs6 (c:Conf):sharp c=c:=by
 unfold sharp
 cases slotOf c with
 | none=>rfl
 | some s =>
  simp only
  cases h:nthD .undef c.T s <;> try rfl
  rename_i b
  simp only
  have:setN c.T s (.bool b)=c.T:=by
   rw [z2z]
   apply List.ext_getElem?
   intro j
   by_cases hj:s=j
   ·subst hj
    rw [z4l] at h
    cases hs:c.T[s]? with
    | none=>rw [hs] at h; cases h
    | some p =>
     rw [hs] at h
     simp only [Option.getD_some] at h
     rw [List.getElem?_set_self (z3j hs),h]
   ·rw [List.getElem?_set_ne hj]
  rw [this]
def guardOf (T:List PV) (ops:Array Oper) (o:Oper):Option Bool :=
 match o.guard with
 | none=>some true
 | some (j,want) =>
  match (ops[j]?).bind (·.dst) with
  | none=>some false
  | some d=>match nthD .undef T d with
   | .bool true=>some want
   | .bool false=>some (!want)
   | .tuple _=>some false
   | _=>none
def askR (C:Orc) (a:Option Ask):Option (PV×List Obj):=a.bind fun k=>(C k.tis k.f k.args).map fun v=>(zk3 k.tis v,k.objs)
def execP (E:Env) (C:Orc) (T:List PV) (objs:List Obj) (o:Oper):Option (PV×List Obj) :=
 match o.op with
 | .call { callee:=.value f,args,.. }=>askR C (callAsk E o.type (ev T f) (args.toList.map (ev T)) objs)
 | .call { callee:=.invoke r name,args,.. }=>match ev T r with
  | .iface u v=>match findM u name E.mt with
   | some g=>askR C (callAsk E o.type (.func (.func g) [] []) (v::args.toList.map (ev T)) objs)
   | none=>none
  | _=>none
 | _=>opD E T objs o
def execD (E:Env) (C:Orc) (T:List PV) (objs:List Obj) (o:Oper):Option (PV×List Obj):=match z2a E o.op with | some s=>specD E T objs s | none=>execP E C T objs o
abbrev RSt:=List PV×List Obj
def oneR (E:Env) (C:Orc) (ops:Array Oper) (i:Nat) (s:RSt):Option RSt :=
 match ops[i]? with
 | none=>some s
 | some o=>(guardOf s.1 ops o).bind fun b=>bif b then (execD E C s.1 s.2 o).map fun p=>(putT s.1 o.dst p.1,p.2) else some (putT s.1 o.dst (.tuple []),s.2)
def z8z (E:Env) (C:Orc) (ops:Array Oper):List Nat→RSt→Option RSt
 | [],s=>some s
 | i::is,s=>(oneR E C ops i s).bind (z8z E C ops is)
section
variable {E:Env}
theorem askD_go {C:Orc} {R:Type} (c:Conf) (ops:Array Oper) (is:List Nat) (t:List Item) (o:Oper) (f:PV) (args:List PV) (k:Conf→Option R) (kd:PV→Option R) :
  (askD E c ops is t o f args).bind (Out.go C k kd)=(askR C (callAsk E o.type f args c.objs)).bind fun p=>k { c with T:=putT c.T o.dst p.1,todo:=.inRegion ops is::t,objs:=p.2 }:=by
 unfold askD askR
 cases callAsk E o.type f args c.objs with
 | none=>rfl
 | some a =>
  simp only [oB,Out.go]
  cases C a.tis a.f a.args <;> rfl
theorem zsa {fn:Nat}:∀ {l:List (Nat×Nat)},allB (fun p=>!(p.1 == fn)) l=true→∀ g,mem2 fn g l=false
 | [],_,g=>rfl
 | (x,y)::l,h,g=>by
  simp only [allB,Bool.and_eq_true,Bool.not_eq_true'] at h
  unfold mem2
  have:(fn == x)=false:=by
   rw [← h.1]; exact Bool.beq_comm
  rw [this,zsa h.2 g]
  rfl
def goesK (E:Env) (C:Orc) {R:Type} (c:Conf) (ops:Array Oper) (is:List Nat) (t:List Item) (o:Oper) (k:Conf→Option R):Option R :=
 (execD E C c.T c.objs o).bind fun p=>k { c with T:=putT c.T o.dst p.1,todo:=.inRegion ops is::t,objs:=p.2 }
inductive Walks (E:Env) (c:Conf) (o:Oper):Prop where
 | val (hsp:z2a E o.op=none) (f:Operand) (args:Array Operand) (ats:Array TypeId) (g:Nat) (a b:List PV) (h:o.op=.call ⟨.value f,args,ats⟩) (hf:ev c.T f=.func (.func g) a b) (hi:mem2 c.fn g E.inl=true)
 | yld (hsp:z2a E o.op=none) (f:Operand) (args:Array Operand) (ats:Array TypeId) (n j:Nat) (h:o.op=.call ⟨.value f,args,ats⟩) (hf:ev c.T f=.func (.yield n) [.mapr j] []) (below:AFr) (c':Conf) (hy:yieldC E c below j (args.toList.map (ev c.T))=some c')
 | inv (hsp:z2a E o.op=none) (r:Operand) (name:String) (args:Array Operand) (ats:Array TypeId) (u:Nat) (v:PV) (g:Nat) (h:o.op=.call ⟨.invoke r name,args,ats⟩) (hr:ev c.T r=.iface u v) (hg:findM u name E.mt=some g) (hi:mem2 c.fn g E.inl=true)
 | rcv (hsp:z2a E o.op=none) (args:Array Operand) (ats:Array TypeId) (h:o.op=.call ⟨.builtin .recover,args,ats⟩)
 | pan (hsp:z2a E o.op=none) (x:Operand) (h:o.op=.panic x)
 | dfr (hsp:z2a E o.op=none) (cl:Call) (h:o.op=.defer cl)
theorem operD_go {C:Orc} {R:Type} (c:Conf) (ops:Array Oper) (i:Nat) (is:List Nat) (t:List Item) (o:Oper) (hq:¬ Walks E c o) (k:Conf→Option R) (kd:PV→Option R) :
  (operD E c ops i is t o).bind (Out.go C k kd)=goesK E C c ops is t o k:=by
 have plain:((opD E c.T c.objs o).bind fun p=>some (Out.next { c with T:=putT c.T o.dst p.1,todo:=.inRegion ops is::t,objs:=p.2 })).bind (Out.go C k kd) =
   (opD E c.T c.objs o).bind fun p=>k { c with T:=putT c.T o.dst p.1,todo:=.inRegion ops is::t,objs:=p.2 }:=by
  cases opD E c.T c.objs o <;> rfl
 unfold operD goesK execD execP
 cases hsp:z2a E o.op with
 | some s=>simp only; cases specD E c.T c.objs s <;> rfl
 | none =>
 simp only
 generalize hop:o.op=op
 cases op with
 | call cl =>
  obtain ⟨callee,args,ats⟩:=cl
  cases callee with
  | value f =>
   simp only
   rw [← askD_go c ops is t o (ev c.T f) (args.toList.map (ev c.T)) k kd]
   unfold zee
   split
   ·rename_i g a b hv
    have:mem2 c.fn g E.inl=false:=by
     cases hm:mem2 c.fn g E.inl with
     | false=>rfl
     | true=>exact absurd (.val hsp f args ats g a b hop hv hm) hq
    rw [this,hv]; rfl
   ·rename_i n j hv
    cases hy:yieldC E c { c.fr with todo:=.inRegion ops (i::is)::t } j (args.toList.map (ev c.T)) with
    | none=>rfl
    | some c'=>exact absurd (.yld hsp f args ats n j hop hv _ c' hy) hq
   ·rfl
  | invoke r name =>
   simp only
   generalize hrv:ev c.T r=rv
   cases rv with
   | iface u v =>
    simp only [z14j]
    cases hg:findM u name E.mt with
    | none=>rfl
    | some g =>
     have:mem2 c.fn g E.inl=false:=by
      cases hm:mem2 c.fn g E.inl with
      | false=>rfl
      | true=>exact absurd (.inv hsp r name args ats u v g hop hrv hg hm) hq
     simp only [this,cond_false]
     exact askD_go c ops is t o _ _ k kd
   | _=>rfl
  | builtin b =>
   cases b with
   | recover=>exact absurd (.rcv hsp args ats hop) hq
   | _=>exact plain
 | panic x=>exact absurd (.pan hsp x hop) hq
 | defer cl=>exact absurd (.dfr hsp cl hop) hq
 | _=>exact plain
theorem quiet_not {c:Conf} {o:Oper} (h:zoy E c.fn o=true):¬ Walks E c o:=by
 intro hw
 unfold zoy at h
 have hsp:z2a E o.op=none:=by cases hw <;> assumption
 rw [hsp] at h
 simp only at h
 cases hw with
 | val _ f args ats g a b h1 hf hi =>
  rw [h1] at h
  cases f with
  | func g' =>
   simp only [ev,PV.func.injEq,Fn.func.injEq] at hf
   obtain ⟨rfl,_,_⟩:=hf
   simp only [hi,Bool.not_true,Bool.false_eq_true] at h
  | _ =>
   simp only at h
   rw [zsa h] at hi
   cases hi
 | yld _ f args ats n j h1 hf below c' hy =>
  rw [h1] at h
  cases f with
  | func g'=>simp only [ev,PV.func.injEq] at hf; exact absurd hf.1 (by simp)
  | _ =>
   simp only at h
   unfold yieldC at hy
   split at hy
   ·rw [zsa h] at hy; cases hy
   ·cases hy
 | inv _ r name args ats u v g h1 hr hg hi =>
  rw [h1] at h
  simp only at h
  rw [zsa h] at hi
  cases hi
 | rcv _ args ats h1=>rw [h1] at h; cases h
 | pan _ x h1=>rw [h1] at h; cases h
 | dfr _ cl h1=>rw [h1] at h; cases h
theorem zvq {C:Orc} {R:Type} (c:Conf) (ops:Array Oper) (i:Nat) (is:List Nat) (t:List Item) (o:Oper) (ho:ops[i]?=some o) (hq:guardOf c.T ops o=some true→¬ Walks E c o) (k:Conf→Option R) (kd:PV→Option R) :
  (zls E c ops i is t o).bind (Out.go C k kd)=(oneR E C ops i (c.T,c.objs)).bind fun s=>k { c with T:=s.1,todo:=.inRegion ops is::t,objs:=s.2 }:=by
 have ex:¬ Walks E c o→(operD E c ops i is t o).bind (Out.go C k kd)=((execD E C c.T c.objs o).map fun p=>(putT c.T o.dst p.1,p.2)).bind fun s=>k { c with T:=s.1,todo:=.inRegion ops is::t,objs:=s.2 }:=by
  intro hq
  rw [operD_go c ops i is t o hq,goesK]
  cases execD E C c.T c.objs o <;> rfl
 unfold oneR zls
 unfold guardOf at hq ⊢
 rw [ho]
 simp only
 cases hg:o.guard with
 | none=>rw [hg] at hq; simp only [oB,cond_true]; exact ex (hq rfl)
 | some jw =>
  obtain ⟨j,want⟩:=jw
  rw [hg] at hq
  simp only at hq ⊢
  cases hd:(ops[j]?).bind (·.dst) with
  | none=>rfl
  | some d =>
   rw [hd] at hq
   simp only at hq ⊢
   generalize nthD .undef c.T d=v at hq ⊢
   cases v with
   | bool b=>cases b <;> cases want <;> first | exact ex (hq rfl) | rfl
   | _=>rfl
theorem zoj {c:Conf} (h:c.mode=.run):stepD E c=zgt E c:=by
 unfold stepD; rw [h]
theorem z12o {c:Conf} {ops:Array Oper} {l:List Nat} {t:List Item} (h:c.todo=.inRegion ops l::t):normC E c=c:=by
 unfold normC atCut
 rw [h]
 cases c.mode <;> rfl
theorem zvh {C:Orc} {tis:List TI} (ops:Array Oper) (t:List Item):∀ (l:List Nat) (n:Nat) (c:Conf) (r:PV),c.mode=.run→allB (zoy E c.fn) ops.toList=true→runN E C tis n { c with todo:=.inRegion ops l::t }=some r →
  ∃ m s,m<n∧z8z E C ops l (c.T,c.objs)=some s∧runN E C tis m (normC E { c with T:=s.1,todo:=t,objs:=s.2 })=some r
 | [],0,c,r,hm,hq,h=>by cases h
 | [],n+1,c,r,hm,hq,h=>by
  simp only [runN,za0,zs6] at h
  rw [zoj (c:={ c with todo:=.inRegion ops []::t }) hm] at h
  simp only [zgt,oB,Out.go] at h
  exact ⟨n,(c.T,c.objs),Nat.lt_succ_self n,rfl,h⟩
 | i::is,0,c,r,hm,hq,h=>by cases h
 | i::is,n+1,c,r,hm,hq,h=>by
  simp only [runN,za0,zs6] at h
  rw [zoj (c:={ c with todo:=.inRegion ops (i::is)::t }) hm] at h
  simp only [zgt] at h
  have hn:∀ (T:List PV) (objs:List Obj),normC E { c with T:=T,todo:=.inRegion ops is::t,objs:=objs }={ c with T:=T,todo:=.inRegion ops is::t,objs:=objs }:=by
   intro T objs
   exact z12o rfl
  cases ho:ops[i]? with
  | none =>
   rw [ho] at h
   simp only [oB,Out.go] at h
   rw [hn] at h
   obtain ⟨m,s,h1,h2,h3⟩:=zvh ops t is n c r hm hq h
   exact ⟨m,s,by omega,by simp only [z8z,oneR,ho,oB]; exact h2,h3⟩
  | some o =>
   rw [ho] at h
   simp only at h
   have hmem:o∈ops.toList:=by
    obtain ⟨hlt,he⟩:=Array.getElem?_eq_some_iff.1 ho
    rw [← he]; exact Array.mem_toList_iff.2 (Array.getElem_mem hlt)
   have hqo:=zk hq o hmem
   rw [zvq { c with todo:=.inRegion ops (i::is)::t } ops i is t o ho (fun _=>quiet_not hqo)] at h
   simp only at h
   cases hs:oneR E C ops i (c.T,c.objs) with
   | none=>rw [hs] at h; cases h
   | some s0 =>
    rw [hs] at h
    simp only [oB] at h
    rw [hn] at h
    obtain ⟨m,s,h1,h2,h3⟩:=zvh ops t is n { c with T:=s0.1,objs:=s0.2 } r hm hq h
    exact ⟨m,s,by omega,by simp only [z8z,hs,oB]; exact h2,h3⟩
end
end Dv

namespace Dv
open Go Go.RowKit
section
variable {w w':World} {W W':Nat→Nat→Prop}
theorem zvf:∀ (ts:List TI) (n:Nat) (l:List PV),(zjd ts n (.tuple l)).length=ts.length ∧
  ∀ (j:Nat) (p:PV),(zjd ts n (.tuple l))[j]?=some p→∃ t,ts[j]?=some t∧p=z6l t (nthD .undef l (n+j))
 | [],n,l=>⟨rfl,fun j p h=>by simp [zjd] at h⟩
 | t::ts,n,l=>by
  obtain ⟨h1,h2⟩:=zvf ts (n+1) l
  refine ⟨by simp [zjd,h1],fun j p h=>?_⟩
  cases j with
  | zero=>simp [zjd,PV.tnth] at h; exact ⟨t,rfl,h.symm⟩
  | succ j =>
   obtain ⟨k',hk,hp⟩:=h2 j p (by simpa [zjd] using h)
   exact ⟨k',by simpa using hk,by rw [hp]; congr 2; omega⟩
theorem zzn:∀ {ts:List TI} {l:List PV},z10v ts l=true→ts.length=l.length∧∀ (j:Nat) (t:TI) (v:PV),ts[j]?=some t→l[j]?=some v→hasTy t v=true
 | [],[],_=>⟨rfl,fun j k v h=>by simp at h⟩
 | [],_::_,h=>by simp [z10v] at h
 | _::_,[],h=>by simp [z10v] at h
 | k::ks,v::vs,h=>by
  simp only [z10v,Bool.and_eq_true] at h
  obtain ⟨h1,h2⟩:=zzn h.2
  refine ⟨by simp [h1],fun j k' v' hk hv=>?_⟩
  cases j with
  | zero=>simp at hk hv; subst hk; subst hv; exact h.1
  | succ j=>exact h2 j k' v' (by simpa using hk) (by simpa using hv)
theorem z1gj {ts:List TI} (hn:∀ t,ts≠[t]) (p:PV):zg4 ts p=match p with | .tuple l=>z10v ts l | _=>false:=by
 unfold zg4
 split
 ·exact absurd rfl (hn _)
 ·rfl
theorem z13o {ts:List TI} {p:PV} {v:Value} (hn:∀ t,ts≠[t]) (h:zg4 ts p=true) (hv:VRf w W p v):∃ l cs,p=.tuple l∧v=.tuple cs∧z10v ts l=true∧l.length=cs.size ∧
  (∀ (j:Nat) (q:PV),l[j]?=some q→VRf w W q (cs.getD j undef))∧zk3 ts p=.tuple (zjd ts 0 p):=by
 have e1:=z1gj hn p
 have e2:zk3 ts p=.tuple (zjd ts 0 p):=by
  unfold zk3
  split
  ·exact absurd rfl (hn _)
  ·rfl
 rw [e1] at h
 cases p <;> simp only [Bool.false_eq_true] at h
 cases hv with
 | tuple _ cs hl hx=>exact ⟨_,cs,rfl,rfl,h,hl,hx,e2⟩
theorem z10m {ts:List TI} {p:PV} {v:Value} (h:zg4 ts p=true) (hv:VRf w W p v):VRf w W (zk3 ts p) v:=by
 by_cases hn:∃ t,ts=[t]
 ·obtain ⟨t,rfl⟩:=hn
  exact z17j h hv
 ·obtain ⟨l,cs,rfl,rfl,h1,h2,h3,h4⟩:=z13o (fun t ht=>hn ⟨t,ht⟩) h hv
  rw [h4]
  obtain ⟨a1,a2⟩:=zvf ts 0 l
  obtain ⟨b1,b2⟩:=zzn h1
  refine .tuple _ _ (by rw [a1,b1,h2]) (fun j q hq=>?_)
  obtain ⟨t,ht,rfl⟩:=a2 j q hq
  have hj:j<l.length:=by rw [← b1]; exact (List.getElem?_eq_some_iff.1 ht).1
  have hg:l[j]?=some l[j]:=List.getElem?_eq_getElem hj
  have:nthD .undef l (0+j)=l[j]:=by rw [z4l]; simp [hj]
  rw [this]
  exact z17j (b2 j t _ ht hg) (h3 j _ hg)
theorem z1iz {k:LK} {p:PV} {v:Value} (hk:z1t k=true) (h:VRf w W (zu1 k p) v):VRf w' W' (zu1 k p) v:=by
 cases k <;> simp [z1t] at hk <;> simp only [zu1] at h ⊢ <;> cases h
 ·exact .int _ _
 ·exact .bool _
 ·exact .str _
theorem z17i {t:TI} {p:PV} {v:Value} (hp:allB z1t t.leaves=true) (hk:hasTy t p=true) (h:VRf w W (z6l t p) v):VRf w' W' (z6l t p) v:=by
 unfold hasTy at hk
 unfold z6l at h ⊢
 cases ha:t.isAgg with
 | true =>
  rw [ha] at hk h
  cases p <;> simp only [Bool.false_eq_true] at hk
  rename_i l
  simp only at h ⊢
  cases h with
  | agg _ cs hl hx =>
   refine .agg _ _ hl (fun j q hq=>?_)
   have h1:=hx j q hq
   obtain ⟨k,hkj,rfl⟩:=(zk4 t.leaves 0 l).2 j q hq
   exact z1iz (zk hp k (List.mem_of_getElem? hkj)) h1
 | false =>
  rw [ha] at hk h
  simp only at hk h ⊢
  match hl:t.leaves,hk,hp,h with
  | [k],hk,hp,h=>exact z1iz (zk hp k (by simp)) h
  | [],hk,_,_=>simp [z21] at hk
  | _::_::_,hk,_,_=>simp [z21] at hk
theorem z1kp {ts:List TI} {p:PV} {v:Value} (hp:allB (fun ti=>allB z1t ti.leaves) ts=true) (h:zg4 ts p=true) (hv:VRf w W p v):VRf w' W' (zk3 ts p) v:=by
 by_cases hn:∃ t,ts=[t]
 ·obtain ⟨t,rfl⟩:=hn
  exact z17i (zk hp t (by simp)) h (z17j h hv)
 ·have hs:=z10m h hv
  obtain ⟨l,cs,rfl,rfl,h1,h2,h3,h4⟩:=z13o (fun t ht=>hn ⟨t,ht⟩) h hv
  rw [h4] at hs ⊢
  obtain ⟨a1,a2⟩:=zvf ts 0 l
  obtain ⟨b1,b2⟩:=zzn h1
  cases hs with
  | tuple _ _ hl hx =>
  refine .tuple _ _ hl (fun j q hq=>?_)
  have h5:=hx j q hq
  obtain ⟨t,ht,rfl⟩:=a2 j q hq
  have hj:j<l.length:=by rw [← b1]; exact (List.getElem?_eq_some_iff.1 ht).1
  have hg:l[j]?=some l[j]:=List.getElem?_eq_getElem hj
  have:nthD .undef l (0+j)=l[j]:=by rw [z4l]; simp [hj]
  rw [this] at h5 ⊢
  exact z17i (zk hp t (List.mem_of_getElem? ht)) (b2 j t _ ht hg) h5
end
def FunOk (E:Env) (g:Nat) (args:List PV) (r:PV):Prop :=
 ∀ (w:World) (W:Nat→Nat→Prop) (vals:Array Value),(∀ b o,W b o→b<w.heap.size)→args.length=vals.size→(∀ (j:Nat) (p:PV),args[j]?=some p→VRf w W p (vals.getD j undef)) →
  Calls E.P g vals w fun e w'=>∃ v,e=.returned v∧VRf w' W r v∧Below w.heap.size w w'
def Named (E : Env) (g : Nat) : Prop := ∃ fn, E.P.funcs[g]? = some fn ∧ fn.body.isSome = true ∧ (fn.name == "runtime.NumGoroutine") = false
def ValOk (E:Env) (g:Nat) (args:List PV) (r:PV):Prop :=
 ∀ (w:World) (W:Nat→Nat→Prop) (vals:Array Value),args.length=vals.size→(∀ (j:Nat) (p:PV),args[j]?=some p→VRf w W p (vals.getD j undef)) →
  ∃ v w',(callFunc g vals).run E.P w=.ok (.value v) w'∧VRf w' W r v∧Below w.heap.size w w'
def OrcOk (E:Env) (C:Orc):Prop :=
 ∀ tis f args r,C tis f args=some r→zg4 tis r=true∧∃ g a b,f=.func (.func g) a b∧((Named E g∧FunOk E g (a++args++b) r)∨ValOk E g (a++args++b) r)
theorem zao {E:Env} {g:Nat} (h:Named E g) (vals:Array Value) (w:World):(callFunc g vals).run E.P w=.ok (.enter g vals) w:=by
 obtain ⟨fn,h1,h2,h3⟩:=h
 have h4:fn.body≠none:=by intro hb; rw [hb] at h2; cases h2
 simp only [beq_eq_false_iff_ne,ne_eq] at h3
 simp [callFunc,h1,h3,h4]
section
variable {E:Env} {w0 w:World} {Wx:Nat→Nat→Prop} {bl:zh} {objs:List Obj}
def zj9 (E:Env) (w0:World) (Wx:Nat→Nat→Prop) (w:World) (bl:zh) (objs:List Obj) (m:Sem Next) (p:PV) (objs':List Obj):Prop :=
 ∃ g vals,m.run E.P w=.ok (.enter g vals) w∧Calls E.P g vals w fun e w'=>∃ v,e=.returned v∧Sim w0 Wx w' bl objs'∧Ext w (WT Wx bl objs) bl objs w' (WT Wx bl objs') bl objs'∧VR w' (WT Wx bl objs') bl objs' p v
theorem WT_lt (S:Sim w0 Wx w bl objs) {b o:Nat} (h:WT Wx bl objs b o):b<w.heap.size:=by
 rcases h with h | ⟨i,o0,hb,_⟩
 ·exact Nat.lt_of_lt_of_le (S.wx b o h) S.below.size
 ·exact (S.own i b o0 hb).2
theorem z11g (S:Sim w0 Wx w bl objs) (t:Nat) {objs2:List Obj} (S2:Sim w0 Wx w bl objs2) (X2:Ext w (WT Wx bl objs) bl objs w (WT Wx bl objs2) bl objs2) {g:Nat} {a b args':List PV} {r:PV} {fv:Value} {vargs:Array Value}
  (r1:VRf w (WT Wx bl objs2) (.func (.func g) a b) fv) (l2:args'.length=vargs.size) (r2:∀ (j:Nat) (q:PV),args'[j]?=some q→VRf w (WT Wx bl objs2) q (vargs.getD j undef))
  (hty:zg4 (resTIs E t) r=true) (hans:(Named E g∧FunOk E g (a++args'++b) r)∨ValOk E g (a++args'++b) r) :
  DoesN E w0 Wx w bl objs (do let d ← Deferred.ofValue fv vargs; invoke d.target d.args) (zk3 (resTIs E t) r) (bif allB (fun ti=>allB z1t ti.leaves) (resTIs E t) then objs else objs2) ∨
   zj9 E w0 Wx w bl objs (do let d ← Deferred.ofValue fv vargs; invoke d.target d.args) (zk3 (resTIs E t) r) (bif allB (fun ti=>allB z1t ti.leaves) (resTIs E t) then objs else objs2):=by
 cases r1 with
 | func _ _ _ xs ys hxs hys hx hy =>
 have hlen:(a++args'++b).length=(xs++vargs++ys).size:=by simp; omega
 have hargs:∀ (j:Nat) (q:PV),(a++args'++b)[j]?=some q→VRf w (WT Wx bl objs2) q ((xs++vargs++ys).getD j undef):=by
  intro j q hq
  rw [Array.getD_eq_getD_getElem?]
  by_cases h1:j<a.length
  ·rw [List.append_assoc,List.getElem?_append_left h1] at hq
   rw [Array.append_assoc,Array.getElem?_append_left (by omega),← Array.getD_eq_getD_getElem?]
   exact hx j q hq
  ·by_cases h2:j<a.length+args'.length
   ·rw [List.append_assoc,List.getElem?_append_right (by omega),List.getElem?_append_left (by omega)] at hq
    rw [Array.append_assoc,Array.getElem?_append_right (by omega),Array.getElem?_append_left (by omega),← hxs,← Array.getD_eq_getD_getElem?]
    exact r2 _ q hq
   ·rw [List.getElem?_append_right (by simp; omega)] at hq
    rw [Array.getElem?_append_right (by simp; omega),show (xs++vargs).size=(a++args').length by simp; omega,← Array.getD_eq_getD_getElem?]
    exact hy _ q hq
 have fin:∀ (w':World) (v:Value),VRf w' (WT Wx bl objs2) r v→Below w.heap.size w w' →
   Sim w0 Wx w' bl (bif allB (fun ti=>allB z1t ti.leaves) (resTIs E t) then objs else objs2) ∧
   Ext w (WT Wx bl objs) bl objs w' (WT Wx bl (bif allB (fun ti=>allB z1t ti.leaves) (resTIs E t) then objs else objs2)) bl (bif allB (fun ti=>allB z1t ti.leaves) (resTIs E t) then objs else objs2) ∧
   VR w' (WT Wx bl (bif allB (fun ti=>allB z1t ti.leaves) (resTIs E t) then objs else objs2)) bl (bif allB (fun ti=>allB z1t ti.leaves) (resTIs E t) then objs else objs2) (zk3 (resTIs E t) r) v:=by
  intro w' v hv hb
  cases hpl:allB (fun ti=>allB z1t ti.leaves) (resTIs E t) with
  | true =>
   simp only [cond_true]
   exact ⟨z1as S hb,z12r (w0:=w) hb,.fz _ _ (z1kp hpl hty hv)⟩
  | false =>
   simp only [cond_false]
   exact ⟨z1as S2 hb,X2.trans (z12r (w0:=w) hb),.fz _ _ (z10m hty hv)⟩
 rcases hans with ⟨hnm,hfun⟩ | hval
 ·refine .inr ⟨g,xs++vargs++ys,?_,?_⟩
  ·simp only [Deferred.ofValue,Sem.run_bind,Sem.run_pure,Result.andThen_ok,invoke]
   exact zao hnm _ _
  ·refine (hfun w (WT Wx bl objs2) _ (fun b o h=>WT_lt S2 h) hlen hargs).mono ?_
   rintro e w' ⟨v,rfl,hv,hb⟩
   exact ⟨v,rfl,fin w' v hv hb⟩
 ·obtain ⟨v,w',hr,hv,hb⟩:=hval w (WT Wx bl objs2) _ hlen hargs
  obtain ⟨f1,f2,f3⟩:=fin w' v hv hb
  refine .inl ⟨.value v,v,w',bl,?_,.inl rfl,f1,f2,f3⟩
  simp only [Deferred.ofValue,Sem.run_bind,Sem.run_pure,Result.andThen_ok,invoke]
  exact hr
theorem zkb {W W':Nat→Nat→Prop} {q:PV} {v:Value} (h:leafPV q=true) (hv:VR w W bl objs q v):VRf w W' q v:=by
 cases q <;> simp only [leafPV,Bool.false_eq_true] at h
 ·cases hv with
  | fz _ _ h=>cases h; exact .bool _
  | dead _ _ _ _ hr=>simp [refOf] at hr
 ·cases hv with
  | fz _ _ h=>cases h; exact .int _ _
  | dead _ _ _ _ hr=>simp [refOf] at hr
 ·cases hv with
  | fz _ _ h=>cases h; exact .str _
  | dead _ _ _ _ hr=>simp [refOf] at hr
theorem z1g5 {W W':Nat→Nat→Prop} {q:PV} {v:Value} (h:plainPV q=true) (hv:VR w W bl objs q v):VRf w W' q v:=by
 cases q with
 | agg l =>
  simp only [plainPV] at h
  cases hv with
  | fz _ _ h'=>cases h' with
   | agg _ cs hl hx=>exact .agg _ cs hl (fun j p hp=>zkb (bl:=bl) (objs:=objs) (zk h p (List.mem_of_getElem? hp)) (.fz _ _ (hx j p hp)))
  | agg _ cs hl hx=>exact .agg _ cs hl (fun j p hp=>zkb (zk h p (List.mem_of_getElem? hp)) (hx j p hp))
  | dead _ _ _ _ hr=>simp [refOf] at hr
 | int _ _=>exact zkb rfl hv
 | bool _=>exact zkb rfl hv
 | str _=>exact zkb rfl hv
 | _=>simp [plainPV] at h
theorem z1eq {C:Orc} (hC:OrcOk E C) (S:Sim w0 Wx w bl objs) (t:Nat) {fp p:PV} {args:List PV} {fv:Value} {vargs:Array Value} {objs':List Obj} (hf:VR w (WT Wx bl objs) bl objs fp fv) (hl:args.length=vargs.size)
  (ha:∀ (j:Nat) (q:PV),args[j]?=some q→VR w (WT Wx bl objs) bl objs q (vargs.getD j undef)) (h:askR C (callAsk E t fp args objs)=some (p,objs')) :
  DoesN E w0 Wx w bl objs (do let d ← Deferred.ofValue fv vargs; invoke d.target d.args) p objs'∨zj9 E w0 Wx w bl objs (do let d ← Deferred.ofValue fv vargs; invoke d.target d.args) p objs':=by
 unfold askR callAsk at h
 cases hpf:plainFn E fp with
 | true =>
  rw [hpf] at h
  simp only [cond_true] at h
  cases hpl:allB plainPV args with
  | false=>rw [hpl] at h; cases h
  | true =>
  rw [hpl] at h
  simp only [cond_true,oB] at h
  cases hc:C (resTIs E t) fp args with
  | none=>rw [hc] at h; cases h
  | some r =>
  rw [hc] at h
  simp only [Option.map_some,oJ,pJ] at h
  obtain ⟨rfl,rfl⟩:=h
  obtain ⟨hty,g,a,b,rfl,hans⟩:=hC _ _ _ _ hc
  obtain ⟨rfl,rfl⟩:a=[]∧b=[]:=by
   unfold plainFn at hpf
   split at hpf
   ·rename_i heq; cases heq; exact ⟨rfl,rfl⟩
   ·cases hpf
  have r1:VRf w (WT Wx bl objs) (.func (.func g) [] []) fv:=by
   cases hf with
   | fz _ _ h=>exact h
   | func _ _ _ xs ys hxs hys _ _=>exact .func _ _ _ xs ys hxs hys (fun j p hp=>by simp at hp) (fun j p hp=>by simp at hp) rfl
   | dead _ _ _ _ hr=>simp [refOf] at hr
  have:=z11g S t S (Ext.refl _ _ _ _) r1 hl (fun j q hq=>z1g5 (zk hpl q (List.mem_of_getElem? hq)) (ha j q hq)) hty hans
  cases hb:allB (fun ti=>allB z1t ti.leaves) (resTIs E t) <;> rw [hb] at this <;> exact this
 | false =>
 rw [hpf] at h
 simp only [cond_false] at h
 cases h1:purify pfuel objs fp with
 | none=>rw [h1] at h; cases h
 | some y =>
 obtain ⟨f',objs1⟩:=y
 rw [h1] at h
 simp only at h
 cases h2:purifyL pfuel objs1 args with
 | none=>rw [h2] at h; cases h
 | some y =>
 obtain ⟨args',objs2⟩:=y
 rw [h2] at h
 simp only [oB] at h
 cases hc:C (resTIs E t) f' args' with
 | none=>rw [hc] at h; cases h
 | some r =>
 rw [hc] at h
 simp only [Option.map_some,oJ,pJ] at h
 obtain ⟨rfl,rfl⟩:=h
 obtain ⟨hty,g,a,b,rfl,hans⟩:=hC _ _ _ _ hc
 obtain ⟨F1,r1⟩:=(z3n w0 w Wx bl pfuel).1 objs fp _ objs1 fv S h1 hf
 have S1:=zcq S F1
 obtain ⟨F2,l2,r2⟩:=(z3n w0 w Wx bl pfuel).2 objs1 args args' objs2 (fun j=>vargs.getD j undef) S1 h2 (fun j q hq=>(ha j q hq).mono (zep F1))
 have S2:=zcq S1 F2
 have r1:=r1.mono (zep (w:=w) (bl:=bl) (Wx:=Wx) F2).keep
 have hfn:=r1
 exact z11g S t S2 ((zep F1).trans (zep F2)) r1 (l2.trans hl) r2 hty hans
theorem z14n {T:List PV} {a:Act} {W:Nat→Nat→Prop} (hT:TRel w W bl objs T a.tmps) (ops:Array Oper) (o:Oper) {b:Bool} (h:guardOf T ops o=some b):Region.wanted o (yielded ops a.tmps)=b:=by
 unfold guardOf at h
 unfold Region.wanted
 cases hg:o.guard with
 | none=>rw [hg] at h; simp only [oJ] at h; exact h
 | some jw =>
  obtain ⟨j,want⟩:=jw
  rw [hg] at h
  simp only at h ⊢
  unfold yielded
  cases hd:(ops[j]?).bind (·.dst) with
  | none=>rw [hd] at h; simp only [oJ] at h; subst h; simp
  | some d =>
   rw [hd] at h
   simp only [oB] at h ⊢
   have hr:=hT.get d
   cases hp:nthD .undef T d <;> rw [hp] at h hr <;> try (cases h; done)
   ·rename_i c
    have hr:=hr.frozen_leaf trivial
    have hlt:d<a.tmps.size:=by
     rw [← hT.1]
     rcases Nat.lt_or_ge d T.length with h' | h'
     ·exact h'
     ·rw [zhi _ _ _ h'] at hp; cases hp
    rw [Array.getD_eq_getD_getElem?,Array.getElem?_eq_getElem hlt] at hr
    rw [Array.getElem?_eq_getElem hlt]
    simp only [Option.getD_some] at hr
    generalize a.tmps[d]=v at hr ⊢
    cases hr
    cases c <;> simp only [oJ] at h <;> subst h <;> cases want <;> rfl
   ·simp only [oJ] at h
    subst h
    rename_i l
    rw [Array.getD_eq_getD_getElem?] at hr
    cases hv:a.tmps[d]? with
    | none=>simp
    | some v =>
     rw [hv] at hr
     simp only [Option.getD_some] at hr
     cases hr with
     | fz _ _ h=>cases h with | tuple=>simp
     | tuple=>simp
     | dead _ _ _ _ hr=>simp [refOf] at hr
end
end Dv

namespace Dv
open Go Go.RowKit
section
variable {E:Env} (hE:EnvOk E) {C:Orc} (hC:OrcOk E C) {w0 w:World} {Wx:Nat→Nat→Prop} {bl:zh} {objs:List Obj}
theorem zj9.congr {m m':Sem Next} {p:PV} {objs':List Obj} (h:zj9 E w0 Wx w bl objs m p objs') (e:m'.run E.P w=m.run E.P w):zj9 E w0 Wx w bl objs m' p objs':=by
 obtain ⟨g,vals,h1,h2⟩:=h
 exact ⟨g,vals,e.trans h1,h2⟩
theorem DoesN.congr {m m':Sem Next} {p:PV} {objs':List Obj} (h:DoesN E w0 Wx w bl objs m p objs') (e:m'.run E.P w=m.run E.P w):DoesN E w0 Wx w bl objs m' p objs':=by
 obtain ⟨nx,v,w',bl',h1,h2⟩:=h
 exact ⟨nx,v,w',bl',e.trans h1,h2⟩
include hE hC
theorem exec_sound (S:Sim w0 Wx w bl objs) {T:List PV} {a:Act} (hT:TRel w (WT Wx bl objs) bl objs T a.tmps) (o:Oper) {p:PV} {objs':List Obj} (h:execD E C T objs o=some (p,objs')) :
  DoesN E w0 Wx w bl objs (execOp a.eval o) p objs'∨zj9 E w0 Wx w bl objs (execOp a.eval o) p objs':=by
 have hargs:∀ (args:Array Operand) (j:Nat) (q:PV),(args.toList.map (ev T))[j]?=some q→VR w (WT Wx bl objs) bl objs q ((args.map a.eval).getD j undef):=by
  intro args j q hq
  have:=zlr hT args.toList j q hq
  simpa [List.getD_eq_getElem?_getD,Array.getD_eq_getD_getElem?] using this
 have plain:opD E T objs o=some (p,objs')→DoesN E w0 Wx w bl objs (execOp a.eval o) p objs'∨zj9 E w0 Wx w bl objs (execOp a.eval o) p objs':=fun h=>.inl (op_sound hE S hT o h)
 cases hsp:z2a E o.op with
 | some sp=>unfold execD at h; rw [hsp] at h; exact .inl (z17g hE S hT o hsp h)
 | none =>
 obtain ⟨dst,op,type,guard,after,ps⟩:=o
 unfold execD at h
 rw [hsp] at h
 simp only at h hsp
 unfold execP at h
 simp only at h
 cases op with
 | call cl =>
  obtain ⟨callee,args,ats⟩:=cl
  cases callee with
  | value f =>
   simp only at h
   exact z1eq hC S type (ev_rel hT f) (by simp) (hargs args) h
  | invoke r name =>
   simp only at h
   have hr:=ev_rel hT r
   split at h
   case h_2=>cases h
   rename_i u x hx
   rw [hx] at hr
   split at h
   case h_2=>cases h
   rename_i g hg
   obtain ⟨v,hv,hrx⟩:∃ v,a.eval r=.iface u v∧VR w (WT Wx bl objs) bl objs x v:=by
    generalize a.eval r=rv at hr
    cases hr with
    | fz _ _ h=>cases h with | iface _ _ v h=>exact ⟨v,rfl,.fz _ _ h⟩
    | iface _ _ v h=>exact ⟨v,rfl,h⟩
    | dead _ _ _ _ hr=>simp [refOf] at hr
   have hask:=z1eq hC S type (fv:=.func (.func g) #[] #[]) (vargs:=#[v]++args.map a.eval)
    (.fz _ _ (.func _ [] [] #[] #[] rfl rfl (fun j p hp=>by simp at hp) (fun j p hp=>by simp at hp) rfl)) (by simp; omega) (fun j q hq=>by
    cases j with
    | zero =>
     simp at hq
     subst hq
     have e0:(#[v]++args.map a.eval)[0]?=some v:=by rw [Array.getElem?_append_left (by simp)]; rfl
     rw [Array.getD_eq_getD_getElem?,e0]
     exact hrx
    | succ j =>
     have:=hargs args j q (by simpa using hq)
     have e:(#[v]++args.map a.eval)[j+1]?=(args.map a.eval)[j]?:=by
      rw [Array.getElem?_append_right (by simp)]
      simp
     rw [Array.getD_eq_getD_getElem?,e,← Array.getD_eq_getD_getElem?]
     exact this) h
   have heq:(execOp a.eval (⟨dst,.call ⟨.invoke r name,args,ats⟩,type,guard,after,ps⟩:Oper)).run E.P w=(do let d ← Deferred.ofValue (.func (.func g) #[] #[]) (#[v]++args.map a.eval); invoke d.target d.args:Sem Next).run E.P w:=by
    have hm:=hE.mt u name g hg w v
    have ex:(#[Value.iface u v]++args.map a.eval).extract 1 (#[Value.iface u v]++args.map a.eval).size=args.map a.eval:=by
     apply Array.ext'
     simp
     exact List.take_of_length_le (by simp)
    have h0:(#[Value.iface u v]++args.map a.eval)[0]?=some (.iface u v):=by rw [Array.getElem?_append_left (by simp)]; rfl
    simp only [execOp,resolve,Sem.run_bind,Sem.run_pure,Result.andThen_ok,invoke,hv,h0,ex,callMethod,Deferred.ofValue,run_program,hm]
    rw [Array.empty_append,Array.append_empty]
   rcases hask with h' | h'
   ·exact .inl (DoesN.congr h' heq)
   ·exact .inr (zj9.congr h' heq)
  | builtin b=>exact plain h
 | _=>exact plain h
omit hE hC in
theorem z1b5 {C:Orc} {T:List PV} {objs:List Obj} {o:Oper} {q:PV×List Obj} (h:execD E C T objs o=some q):∀ c,o.op≠.defer c:=by
 intro c hc
 unfold execD at h
 rw [show z2a E o.op=none by rw [hc]; rfl] at h
 simp only at h
 unfold execP at h
 rw [hc] at h
 simp only [opD,opK,hc] at h
 cases h
theorem zxc (S:Sim w0 Wx w bl objs) {T:List PV} {a:Act} (hT:TRel w (WT Wx bl objs) bl objs T a.tmps) (ops:Array Oper) (i:Nat) {s':RSt} (h:oneR E C ops i (T,objs)=some s') (b:Frame) (is:List Nat) (k:List Item) (cs:List Frame) :
  ∃ (a':Act) (w':World) (bl':zh),a'.defers=a.defers∧Steps E.P (lone (b.atR a (.inRegion ops (i::is)::k)) cs w) (lone (b.atR a' (.inRegion ops is::k)) cs w') ∧
   Sim w0 Wx w' bl' s'.2∧Ext w (WT Wx bl objs) bl objs w' (WT Wx bl' s'.2) bl' s'.2∧TRel w' (WT Wx bl' s'.2) bl' s'.2 s'.1 a'.tmps:=by
 unfold oneR at h
 have put_tmps:∀ (a:Act) (dst:Option Tmp) (v:Value),(a.put dst v).tmps=match dst with | some d=>a.tmps.setIfInBounds d v | none=>a.tmps:=by intro a dst v; cases dst <;> rfl
 have put_def:∀ (a:Act) (dst:Option Tmp) (v:Value),(a.put dst v).defers=a.defers:=by intro a dst v; cases dst <;> rfl
 cases ho:ops[i]? with
 | none =>
  rw [ho] at h
  simp only [oJ] at h
  subst h
  have hs:=stepR_op_skip (P:=E.P) (b:=b) (a:=a) (k:=k) (cs:=cs) (w:=w) (ops:=ops) (i:=i) (rest:=is) (by simp [ho])
  simp only [ho,Option.bind_none,Act.put] at hs
  exact ⟨a,w,bl,rfl,.one hs,S,Ext.refl _ _ _ _,hT⟩
 | some o =>
  rw [ho] at h
  simp only at h
  obtain ⟨bw,hb,h⟩:=zb h
  have hw:=z14n hT ops o hb
  cases bw with
  | false =>
   simp only [cond_false,oJ] at h
   subst h
   have hs:=stepR_op_skip (P:=E.P) (b:=b) (a:=a) (k:=k) (cs:=cs) (w:=w) (ops:=ops) (i:=i) (rest:=is) (by simp [ho,hw])
   simp only [ho,oB] at hs
   refine ⟨a.put o.dst undef,w,bl,put_def _ _ _,.one hs,S,Ext.refl _ _ _ _,?_⟩
   rw [put_tmps]
   exact hT.put o.dst (.fz _ _ (.tuple [] #[] rfl (fun j p hp=>by simp at hp)))
  | true =>
   simp only [cond_true] at h
   cases he:execD E C T objs o with
   | none=>rw [he] at h; cases h
   | some po =>
   obtain ⟨p,objs'⟩:=po
   rw [he] at h
   simp only [Option.map_some,oJ] at h
   subst h
   have hg:=stepGR_op (P:=E.P) (b:=b) (a:=a) (k:=k) (cs:=cs) (w:=w) (rest:=is) ho hw
   rw [Oper.semAt_eq _ _ _ (z1b5 he)] at hg
   have hfin:∀ v,(b.atR a (.inRegion ops (i::is)::k)).finish v=b.atR (a.put o.dst v) (.inRegion ops is::k):=by
    intro v; rw [Frame.finish_atR,ho]; rfl
   rcases exec_sound hE hC S hT o he with ⟨nx,v,w',bl',hr,hnx,hS,hX,hv⟩ | ⟨g,vals,hr,hcall⟩
   ·refine ⟨a.put o.dst v,w',bl',put_def _ _ _,.one (step_lone_go ?_),hS,hX,?_⟩
    ·rcases hnx with rfl | ⟨rfl,rfl⟩
     ·rw [hg,← hfin]; simp [stepG.apply,hr]
     ·rw [hg,← hfin]; simp [stepG.apply,hr]
    ·rw [put_tmps]
     exact (hT.mono hX).put o.dst hv
   ·obtain ⟨e,w',fr,⟨v,rfl,hS,hX,hv⟩,hsteps,_,hleave⟩:=hcall (b.atR a (.inRegion ops (i::is)::k)::cs)
    have henter:step E.P (lone (b.atR a (.inRegion ops (i::is)::k)) cs w)=.next (lone (Frame.enter E.P g vals .normal) (b.atR a (.inRegion ops (i::is)::k)::cs) w) :=
     step_lone_go (by rw [hg]; simp [stepG.apply,hr,Frame.atR])
    refine ⟨a.put o.dst v,w',bl,put_def _ _ _,.head henter (hsteps.trans (.one ?_)),hS,hX,?_⟩
    ·rw [← hfin]; exact step_leave_returned hleave
    ·rw [put_tmps]
     exact (hT.mono hX).put o.dst hv
theorem z10q (ops:Array Oper) (b:Frame) (k:List Item) (cs:List Frame):∀ (l:List Nat) (w:World) (bl:zh) (s s':RSt) (a:Act),Sim w0 Wx w bl s.2→TRel w (WT Wx bl s.2) bl s.2 s.1 a.tmps→z8z E C ops l s=some s' →
  ∃ (a':Act) (w':World) (bl':zh),a'.defers=a.defers∧Steps E.P (lone (b.atR a (.inRegion ops l::k)) cs w) (lone (b.atR a' k) cs w') ∧
   Sim w0 Wx w' bl' s'.2∧Ext w (WT Wx bl s.2) bl s.2 w' (WT Wx bl' s'.2) bl' s'.2∧TRel w' (WT Wx bl' s'.2) bl' s'.2 s'.1 a'.tmps
 | [],w,bl,s,s',a,S,hT,h=>by
  simp only [z8z,oJ] at h
  subst h
  exact ⟨a,w,bl,rfl,.one stepR_region_end,S,Ext.refl _ _ _ _,hT⟩
 | i::is,w,bl,s,s',a,S,hT,h=>by
  simp only [z8z] at h
  obtain ⟨s1,h1,h⟩:=zb h
  obtain ⟨a1,w1,bl1,d1,st1,S1,X1,T1⟩:=zxc hE hC S hT ops i (s':=s1) h1 b is k cs
  obtain ⟨a2,w2,bl2,d2,st2,S2,X2,T2⟩:=z10q ops b k cs is w1 bl1 s1 s' a1 S1 T1 h
  exact ⟨a2,w2,bl2,d2.trans d1,st1.trans st2,S2,X1.trans X2,T2⟩
end
end Dv

namespace Dv
open Go Go.RowKit
theorem z5w:∀ {i:Nat} {l:List Nat} {n j:Nat},z77 i l n=some j→∃ k,j=n+k∧l[k]?=some i
 | i,[],n,j,h=>by cases h
 | i,a::l,n,j,h=>by
  unfold z77 at h
  by_cases hia:i=a
  ·subst hia
   simp only [beq_self_eq_true,cond_true,oJ] at h
   exact ⟨0,by omega,rfl⟩
  ·have:(i == a)=false:=by simpa using hia
   rw [this] at h
   simp only [cond_false] at h
   obtain ⟨k,hk,hl⟩:=z5w h
   exact ⟨k+1,by omega,by simpa using hl⟩
theorem findIx_none:∀ {i:Nat} {l:List Nat} {n:Nat},z77 i l n=none→i∉l
 | i,[],n,h=>by simp
 | i,a::l,n,h=>by
  unfold z77 at h
  by_cases hia:i=a
  ·subst hia
   simp at h
  ·have:(i == a)=false:=by simpa using hia
   rw [this] at h
   simp only [cond_false] at h
   have:=findIx_none h
   simp [hia,this]
theorem z6r (f:PV→PV):∀ (l:List PV),(mapL f l).length=l.length∧∀ (j:Nat),(mapL f l)[j]?=(l[j]?).map f
 | []=>⟨rfl,fun j=>by simp [mapL]⟩
 | v::vs=>by
  obtain ⟨h1,h2⟩:=z6r f vs
  refine ⟨by simp [mapL,h1],fun j=>?_⟩
  cases j with
  | zero=>simp [mapL]
  | succ j=>simpa [mapL] using h2 j
theorem z1ai (p:List Nat) (o:List Obj):∀ (is:List Nat),(mapO p o is).length=is.length∧∀ (j:Nat),(mapO p o is)[j]?=(is[j]?).map fun i=>renO p (nthD .dead o i)
 | []=>⟨rfl,fun j=>by simp [mapO]⟩
 | v::vs=>by
  obtain ⟨h1,h2⟩:=z1ai p o vs
  refine ⟨by simp [mapO,h1],fun j=>?_⟩
  cases j with
  | zero=>simp [mapO]
  | succ j=>simpa [mapO] using h2 j
theorem z1dj {l:List Nat} (h:l.Nodup):l.reverse.Nodup:=List.pairwise_reverse.2 (h.imp fun h=>Ne.symm h)
theorem nodup_inj {l:List Nat} (h:l.Nodup) {i j:Nat} (hi:i<l.length) (hj:j<l.length) (e:l[i]=l[j]):i=j:=by
 have:=List.pairwise_iff_getElem.1 h
 rcases Nat.lt_trichotomy i j with h1 | h1 | h1
 ·exact absurd e (this i j hi hj h1)
 ·exact h1
 ·exact absurd e.symm (this j i hj hi h1)
theorem za6:∀ (n:Nat) (o:List Obj) (is seen:List Nat),seen.Nodup→(reach n o is seen).Nodup
 | 0,o,is,seen,h=>by simpa [reach] using z1dj h
 | n+1,o,[],seen,h=>by simpa [reach] using z1dj h
 | n+1,o,i::is,seen,h=>by
  unfold reach
  cases hf:z77 i seen 0 with
  | some _=>exact za6 n o is seen h
  | none =>
   have hn:(i::seen).Nodup:=List.nodup_cons.2 ⟨findIx_none hf,h⟩
   simp only
   split
   ·exact za6 n o _ _ hn
   ·exact za6 n o _ _ hn
   ·exact za6 n o _ _ hn
   ·exact za6 n o _ _ hn
   ·exact za6 n o _ _ hn
section
variable {w0 w:World} {Wx:Nat→Nat→Prop} {bl bl':zh} {objs objs':List Obj} {p:List Nat}
structure Renamed (p:List Nat) (bl:zh) (objs:List Obj) (bl':zh) (objs':List Obj):Prop where
 lenO:objs'.length=p.length
 lenB:bl'.length=p.length
 obj:∀ (j i:Nat),p[j]?=some i→nthD .dead objs' j=renO p (nthD .dead objs i)
 place:∀ (j i:Nat),p[j]?=some i→bl'[j]?=some ((bl[i]?).getD none)
theorem Keep.sub {W W':Nat→Nat→Prop} (h:∀ b o,W' b o→W b o):Keep w W w W':=⟨fun b o _ hv hn=>⟨hv,fun h'=>hn (h b o h')⟩,fun b _ _ hv hn=>⟨hv,fun h'=>hn (h b 0 h')⟩⟩
theorem VR.ren {W W':Nat→Nat→Prop} (R:Renamed p bl objs bl' objs') (hW:∀ b o,W' b o→W b o):∀ (n:Nat) (v:PV) (u:Value),VR w W bl objs v u→VR w W' bl' objs' (Dv.ren p n v) u
 | 0,v,u,_=>.fz _ _ (.undef _)
 | n+1,v,u,h=>by
  have ih:=VR.ren R hW n
  have und:VR w W' bl' objs' .undef u:=.fz _ _ (.undef _)
  have list:∀ (l:List PV) (g:Nat→Value),(∀ (j:Nat) (q:PV),l[j]?=some q→VR w W bl objs q (g j))→∀ (j:Nat) (q:PV),(mapL (Dv.ren p n) l)[j]?=some q→VR w W' bl' objs' q (g j):=by
   intro l g hl j q hq
   rw [(z6r _ l).2 j] at hq
   cases hj:l[j]? with
   | none=>rw [hj] at hq; cases hq
   | some q0 =>
    rw [hj] at hq
    simp only [Option.map_some,oJ] at hq
    subst hq
    exact ih _ _ (hl j q0 hj)
  have llen:∀ (l:List PV),(mapL (Dv.ren p n) l).length=l.length:=fun l=>(z6r _ l).1
  have leaf:VRf w W v u→VR w W' bl' objs' v u:=fun h=>.fz _ _ (h.mono (Keep.sub hW))
  have place:∀ {i j b o:Nat},p[j]?=some i→bl[i]?=some (some (b,o))→bl'[j]?=some (some (b,o)):=by
   intro i j b o hp hb; rw [R.place j i hp,hb]; rfl
  have jlt:∀ {i j:Nat},p[j]?=some i→j<objs'.length:=by
   intro i j hp; rw [R.lenO]; exact (List.getElem?_eq_some_iff.1 hp).1
  have dead:∀ (i:Nat) (f:Nat→PV),(∀ j,refOf (f j)=some j)→(∀ j,isPtrP (f j)=true→∃ a,u=.pointer (some a))→u.oneCell'=true→nthD .dead objs i=.dead→VR w W' bl' objs' (match z77 i p 0 with | some j=>f j | none=>.undef) u:=by
   intro i f hf hq hu hd
   cases hx:z77 i p 0 with
   | none=>exact und
   | some j =>
    obtain ⟨k,hk,hp⟩:=z5w hx
    obtain rfl:j=k:=by omega
    exact .dead _ _ j hu (hf j) (jlt hp) (by rw [R.obj j i hp,hd]; rfl) (hq j)
  cases v with
  | ptr i off =>
   unfold Dv.ren
   simp only
   cases h with
   | fz _ _ h=>cases h
   | dead _ _ k hu hr _ hd hq=>simp only [refOf,oJ] at hr; subst hr; exact dead i (fun j=>.ptr j off) (fun _=>rfl) (fun _ _=>hq rfl) hu hd
   | ptr _ _ b o hi hb =>
    cases hx:z77 i p 0 with
    | none=>exact und
    | some j =>
     obtain ⟨k,hk,hp⟩:=z5w hx
     obtain rfl:j=k:=by omega
     exact .ptr j off b o (jlt hp) (place hp hb)
  | rptr i kk off =>
   unfold Dv.ren
   simp only
   cases h with
   | fz _ _ h=>cases h
   | dead _ _ k hu hr _ hd hq=>simp only [refOf,oJ] at hr; subst hr; exact dead i (fun j=>.rptr j kk off) (fun _=>rfl) (fun _ _=>hq rfl) hu hd
   | rptr _ _ _ b o s fz l cap hi ho hb =>
    cases hx:z77 i p 0 with
    | none=>exact und
    | some j =>
     obtain ⟨k,hk,hp⟩:=z5w hx
     obtain rfl:j=k:=by omega
     exact .rptr j kk off b o s fz l cap (jlt hp) (by rw [R.obj j i hp,ho]; rfl) (place hp hb)
  | lall i =>
   unfold Dv.ren
   simp only
   cases h with
   | fz _ _ h=>cases h
   | dead _ _ k hu hr _ hd hq=>simp only [refOf,oJ] at hr; subst hr; exact dead i (fun j=>.lall j) (fun _=>rfl) (fun _ h=>by cases h) hu hd
   | lall _ b o s fz c l cap hi ho hb hc hm hr =>
    cases hx:z77 i p 0 with
    | none=>exact und
    | some j =>
     obtain ⟨k,hk,hp⟩:=z5w hx
     obtain rfl:j=k:=by omega
     exact .lall j b o s fz c l cap (jlt hp) (by rw [R.obj j i hp,ho]; rfl) (place hp hb) hc hm hr
   | lallE _ s fz a hi ho hb =>
    cases hx:z77 i p 0 with
    | none=>exact und
    | some j =>
     obtain ⟨k,hk,hp⟩:=z5w hx
     obtain rfl:j=k:=by omega
     exact .lallE j s fz a (jlt hp) (by rw [R.obj j i hp,ho]; rfl) (by rw [R.place j i hp,hb]; rfl)
  | lsl i off len lim =>
   unfold Dv.ren
   simp only
   cases h with
   | fz _ _ h=>cases h
   | dead _ _ k hu hr _ hd hq=>simp only [refOf,oJ] at hr; subst hr; exact dead i (fun j=>.lsl j off len lim) (fun _=>rfl) (fun _ h=>by cases h) hu hd
   | lsl _ _ _ b o s fz c _ cap l hi ho hb hl hc hm hm' hx' hr =>
    cases hx:z77 i p 0 with
    | none=>exact und
    | some j =>
     obtain ⟨k,hk,hp⟩:=z5w hx
     obtain rfl:j=k:=by omega
     exact .lsl j off len b o s fz c lim cap l (jlt hp) (by rw [R.obj j i hp,ho]; rfl) (place hp hb) hl hc hm hm' hx' hr
   | lslE _ _ s fz _ cap l a hi ho hl hm hm' hx' =>
    cases hx:z77 i p 0 with
    | none=>exact und
    | some j =>
     obtain ⟨k,hk,hp⟩:=z5w hx
     obtain rfl:j=k:=by omega
     exact .lslE j off s fz lim cap l a (jlt hp) (by rw [R.obj j i hp,ho]; rfl) hl hm hm' hx'
  | raw i m =>
   unfold Dv.ren
   simp only
   cases h with
   | fz _ _ h=>cases h
   | dead _ _ k hu hr _ hd hq=>simp only [refOf,oJ] at hr; subst hr; exact dead i (fun j=>.raw j m) (fun _=>rfl) (fun _ h=>by cases h) hu hd
   | raw _ _ b o fz c hi ho hb hc hr =>
    cases hx:z77 i p 0 with
    | none=>exact und
    | some j =>
     obtain ⟨k,hk,hp⟩:=z5w hx
     obtain rfl:j=k:=by omega
     exact .raw j m b o fz c (jlt hp) (by rw [R.obj j i hp,ho]; rfl) (place hp hb) hc hr
  | mapr i =>
   unfold Dv.ren
   simp only
   cases h with
   | fz _ _ h=>cases h
   | dead _ _ k hu hr _ hd hq=>simp only [refOf,oJ] at hr; subst hr; exact dead i (fun j=>.mapr j) (fun _=>rfl) (fun _ h=>by cases h) hu hd
   | mapr _ b hi hb =>
    cases hx:z77 i p 0 with
    | none=>exact und
    | some j =>
     obtain ⟨k,hk,hp⟩:=z5w hx
     obtain rfl:j=k:=by omega
     exact .mapr j b (jlt hp) (place hp hb)
  | mp ks vs=>exact leaf (h.frozen_leaf trivial)
  | iface t x =>
   unfold Dv.ren
   simp only
   cases h with
   | fz _ _ h=>cases h with | iface _ _ v h=>exact .iface _ _ _ (ih _ _ (.fz _ _ h))
   | iface _ _ v h=>exact .iface _ _ _ (ih _ _ h)
   | dead _ _ _ _ hr=>simp [refOf] at hr
  | func fn a b =>
   unfold Dv.ren
   simp only
   cases h with
   | fz _ _ h=>cases h with
    | func _ _ _ xs ys ha hb hx hy hn=>exact .func _ _ _ xs ys (by rw [llen]; exact ha) (by rw [llen]; exact hb) (list a _ (fun j q hq=>.fz _ _ (hx j q hq))) (list b _ (fun j q hq=>.fz _ _ (hy j q hq))) hn
   | func _ _ _ xs ys ha hb hx hy hn=>exact .func _ _ _ xs ys (by rw [llen]; exact ha) (by rw [llen]; exact hb) (list a _ hx) (list b _ hy) hn
   | yv _ _ _ h=>exact .yv _ _ _ (ih _ _ h)
   | dead _ _ _ _ hr=>simp [refOf] at hr
  | agg l =>
   unfold Dv.ren
   simp only
   cases h with
   | fz _ _ h=>cases h with | agg _ xs ha hx=>exact .agg _ xs (by rw [llen]; exact ha) (list l _ (fun j q hq=>.fz _ _ (hx j q hq)))
   | agg _ xs ha hx=>exact .agg _ xs (by rw [llen]; exact ha) (list l _ hx)
   | dead _ _ _ _ hr=>simp [refOf] at hr
  | tuple l =>
   unfold Dv.ren
   simp only
   cases h with
   | fz _ _ h=>cases h with | tuple _ xs ha hx=>exact .tuple _ xs (by rw [llen]; exact ha) (list l _ (fun j q hq=>.fz _ _ (hx j q hq)))
   | tuple _ xs ha hx=>exact .tuple _ xs (by rw [llen]; exact ha) (list l _ hx)
   | dead _ _ _ _ hr=>simp [refOf] at hr
  | opq x off =>
   unfold Dv.ren
   simp only
   cases h with
   | fz _ _ h=>exact leaf h
   | opq0 _ _ hk h=>exact .opq0 _ _ hk (h.mono (Keep.sub hW))
   | opq _ b o _ hk h=>exact .opq _ _ _ _ hk (h.mono (Keep.sub hW))
   | dead _ _ _ _ hr=>simp [refOf] at hr
  | sl0 =>
   unfold Dv.ren
   simp only
   cases h with
   | fz _ _ h=>cases h
   | sl0=>exact .sl0
   | dead _ _ _ _ hr=>simp [refOf] at hr
  | se =>
   unfold Dv.ren
   simp only
   cases h with
   | fz _ _ h=>cases h
   | se a=>exact .se a
   | dead _ _ _ _ hr=>simp [refOf] at hr
  | undef=>exact und
  | resv i=>exact .fz _ _ (.resv i u)
  | bool b=>exact leaf (h.frozen_leaf trivial)
  | int k n=>exact leaf (h.frozen_leaf trivial)
  | str s=>exact leaf (h.frozen_leaf trivial)
  | nilp=>exact leaf (h.frozen_leaf trivial)
  | nilm=>exact leaf (h.frozen_leaf trivial)
  | nilfn=>exact leaf (h.frozen_leaf trivial)
  | nili=>exact leaf (h.frozen_leaf trivial)
  | sl s l=>exact leaf (h.frozen_leaf trivial)
  | ref l o=>exact leaf (h.frozen_leaf trivial)
theorem mayW_ren {o:Obj} {a b:Nat} (h:mayW (renO p o) a b):mayW o a b:=by
 cases o with
 | cells e l f=>cases f <;> exact h
 | map ks vs im f=>cases im <;> cases f <;> exact h
 | _=>exact h
theorem Renamed.WT (R:Renamed p bl objs bl' objs') (b o:Nat) (h:WT Wx bl' objs' b o):Dv.WT Wx bl objs b o:=by
 rcases h with h | ⟨j,o0,hj,hm⟩
 ·exact .inl h
 ·right
  have hlt:j<p.length:=by rw [← R.lenB]; exact (List.getElem?_eq_some_iff.1 hj).1
  have hp:p[j]?=some p[j]:=List.getElem?_eq_getElem hlt
  rw [R.place j _ hp] at hj
  rw [R.obj j _ hp] at hm
  refine ⟨p[j],o0,?_,mayW_ren hm⟩
  simp only [oJ] at hj
  cases hb:bl[p[j]]? with
  | none=>rw [hb] at hj; cases hj
  | some x=>rw [hb] at hj; simp only [Option.getD_some] at hj; rw [hj]
theorem z1ks (n:Nat) {v:PV} (h:z19s v):z19s (Dv.ren p n v):=by
 cases n with
 | zero=>exact .inr rfl
 | succ n =>
  rcases h with h | rfl
  ·unfold Dv.ren
   cases v <;> simp [PV.scalar] at h <;> simp only
   all_goals first
    | exact .inl rfl
    | (split <;> first | exact .inl rfl | exact .inr rfl)
  ·exact .inr rfl
theorem Renamed.sim (S:Sim w0 Wx w bl objs) (R:Renamed p bl objs bl' objs') (hn:p.Nodup):Sim w0 Wx w bl' objs':=by
 have plt:∀ {j:Nat} {x:Option (Nat×Nat)},bl'[j]?=some x→∃ i,p[j]?=some i∧(bl[i]?).getD none=x:=by
  intro j x hj
  have hlt:j<p.length:=by rw [← R.lenB]; exact (List.getElem?_eq_some_iff.1 hj).1
  have hp:p[j]?=some p[j]:=List.getElem?_eq_getElem hlt
  rw [R.place j _ hp] at hj
  exact ⟨p[j],hp,Option.some.inj hj⟩
 have back:∀ {i b o:Nat},(bl[i]?).getD none=some (b,o)→bl[i]?=some (some (b,o)):=by
  intro i b o h
  cases hb:bl[i]? with
  | none=>rw [hb] at h; cases h
  | some x=>rw [hb] at h; simp only [Option.getD_some] at h; rw [h]
 have alive_back:∀ {i j:Nat},p[j]?=some i→alive objs' j→alive objs i:=by
  intro i j hp h
  unfold alive at h ⊢
  rw [R.obj j i hp] at h
  cases ho:nthD .dead objs i <;> rw [ho] at h <;> first | exact h | trivial
 refine ⟨S.below,by rw [R.lenB,R.lenO],?_,?_,?_,S.wx⟩
 ·intro j b o hj
  obtain ⟨i,_,hb⟩:=plt hj
  exact S.own i b o (back hb)
 ·intro j k b o o' hj hk aj ak
  obtain ⟨i,hp,hb⟩:=plt hj
  obtain ⟨i',hp',hb'⟩:=plt hk
  obtain rfl:=S.inj i i' b o o' (back hb) (back hb') (alive_back hp aj) (alive_back hp' ak)
  have h1:=(List.getElem?_eq_some_iff.1 hp)
  have h2:=(List.getElem?_eq_some_iff.1 hp')
  obtain ⟨l1,e1⟩:=h1
  obtain ⟨l2,e2⟩:=h2
  exact nodup_inj hn l1 l2 (e1.trans e2.symm)
 ·intro j hj
  have hlt:j<p.length:=by rw [← R.lenO]; exact hj
  have hp:p[j]?=some p[j]:=List.getElem?_eq_getElem hlt
  have ho:=R.obj j _ hp
  have hpl:=R.place j _ hp
  generalize p[j]=i at hp ho hpl
  by_cases hi:i<objs.length
  ·have hO:=S.obj i hi
   unfold ORel at hO ⊢
   rw [ho]
   cases h1:nthD .dead objs i with
   | dead=>trivial
   | cells e l f =>
    rw [h1] at hO
    obtain ⟨b,cs,fr,hb,hheap,hsz,hnf,hel⟩:=hO
    refine ⟨b,cs,fr,by rw [hpl,hb]; rfl,hheap,by rw [hsz]; exact (z6r _ l).1.symm,hnf,fun k q hq=>?_⟩
    have hq:(mapL (Dv.ren p pfuel) l)[k]?=some q:=hq
    rw [(z6r _ l).2 k] at hq
    cases hk:l[k]? with
    | none=>rw [hk] at hq; cases hq
    | some q0 =>
     rw [hk] at hq
     simp only [Option.map_some,oJ] at hq
     subst hq
     obtain ⟨a1,v,a2,a3⟩:=hel k q0 hk
     exact ⟨z1ks _ a1,v,a2,VR.ren R R.WT pfuel q0 v a3⟩
   | row e s l fz cap =>
    rw [h1] at hO
    rcases hO with ⟨hb,hl,hc⟩ | ⟨b,o,cs,fr,hb,hheap,hsz,hnf,hel⟩
    ·exact .inl ⟨by rw [hpl,hb]; rfl,hl,hc⟩
    ·refine .inr ⟨b,o,cs,fr,by rw [hpl,hb]; rfl,hheap,hsz,hnf,fun k q hq=>?_⟩
     obtain ⟨a1,a2⟩:=hel k q hq
     refine ⟨a1,fun m x hx=>?_⟩
     obtain ⟨b1,v,b2,b3⟩:=a2 m x hx
     exact ⟨b1,v,b2,b3.mono (Keep.sub R.WT)⟩
   | hole =>
    rw [h1] at hO
    show _=some none
    rw [hpl,show bl[i]?=some none from hO]; rfl
   | iter s pos =>
    rw [h1] at hO
    obtain ⟨b,hb,hheap⟩:=hO
    exact ⟨b,by rw [hpl,hb]; rfl,hheap⟩
   | bmap e0 e1 =>
    rw [h1] at hO
    obtain ⟨ks,vs,b,es,clock,h0,hb,hheap,hk,hv,hx,hy⟩:=hO
    have h0':Ords (renQ p e0) (renQ p e1) ks (mapL (Dv.ren p pfuel) vs):=by
     cases e0 <;> cases e1
     ·obtain ⟨rfl,rfl⟩:=h0; exact ⟨rfl,rfl⟩
     ·obtain ⟨rfl,rfl⟩:=h0; exact ⟨rfl,rfl⟩
     ·obtain ⟨rfl,rfl⟩:=h0; exact ⟨rfl,rfl⟩
     ·rcases h0 with ⟨rfl,rfl⟩ | ⟨rfl,rfl⟩
      ·exact .inl ⟨rfl,rfl⟩
      ·exact .inr ⟨rfl,rfl⟩
    refine ⟨ks,_,b,es,clock,h0',by rw [hpl,hb]; rfl,hheap,hk,((z6r _ vs).1).trans hv,fun j q e hq he=>(hx j q e hq he).mono (Keep.sub R.WT),fun j q e hq he=>?_⟩
    rw [(z6r _ vs).2 j] at hq
    cases hj:vs[j]? with
    | none=>rw [hj] at hq; cases hq
    | some q0 =>
     rw [hj] at hq
     simp only [Option.map_some,oJ] at hq
     subst hq
     exact VR.ren R R.WT pfuel q0 e.val (hy j q0 e hj he)
   | dfr =>
    rw [h1] at hO
    obtain ⟨b,hb,hheap⟩:=hO
    exact ⟨b,by rw [hpl,hb]; rfl,hheap⟩
   | loop st pd fn T ps as bd =>
    rw [h1] at hO
    obtain ⟨b,r,tmps,hb,hheap,hl,hx⟩:=hO
    refine ⟨b,r,tmps,by rw [hpl,hb]; rfl,hheap,((z6r _ T).1).trans hl,fun k q hq=>?_⟩
    have hq:(mapL (Dv.ren p pfuel) T)[k]?=some q:=hq
    rw [(z6r _ T).2 k] at hq
    cases hk:T[k]? with
    | none=>rw [hk] at hq; cases hq
    | some q0 =>
     rw [hk] at hq
     simp only [Option.map_some,oJ] at hq
     subst hq
     exact VR.ren R R.WT pfuel q0 _ (hx k q0 hk)
   | map ks vs im f =>
    rw [h1] at hO
    obtain ⟨b,es,clock,hb,hheap,hk,hv,hx,hy⟩:=hO
    cases im with
    | false=>exact ⟨b,es,clock,by rw [hpl,hb]; rfl,hheap,hk,hv,fun j q e hq he=>(hx j q e hq he).mono (Keep.sub R.WT),
      fun j q e hq he=>⟨.fz _ _ (((hy j q e hq he).2 rfl).mono (Keep.sub R.WT)),fun _=>((hy j q e hq he).2 rfl).mono (Keep.sub R.WT)⟩⟩
    | true =>
     refine ⟨b,es,clock,by rw [hpl,hb]; rfl,hheap,hk,?_,fun j q e hq he=>(hx j q e hq he).mono (Keep.sub R.WT),fun j q e hq he=>⟨?_,fun h=>by cases h⟩⟩
     ·exact ((z6r _ vs).1).trans hv
     ·have hq:(mapL (Dv.ren p pfuel) vs)[j]?=some q:=hq
      rw [(z6r _ vs).2 j] at hq
      cases hj:vs[j]? with
      | none=>rw [hj] at hq; cases hq
      | some q0 =>
       rw [hj] at hq
       simp only [Option.map_some,oJ] at hq
       subst hq
       exact VR.ren R R.WT pfuel q0 e.val (hy j q0 e hj he).1
  ·exact ORel.of_dead (by rw [ho,zhi _ _ _ (by omega)]; rfl)
theorem zzl {tmps:Array Value}:∀ (own:List (Nat×Nat×Nat)) (T:List PV) (objs:List Obj) (bl:zh),Sim w0 Wx w bl objs→TRel w (WT Wx bl objs) bl objs T tmps →
  ∃ bl1,Sim w0 Wx w bl1 (ownT own T objs).2∧Ext w (WT Wx bl objs) bl objs w (WT Wx bl1 (ownT own T objs).2) bl1 (ownT own T objs).2∧TRel w (WT Wx bl1 (ownT own T objs).2) bl1 (ownT own T objs).2 (ownT own T objs).1 tmps
 | [],T,objs,bl,S,hT=>⟨bl,S,Ext.refl _ _ _ _,hT⟩
 | (s,ty,z)::own,T,objs,bl,S,hT=>by
  unfold ownT
  cases hs:nthD .undef T s <;> first | exact zzl own T objs bl S hT | skip
  suffices step:TRel w (WT Wx (bl++[none]) (objs++[.row ty z [] 0 none])) (bl++[none]) (objs++[.row ty z [] 0 none]) (setN T s (.lall objs.length)) tmps by
   obtain ⟨bl1,S1,X1,T1⟩:=zzl own _ _ _ (z158 S ty z) step
   exact ⟨bl1,S1,(zpc S ty z).trans X1,T1⟩
  have hT1:=hT.mono (zpc S ty z)
  refine ⟨by simpa using hT1.1,fun j q hq=>?_⟩
  rw [z2z] at hq
  by_cases hsj:s=j
  ·subst hsj
   have hlt:s<T.length:=by have:=z3j hq; simpa using this
   rw [List.getElem?_set_self hlt] at hq
   simp only [oJ] at hq
   subst hq
   have hv:=hT.get s
   rw [hs] at hv
   generalize tmps.getD s undef=v at hv ⊢
   cases hv with
   | fz _ _ h=>cases h
   | sl0=>exact .lallE objs.length z 0 none (by simp) (z11 _ _ _) (by rw [← S.len]; simp)
   | dead _ _ _ _ hr=>simp [refOf] at hr
  ·rw [List.getElem?_set_ne hsj] at hq
   exact hT1.2 j q hq
theorem z1dz (keep:List Nat):∀ (T:List PV) (n:Nat),(killT keep n T).length=T.length∧∀ (j:Nat) (q:PV),(killT keep n T)[j]?=some q→q=.undef∨T[j]?=some q
 | [],n=>⟨rfl,fun j q h=>by simp [killT] at h⟩
 | v::T,n=>by
  obtain ⟨h1,h2⟩:=z1dz keep T (n+1)
  refine ⟨by simp [killT,h1],fun j q h=>?_⟩
  cases j with
  | zero =>
   simp only [killT,List.getElem?_cons_zero,oJ] at h
   cases hf:z77 n keep 0 with
   | none=>rw [hf] at h; exact .inl h.symm
   | some _=>rw [hf] at h; right; simp [h]
  | succ j=>simpa using h2 j q (by simpa [killT] using h)
end
end Dv
