/- The evaluator's library. -/
import Derived.Test.YtpjebfbniheahaaGreatvL2
import Derived.AtR
import Derived.Recover
import Derived.ChangeArms
import Derived.ChangeSlices
import Derived.ProofKit
import Derived.Still
import Derived.Carry
import Derived.ChangeSame
import Derived.ChangeOld
import Derived.RowKit
import GoSem.PinnedTables
import Derived.Test.YtpjebfbniheahaaGreatvL1
import Derived.Laws.Externs
import Derived.Laws.BitsLemmas
set_option linter.unusedVariables false
set_option linter.unusedSimpArgs false
namespace Dv
open Go Go.RowKit
inductive Later (P:Program) (ops:Array Oper) (dp:Option Nat):List Nat→Act→Act→Prop
 | nil (a:Act):Later P ops dp [] a a
 | cons (i:Nat) (l:List Nat) (o:Oper) (v:Value) (a a':Act) (ho:ops[i]?=some o) (hg:o.guard=none) (hd:∀ d,dp=some d→o.dst≠some d)
   (hx:∀ (x:Value) (w:World),(execOp (a.put dp x).eval o).run P w=.ok (.value v) w) (h:Later P ops dp l (a.put o.dst v) a'):Later P ops dp (i::l) a a'
theorem put_tmps (a:Act) (dst:Option Tmp) (v:Value):(a.put dst v).tmps=match dst with | some d=>a.tmps.setIfInBounds d v | none=>a.tmps:=by cases dst <;> rfl
theorem z1ku (a:Act) (dst:Option Tmp) (v:Value):(a.put dst v).defers=a.defers:=by cases dst <;> rfl
theorem put_size (a:Act) (dst:Option Tmp) (v:Value):(a.put dst v).tmps.size=a.tmps.size:=by cases dst <;> simp [Act.put]
theorem put_ne (a:Act) (dst:Option Tmp) (v:Value) (j:Nat) (h:dst≠some j):(a.put dst v).tmps.getD j undef=a.tmps.getD j undef:=by
 cases dst with
 | none=>rfl
 | some d =>
  have hdj:d≠j:=fun e=>h (by rw [e])
  simp only [Act.put]
  rw [Array.getD_eq_getD_getElem?,Array.getElem?_setIfInBounds_ne hdj,← Array.getD_eq_getD_getElem?]
theorem no_defer {P:Program} {ρ:Operand→Value} {o:Oper} {v:Value} {w w':World} (h:(execOp ρ o).run P w=.ok (.value v) w'):∀ c,o.op≠.defer c:=by
 intro c hc
 unfold execOp at h
 rw [hc] at h
 simp only [Sem.run_bind] at h
 cases hr:(resolve ρ c o.type).run P w with
 | ok d w1=>rw [hr] at h; simp only [Result.andThen_ok,Sem.run_pure] at h; cases h
 | halt x w1=>rw [hr] at h; cases h
theorem Later.steps {P:Program} {ops:Array Oper} {dp:Option Nat} {l:List Nat} {a a':Act} (h:Later P ops dp l a a') (b:Frame) (is:List Nat) (t:List Item) (x:Value) (cs:List Frame) (w:World) :
  Steps P (lone (b.atR (a.put dp x) (.inRegion ops (l++is)::t)) cs w) (lone (b.atR (a'.put dp x) (.inRegion ops is::t)) cs w):=by
 induction h with
 | nil a=>exact .refl _ _
 | cons i l o v a a' ho hg hd hx h ih =>
  refine Steps.trans (.one (step_lone_go (fr':=b.atR ((a.put o.dst v).put dp x) (.inRegion ops (l++is)::t)) (cs':=cs) (w':=w) ?_)) ih
  have hw:Region.wanted o (yielded ops (a.put dp x).tmps)=true:=by unfold Region.wanted; rw [hg]
  have hgo:=stepGR_op (P:=P) (b:=b) (a:=a.put dp x) (k:=t) (cs:=cs) (w:=w) (rest:=l++is) ho hw
  have hfin:(b.atR (a.put dp x) (.inRegion ops (i::(l++is))::t)).finish v=b.atR ((a.put o.dst v).put dp x) (.inRegion ops (l++is)::t):=by
   rw [Frame.finish_atR,ho]; show b.atR ((a.put dp x).put o.dst v) _=_; rw [Act.put_comm a x v hd]
  rw [List.cons_append,hgo,Oper.semAt_eq _ _ _ (no_defer (hx x w)),← hfin]
  simp [stepG.apply,hx x w]
theorem Later.same {P:Program} {ops:Array Oper} {dp:Option Nat} {l:List Nat} {a a':Act} (h:Later P ops dp l a a') :
  a'.defers=a.defers∧a'.tmps.size=a.tmps.size∧∀ j,(∀ o∈ops.toList,o.dst≠some j)→a'.tmps.getD j undef=a.tmps.getD j undef:=by
 induction h with
 | nil a=>exact ⟨rfl,rfl,fun _ _=>rfl⟩
 | cons i l o v a a' ho hg hd hx h ih =>
  obtain ⟨h1,h2,h3⟩:=ih
  refine ⟨by rw [h1,z1ku],by rw [h2,put_size],fun j hj=>?_⟩
  have hm:o∈ops.toList:=by
   obtain ⟨hlt,he⟩:=Array.getElem?_eq_some_iff.1 ho
   rw [← he]; exact Array.mem_toList_iff.2 (Array.getElem_mem hlt)
  rw [h3 j hj,put_ne _ _ _ _ (hj o hm)]
def Waits (P:Program) (fr fr0:Frame):Prop :=
 fr=fr0∨∃ (b:Frame) (ops:Array Oper) (p:Nat) (l is:List Nat) (t:List Item) (a a':Act) (o:Oper),fr=b.atR a (.inRegion ops (p::(l++is))::t)∧fr0=b.atR a' (.inRegion ops (p::is)::t)∧ops[p]?=some o∧Later P ops o.dst l a a'
theorem Waits.refl (P:Program) (fr:Frame):Waits P fr fr:=.inl rfl
theorem Waits.eq {P:Program} {fr fr0:Frame} (h:Waits P fr fr0) (hm:fr0.mode≠.run):fr=fr0:=by
 rcases h with h | ⟨b,ops,p,l,is,t,a,a',o,h1,h2,h3,h4⟩
 ·exact h
 ·subst h2; exact absurd rfl hm
theorem Waits.finish {P:Program} {fr fr0:Frame} (h:Waits P fr fr0) (v:Value) (cs:List Frame) (w:World):Steps P (lone (fr.finish v) cs w) (lone (fr0.finish v) cs w):=by
 rcases h with h | ⟨b,ops,p,l,is,t,a,a',o,h1,h2,h3,h4⟩
 ·subst h; exact .refl _ _
 ·subst h1 h2
  rw [Frame.finish_atR,Frame.finish_atR,h3]
  exact h4.steps b is t v cs w
theorem z1e0:∀ (l:List Oper) (T:List PV),(killO l T).length=T.length∧∀ (j:Nat) (q:PV),(killO l T)[j]?=some q→q=.undef∨(T[j]?=some q∧∀ o∈l,o.dst≠some j)
 | [],T=>⟨rfl,fun j q h=>.inr ⟨h,fun o ho=>by cases ho⟩⟩
 | o::os,T=>by
  obtain ⟨h1,h2⟩:=z1e0 os (putT T o.dst .undef)
  have hl:(putT T o.dst .undef).length=T.length:=by cases o.dst <;> simp [putT]
  refine ⟨h1.trans hl,fun j q hq=>?_⟩
  rcases h2 j q hq with h | ⟨h,h'⟩
  ·exact .inl h
  ·cases hd:o.dst with
   | none =>
    rw [hd] at h
    refine .inr ⟨h,fun o' ho'=>?_⟩
    rcases List.mem_cons.1 ho' with rfl | ho'
    ·rw [hd]; exact fun e=>by cases e
    ·exact h' o' ho'
   | some d =>
    rw [hd] at h
    simp only [putT,z2z] at h
    by_cases hdj:d=j
    ·subst hdj
     have hlt:d<T.length:=by have:=z3j h; simpa using this
     rw [List.getElem?_set_self hlt] at h
     simp only [oJ] at h
     exact .inl h.symm
    ·rw [List.getElem?_set_ne hdj] at h
     refine .inr ⟨h,fun o' ho'=>?_⟩
     rcases List.mem_cons.1 ho' with rfl | ho'
     ·rw [hd]; exact fun e=>hdj (by simpa using e)
     ·exact h' o' ho'
def lack (f:Nat→Bool):Nat→Nat
 | 0=>0
 | n+1=>lack f n+bif f n then 0 else 1
theorem lack_eq {f g:Nat→Bool}:∀ n,(∀ j,j<n→f j=g j)→lack f n=lack g n
 | 0,_=>rfl
 | n+1,h=>by rw [lack,lack,lack_eq n (fun j hj=>h j (by omega)),h n (by omega)]
theorem z1j0 {f g:Nat→Bool} {i:Nat} (hf:f i=false) (hg:g i=true) (h:∀ j,j≠i→g j=f j):∀ n,i<n→lack g n+1=lack f n
 | 0,hi=>by omega
 | n+1,hi=>by
  rw [lack,lack]
  by_cases e:i=n
  ·subst e
   rw [hf,hg,lack_eq i (fun j hj=>h j (by omega))]
   simp
  ·have:=z1j0 hf hg h n (by omega)
   rw [h n (by omega)]
   omega
theorem z1dy {f:Nat→Bool}:∀ {n},lack f n=0→∀ j,j<n→f j=true
 | 0,_,j,hj=>by omega
 | n+1,h,j,hj=>by
  rw [lack] at h
  cases hn:f n with
  | false=>rw [hn] at h; simp at h
  | true =>
   rw [hn] at h
   by_cases e:j=n
   ·rw [e,hn]
   ·exact z1dy (n:=n) (by simpa using h) j (by omega)
inductive Ord (ops:Array Oper):Array Bool→List Nat→Prop
 | nil (listed:Array Bool) (h:∀ j,j<ops.size→listed.getD j false=true):Ord ops listed []
 | cons (listed:Array Bool) (i:Nat) (l:List Nat) (h:i∈Region.ready .any ops listed) (h':Ord ops (listed.setIfInBounds i true) l):Ord ops listed (i::l)
theorem z17o {ops:Array Oper} (hdn:downB ops=true) {listed:Array Bool} (hs:listed.size=ops.size):∀ (n j:Nat),j<n→j<ops.size→listed.getD j false=false→Region.ready .any ops listed≠[]
 | 0,j,hj,_,_=>by omega
 | n+1,j,hj,hlt,hl=>by
  intro hnil
  have hno:j∉Region.ready .any ops listed:=by rw [hnil]; exact List.not_mem_nil
  have h0:ops[j]?=some ops[j]:=Array.getElem?_eq_getElem hlt
  have hlt':listed.getD j true=false:=by
   rw [Array.getD_eq_getD_getElem?] at hl ⊢
   rw [Array.getElem?_eq_getElem (by omega)] at hl ⊢
   exact hl
  have:¬ ∀ e∈ops[j].after,Region.binds .any e=true→listed.getD e.on false=true:=fun h=>hno (mem_ready.2 ⟨hlt',ops[j],h0,h⟩)
  apply this
  intro e he hb
  cases hle:listed.getD e.on false with
  | true=>rfl
  | false =>
   exfalso
   have hd:=zk hdn j (List.mem_range.2 hlt)
   rw [h0] at hd
   have hd:=zk hd e (Array.mem_toList_iff.2 he)
   rw [hb] at hd
   simp only [Bool.not_true,Bool.false_or] at hd
   have hd:e.on<j:=by simpa using hd
   exact z17o hdn hs n e.on (by omega) (by omega) hle hnil
theorem go_ord {ops:Array Oper} (hdn:downB ops=true):∀ (fuel t:Nat) (listed:Array Bool),listed.size=ops.size→lack (fun j=>listed.getD j false) ops.size=fuel→Ord ops listed (Region.linearise.go .any ops fuel t listed []):=by
 intro fuel
 induction fuel with
 | zero =>
  intro t listed hs hl
  simp only [Region.linearise.go,List.reverse_nil]
  exact .nil _ (z1dy hl)
 | succ fuel ih =>
  intro t listed hs hl
  simp only [Region.linearise.go]
  change Ord ops listed (match (Region.ready .any ops listed)[t % (Region.ready .any ops listed).length]? with
   | some i=>Region.linearise.go .any ops fuel (t / (Region.ready .any ops listed).length) (listed.setIfInBounds i true) [i]
   | none=>[].reverse)
  have hne:Region.ready .any ops listed≠[]:=by
   by_cases h:∃ j,j<ops.size∧listed.getD j false=false
   ·obtain ⟨j,h1,h2⟩:=h
    exact z17o hdn hs (j+1) j (by omega) h1 h2
   ·exfalso
    have h0:∀ n,n≤ops.size→lack (fun j=>listed.getD j false) n=0:=by
     intro n
     induction n with
     | zero=>intro _; rfl
     | succ n ihn =>
      intro hn
      rw [lack,ihn (by omega)]
      cases hx:listed.getD n false with
      | true=>rfl
      | false=>exact absurd ⟨n,by omega,hx⟩ h
    rw [h0 _ (Nat.le_refl _)] at hl
    omega
  cases hi:(Region.ready .any ops listed)[t % (Region.ready .any ops listed).length]? with
  | none =>
   exfalso
   cases hr:Region.ready .any ops listed with
   | nil=>exact hne hr
   | cons x xs =>
    rw [hr] at hi
    have hlt:t % (x::xs).length<(x::xs).length:=Nat.mod_lt _ (by simp)
    rw [List.getElem?_eq_getElem hlt] at hi
    cases hi
  | some i =>
   simp only []
   rw [linearise_go_acc,List.reverse_singleton,List.singleton_append]
   have hr:=List.mem_of_getElem? hi
   obtain ⟨hu,o,ho,_⟩:=mem_ready.1 hr
   have hlt:i<ops.size:=(Array.getElem?_eq_some_iff.1 ho).1
   have hu':listed.getD i false=false:=by
    rw [Array.getD_eq_getD_getElem?] at hu ⊢
    rw [Array.getElem?_eq_getElem (by omega)] at hu ⊢
    exact hu
   refine .cons _ _ _ hr (ih _ _ (by simp [hs]) ?_)
   have:=z1j0 (f:=fun j=>listed.getD j false) (g:=fun j=>(listed.setIfInBounds i true).getD j false) (i:=i) hu' (by
    rw [Array.getD_eq_getD_getElem?,Array.getElem?_setIfInBounds_self_of_lt (by omega)]; rfl) (fun j hj=>by
    rw [Array.getD_eq_getD_getElem?,Array.getElem?_setIfInBounds_ne (Ne.symm hj),← Array.getD_eq_getD_getElem?]) ops.size hlt
   omega
theorem z1cw {ops:Array Oper} (hdn:downB ops=true) (t:Nat):Ord ops (Array.replicate ops.size false) (Region.schedule true ops t):=by
 simp only [Region.schedule,Bool.true_or,if_true,Region.linearise]
 refine go_ord hdn _ _ _ (by simp) ?_
 have:∀ n,n≤ops.size→lack (fun j=>(Array.replicate ops.size false).getD j false) n=n:=by
  intro n
  induction n with
  | zero=>intro _; rfl
  | succ n ih =>
   intro hn
   rw [lack,ih (by omega)]
   have:(Array.replicate ops.size false).getD n false=false:=by
    rw [Array.getD_eq_getD_getElem?,Array.getElem?_replicate]; split <;> rfl
   rw [this]; rfl
 exact this _ (Nat.le_refl _)
end Dv

namespace Dv
open Go Go.RowKit
section
variable (w:World) (W:Nat→Nat→Prop) (bl:zh) (objs:List Obj)
def DOne (p:PV×List PV) (d:Deferred):Prop :=
 (∃ v vs,VR w W bl objs p.1 v∧TRel w W bl objs p.2 vs∧Deferred.ofValue v vs=pure d)∨∃ b,VR w W bl objs p.1 (.map (some b))∧p.2=[]∧d={ target:=.collected b,args:=#[] }
def DRel:List (PV×List PV)→List Deferred→Prop
 | [],[]=>True
 | p::ps,d::ds=>DOne w W bl objs p d∧DRel ps ds
 | _,_=>False
def MRel:Mode→FrameMode→Prop
 | .run,m=>m=.run
 | .ret,m=>m=.returning
 | .pan v r,m=>∃ u,m=.panicking [{ v:=u,recovered:=r }]∧VR w W bl objs v u
def RRel:Option PV→Option Nat→Prop
 | none,r=>r=none
 | some q,r=>∃ b,r=some b∧VR w W bl objs q (.map (some b))
def TodoR:Option PV→List Item→List Item→Prop
 | none,t,t'=>t'=t
 | some q,t,t'=>∃ b,t'=.inRangeFunc b::t∧VR w W bl objs q (.map (some b))
structure FRel (f:AFr) (fr:Frame):Prop where
 fn:fr.fn=f.fn
 kind:fr.kind=bif f.late then .deferred else .normal
 todo:f.mode=.run→TodoR w W bl objs f.wait f.todo fr.todo
 round:RRel w W bl objs f.round fr.roundOf
 tmps:TRel w W bl objs f.T fr.tmps
 defers:DRel w W bl objs f.defers fr.defers
 mode:MRel w W bl objs f.mode fr.mode
def Stk (P:Program) (cs0:List Frame):List AFr→List Frame→Prop
 | [],cs=>cs=cs0
 | f::fs,cs=>∃ fr fr0 cs',cs=fr::cs'∧Waits P fr fr0∧FRel w W bl objs f fr0∧Stk P cs0 fs cs'
end
def z11f (fn:Nat):List AFr→Nat
 | []=>fn
 | f::fs=>z11f f.fn fs
section
variable {w w':World} {W W':Nat→Nat→Prop} {bl bl':zh} {objs objs':List Obj} {cs0:List Frame} {P:Program}
theorem DRel.carry {φ:PV→PV} {ψ:List (PV×List PV)→List (PV×List PV)} (hψ0:ψ []=[]) (hψ:∀ p ps,ψ (p::ps)=(φ p.1,mapL φ p.2)::ψ ps)
  (H:∀ v u,VR w W bl objs v u→VR w' W' bl' objs' (φ v) u):∀ {ps:List (PV×List PV)} {ds:List Deferred},DRel w W bl objs ps ds→DRel w' W' bl' objs' (ψ ps) ds
 | [],[],_=>by rw [hψ0]; trivial
 | p::ps,d::ds,⟨.inr ⟨b,h1,h2,h3⟩,h⟩=>by
  rw [hψ]
  exact ⟨.inr ⟨b,H _ _ h1,by rw [h2]; rfl,h3⟩,h.carry hψ0 hψ H⟩
 | p::ps,d::ds,⟨.inl ⟨v,vs,h1,h2,h3⟩,h⟩=>by
  rw [hψ]
  refine ⟨.inl ⟨v,vs,H _ _ h1,⟨by rw [(z6r φ p.2).1]; exact h2.1,fun j q hq=>?_⟩,h3⟩,h.carry hψ0 hψ H⟩
  rw [(z6r φ p.2).2 j] at hq
  cases hj:p.2[j]? with
  | none=>rw [hj] at hq; cases hq
  | some q0 =>
   rw [hj] at hq
   simp only [Option.map_some,oJ] at hq
   subst hq
   exact H _ _ (h2.2 j q0 hj)
 | [],_::_,h=>h.elim
 | _::_,[],h=>h.elim
theorem mapL_id:∀ (l:List PV),mapL (fun v=>v) l=l
 | []=>rfl
 | v::vs=>by simp only [mapL,mapL_id vs]
theorem DRel.mono (X:Ext w W bl objs w' W' bl' objs') {ps:List (PV×List PV)} {ds:List Deferred} (h:DRel w W bl objs ps ds):DRel w' W' bl' objs' ps ds :=
 h.carry (φ:=fun v=>v) (ψ:=fun l=>l) rfl (fun p ps=>by rw [mapL_id]) (fun v u h=>h.mono X)
theorem MRel.mono (X:Ext w W bl objs w' W' bl' objs') {m:Mode} {fm:FrameMode} (h:MRel w W bl objs m fm):MRel w' W' bl' objs' m fm:=by
 cases m with
 | run=>exact h
 | ret=>exact h
 | pan v r=>obtain ⟨u,h1,h2⟩:=h; exact ⟨u,h1,h2.mono X⟩
theorem RRel.mono (X:Ext w W bl objs w' W' bl' objs') {q:Option PV} {r:Option Nat} (h:RRel w W bl objs q r):RRel w' W' bl' objs' q r:=by
 cases q with
 | none=>exact h
 | some q=>obtain ⟨b,h1,h2⟩:=h; exact ⟨b,h1,h2.mono X⟩
theorem TodoR.mono (X:Ext w W bl objs w' W' bl' objs') {q:Option PV} {t t':List Item} (h:TodoR w W bl objs q t t'):TodoR w' W' bl' objs' q t t':=by
 cases q with
 | none=>exact h
 | some q=>obtain ⟨b,h1,h2⟩:=h; exact ⟨b,h1,h2.mono X⟩
theorem FRel.mono (X:Ext w W bl objs w' W' bl' objs') {f:AFr} {fr:Frame} (h:FRel w W bl objs f fr):FRel w' W' bl' objs' f fr :=
 ⟨h.fn,h.kind,fun hm=>(h.todo hm).mono X,h.round.mono X,h.tmps.mono X,h.defers.mono X,h.mode.mono X⟩
theorem Stk.mono (X:Ext w W bl objs w' W' bl' objs'):∀ {fs:List AFr} {cs:List Frame},Stk w W bl objs P cs0 fs cs→Stk w' W' bl' objs' P cs0 fs cs
 | [],_,h=>h
 | _::_,_,⟨fr,fr0,cs',h1,hw,h2,h3⟩=>⟨fr,fr0,cs',h1,hw,h2.mono X,Stk.mono X h3⟩
theorem TRel.killed {keep:List Nat} {T:List PV} {tmps:Array Value} (h:TRel w W bl objs T tmps):TRel w W bl objs (killT keep 0 T) tmps:=by
 obtain ⟨h1,h2⟩:=z1dz keep T 0
 refine ⟨h1.trans h.1,fun j q hq=>?_⟩
 rcases h2 j q hq with rfl | h'
 ·exact .fz _ _ (.undef _)
 ·exact h.2 j q h'
theorem Stk.killed:∀ (ks:List (List Nat)) {fs:List AFr} {cs:List Frame},Stk w W bl objs P cs0 fs cs→Stk w W bl objs P cs0 (killF ks fs) cs
 | [],[],_,h=>h
 | _::_,[],_,h=>h
 | [],f::fs,_,⟨fr,fr0,cs',h1,hw,h2,h3⟩=>⟨fr,fr0,cs',h1,hw,⟨h2.fn,h2.kind,h2.todo,h2.round,h2.tmps.killed,h2.defers,h2.mode⟩,Stk.killed [] h3⟩
 | k::ks,f::fs,_,⟨fr,fr0,cs',h1,hw,h2,h3⟩=>⟨fr,fr0,cs',h1,hw,⟨h2.fn,h2.kind,h2.todo,h2.round,h2.tmps.killed,h2.defers,h2.mode⟩,Stk.killed ks h3⟩
theorem z1bj (ks:List (List Nat)):∀ (fn:Nat) (fs:List AFr),z11f fn (killF ks fs)=z11f fn fs:=by
 intro fn fs
 induction fs generalizing ks fn with
 | nil=>cases ks <;> rfl
 | cons f fs ih=>cases ks <;> exact ih _ _
variable {p:List Nat}
theorem TRel.ren (H:∀ v u,VR w W bl objs v u→VR w' W' bl' objs' (Dv.ren p pfuel v) u) {T:List PV} {tmps:Array Value} (h:TRel w W bl objs T tmps):TRel w' W' bl' objs' (renL p pfuel T) tmps:=by
 refine ⟨by rw [← h.1]; exact (z6r _ _).1,fun j q hq=>?_⟩
 have hq:(mapL (Dv.ren p pfuel) T)[j]?=some q:=hq
 rw [(z6r _ T).2 j] at hq
 cases hj:T[j]? with
 | none=>rw [hj] at hq; cases hq
 | some q0 =>
  rw [hj] at hq
  simp only [Option.map_some,oJ] at hq
  subst hq
  exact H _ _ (h.2 j q0 hj)
theorem DRel.ren (H:∀ v u,VR w W bl objs v u→VR w' W' bl' objs' (Dv.ren p pfuel v) u) {ps:List (PV×List PV)} {ds:List Deferred} (h:DRel w W bl objs ps ds):DRel w' W' bl' objs' (renD p ps) ds :=
 h.carry (φ:=Dv.ren p pfuel) (ψ:=renD p) rfl (fun p ps=>rfl) H
theorem RRel.ren (H:∀ v u,VR w W bl objs v u→VR w' W' bl' objs' (Dv.ren p pfuel v) u) {q:Option PV} {r:Option Nat} (h:RRel w W bl objs q r):RRel w' W' bl' objs' (renQ p q) r:=by
 cases q with
 | none=>exact h
 | some q=>obtain ⟨b,h1,h2⟩:=h; exact ⟨b,h1,H _ _ h2⟩
theorem TodoR.ren (H:∀ v u,VR w W bl objs v u→VR w' W' bl' objs' (Dv.ren p pfuel v) u) {q:Option PV} {t t':List Item} (h:TodoR w W bl objs q t t'):TodoR w' W' bl' objs' (renQ p q) t t':=by
 cases q with
 | none=>exact h
 | some q=>obtain ⟨b,h1,h2⟩:=h; exact ⟨b,h1,H _ _ h2⟩
theorem Stk.ren (H:∀ v u,VR w W bl objs v u→VR w' W' bl' objs' (Dv.ren p pfuel v) u):∀ {fs:List AFr} {cs:List Frame},Stk w W bl objs P cs0 fs cs→Stk w' W' bl' objs' P cs0 (renF p fs) cs
 | [],_,h=>h
 | f::fs,_,⟨fr,fr0,cs',h1,hw,h2,h3⟩=>⟨fr,fr0,cs',h1,hw,⟨h2.fn,h2.kind,(fun hr=>(h2.todo (by
   simp only at hr
   cases hm:f.mode with
   | run=>rfl
   | ret=>rw [hm] at hr; cases hr
   | pan v r=>rw [hm] at hr; cases hr)).ren H),h2.round.ren H,h2.tmps.ren H,h2.defers.ren H,by
   have:=h2.mode
   simp only
   cases hm:f.mode with
   | run=>rw [hm] at this; exact this
   | ret=>rw [hm] at this; exact this
   | pan v r=>rw [hm] at this; obtain ⟨u,a1,a2⟩:=this; exact ⟨u,a1,H _ _ a2⟩⟩,Stk.ren H h3⟩
theorem z18n:∀ (fn:Nat) (fs:List AFr),z11f fn (renF p fs)=z11f fn fs
 | fn,[]=>rfl
 | fn,f::fs=>z18n f.fn fs
theorem Waits.run {P:Program} {fr fr0:Frame} (h:Waits P fr fr0) (hm:fr0.mode=.run):fr.mode=.run:=by
 rcases h with h | ⟨b,ops,p,l,is,t,a,a',o,h1,h2,h3,h4⟩
 ·rw [h]; exact hm
 ·rw [h1]; rfl
theorem TRel.forget {l:List Oper} {T:List PV} {tmps tmps':Array Value} (h:TRel w W bl objs T tmps) (hs:tmps.size=tmps'.size) (he:∀ j,(∀ o∈l,o.dst≠some j)→tmps.getD j undef=tmps'.getD j undef):TRel w W bl objs (killO l T) tmps':=by
 obtain ⟨h1,h2⟩:=z1e0 l T
 refine ⟨by rw [h1,h.1,hs],fun j q hq=>?_⟩
 rcases h2 j q hq with rfl | ⟨h3,h4⟩
 ·exact .fz _ _ (.undef _)
 ·rw [← he j h4]; exact h.2 j q h3
theorem Waits.panic {P:Program} {f:AFr} {fr fr0:Frame} (h:Waits P fr fr0) (hF:FRel w W bl objs f fr0) (hm:f.mode=.run) (hwt:f.wait=none) {v:PV} {u:Value} (hu:VR w W bl objs v u) :
  FRel w W bl objs { f with T:=z14h f,mode:=.pan v false } { fr with mode:=.panicking [{ v:=u,recovered:=false }] }:=by
 have hk:∀ {tmps:Array Value},TRel w W bl objs f.T tmps→TRel w W bl objs (z14h f) tmps:=by
  intro tmps h
  unfold z14h
  split
  ·exact h.forget rfl (fun _ _=>rfl)
  ·exact h
 rcases h with h | ⟨b,ops,p,l,is,t,a,a',o,h1,h2,h3,h4⟩
 ·subst h
  exact ⟨hF.fn,hF.kind,(fun h=>by cases h),hF.round,hk hF.tmps,hF.defers,⟨u,rfl,hu⟩⟩
 ·subst h1 h2
  obtain ⟨g1,g2,g3⟩:=h4.same
  have htd:Item.inRegion ops (p::is)::t=f.todo:=by have:=hF.todo hm; rw [hwt] at this; exact this
  refine ⟨hF.fn,hF.kind,(fun h=>by cases h),hF.round,?_,?_,⟨u,rfl,hu⟩⟩
  ·show TRel w W bl objs (z14h f) a.tmps
   unfold z14h
   rw [← htd]
   exact TRel.forget (tmps:=a'.tmps) hF.tmps g2 g3
  ·show DRel w W bl objs f.defers a.defers
   rw [← g1]; exact hF.defers
structure CoRel (P:Program) (w0:World) (Wx:Nat→Nat→Prop) (w:World) (bl:zh) (fn0:Nat) (cs0:List Frame) (c:Conf) (fr:Frame) (cs:List Frame):Prop where
 sim:Sim w0 Wx w bl c.objs
 top:FRel w (WT Wx bl c.objs) bl c.objs c.fr fr
 stk:Stk w (WT Wx bl c.objs) bl c.objs P cs0 c.rest cs
 base:z11f c.fn c.rest=fn0
variable {w0:World} {Wx:Nat→Nat→Prop} {fn0:Nat} {c:Conf} {fr:Frame} {cs:List Frame}
theorem cut_sound (d:Dir) (hm:c.mode=.run) (h:CoRel P w0 Wx w bl fn0 cs0 c fr cs):∃ bl',CoRel P w0 Wx w bl' fn0 cs0 (cutC d c) fr cs:=by
 obtain ⟨bl1,S1,X1,T1⟩:=zzl (w0:=w0) (Wx:=Wx) d.own c.T c.objs bl h.sim h.top.tmps
 have D1:=h.top.defers.mono X1
 have K1:=h.stk.mono X1
 have Q1:=h.top.round.mono X1
 unfold cutC
 generalize ownT d.own c.T c.objs=y at S1 T1 D1 K1 Q1
 obtain ⟨T,objs1⟩:=y
 simp only at S1 T1 D1 K1 Q1 ⊢
 have hk:TRel w (WT Wx bl1 objs1) bl1 objs1 (killT d.keep 0 T) fr.tmps:=T1.killed
 have K2:=K1.killed d.lower
 generalize hp:reach pfuel objs1 (refsL pfuel (killT d.keep 0 T)++(refsD c.defers++(refsO c.round++rootsL (killF d.lower c.rest)))) []=p
 have hnd:p.Nodup:=by rw [← hp]; exact za6 _ _ _ _ List.nodup_nil
 have R:Renamed p bl1 objs1 (p.map fun i=>(bl1[i]?).getD none) (mapO p objs1 p):=by
  refine ⟨(z1ai p objs1 p).1,by simp,fun j i hj=>?_,fun j i hj=>by simp [hj]⟩
  rw [z4l,(z1ai p objs1 p).2 j,hj]; rfl
 have H:∀ v u,VR w (WT Wx bl1 objs1) bl1 objs1 v u→VR w (WT Wx (p.map fun i=>(bl1[i]?).getD none) (mapO p objs1 p)) (p.map fun i=>(bl1[i]?).getD none) (mapO p objs1 p) (Dv.ren p pfuel v) u :=
  fun v u h=>VR.ren R R.WT pfuel v u h
 refine ⟨_,R.sim S1 hnd,⟨h.top.fn,h.top.kind,h.top.todo,Q1.ren H,hk.ren H,D1.ren H,?_⟩,K2.ren H,?_⟩
 ·have hm':=h.top.mode
  simp only [Conf.fr] at hm' ⊢
  rw [hm] at hm' ⊢
  exact hm'
 ·simp only
  rw [z18n,z1bj]; exact h.base
theorem z17r {E:Env} (h:CoRel P w0 Wx w bl fn0 cs0 c fr cs):∃ bl',CoRel P w0 Wx w bl' fn0 cs0 (normC E c) fr cs:=by
 unfold normC
 cases hc:atCut E c with
 | none=>exact ⟨bl,h⟩
 | some d =>
  refine cut_sound d ?_ h
  unfold atCut at hc
  split at hc
  ·rename_i hm _; exact hm
  ·cases hc
end
end Dv

namespace Dv
open Go Go.RowKit
section
variable {E:Env}
inductive StillK (o:Oper):Prop where
 | move (x:Operand) (h:o.op=.move x)
 | nilCheck (x:Operand) (h:o.op=.nilCheck x)
 | fieldAddr (s:TypeId) (x:Operand) (f:Nat) (h:o.op=.fieldAddr s x f)
 | load (t:TypeId) (x:Operand) (h:o.op=.load t x)
 | indexAddr (t:TypeId) (x i:Operand) (h:o.op=.indexAddr t x i)
 | binOp (b:BinOp) (t:TypeId) (x y:Operand) (e:TypeId) (h:o.op=.binOp b t x y e)
theorem zdl {o:Oper} (h:zoi E o=true):z2a E o.op=none∧o.guard=none∧StillK o:=by
 obtain ⟨dst,op,type,pos,after,guard⟩:=o
 unfold zoi at h
 simp only at h ⊢
 cases hs:z2a E op with
 | some s=>rw [hs] at h; cases h
 | none =>
 rw [hs] at h
 simp only at h
 cases guard with
 | some g=>cases h
 | none =>
 refine ⟨rfl,rfl,?_⟩
 cases op <;> simp only at h <;> first | (cases h; done) | skip
 case move x=>exact .move x rfl
 case nilCheck x=>exact .nilCheck x rfl
 case fieldAddr s x f=>exact .fieldAddr s x f rfl
 case load t x=>exact .load t x rfl
 case indexAddr t x i=>exact .indexAddr t x i rfl
 case binOp b t x y e=>exact .binOp b t x y e rfl
theorem zv7 {o:Oper} (h:StillK o) {T T':List PV} (objs:List Obj) (he:∀ x∈o.op.operands,ev T x=ev T' x):opD E T objs o=opD E T' objs o:=by
 obtain ⟨dst,op,type,pos,after,guard⟩:=o
 unfold opD opK
 cases h with
 | move x hop=>simp only at hop; subst hop; simp only [Op.operands] at he; simp only; rw [he x (by simp)]
 | nilCheck x hop=>simp only at hop; subst hop; simp only [Op.operands] at he; simp only; rw [he x (by simp)]
 | fieldAddr s x f hop=>simp only at hop; subst hop; simp only [Op.operands] at he; simp only; rw [he x (by simp)]
 | load t x hop=>simp only at hop; subst hop; simp only [Op.operands] at he; simp only; rw [he x (by simp)]
 | indexAddr t x i hop=>simp only at hop; subst hop; simp only [Op.operands] at he; simp only; rw [he x (by simp),he i (by simp)]
 | binOp b t x y e hop=>simp only at hop; subst hop; simp only [Op.operands] at he; simp only; rw [he x (by simp),he y (by simp)]
theorem z17e {o:Oper} (h:StillK o) {T:List PV} {objs objs':List Obj} {p:PV} (he:opD E T objs o=some (p,objs')):objs'=objs:=by
 obtain ⟨dst,op,type,pos,after,guard⟩:=o
 unfold opD opK at he
 cases h with
 | move x hop=>simp only at hop; subst hop; simp only [oJ,pJ] at he; exact he.2.symm
 | nilCheck x hop =>
  simp only at hop; subst hop; simp only at he
  rw [z1y] at he
  obtain ⟨q,hq,he⟩:=zb he
  simp only [oJ,pJ] at he; exact he.2.symm
 | fieldAddr s x f hop =>
  simp only at hop; subst hop; simp only at he
  rw [z1h] at he
  obtain ⟨q,hq,he⟩:=zb he
  simp only [oJ,pJ] at he; exact he.2.symm
 | load t x hop =>
  simp only at hop; subst hop; simp only at he
  rw [z3y] at he
  obtain ⟨q,hq,he⟩:=zb he
  simp only [oJ,pJ] at he; exact he.2.symm
 | indexAddr t x i hop =>
  simp only at hop; subst hop; simp only at he
  rw [z26] at he
  obtain ⟨q,hq,he⟩:=zb he
  simp only [oJ,pJ] at he; exact he.2.symm
 | binOp b t x y e hop =>
  simp only at hop; subst hop; simp only at he
  rw [zl4] at he
  obtain ⟨q,hq,he⟩:=zb he
  simp only [oJ,pJ] at he; exact he.2.symm
theorem zx2 {C:Orc} {ops:Array Oper} {i:Nat} {o:Oper} (ho:ops[i]?=some o) (h:zoi E o=true) (T:List PV) (objs:List Obj) :
  oneR E C ops i (T,objs)=(opD E T objs o).map fun p=>(putT T o.dst p.1,p.2):=by
 obtain ⟨h1,h2,h3⟩:=zdl h
 have hp:execD E C T objs o=opD E T objs o:=by
  unfold execD
  rw [h1]
  unfold execP
  obtain ⟨dst,op,type,pos,after,guard⟩:=o
  cases h3 with
  | move x hop=>simp only at hop; subst hop; rfl
  | nilCheck x hop=>simp only at hop; subst hop; rfl
  | fieldAddr s x f hop=>simp only at hop; subst hop; rfl
  | load t x hop=>simp only at hop; subst hop; rfl
  | indexAddr t x i hop=>simp only at hop; subst hop; rfl
  | binOp b t x y e hop=>simp only at hop; subst hop; rfl
 unfold oneR
 rw [ho]
 simp only
 rw [show guardOf T ops o=some true by unfold guardOf; rw [h2]]
 simp only [oB,cond_true]
 rw [hp]
theorem z1fl {c:Conf} {o:Oper} (h:zoi E o=true):¬ Walks E c o:=by
 obtain ⟨h1,h2,h3⟩:=zdl h
 intro hw
 cases hw with
 | val _ f args ats g a b hop _ _=>cases h3 <;> rename_i hop' <;> rw [hop] at hop' <;> cases hop'
 | yld _ f args ats n j hop _ _ _ _=>cases h3 <;> rename_i hop' <;> rw [hop] at hop' <;> cases hop'
 | inv _ r name args ats u v g hop _ _ _=>cases h3 <;> rename_i hop' <;> rw [hop] at hop' <;> cases hop'
 | rcv _ args ats hop=>cases h3 <;> rename_i hop' <;> rw [hop] at hop' <;> cases hop'
 | pan _ x hop=>cases h3 <;> rename_i hop' <;> rw [hop] at hop' <;> cases hop'
 | dfr _ cl hop=>cases h3 <;> rename_i hop' <;> rw [hop] at hop' <;> cases hop'
structure Loud (E:Env) (fn:Nat) (ops:Array Oper) (p:Nat) (op:Oper):Prop where
 at_:ops[p]?=some op
 loud:z1is E fn op=true
 still:∀ i,i<p→∃ o,ops[i]?=some o∧zoi E o=true∧(z17p o=true∨i∈closB ops p [p])
 wr:∀ i o,i≤p→ops[i]?=some o→∀ s,Operand.tmp s∈o.op.operands→∀ j oj,ops[j]?=some oj→oj.dst=some s→∃ e∈o.after,Region.binds .any e=true∧e.on=j
 once:∀ (i j:Nat) (oi oj:Oper) (d:Nat),ops[i]?=some oi→ops[j]?=some oj→oi.dst=some d→oj.dst=some d→i=j
 down:downB ops=true
 last:p+1=ops.size∨(p+2=ops.size∧∀ i,i<p+1→i∈closB ops (p+1) [p+1])
theorem z1gd {a:Nat}:∀ {l:List Nat},memN a l=true→a∈l
 | [],h=>by cases h
 | b::l,h=>by
  simp only [memN,Bool.or_eq_true] at h
  rcases h with h | h
  ·rw [List.mem_cons]; exact .inl (by simpa using h)
  ·exact List.mem_cons_of_mem _ (z1gd h)
theorem z18d {o:Oper} {j:Nat} (h:edgeB o j=true):∃ e∈o.after,Region.binds .any e=true∧e.on=j:=by
 unfold edgeB at h
 rw [Array.any_eq_true'] at h
 obtain ⟨e,he,h⟩:=h
 simp only [Bool.and_eq_true] at h
 exact ⟨e,he,h.1,by simpa using h.2⟩
theorem zp0 {ops:Array Oper} {o:Oper} (h:zsc ops o=true) (s:Nat) (hs:Operand.tmp s∈o.op.operands) (j:Nat) (oj:Oper) (hj:ops[j]?=some oj) (hd:oj.dst=some s):∃ e∈o.after,Region.binds .any e=true∧e.on=j:=by
 have h1:=zk h (.tmp s) (Array.mem_toList_iff.2 hs)
 have h2:=zk h1 j (List.mem_range.2 (Array.getElem?_eq_some_iff.1 hj).1)
 rw [hj] at h2
 have hw:z2n s oj=true:=by unfold z2n; rw [hd]; simp
 simp only [hw,Bool.not_true,Bool.false_or] at h2
 exact z18d h2
theorem zya {fn:Nat} {ops:Array Oper} {p:Nat} (h:zsn E fn ops p=true):∃ op,Loud E fn ops p op:=by
 unfold zsn at h
 simp only [Bool.and_eq_true] at h
 obtain ⟨⟨⟨⟨h1,h2⟩,h3⟩,h4⟩,h5⟩:=h
 cases ho:ops[p]? with
 | none=>rw [ho] at h1; cases h1
 | some op =>
 rw [ho] at h1
 simp only [Bool.and_eq_true] at h1
 have key:∀ i,i<p→∃ o,ops[i]?=some o∧zoi E o=true∧zsc ops o=true∧(z17p o=true∨i∈closB ops p [p]):=by
  intro i hi
  have:=zk h2 i (List.mem_range.2 hi)
  cases hoi:ops[i]? with
  | none=>rw [hoi] at this; cases this
  | some o =>
   rw [hoi] at this
   simp only [Bool.and_eq_true,Bool.or_eq_true] at this
   exact ⟨o,rfl,this.1.1,this.1.2,this.2.imp id z1gd⟩
 refine ⟨op,ho,h1.1,fun i hi=>?_,fun i o hi hoi s hs j oj hj hd=>?_,fun i j oi oj d hi hj hdi hdj=>?_,h4,?_⟩
 ·obtain ⟨o,k1,k2,k3,k4⟩:=key i hi; exact ⟨o,k1,k2,k4⟩
 ·rcases Nat.lt_or_ge i p with hlt | hge
  ·obtain ⟨o',k1,k2,k3,k4⟩:=key i hlt
   rw [hoi] at k1; cases k1
   exact zp0 k3 s hs j oj hj hd
  ·have:i=p:=by omega
   subst this
   rw [ho] at hoi; cases hoi
   exact zp0 h1.2 s hs j oj hj hd
 ·have:=zk h3 i (List.mem_range.2 (Array.getElem?_eq_some_iff.1 hi).1)
  rw [hi] at this
  simp only at this
  rw [hdi] at this
  have:=zk this j (List.mem_range.2 (Array.getElem?_eq_some_iff.1 hj).1)
  rw [hj] at this
  have hw:z2n d oj=true:=by unfold z2n; rw [hdj]; simp
  simp only [hw,Bool.not_true,Bool.or_false] at this
  simpa using this
 ·simp only [Bool.or_eq_true,Bool.and_eq_true] at h5
  rcases h5 with h5 | ⟨h5,h6⟩
  ·exact .inl (by simpa using h5)
  ·exact .inr ⟨by simpa using h5,fun i hi=>z1gd (zk h6 i (List.mem_range.2 hi))⟩
def zqa (ops:Array Oper) (listed:Array Bool):Prop:=∀ j oj,ops[j]?=some oj→listed.getD j false=true→∀ e∈oj.after,Region.binds .any e=true→listed.getD e.on false=true
theorem zse {listed:Array Bool} {i:Nat} (hi:i<listed.size):(listed.setIfInBounds i true).getD i false=true:=by
 rw [Array.getD_eq_getD_getElem?,Array.getElem?_setIfInBounds_self_of_lt hi]; rfl
theorem z9m {listed:Array Bool} {i j:Nat} (h:i≠j):(listed.setIfInBounds i true).getD j false=listed.getD j false:=by
 rw [Array.getD_eq_getD_getElem?,Array.getElem?_setIfInBounds_ne h,← Array.getD_eq_getD_getElem?]
theorem zvn {listed:Array Bool} {i j:Nat} (h:listed.getD j false=true):(listed.setIfInBounds i true).getD j false=true:=by
 by_cases hij:i=j
 ·subst hij
  apply zse
  rw [Array.getD_eq_getD_getElem?] at h
  rcases Nat.lt_or_ge i listed.size with h' | h'
  ·exact h'
  ·rw [Array.getElem?_eq_none h'] at h; cases h
 ·rw [z9m hij]; exact h
theorem zqa.set {ops:Array Oper} {listed:Array Bool} (hc:zqa ops listed) {i:Nat} (hr:i∈Region.ready .any ops listed):zqa ops (listed.setIfInBounds i true):=by
 obtain ⟨_,o,ho,hp⟩:=mem_ready.1 hr
 intro j oj hj hl e he hb
 by_cases hij:i=j
 ·subst hij
  rw [ho] at hj; cases hj
  exact zvn (hp e he hb)
 ·rw [z9m hij] at hl
  exact zvn (hc j oj hj hl e he hb)
theorem zw1 {ops:Array Oper} {listed:Array Bool} (hc:zqa ops listed):∀ (k:Nat) (seen:List Nat),(∀ m∈seen,listed.getD m false=true)→∀ i∈closB ops k seen,listed.getD i false=true
 | 0,seen,hs,i,hi=>hs i hi
 | k+1,seen,hs,i,hi=>by
  rw [closB] at hi
  refine zw1 hc k _ (fun m hm=>?_) i hi
  generalize ha:List.any seen _=bb at hm
  cases bb with
  | false=>exact hs m hm
  | true =>
   rcases List.mem_cons.1 hm with rfl | hm
   ·rw [List.any_eq_true] at ha
    obtain ⟨q,hq,hqe⟩:=ha
    cases hoq:ops[q]? with
    | none=>rw [hoq] at hqe; cases hqe
    | some oq =>
     rw [hoq] at hqe
     obtain ⟨e,he,hb,rfl⟩:=z18d hqe
     exact hc q oq hoq (hs q hq) e he hb
   ·exact hs m hm
theorem z18f {ops:Array Oper} {listed:Array Bool} (hsz:listed.size=ops.size) (hc:zqa ops listed) {q:Nat} (hr:q∈Region.ready .any ops listed) (k i:Nat) (hi:i∈closB ops k [q]) (hne:i≠q):listed.getD i false=true:=by
 have h:=zw1 (hc.set hr) k [q] (fun m hm=>by
  simp at hm; subst hm
  obtain ⟨_,o,ho,_⟩:=mem_ready.1 hr
  exact zse (by rw [hsz]; exact (Array.getElem?_eq_some_iff.1 ho).1)) i hi
 rw [z9m (Ne.symm hne)] at h
 exact h
theorem zxg (T:List PV) (d s:Nat) (v:PV):nthD .undef (putT T (some d) v) s=if d=s then (if s<T.length then v else .undef) else nthD .undef T s:=by
 simp only [putT]
 rw [z4l,z4l,z2z]
 by_cases h:d=s
 ·subst h
  rw [if_pos rfl]
  by_cases hl:d<T.length
  ·rw [List.getElem?_set_self hl,if_pos hl]; rfl
  ·rw [if_neg hl,List.getElem?_eq_none (by simp; omega)]; rfl
 ·rw [if_neg h,List.getElem?_set_ne h]
theorem z141 (T:List PV) (d:Option Nat) (v:PV):(putT T d v).length=T.length:=by cases d <;> simp [putT]
theorem z1jd {T T':List PV} {o:Oper} (h:∀ s,Operand.tmp s∈o.op.operands→nthD .undef T s=nthD .undef T' s):∀ x∈o.op.operands,ev T x=ev T' x:=by
 intro x hx
 cases x with
 | tmp s=>exact h s hx
 | const v=>rfl
 | global g=>rfl
 | func f=>rfl
variable {fn:Nat} {ops:Array Oper} {p:Nat} {op:Oper}
theorem Loud.lt (L:Loud E fn ops p op):p<ops.size:=(Array.getElem?_eq_some_iff.1 L.at_).1
theorem Loud.before (L:Loud E fn ops p op) {i:Nat} {o:Oper} (hi:i≤p) (ho:ops[i]?=some o) {s:Nat} (hs:Operand.tmp s∈o.op.operands) {j:Nat} {oj:Oper} (hj:ops[j]?=some oj) (hd:oj.dst=some s):j<i:=by
 obtain ⟨e,he,hb,rfl⟩:=L.wr i o hi ho s hs j oj hj hd
 have h:=zk L.down i (List.mem_range.2 (Array.getElem?_eq_some_iff.1 ho).1)
 rw [ho] at h
 have h:=zk h e (Array.mem_toList_iff.2 he)
 rw [hb] at h
 simpa using h
theorem z1iy (L:Loud E fn ops p op) {C:Orc} {objs:List Obj} {TA:List PV}:∀ (m k:Nat) (T:List PV),k+m=p→z8z E C ops (List.range' k m) (T,objs)=some (TA,objs) →
  TA.length=T.length∧(∀ s,(∀ i o,k≤i→i<p→ops[i]?=some o→o.dst≠some s)→nthD .undef TA s=nthD .undef T s) ∧
  (∀ i o,k≤i→i<p→ops[i]?=some o→∃ v,opD E TA objs o=some (v,objs)∧∀ d,o.dst=some d→nthD .undef TA d=if d<TA.length then v else .undef)
 | 0,k,T,hk,h=>by
  simp only [List.range'_zero,z8z,oJ,pJ] at h
  obtain ⟨rfl,_⟩:=h
  exact ⟨rfl,fun _ _=>rfl,fun i o h1 h2=>by omega⟩
 | m+1,k,T,hk,h=>by
  obtain ⟨o,ho,hst,_⟩:=L.still k (by omega)
  simp only [List.range'_succ,z8z,zx2 ho hst] at h
  obtain ⟨s1,h1,h⟩:=zb h
  obtain ⟨⟨v,objs1⟩,hv,rfl⟩:=Option.map_eq_some_iff.1 h1
  have hk3:=(zdl hst).2.2
  have:=z17e hk3 hv
  subst this
  obtain ⟨a1,a2,a3⟩:=z1iy L m (k+1) _ (by omega) h
  have hl:TA.length=T.length:=a1.trans (z141 _ _ _)
  refine ⟨hl,fun s hs=>?_,fun i oi h1 h2 hoi=>?_⟩
  ·rw [a2 s (fun i oi h1 h2 h3=>hs i oi (by omega) h2 h3)]
   have hne:=hs k o (Nat.le_refl _) (by omega) ho
   cases hd:o.dst with
   | none=>rfl
   | some d=>rw [zxg,if_neg (fun e=>hne (by rw [hd,e]))]
  ·by_cases hik:i=k
   ·subst hik
    rw [ho] at hoi; cases hoi
    refine ⟨v,?_,fun d hd=>?_⟩
    ·rw [← hv]
     refine zv7 hk3 _ (z1jd fun s hs=>?_)
     rw [a2 s (fun j oj h3 h4 h5 h6=>by have:=L.before (by omega) ho hs h5 h6; omega)]
     cases hd:o.dst with
     | none=>rfl
     | some d =>
      have hds:d≠s:=by
       intro e; subst e
       have:=L.before (by omega) ho hs ho hd
       omega
      rw [zxg,if_neg hds]
    ·rw [a2 d (fun j oj h3 h4 h5 h6=>by have:=L.once i j _ _ d ho h5 hd h6; omega),hd,zxg,if_pos rfl,hl]
   ·exact a3 i oi (by omega) h2 hoi
def Agr (ops:Array Oper) (p:Nat) (TA:List PV) (listed:Array Bool) (T:List PV):Prop :=
 T.length=TA.length∧∀ s,(∀ j o,j<p→listed.getD j false=false→ops[j]?=some o→o.dst≠some s)→nthD .undef T s=nthD .undef TA s
theorem Agr.operands (L:Loud E fn ops p op) {TA T:List PV} {listed:Array Bool} (A:Agr ops p TA listed T) {i:Nat} {o:Oper} (hi:i≤p) (hr:i∈Region.ready .any ops listed) (ho:ops[i]?=some o):∀ x∈o.op.operands,ev T x=ev TA x:=by
 obtain ⟨_,o',ho',hp⟩:=mem_ready.1 hr
 rw [ho] at ho'; cases ho'
 refine z1jd fun s hs=>A.2 s fun j oj h1 h2 h3 h4=>?_
 obtain ⟨e,he,hb,rfl⟩:=L.wr i o hi ho s hs j oj h3 h4
 rw [hp e he hb] at h2; cases h2
theorem Agr.put (L:Loud E fn ops p op) {TA T:List PV} {listed:Array Bool} (hsz:listed.size=ops.size) (A:Agr ops p TA listed T) {i:Nat} {o:Oper} (hi:i<p) (ho:ops[i]?=some o) {v:PV} (hv:∀ d,o.dst=some d→nthD .undef TA d=if d<TA.length then v else .undef) :
  Agr ops p TA (listed.setIfInBounds i true) (putT T o.dst v):=by
 refine ⟨by rw [z141,A.1],fun s hs=>?_⟩
 by_cases he:o.dst=some s
 ·rw [he,zxg,if_pos rfl,hv s he,A.1]
 ·have h1:nthD .undef (putT T o.dst v) s=nthD .undef T s:=by
   cases hd:o.dst with
   | none=>rfl
   | some d=>rw [zxg,if_neg (fun e=>he (by rw [hd,e]))]
  rw [h1]
  refine A.2 s fun j oj h2 h3 h4=>?_
  by_cases hij:i=j
  ·subst hij; rw [ho] at h4; cases h4; exact he
  ·exact hs j oj h2 (by rw [z9m hij]; exact h3) h4
theorem z12m {listed:Array Bool} {i:Nat} (hr:i∈Region.ready .any ops listed):i<ops.size:=by
 obtain ⟨_,o,ho,_⟩:=mem_ready.1 hr
 exact (Array.getElem?_eq_some_iff.1 ho).1
theorem z1i4 {listed:Array Bool} (hsz:listed.size=ops.size) {i:Nat} (hr:i∈Region.ready .any ops listed):listed.getD i false=false:=by
 have h:=(mem_ready.1 hr).1
 have:=z12m hr
 rw [Array.getD_eq_getD_getElem?] at h ⊢
 rw [Array.getElem?_eq_getElem (by omega)] at h ⊢
 exact h
variable (hE:EnvOk E) {w0:World} {Wx:Nat→Nat→Prop}
include hE
theorem to_call {C:Orc} (hC:OrcOk E C) (L:Loud E fn ops p op) {objs:List Obj} {TA:List PV} (hV:∀ i o,i<p→ops[i]?=some o→∃ v,opD E TA objs o=some (v,objs)∧∀ d,o.dst=some d→nthD .undef TA d=if d<TA.length then v else .undef)
  (b:Frame) (t:List Item) (cs:List Frame):∀ (l:List Nat) (listed:Array Bool) (w:World) (bl:zh) (T:List PV) (a:Act),Ord ops listed l→listed.size=ops.size→listed.getD p false=false→zqa ops listed →
  Sim w0 Wx w bl objs→TRel w (WT Wx bl objs) bl objs T a.tmps→Agr ops p TA listed T →
  ∃ rest listed' w' bl' T' a',Steps E.P (lone (b.atR a (.inRegion ops l::t)) cs w) (lone (b.atR a' (.inRegion ops (p::rest)::t)) cs w')∧a'.defers=a.defers ∧
   Sim w0 Wx w' bl' objs∧Ext w (WT Wx bl objs) bl objs w' (WT Wx bl' objs) bl' objs∧TRel w' (WT Wx bl' objs) bl' objs T' a'.tmps∧Agr ops p TA listed' T' ∧
   listed'.size=ops.size∧zqa ops listed'∧p∈Region.ready .any ops listed'∧(∀ q,p<q→listed'.getD q false=listed.getD q false)∧Ord ops (listed'.setIfInBounds p true) rest
 | [],listed,w,bl,T,a,hO,hsz,hp,_,_,_,_=>by
  cases hO with
  | nil _ h=>rw [h p L.lt] at hp; cases hp
 | i::l,listed,w,bl,T,a,hO,hsz,hp,hc,S,hT,A=>by
  cases hO with
  | cons _ _ _ hr hO' =>
  by_cases hip:i=p
  ·subst hip
   exact ⟨l,listed,w,bl,T,a,.refl _ _,rfl,S,Ext.refl _ _ _ _,hT,A,hsz,hc,hr,fun _ _=>rfl,hO'⟩
  by_cases hlt:i<p
  ·obtain ⟨o,ho,hst,_⟩:=L.still i hlt
   obtain ⟨v,hv,hvd⟩:=hV i o hlt ho
   have hT1:opD E T objs o=some (v,objs):=by
    rw [zv7 (zdl hst).2.2 objs (A.operands L (by omega) hr ho)]; exact hv
   have hone:oneR E C ops i (T,objs)=some (putT T o.dst v,objs):=by rw [zx2 ho hst,hT1]; rfl
   obtain ⟨a1,w1,bl1,d1,st1,S1,X1,R1⟩:=zxc hE hC S hT ops i hone b l t cs
   obtain ⟨rest,listed',w',bl',T',a',st,df,S',X',R',A',z1,z2,z3,z4,z5⟩:=to_call hC L hV b t cs l _ w1 bl1 _ a1 hO' (by simp [hsz]) (by rw [z9m hip]; exact hp) (hc.set hr) S1 R1 (A.put L hsz hlt ho hvd)
   exact ⟨rest,listed',w',bl',T',a',st1.trans st,df.trans d1,S',X1.trans X',R',A',z1,z2,z3,fun q hq=>by rw [z4 q hq,z9m (by omega)],z5⟩
  ·exfalso
   have hil:=z12m hr
   rcases L.last with h | ⟨h,h2⟩
   ·omega
   ·have:i=p+1:=by omega
    subst this
    rw [z18f hsz hc hr (p+1) p (h2 p (by omega)) (by omega)] at hp
    cases hp
theorem z1b3 {w:World} {bl:zh} {objs:List Obj} (t f:Nat) {x q:PV} {vx:Value} (hx:VR w (WT Wx bl objs) bl objs x vx) (h:z1p E t objs x f some=some q) :
  ∃ v,(∀ w2,(Instr.fieldAt t vx f).run E.P w2=.ok v w2)∧VR w (WT Wx bl objs) bl objs q v:=by
 unfold z1p at h
 cases hf:zzq E t f with
 | none=>rw [hf] at h; cases h
 | some of =>
 obtain ⟨o,ft⟩:=of
 rw [hf] at h
 simp only at h
 cases hk:(!(E.ti ft).d.known||(z6c E ft == 0)) with
 | true=>rw [hk] at h; simp at h
 | false =>
 rw [hk] at h
 simp only [cond_false] at h
 simp only [Bool.or_eq_false_iff,Bool.not_eq_false'] at hk
 obtain ⟨hkn,hsz⟩:=hk
 have hsz:(E.ti ft).size≠0:=by
  intro h0
  rw [show z6c E ft=(E.ti ft).size from rfl,h0] at hsz
  cases hsz
 obtain ⟨fields,fl,hu,hfl,rfl,rfl⟩:=zvv hE hf
 have run:∀ w2 b y,(Instr.fieldAt t (.pointer (some ⟨b,y,none⟩)) f).run E.P w2=.ok (.pointer (some ⟨b,y+fl.offset,none⟩)) w2:=by
  intro w2 b y
  simp [Instr.fieldAt,run_underlying hu,hfl,Instr.sureAddr,fieldPlace,z7l hE w2 hkn,hsz,zl7]
 split at h
 ·rename_i i off
  split at h
  ·cases h
  ·rename_i ob hne
   simp only [oJ] at h
   subst h
   obtain ⟨b,o,hi,hb,rfl⟩:=z143 hx hne
   refine ⟨_,fun w2=>run w2 _ _,?_⟩
   rw [Nat.add_assoc]; exact .ptr _ _ _ _ hi hb
 ·rename_i i kk off
  split at h
  ·rename_i ho
   simp only [oJ] at h
   subst h
   obtain ⟨b,o,hi,hb,rfl⟩:=z19w hx ho
   refine ⟨_,fun w2=>run w2 _ _,?_⟩
   rw [Nat.add_assoc]; exact .rptr _ _ _ _ _ _ _ _ _ hi ho hb
  ·cases h
 ·rename_i l off
  simp only [oJ] at h
  subst h
  obtain ⟨b,o,g,rfl,h1,h2⟩:=z1a0 hx
  refine ⟨_,fun w2=>run w2 _ _,.fz _ _ ?_⟩
  rw [Nat.add_assoc]; exact .ref _ _ _ _ _ h1 h2
 ·rename_i v off
  cases hr:v.refR with
  | none=>rw [hr] at h; cases h
  | some u =>
   rw [hr] at h
   simp only [oB,oJ] at h
   subst h
   obtain ⟨b,o,rfl,hv⟩:=z1g7 hx hr
   refine ⟨_,fun w2=>run w2 _ _,?_⟩
   rw [Nat.add_assoc]
   exact .opq _ _ _ _ (by cases v <;> simp [PV.refR] at hr; rfl) hv
 ·cases h
theorem pure_run {w:World} {bl:zh} {objs:List Obj} {o:Oper} (hs:z17p o=true) {T:List PV} {a:Act} (hT:TRel w (WT Wx bl objs) bl objs T a.tmps) {v:PV} (h:opD E T objs o=some (v,objs)) :
  ∃ u,VR w (WT Wx bl objs) bl objs v u∧∀ a2:Act,(∀ y∈o.op.operands,a2.eval y=a.eval y)→∀ w2,(execOp a2.eval o).run E.P w2=.ok (.value u) w2:=by
 obtain ⟨dst,op,type,pos,after,guard⟩:=o
 unfold z17p at hs
 unfold opD opK at h
 cases op <;> simp only at hs <;> first | (cases hs; done) | skip
 case move x =>
  simp only [oJ,pJ] at h
  obtain ⟨rfl,_⟩:=h
  refine ⟨a.eval x,ev_rel hT x,fun a2 he w2=>?_⟩
  simp only [execOp,Sem.run_pure]
  rw [he x (by simp [Op.operands])]
 case nilCheck x =>
  simp only at h
  rw [z1y] at h
  obtain ⟨q,hq,h⟩:=zb h
  simp only [oJ,pJ] at h
  obtain ⟨rfl,_⟩:=h
  have R:=ev_rel hT x
  obtain ⟨rfl,b,hb⟩:=ztz R hq
  refine ⟨a.eval x,R,fun a2 he w2=>?_⟩
  have e:a2.eval x=.pointer (some b):=by rw [he x (by simp [Op.operands]),hb]
  rw [hb]
  simp only [execOp,e,Sem.run_pure]
 case fieldAddr s x f =>
  simp only at h
  rw [z1h] at h
  obtain ⟨q,hq,h⟩:=zb h
  simp only [oJ,pJ] at h
  obtain ⟨rfl,_⟩:=h
  obtain ⟨u,h1,h2⟩:=z1b3 hE s f (ev_rel hT x) hq
  refine ⟨u,h2,fun a2 he w2=>?_⟩
  simp only [execOp,Sem.run_bind]
  rw [he x (by simp [Op.operands]),h1 w2]
  rfl
omit hE in
theorem z1ds {T TA:List PV} (hl:T.length=TA.length) (h:∀ s,nthD .undef T s=nthD .undef TA s):T=TA:=by
 apply List.ext_getElem hl
 intro s h1 h2
 have:=h s
 rw [z4l,z4l,List.getElem?_eq_getElem h1,List.getElem?_eq_getElem h2] at this
 exact this
theorem put_off (L:Loud E fn ops p op) {objs:List Obj} {TA:List PV} (hV:∀ i o,i<p→ops[i]?=some o→∃ v,opD E TA objs o=some (v,objs)∧∀ d,o.dst=some d→nthD .undef TA d=if d<TA.length then v else .undef)
  {w:World} {bl:zh} (S:Sim w0 Wx w bl objs):∀ (l:List Nat) (listed:Array Bool) (T:List PV) (a:Act),Ord ops listed l→listed.size=ops.size→listed.getD p false=true→(∀ q,p<q→listed.getD q false=false)→zqa ops listed →
  TRel w (WT Wx bl objs) bl objs T a.tmps→Agr ops p TA listed T →
  ∃ pend a',l=pend++List.range' (p+1) (ops.size-(p+1))∧Later E.P ops op.dst pend a a'∧TRel w (WT Wx bl objs) bl objs TA a'.tmps
 | [],listed,T,a,hO,hsz,hp,hq,hc,hT,A=>by
  cases hO with
  | nil _ h =>
  have hn:p+1=ops.size:=by
   rcases L.last with h1 | ⟨h1,_⟩
   ·exact h1
   ·have:=hq (p+1) (by omega); rw [h (p+1) (by omega)] at this; cases this
  have:T=TA:=z1ds A.1 fun s=>A.2 s fun j o h1 h2 _ _=>by rw [h j (by have:=L.lt; omega)] at h2; cases h2
  subst this
  exact ⟨[],a,by rw [show ops.size-(p+1)=0 by omega]; rfl,.nil _,hT⟩
 | i::l,listed,T,a,hO,hsz,hp,hq,hc,hT,A=>by
  cases hO with
  | cons _ _ _ hr hO' =>
  have hun:=z1i4 hsz hr
  have hlt:=z12m hr
  by_cases hip:i<p
  ·obtain ⟨o,ho,hst,hpu⟩:=L.still i hip
   have hpure:z17p o=true:=by
    rcases hpu with h | h
    ·exact h
    ·exfalso
     have:=zw1 hc p [p] (fun m hm=>by simp at hm; subst hm; exact hp) i h
     rw [this] at hun; cases hun
   obtain ⟨v,hv,hvd⟩:=hV i o hip ho
   have hT1:opD E T objs o=some (v,objs):=by
    rw [zv7 (zdl hst).2.2 objs (A.operands L (by omega) hr ho)]; exact hv
   obtain ⟨u,hu,hrun⟩:=pure_run hE hpure hT hT1
   have hTp:TRel w (WT Wx bl objs) bl objs (putT T o.dst v) (a.put o.dst u).tmps:=by
    have:=hT.put o.dst hu
    rw [put_tmps]; exact this
   obtain ⟨pend,a',h1,h2,h3⟩:=put_off L hV S l _ _ (a.put o.dst u) hO' (by simp [hsz]) (zvn hp) (fun q h=>by rw [z9m (by omega)]; exact hq q h) (hc.set hr) hTp (A.put L hsz hip ho hvd)
   have hdst:∀ d,op.dst=some d→o.dst≠some d:=fun d h h'=>by have:=L.once p i op o d L.at_ ho h h'; omega
   refine ⟨i::pend,a',by rw [h1]; rfl,.cons i pend o u a a' ho (zdl hst).2.1 hdst (fun x w2=>hrun _ (fun y hy=>?_) w2) h2,h3⟩
   cases y with
   | tmp s =>
    have hne:op.dst≠some s:=fun h=>by have:=L.before (by omega) ho hy L.at_ h; omega
    exact put_ne a op.dst x s hne
   | const v=>rfl
   | global g=>rfl
   | func f=>rfl
  ·have hne:i≠p:=by intro e; subst e; rw [hp] at hun; cases hun
   rcases L.last with h1 | ⟨h1,h2⟩
   ·omega
   ·have:i=p+1:=by omega
    subst this
    have hall:∀ j,j<p+1→listed.getD j false=true:=fun j hj=>z18f hsz hc hr (p+1) j (h2 j hj) (by omega)
    have:T=TA:=z1ds A.1 fun s=>A.2 s fun j o h3 h4 _ _=>by rw [hall j (by omega)] at h4; cases h4
    subst this
    have hl:l=[]:=by
     cases hO' with
     | nil _ _=>rfl
     | cons _ j l' hr' _ =>
      exfalso
      have hj:=z12m hr'
      have hu:=z1i4 (by simp [hsz]) hr'
      by_cases e:j=p+1
      ·subst e; rw [zse (by omega)] at hu; cases hu
      ·rw [z9m (Ne.symm e),hall j (by omega)] at hu; cases hu
    subst hl
    exact ⟨[],a,by rw [show ops.size-(p+1)=1 by omega]; rfl,.nil _,hT⟩
end
end Dv

namespace Dv
open Go Go.RowKit
section
variable {w0 w:World} {Wx:Nat→Nat→Prop} {bl:zh} {objs:List Obj}
theorem poke (S:Sim w0 Wx w bl objs) {i b o0:Nat} (hb:bl[i]?=some (some (b,o0))) (hal:alive objs i) (X:Go.Obj) (o':Obj)
  (hnc:∀ cs e fr,w.heap[b]?≠some (.cells cs e fr)) (hnm:∀ es c,w.heap[b]?≠some (.map es c)) (hmw:∀ y x,¬ mayW o' y x) (hak:o'=.dead∨z4u (nthD .dead objs i) o')
  (hO:Ext w (WT Wx bl objs) bl objs (oset w b X) (WT Wx bl (setN objs i o')) bl (setN objs i o')→(oset w b X).heap[b]?=some X→ORel (oset w b X) (WT Wx bl (setN objs i o')) bl (setN objs i o') i) :
  Sim w0 Wx (oset w b X) bl (setN objs i o')∧Ext w (WT Wx bl objs) bl objs (oset w b X) (WT Wx bl (setN objs i o')) bl (setN objs i o'):=by
 have hi:i<objs.length:=S.lt_of_own hb
 have hlt:b<w.heap.size:=(S.own i b o0 hb).2
 have hne:∀ b',b≠b'→(oset w b X).heap[b']?=w.heap[b']?:=fun b' h=>by simp [oset,Array.getElem?_setIfInBounds_ne h]
 have hself:(oset w b X).heap[b]?=some X:=by simp [oset,Array.getElem?_setIfInBounds,hlt]
 have hwo:∀ b' x,WO bl (setN objs i o') b' x→WO bl objs b' x:=by
  rintro b' x ⟨j,o1,hj,hm⟩
  by_cases hij:i=j
  ·subst hij; rw [z8 _ _ _ _ hi] at hm; exact absurd hm (hmw _ _)
  ·rw [zd _ _ _ _ _ hij] at hm; exact ⟨j,o1,hj,hm⟩
 have H:Ext w (WT Wx bl objs) bl objs (oset w b X) (WT Wx bl (setN objs i o')) bl (setN objs i o'):=by
  refine ⟨⟨fun b' x v hv hnw=>⟨?_,fun h=>hnw (h.imp id (hwo b' x))⟩,fun b' es c hv hnw=>⟨?_,fun h=>hnw (h.imp id (hwo b' 0))⟩⟩,by simp,fun j hj=>?_,?_⟩
  ·by_cases hbb:b=b'
   ·subst hbb
    exfalso
    unfold World.cell? at hv
    split at hv
    ·rename_i h; exact hnc _ _ _ h
    ·cases hv
   ·unfold World.cell? at hv ⊢
    simp only at hv ⊢
    rw [hne b' hbb]; exact hv
  ·by_cases hbb:b=b'
   ·subst hbb; exact absurd hv (hnm _ _)
   ·rw [hne b' hbb]; exact hv
  ·by_cases hij:i=j
   ·subst hij
    rw [z8 _ _ _ _ hi]
    rcases hak with h | h
    ·exact .inl (.inl h)
    ·exact .inr ⟨rfl,h⟩
   ·rw [zd _ _ _ _ _ hij]; exact .inr ⟨rfl,z4u.refl _⟩
  ·rintro b' n ⟨cs,e,fr,hh,hn⟩
   by_cases hbb:b=b'
   ·subst hbb; exact absurd hh (hnc _ _ _)
   ·exact ⟨cs,e,fr,(hne b' hbb).trans hh,hn⟩
 refine ⟨⟨?_,by simp [S.len],?_,?_,?_,S.wx⟩,H⟩
 ·exact S.below.trans ⟨rfl,rfl,rfl,by simp [oset],fun k hk=>hne k (by have:=(S.own i b o0 hb).1; omega)⟩
 ·intro j b' x hj
  have:=S.own j b' x hj
  exact ⟨this.1,by simpa [oset] using this.2⟩
 ·intro j k b' x y hj hk aj ak
  have key:∀ j,alive (setN objs i o') j→alive objs j:=by
   intro j h
   by_cases hij:i=j
   ·subst hij; exact hal
   ·unfold alive at h ⊢; rwa [zd _ _ _ _ _ hij] at h
  exact S.inj j k b' x y hj hk (key j aj) (key k ak)
 ·intro j hj
  by_cases hij:i=j
  ·subst hij; exact hO H hself
  ·have hsame:nthD .dead (setN objs i o') j=nthD .dead objs j:=zd _ _ _ _ _ hij
   by_cases haj:alive objs j
   ·refine (S.obj j (by simpa using hj)).keep H (by rw [hsame]; exact sameO.refl _) rfl (fun b' x hb'=>hne b' (fun hbb=>?_))
    subst hbb
    exact hij (S.inj i j b o0 x hb hb' hal haj)
   ·exact ORel.of_dead (by rw [hsame]; exact zvx haj)
theorem z1do {W:Nat→Nat→Prop} {i b:Nat} (h:VR w W bl objs (.mapr i) (.map (some b))) (hd:nthD .dead objs i≠.dead):bl[i]?=some (some (b,0)):=by
 cases h with
 | fz _ _ h=>cases h
 | dead _ _ k _ hr _ hdd _=>simp only [refOf,oJ] at hr; subst hr; exact absurd hdd hd
 | mapr _ _ _ hb=>exact hb
theorem z1al (S:Sim w0 Wx w bl objs) {i b:Nat} {st:LoopState} {pd:Option Code} {fn:Nat} {T:List PV} {ps:Array Nat} {as bd:Code} (ho:nthD .dead objs i=.loop st pd fn T ps as bd)
  (hv:VR w (WT Wx bl objs) bl objs (.mapr i) (.map (some b))):bl[i]?=some (some (b,0))∧∃ (r:Nat) (tmps:Array Value),
   w.heap[b]?=some (.loop { state:=st,pending:=pd,fn,tmps,params:=ps,assign:=as,body:=bd,defers:=r })∧TRel w (WT Wx bl objs) bl objs T tmps:=by
 have hb:=z1do hv (by rw [ho]; simp)
 have hO:=S.obj i (S.lt_of_own hb)
 unfold ORel at hO
 rw [ho] at hO
 obtain ⟨b',r,tmps,hb',hh,hl,hx⟩:=hO
 rw [hb] at hb'
 simp at hb'
 subst hb'
 exact ⟨hb,r,tmps,hh,hl,hx⟩
theorem z1dp (S:Sim w0 Wx w bl objs) {i b:Nat} {st:LoopState} {pd:Option Code} {fn:Nat} {T:List PV} {ps:Array Nat} {as bd:Code} (ho:nthD .dead objs i=.loop st pd fn T ps as bd)
  (hb:bl[i]?=some (some (b,0))) {r:Nat} {tmps:Array Value} (hh:w.heap[b]?=some (.loop { state:=st,pending:=pd,fn,tmps,params:=ps,assign:=as,body:=bd,defers:=r })) (hT:TRel w (WT Wx bl objs) bl objs T tmps)
  (st':LoopState) (pd':Option Code) :
  Sim w0 Wx (oset w b (.loop { state:=st',pending:=pd',fn,tmps,params:=ps,assign:=as,body:=bd,defers:=r })) bl (setN objs i (.loop st' pd' fn T ps as bd)) ∧
  Ext w (WT Wx bl objs) bl objs (oset w b (.loop { state:=st',pending:=pd',fn,tmps,params:=ps,assign:=as,body:=bd,defers:=r })) (WT Wx bl (setN objs i (.loop st' pd' fn T ps as bd))) bl (setN objs i (.loop st' pd' fn T ps as bd)):=by
 refine poke S hb (by unfold alive; rw [ho]; trivial) _ _ (by rw [hh]; intro _ _ _ h; cases h) (by rw [hh]; intro _ _ h; cases h) (fun _ _ h=>h) (.inr (by rw [ho]; trivial)) (fun X hs=>?_)
 unfold ORel
 rw [z8 _ _ _ _ (S.lt_of_own hb)]
 have h1:=hT.mono X
 exact ⟨b,r,tmps,hb,hs,h1.1,h1.2⟩
theorem z1it (S:Sim w0 Wx w bl objs) {i b:Nat} (hb:bl[i]?=some (some (b,0))) (hal:alive objs i) (X:Go.Obj)
  (hnc:∀ cs e fr,w.heap[b]?≠some (.cells cs e fr)) (hnm:∀ es c,w.heap[b]?≠some (.map es c)) :
  Sim w0 Wx (oset w b X) bl (setN objs i .dead)∧Ext w (WT Wx bl objs) bl objs (oset w b X) (WT Wx bl (setN objs i .dead)) bl (setN objs i .dead) :=
 poke S hb hal X .dead hnc hnm (fun _ _ h=>h) (.inl rfl) (fun _ _=>ORel.of_dead (by rw [z8 _ _ _ _ (S.lt_of_own hb)]))
variable {P:Program} {b:Frame} {a:Act} {k:List Item} {cs:List Frame}
theorem z16p {l:Nat} {r:Loop} (hh:w.heap[l]?=some (.loop r)) (hr:r.state=.ready):(Instr.beginRound l).run P w=.ok () (oset w l (.loop { r with state:=.busy })):=by
 simp [Instr.beginRound,Instr.getLoop,getObj,setObj,Sem.run,hh,hr,oset]
theorem z1d0 {l:Nat} {r:Loop} (hh:w.heap[l]?=some (.loop r)) (jump:Option Code) :
  (Instr.endRound l jump).run P w=.ok (.bool jump.isNone) (oset w l (.loop { r with state:=if jump.isNone then .ready else .done,pending:=jump })):=by
 simp [Instr.endRound,Instr.getLoop,getObj,setObj,Sem.run,hh,oset]
theorem z1fw {l:Nat} {r:Loop} (hh:w.heap[l]?=some (.loop r)) (hr:r.state≠.busy):(Instr.endLoop l).run P w=.ok r.pending (oset w l (.loop { r with state:=.exhausted })):=by
 simp [Instr.endLoop,Instr.getLoop,getObj,setObj,Sem.run,hh,hr,oset]
theorem run_take {l:Nat} (hh:w.heap[l]?=some (.deferred (some []))):(Instr.takeDeferred l).run P w=.ok [] (oset w l (.deferred none)):=by
 simp [Instr.takeDeferred,getObj,setObj,Sem.run,hh,oset]
theorem z19u (fn:Nat) (tmps:Array Value) (ps:Array Nat) (as bd:Code) :
  (Instr.enterLoop fn tmps ps as bd none).run P w=.ok (w.heap.size+1,[{ target:=.collected w.heap.size,args:=#[] }])
   ((w.alloc (.deferred (some []))).alloc (.loop { state:=.ready,pending:=none,fn,tmps,params:=ps,assign:=as,body:=bd,defers:=w.heap.size })):=by
 simp [Instr.enterLoop,newObj,Sem.run]
theorem run_yield {l:Nat} {r:Loop} (hh:w.heap[l]?=some (.loop r)) {args:Array Value} (ha:args.size=r.params.size) :
  (Instr.yield l args).run P w=.ok (.round l r.fn ((r.params.zip args).foldl (fun tmps (t,a)=>tmps.setIfInBounds t a) r.tmps) r.assign r.body) w:=by
 simp [Instr.yield,Instr.getLoop,getObj,Sem.run,hh,ha]
theorem z16d (hb:b.roundOf=none) {fn0:Nat} (hfn:b.fn=fn0) {x:Operand} {ps:Array Nat} {as bd:Code} {l:Nat} {mark:List Deferred} {w':World} (he:(Instr.enterLoop fn0 a.tmps ps as bd none).run P w=.ok (l,mark) w') {g:Nat} {vals:Array Value}
  (hc:(do let d ← resolve a.eval { callee:=.value x,args:=#[.const (.func (.yield l) #[] #[])],argTypes:=#[] } 0; invoke d.target d.args:Sem Next).run P w'=.ok (.enter g vals) w') :
  step P (lone (b.atR a (.code (.rangeFunc x ps as bd)::k)) cs w)=.next (lone (Frame.enter P g vals .normal) ({ b.atR a (.inRangeFunc l::k) with defers:=mark++a.defers }::cs) w') :=
 step_lone_go (by
  subst hfn
  have h0:(Frame.eval { fn:=b.fn,tmps:=a.tmps,todo:=.inRangeFunc l::k,defers:=mark++a.defers,mode:=.run,kind:=b.kind,roundOf:=none })=a.eval:=funext fun y=>by cases y <;> rfl
  simp only [Sem.run_bind] at hc
  simp [stepG,stepG.exec,Frame.atR,hb,Sem.runT_eq,he,stepG.apply,h0,hc,Sem.run_bind])
theorem z19e {l:Nat} {jump:Option Code} {w':World} (he:(Instr.endLoop l).run P w=.ok jump w'):step P (lone (b.atR a (.endRangeFunc l::k)) cs w)=.next (lone (b.atR a (jumpL jump++k)) cs w') :=
 step_lone_go (by cases jump <;> simp [stepG,stepG.exec,Frame.atR,Sem.runT_eq,he,jumpL])
theorem step_mark {fr:Frame} {r:Nat} {as:Array Value} {ds:List Deferred} {w':World} (hm:fr.mode=.returning) (hd:fr.defers={ target:=.collected r,args:=as }::ds) (he:(Instr.takeDeferred r).run P w=.ok [] w') :
  step P (lone fr cs w)=.next (lone { fr with defers:=ds } cs w') :=
 step_lone_go (by simp [stepG,unwind,hm,hd,Sem.runT_eq,he])
end
end Dv

namespace Dv
open Go Go.RowKit
section moves
variable {P:Program} {b:Frame} {a:Act} {k:List Item} {cs:List Frame} {w:World}
theorem z1kk {c:Code}:step P (lone (b.atR a (.code (.scope c)::k)) cs w)=.next (lone (b.atR a (.code c::.inScope c::k)) cs w):=step_lone_go (by simp [stepG,stepG.exec,Frame.atR])
theorem z1ck {c:Code}:step P (lone (b.atR a (.inScope c::k)) cs w)=.next (lone (b.atR a k) cs w):=step_lone_go (by simp [stepG,stepG.exec,Frame.atR])
end moves
section
variable {E:Env} (hE:EnvOk E) {w0:World} {Wx:Nat→Nat→Prop}
def resOf (tmps:Array Value):ResultVar→Sem Value
 | .tmp t=>pure (tmps.getD t undef)
 | .cell a t=>do loadVar t (← asAddr (tmps.getD a undef))
theorem z1kr (fn:Func) (tmps:Array Value):results fn tmps=(do let vs ← fn.results.mapM (resOf tmps); pure (if h:vs.size=1 then vs[0] else .tuple vs)):=by
 have e:∀ (f:ResultVar→Sem Value),(∀ x,f x=resOf tmps x)→(do let vs ← fn.results.mapM f; pure (if h:vs.size=1 then vs[0] else .tuple vs):Sem Value)=(do let vs ← fn.results.mapM (resOf tmps); pure (if h:vs.size=1 then vs[0] else .tuple vs)):=by
  intro f hf
  rw [show f=resOf tmps from funext hf]
 exact e _ (fun x=>by cases x <;> rfl)
def Ends (E:Env) (w0:World) (Wx:Nat→Nat→Prop) (tis:List TI) (fn:Nat) (cs:List Frame) (m:Machine) (r:PV):Prop :=
 ∃ v w' fr,Steps E.P m (lone fr cs w')∧fr.fn=fn∧fr.leaving E.P w' (.returned v)∧VRf w' Wx r v∧zg4 tis r=true∧Below w0.heap.size w0 w'
theorem Ends.steps {tis:List TI} {fn:Nat} {cs:List Frame} {m m':Machine} {r:PV} (h:Steps E.P m m') (h':Ends E w0 Wx tis fn cs m' r):Ends E w0 Wx tis fn cs m r:=by
 obtain ⟨v,w',fr,h1,h2⟩:=h'
 exact ⟨v,w',fr,h.trans h1,h2⟩
include hE
theorem zzi {w:World} {bl:zh} {objs:List Obj} (S:Sim w0 Wx w bl objs) {T:List PV} {tmps:Array Value} (hT:TRel w (WT Wx bl objs) bl objs T tmps):∀ (l:List ResultVar) (acc vs:List PV),resV E objs T l acc some=some vs →
  ∃ (ps:List PV) (vals:List Value),(l.mapM (resOf tmps)).run E.P w=.ok vals w∧vs=acc.reverse++ps∧ps.length=vals.length ∧
   ∀ (j:Nat) (q:PV),ps[j]?=some q→VR w (WT Wx bl objs) bl objs q (vals.getD j undef)
 | [],acc,vs,h=>by
  simp only [resV,oJ] at h
  exact ⟨[],[],by simp,by rw [← h]; simp,rfl,fun j q hq=>by simp at hq⟩
 | .tmp t::l,acc,vs,h=>by
  simp only [resV] at h
  obtain ⟨ps,vals,h1,h2,h3,h4⟩:=zzi S hT l _ vs h
  refine ⟨nthD .undef T t::ps,tmps.getD t undef::vals,?_,by rw [h2]; simp,by simp [h3],fun j q hq=>?_⟩
  ·simp only [List.mapM_cons,resOf,Sem.run_bind,Sem.run_pure,Result.andThen_ok,h1]
  ·cases j with
   | zero=>simp at hq; subst hq; exact hT.get t
   | succ j=>simpa using h4 j q (by simpa using hq)
 | .cell c t::l,acc,vs,h=>by
  simp only [resV] at h
  rw [z3y] at h
  obtain ⟨q0,hq0,h⟩:=zb h
  obtain ⟨ps,vals,h1,h2,h3,h4⟩:=zzi S hT l _ vs h
  obtain ⟨v,hv,hr⟩:=z17t hE S t (hT.get c) hq0
  refine ⟨q0::ps,v::vals,?_,by rw [h2]; simp,by simp [h3],fun j q hq=>?_⟩
  ·have hv':(do loadVar t (← asAddr (tmps.getD c undef)):Sem Value).run E.P w=.ok v w:=by
    generalize tmps.getD c undef=u at hv
    unfold Instr.loadAt at hv
    cases u with
    | pointer a =>
     cases a with
     | none=>simp [Instr.sureAddr] at hv
     | some a=>simpa [Instr.sureAddr,asAddr] using hv
    | _=>simp [Instr.sureAddr] at hv
   have hv2:(resOf tmps (.cell c t)).run E.P w=.ok v w:=hv'
   simp only [List.mapM_cons,Sem.run_bind,hv2,Result.andThen_ok,h1,Sem.run_pure]
  ·cases j with
   | zero=>simp at hq; subst hq; exact hr
   | succ j=>simpa using h4 j q (by simpa using hq)
theorem z19z {w:World} {bl:zh} {objs:List Obj} (S:Sim w0 Wx w bl objs) {T:List PV} {tmps:Array Value} (hT:TRel w (WT Wx bl objs) bl objs T tmps) {fn:Func} {vs:List PV} (hvs:resV E objs T fn.results.toList [] some=some vs) :
  ∃ v,(results fn tmps).run E.P w=.ok v w∧VR w (WT Wx bl objs) bl objs (oneOf vs) v:=by
 obtain ⟨ps,vals,h1,h2,h3,h4⟩:=zzi hE S hT fn.results.toList [] vs hvs
 simp only [List.reverse_nil,List.nil_append] at h2
 subst h2
 refine ⟨if h:vals.toArray.size=1 then vals.toArray[0] else .tuple vals.toArray,?_,?_⟩
 ·rw [z1kr,Array.mapM_eq_mapM_toList]
  simp only [Sem.run_bind,Sem.run_map,h1]
  rfl
 ·by_cases hl:vs.length=1
  ·match vs,vals,h3,hl,h4 with
   | [q],[v],_,_,h4=>exact h4 0 q rfl
  ·have hl':¬ vals.toArray.size=1:=by simp; omega
   rw [dif_neg hl']
   have ho:oneOf vs=.tuple vs:=by
    unfold oneOf
    split
    ·rename_i v; exact absurd rfl hl
    ·rfl
   rw [ho]
   exact .tuple _ _ (by simpa using h3) (fun j q hq=>by
    have:=h4 j q hq
    simpa [List.getD_eq_getElem?_getD,Array.getD_eq_getD_getElem?] using this)
omit hE in
theorem FRel.eq_at {w:World} {W:Nat→Nat→Prop} {bl:zh} {objs:List Obj} {f:AFr} {fr:Frame} (h:FRel w W bl objs f fr) (hm:f.mode=.run) (hwt:f.wait=none):fr=fr.atR ⟨fr.tmps,fr.defers⟩ f.todo:=by
 have h1:=h.mode
 rw [hm] at h1
 have h1:fr.mode=.run:=h1
 have h2:=h.todo hm
 rw [hwt] at h2
 have h2:fr.todo=f.todo:=h2
 obtain ⟨a1,a2,a3,a4,a5,a6,a7⟩:=fr
 simp only at h1 h2
 subst h1 h2
 rfl
omit hE in
theorem FRel.mk_at {w:World} {W:Nat→Nat→Prop} {bl:zh} {objs:List Obj} {f:AFr} {b:Frame} {a:Act} (hfn:b.fn=f.fn) (hk:b.kind=bif f.late then .deferred else .normal) (T:TRel w W bl objs f.T a.tmps) (D:DRel w W bl objs f.defers a.defers) (hm:f.mode=.run) (hr:RRel w W bl objs f.round b.roundOf)
  (hwt:f.wait=none:=by rfl):FRel w W bl objs f (b.atR a f.todo):=⟨hfn,hk,fun _=>by rw [hwt]; rfl,hr,T,D,by rw [hm]; rfl⟩
omit hE in
theorem FRel.nowait {w:World} {W:Nat→Nat→Prop} {bl:zh} {objs objs2:List Obj} {f:AFr} {fs:List AFr} {fr:Frame} (h:FRel w W bl objs f fr) (hm:f.mode≠.run):FRel w W bl objs (f.conf fs objs2).fr fr :=
 ⟨h.fn,h.kind,fun h'=>absurd h' hm,h.round,h.tmps,h.defers,h.mode⟩
omit hE in
theorem VR.ref_lt {w:World} {W:Nat→Nat→Prop} {bl:zh} {objs:List Obj} {p:PV} {v:Value} {i:Nat} (h:VR w W bl objs p v) (hr:refOf p=some i):i<objs.length:=by
 cases h with
 | fz _ _ h=>cases h <;> simp [refOf] at hr
 | dead _ _ k _ hk hi _=>rw [hk] at hr; cases hr; exact hi
 | ptr _ _ _ _ hi _=>simp only [refOf,oJ] at hr; subst hr; exact hi
 | rptr _ _ _ _ _ _ _ _ _ hi _ _=>simp only [refOf,oJ] at hr; subst hr; exact hi
 | lall _ _ _ _ _ _ _ _ hi _ _ _ _ _=>simp only [refOf,oJ] at hr; subst hr; exact hi
 | lallE _ _ _ _ hi _ _=>simp only [refOf,oJ] at hr; subst hr; exact hi
 | lsl _ _ _ _ _ _ _ _ _ _ _ hi _ _ _ _ _ _ _ _=>simp only [refOf,oJ] at hr; subst hr; exact hi
 | lslE _ _ _ _ _ _ _ _ hi _ _ _ _ _=>simp only [refOf,oJ] at hr; subst hr; exact hi
 | raw _ _ _ _ _ _ hi _ _ _ _=>simp only [refOf,oJ] at hr; subst hr; exact hi
 | mapr _ _ hi _=>simp only [refOf,oJ] at hr; subst hr; exact hi
 | _=>simp [refOf] at hr
def z1ex (E:Env) (C:Orc):Prop :=
 E.P.follows .mixedOrders=true∧∀ fn ops (t:Nat) s s' (J:RSt→Prop),(∀ i s s1,J s→oneR E C ops i s=some s1→J s1)→(∀ s,J s→∀ (x:Operand) (i:Nat),refOf (ev s.1 x)=some i→i<s.2.length)→J s→drawOk E s.1 fn ops=true→z8z E C ops (List.range ops.size) s=some s'→z8z E C ops (Region.schedule (E.P.follows .mixedOrders) ops t) s=some s'
section
variable {C:Orc} {tis:List TI} {n:Nat} {r:PV} {fn0:Nat} {cs0:List Frame} {w:World} {bl:zh} {c:Conf} {fr:Frame} {cs:List Frame}
 (hN:∀ (c':Conf) (fr':Frame) (cs':List Frame) (w':World) (bl':zh),runN E C tis n (normC E c')=some r→CoRel E.P w0 Wx w' bl' fn0 cs0 c' fr' cs'→Ends E w0 Wx tis fn0 cs0 (lone fr' cs' w') r)
include hN
omit hE hN in
theorem z10p {f:AFr} {fs:List AFr} {objs:List Obj} {v:PV} {c':Conf} (hc:zzh f fs objs v=some c') {fr2 fr20:Frame} {cs':List Frame} (S:Sim w0 Wx w bl objs) (hW:Waits E.P fr2 fr20) (hF:FRel w (WT Wx bl objs) bl objs f fr20)
  (hK:Stk w (WT Wx bl objs) bl objs E.P cs0 fs cs') (hbase:z11f f.fn fs=fn0) {u:Value} (hv:VR w (WT Wx bl objs) bl objs v u) :
  ∃ fr' w' bl',Steps E.P (lone (fr2.finish u) cs' w) (lone fr' cs' w')∧CoRel E.P w0 Wx w' bl' fn0 cs0 c' fr' cs':=by
 unfold zzh at hc
 split at hc
 ·rename_i hfm hwt
  split at hc
  case h_2=>cases hc
  rename_i ops i is t hft
  simp only [oJ] at hc
  subst hc
  have e:fr20.finish u=fr20.atR ((⟨fr20.tmps,fr20.defers⟩:Act).put ((ops[i]?).bind (·.dst)) u) (.inRegion ops is::t):=by
   have h1:=hF.eq_at hfm hwt
   rw [hft] at h1
   rw [h1,Frame.finish_atR]
   rfl
  have hfin:=hW.finish u cs' w
  rw [e] at hfin
  refine ⟨_,w,bl,hfin,S,?_,hK,hbase⟩
  refine FRel.mk_at (f:={ fn:=f.fn,T:=putT f.T ((ops[i]?).bind (·.dst)) v,todo:=.inRegion ops is::t,defers:=f.defers,mode:=.run,late:=f.late,round:=f.round }) hF.fn hF.kind ?_ ?_ rfl hF.round
  ·have:=hF.tmps.put ((ops[i]?).bind (·.dst)) hv
   cases hd:(ops[i]?).bind (·.dst) <;> rw [hd] at this <;> exact this
  ·have:=hF.defers
   cases hd:(ops[i]?).bind (·.dst) <;> exact this
 ·rename_i i hfm hwt
  split at hc
  ·rename_i st pd fn T ps as bd ho
   cases hbz:busyB st with
   | true=>rw [hbz] at hc; cases hc
   | false =>
   rw [hbz] at hc
   simp only [cond_false,oJ] at hc
   subst hc
   have htd:=hF.todo hfm
   rw [hwt] at htd
   obtain ⟨l,htd,hvl⟩:=htd
   obtain rfl:fr2=fr20:=by
    rcases hW with h | ⟨b,ops,p,l',is,t,a,a',o,h1,h2,h3,h4⟩
    ·exact h
    ·subst h2; cases htd
   obtain ⟨hb,r,tmps,hh,hT⟩:=z1al S ho hvl
   have hmd:=hF.mode
   rw [hfm] at hmd
   have hmd:fr2.mode=.run:=hmd
   obtain ⟨S',X⟩:=z1it S hb (by unfold alive; rw [ho]; trivial) (.loop { state:=.exhausted,pending:=pd,fn,tmps,params:=ps,assign:=as,body:=bd,defers:=r }) (by rw [hh]; intro _ _ _ h; cases h) (by rw [hh]; intro _ _ h; cases h)
   have e:fr2.finish u=fr2.atR ⟨fr2.tmps,fr2.defers⟩ (.endRangeFunc l::f.todo):=by
    obtain ⟨b1,b2,b3,b4,b5,b6,b7⟩:=fr2
    simp only at htd hmd
    subst htd hmd
    rfl
   have hstep:=z19e (P:=E.P) (b:=fr2) (a:=⟨fr2.tmps,fr2.defers⟩) (k:=f.todo) (cs:=cs') (z1fw (P:=E.P) hh (by intro h; simp only at h; rw [h] at hbz; cases hbz))
   rw [e]
   refine ⟨_,_,bl,.one hstep,S',?_,hK.mono X,hbase⟩
   exact FRel.mk_at (f:={ fn:=f.fn,T:=f.T,todo:=jumpL pd++f.todo,defers:=f.defers,mode:=.run,late:=f.late,round:=f.round }) hF.fn hF.kind (hF.tmps.mono X) (hF.defers.mono X) rfl (hF.round.mono X)
  ·cases hc
 ·cases hc
omit hE hN in
theorem zvo {c':Conf} {b:Frame} {a:Act} {jump:Option Code} {todo:List Item} (hc:zp3 c jump=some c') (h:CoRel E.P w0 Wx w bl fn0 cs0 c (b.atR a todo) cs):∃ (l:Nat) (fr2:Frame) (cs':List Frame) (v:Value) (w1:World),
  b.roundOf=some l∧cs=fr2::cs'∧b.kind=.normal∧(Instr.endRound l jump).run E.P w=.ok v w1∧∃ fr' w' bl',Steps E.P (lone (fr2.finish v) cs' w1) (lone fr' cs' w')∧CoRel E.P w0 Wx w' bl' fn0 cs0 c' fr' cs':=by
 unfold zp3 at hc
 split at hc
 case h_2=>cases hc
 rename_i i f fs hq hrest
 split at hc
 case h_2=>cases hc
 rename_i st pd fn T ps as bd ho
 cases hl:c.late with
 | true=>rw [hl] at hc; cases hc
 | false =>
 rw [hl] at hc
 simp only [cond_false] at hc
 have hr:=h.top.round
 simp only [Conf.fr,hq] at hr
 obtain ⟨l,hrl,hvl⟩:=hr
 have hk:=h.top.kind
 simp only [Conf.fr,hl,cond_false] at hk
 have hstk:=h.stk
 have hbase:=h.base
 rw [hrest] at hstk hbase
 obtain ⟨fr2,fr20,cs',rfl,hW,hF,hK⟩:=hstk
 obtain ⟨hb,r,tmps,hh,hT⟩:=z1al h.sim ho hvl
 obtain ⟨S',X⟩:=z1dp h.sim ho hb hh hT (jumpSt jump) jump
 have hrun:=z1d0 (P:=E.P) hh jump
 have e1:(if jump.isNone then LoopState.ready else .done)=jumpSt jump:=by cases jump <;> rfl
 have e2:jump.isNone=goesOn jump:=by cases jump <;> rfl
 simp only at hrun
 rw [e1] at hrun
 obtain ⟨fr',w',bl',hst,hco⟩:=z10p hc S' hW (hF.mono X) (hK.mono X) hbase (.fz _ _ (.bool _))
 rw [e2] at hrun
 exact ⟨l,fr2,cs',_,_,hrl,rfl,hk,hrun,fr',w',bl',hst,hco⟩
omit hE in
theorem z1lh {vs:List PV} (hd:c.defers=[]) (h:CoRel E.P w0 Wx w bl fn0 cs0 { c with mode:=.ret } fr cs) {fn:Func} (hf:E.P.funcs[c.fn]?=some fn) {v:Value} (hres:(results fn fr.tmps).run E.P w=.ok v w)
  (hv:VR w (WT Wx bl c.objs) bl c.objs (oneOf vs) v) (hr:(giveD c vs).bind (Out.go C (fun c'=>runN E C tis n (normC E c')) (fun v=>filt tis (some v)))=some r):Ends E w0 Wx tis fn0 cs0 (lone fr cs w) r:=by
 have hmode:fr.mode=.returning:=h.top.mode
 have hdef:fr.defers=[]:=by
  have:=h.top.defers
  simp only [Conf.fr,hd] at this
  cases hx:fr.defers with
  | nil=>rfl
  | cons d ds=>rw [hx] at this; exact this.elim
 have hfn:fr.fn=c.fn:=h.top.fn
 have hkind:fr.kind=bif c.late then .deferred else .normal:=h.top.kind
 have hstk:=h.stk
 have hbase:=h.base
 simp only at hstk hbase
 unfold giveD at hr
 cases hrest:c.rest with
 | nil =>
  rw [hrest] at hr hstk hbase
  simp only at hr
  cases hl:c.late with
  | true=>rw [hl] at hr; cases hr
  | false =>
  rw [hl] at hr hkind
  simp only [cond_false] at hr hkind
  cases hp:purify pfuel c.objs (oneOf vs) with
  | none=>rw [hp] at hr; cases hr
  | some y =>
  obtain ⟨p,objs'⟩:=y
  rw [hp] at hr
  simp only [oB,Out.go,filt] at hr
  cases hty:zg4 tis p with
  | false=>rw [hty] at hr; cases hr
  | true =>
  rw [hty] at hr
  simp only [cond_true,oJ] at hr
  subst hr
  obtain ⟨F,hv'⟩:=(z3n w0 w Wx bl pfuel).1 c.objs (oneOf vs) p objs' _ h.sim hp hv
  have hcs:cs=cs0:=hstk
  subst hcs
  exact ⟨_,w,fr,Steps.refl _ _,by rw [hfn,← hbase]; rfl,⟨hmode,hdef,hkind,fn,by rw [hfn]; exact hf,hres⟩,hv'.mono (Keep.sub fun b o h=>.inl h),hty,h.sim.below⟩
 | cons f fs =>
  rw [hrest] at hr hstk hbase
  simp only at hr
  obtain ⟨fr2,fr20,cs',rfl,hW,hF,hK⟩:=hstk
  cases hl:c.late with
  | true =>
   rw [hl] at hr hkind
   simp only [cond_true] at hr hkind
   have hgo:fr.going E.P w (.returned v):=⟨hmode,hdef,fn,by rw [hfn]; exact hf,hres⟩
   have hst:=step_going_returned (c:=fr2) (cs:=cs') hkind hgo
   have hm2:=hF.mode
   cases hfm:f.mode with
   | run=>rw [hfm] at hr; cases hr
   | ret =>
    rw [hfm] at hr hm2
    simp only [oB,Out.go] at hr
    have hm2:fr20.mode=.returning:=hm2
    obtain rfl:=hW.eq (by rw [hm2]; exact fun h=>by cases h)
    have e:({ fr2 with mode:=settle fr2.mode }:Frame)=fr2:=by
     have:settle fr2.mode=fr2.mode:=by rw [hm2]; rfl
     rw [this]
    rw [e] at hst
    exact (hN _ fr2 cs' w bl hr ⟨h.sim,hF.nowait (by rw [hfm]; simp),hK,hbase⟩).steps (.one hst)
   | pan p rec =>
    rw [hfm] at hr hm2
    obtain ⟨u,hm2,hu⟩:=hm2
    obtain rfl:=hW.eq (by rw [hm2]; exact fun h=>by cases h)
    cases rec with
    | true =>
     simp only [oB,Out.go] at hr
     have e:settle fr2.mode=.returning:=by rw [hm2]; rfl
     rw [e] at hst
     exact (hN _ { fr2 with mode:=.returning } cs' w bl hr ⟨h.sim,⟨hF.fn,hF.kind,(fun h=>by cases h),hF.round,hF.tmps,hF.defers,rfl⟩,hK,hbase⟩).steps (.one hst)
    | false =>
     simp only [oB,Out.go] at hr
     have e:({ fr2 with mode:=settle fr2.mode }:Frame)=fr2:=by
      have:settle fr2.mode=fr2.mode:=by rw [hm2]; rfl
      rw [this]
     rw [e] at hst
     exact (hN _ fr2 cs' w bl hr ⟨h.sim,hF.nowait (by rw [hfm]; simp),hK,hbase⟩).steps (.one hst)
  | false =>
   rw [hl] at hr hkind
   simp only [cond_false] at hr hkind
   cases hres':zzh f fs c.objs (oneOf vs) with
   | none=>rw [hres'] at hr; cases hr
   | some c' =>
   rw [hres'] at hr
   simp only [Option.map_some,oB,Out.go] at hr
   have hlv:fr.leaving E.P w (.returned v):=⟨hmode,hdef,hkind,fn,by rw [hfn]; exact hf,hres⟩
   have hst:=step_leave_returned (c:=fr2) (cs:=cs') hlv
   obtain ⟨fr',w',bl',hst',hco⟩:=z10p hres' h.sim hW hF hK hbase hv
   exact (hN c' fr' cs' w' bl' hr hco).steps ((Steps.one hst).trans hst')
theorem z1d6 (h:CoRel E.P w0 Wx w bl fn0 cs0 { c with mode:=.ret } fr cs)
  (hr:(retD E c).bind (Out.go C (fun c'=>runN E C tis n (normC E c')) (fun v=>filt tis (some v)))=some r):Ends E w0 Wx tis fn0 cs0 (lone fr cs w) r:=by
 unfold retD at hr
 cases hd:c.defers with
 | cons d ds =>
  rw [hd] at hr
  exact hN _ fr cs w bl hr (by have:=h; rwa [hd] at this)
 | nil =>
 rw [hd] at hr
 simp only at hr
 cases hf:E.P.funcs[c.fn]? with
 | none=>rw [hf] at hr; cases hr
 | some fn =>
 rw [hf] at hr
 simp only at hr
 rw [Option.bind_assoc] at hr
 obtain ⟨vs,hvs,hr⟩:=zb hr
 obtain ⟨v,hres,hv⟩:=z19z hE h.sim h.top.tmps hvs
 exact z1lh hN hd h hf hres hv hr
end
omit hE in
theorem z1e9 {w:World} {W:Nat→Nat→Prop} {bl:zh} {objs:List Obj} {g:Nat} {fn:Func} {body:Code} (hf:E.P.funcs[g]?=some fn) (hb:fn.body=some body) {as:List PV} {vals:Array Value} (hT:TRel w W bl objs as vals) (late:Bool) :
  FRel w W bl objs { fn:=g,T:=as++repl .undef (fn.ntmps-as.length),todo:=[.code body],late } (Frame.enter E.P g vals (bif late then .deferred else .normal)):=by
 refine ⟨rfl,by cases late <;> rfl,fun _=>by simp [Frame.enter,hf,hb,TodoR],rfl,?_,trivial,rfl⟩
 simp only [Frame.enter,hf,Option.map_some,Option.getD_some]
 rw [z1g2]
 have h0:=hT.1
 refine ⟨by simp [h0],fun j q hq=>?_⟩
 by_cases hj:j<as.length
 ·rw [List.getElem?_append_left hj] at hq
  have:=hT.2 j q hq
  rw [Array.getD_eq_getD_getElem?,Array.getElem?_append_left (by rw [← hT.1]; exact hj),← Array.getD_eq_getD_getElem?]
  exact this
 ·rw [List.getElem?_append_right (by omega),List.getElem?_replicate] at hq
  split at hq
  ·simp only [oJ] at hq
   subst hq
   exact .fz _ _ (.undef _)
  ·cases hq
omit hE in
theorem zsr {w:World} {W:Nat→Nat→Prop} {bl:zh} {objs:List Obj} {g:Nat} {a b as:List PV} {fv:Value} {vargs:Array Value} (hf:VR w W bl objs (.func (.func g) a b) fv) (hT:TRel w W bl objs as vargs) :
  ∃ xs ys,fv=.func (.func g) xs ys∧TRel w W bl objs (a++as++b) (xs++vargs++ys):=by
 have key:∀ (xs ys:Array Value),a.length=xs.size→b.length=ys.size→(∀ (j:Nat) (p:PV),a[j]?=some p→VR w W bl objs p (xs.getD j undef))→(∀ (j:Nat) (p:PV),b[j]?=some p→VR w W bl objs p (ys.getD j undef)) →
   TRel w W bl objs (a++as++b) (xs++vargs++ys):=by
  intro xs ys hxs hys hx hy
  have l2:=hT.1
  refine ⟨by simp; omega,fun j q hq=>?_⟩
  rw [Array.getD_eq_getD_getElem?]
  by_cases h1:j<a.length
  ·rw [List.append_assoc,List.getElem?_append_left h1] at hq
   rw [Array.append_assoc,Array.getElem?_append_left (by omega),← Array.getD_eq_getD_getElem?]
   exact hx j q hq
  ·by_cases h2:j<a.length+as.length
   ·rw [List.append_assoc,List.getElem?_append_right (by omega),List.getElem?_append_left (by omega)] at hq
    rw [Array.append_assoc,Array.getElem?_append_right (by omega),Array.getElem?_append_left (by omega),← hxs,← Array.getD_eq_getD_getElem?]
    exact hT.2 _ q hq
   ·rw [List.getElem?_append_right (by simp; omega)] at hq
    rw [Array.getElem?_append_right (by simp; omega),show (xs++vargs).size=(a++as).length by simp; omega,← Array.getD_eq_getD_getElem?]
    exact hy _ q hq
 cases hf with
 | fz _ _ h=>cases h with
  | func _ _ _ xs ys hxs hys hx hy=>exact ⟨xs,ys,rfl,key xs ys hxs hys (fun j p hp=>.fz _ _ (hx j p hp)) (fun j p hp=>.fz _ _ (hy j p hp))⟩
 | func _ _ _ xs ys hxs hys hx hy=>exact ⟨xs,ys,rfl,key xs ys hxs hys hx hy⟩
 | dead _ _ _ _ hr=>simp [refOf] at hr
theorem zxh {g:Nat} {fn:Func} {body:Code} (hf:E.P.funcs[g]?=some fn) (hb:fn.body=some body):Named E g:=⟨fn,hf,by rw [hb]; rfl,hE.names g fn hf⟩
section
variable {C:Orc} {tis:List TI} {n:Nat} {r:PV} {fn0:Nat} {cs0:List Frame} {w:World} {bl:zh} {c:Conf} {fr:Frame} {cs:List Frame}
 (hN:∀ (c':Conf) (fr':Frame) (cs':List Frame) (w':World) (bl':zh),runN E C tis n (normC E c')=some r→CoRel E.P w0 Wx w' bl' fn0 cs0 c' fr' cs'→Ends E w0 Wx tis fn0 cs0 (lone fr' cs' w') r)
include hN
omit hE in
theorem zhp {g:Nat} {as:List PV} {below:AFr} {late:Bool} {m:Machine} {frB frB0:Frame} (hW:Waits E.P frB frB0) (S:Sim w0 Wx w bl c.objs) (K:Stk w (WT Wx bl c.objs) bl c.objs E.P cs0 c.rest cs) (hB:FRel w (WT Wx bl c.objs) bl c.objs below frB0) (hbase:z11f below.fn c.rest=fn0)
  {vals:Array Value} (hT:TRel w (WT Wx bl c.objs) bl c.objs as vals)
  (hst:∀ (fn:Func) (body:Code),E.P.funcs[g]?=some fn→fn.body=some body→Steps E.P m (lone (Frame.enter E.P g vals (bif late then .deferred else .normal)) (frB::cs) w))
  (hr:(zy9 E c g as below late).bind (Out.go C (fun c'=>runN E C tis n (normC E c')) (fun v=>filt tis (some v)))=some r):Ends E w0 Wx tis fn0 cs0 m r:=by
 unfold zy9 at hr
 cases hf:E.P.funcs[g]? with
 | none=>rw [hf] at hr; cases hr
 | some fn =>
 rw [hf] at hr
 simp only at hr
 cases hb:fn.body with
 | none=>rw [hb] at hr; cases hr
 | some body =>
 rw [hb] at hr
 simp only [oB,Out.go] at hr
 exact (hN _ _ (frB::cs) w bl hr ⟨S,z1e9 hf hb hT late,⟨frB,frB0,cs,rfl,hW,hB,K⟩,hbase⟩).steps (hst fn body hf hb)
theorem z1c1 (hm:c.mode≠.run) (h:CoRel E.P w0 Wx w bl fn0 cs0 c fr cs)
  (hr:(zz1 E c).bind (Out.go C (fun c'=>runN E C tis n (normC E c')) (fun v=>filt tis (some v)))=some r):Ends E w0 Wx tis fn0 cs0 (lone fr cs w) r:=by
 unfold zz1 at hr
 have hmf:=h.top.mode
 cases hd:c.defers with
 | cons d ds =>
  obtain ⟨d,as⟩:=d
  rw [hd] at hr
  simp only at hr
  have hD:=h.top.defers
  simp only [Conf.fr,hd] at hD
  cases hdf:fr.defers with
  | nil=>rw [hdf] at hD; exact hD.elim
  | cons d' ds' =>
  rw [hdf] at hD
  obtain ⟨hone,hD'⟩:=hD
  have hnr:fr.mode≠.run:=by
   simp only [Conf.fr] at hmf
   cases hcm:c.mode with
   | run=>exact absurd hcm hm
   | ret=>rw [hcm] at hmf; have hmf:fr.mode=.returning:=hmf; rw [hmf]; exact fun h=>by cases h
   | pan p q=>rw [hcm] at hmf; obtain ⟨u,hmf,_⟩:=hmf; rw [hmf]; exact fun h=>by cases h
  split at hr
  ·cases hr
  ·rename_i g a b _
   rcases hone with ⟨fv,vargs,hv,hT,hof⟩ | ⟨l,hv,_,_⟩
   case inr=>exact (by cases hv with | fz _ _ h=>cases h | dead _ _ _ _ hr=>simp [refOf] at hr)
   obtain ⟨xs,ys,rfl,hT'⟩:=zsr hv hT
   have hd':d'={ target:=.fn (.func g) ys,args:=xs++vargs }:=by
    have h1:(pure d':Sem Deferred)=pure { target:=.fn (.func g) ys,args:=xs++vargs }:=hof.symm
    have h2:=congrArg (fun m:Sem Deferred=>m.run E.P w) h1
    simp only [Sem.run_pure,Result.ok.injEq] at h2
    exact h2.1
   refine zhp (below:={ c.fr with defers:=ds }) (frB:={ fr with defers:=ds' }) hN (Waits.refl _ _) h.sim h.stk ⟨h.top.fn,h.top.kind,h.top.todo,h.top.round,h.top.tmps,hD',h.top.mode⟩ h.base hT' (fun fn body hf hb=>.one ?_) hr
   have hi:(invoke d'.target d'.args).run E.P w=.ok (.enter g (xs++vargs++ys)) w:=by
    rw [hd']; exact zao (zxh hE hf hb) _ _
   exact step_defer (fv:=.func g) (cap:=ys) hnr hdf (by rw [hd']) hi
  ·rename_i i hcm
   cases hmk:markC c i ds with
   | none=>rw [hmk] at hr; cases hr
   | some c' =>
   rw [hmk] at hr
   simp only [Option.map_some,oB,Out.go] at hr
   unfold markC at hmk
   split at hmk
   case h_2=>cases hmk
   rename_i ho
   simp only [oJ] at hmk
   subst hmk
   have hnd:nthD .dead c.objs i≠.dead:=by rw [ho]; simp
   rcases hone with ⟨fv,vargs,hv,hT,hof⟩ | ⟨l,hv,hn,hd'⟩
   ·exfalso
    simp only at hv
    cases hv with
    | fz _ _ h=>cases h
    | dead _ _ k _ hr _ hdd _=>simp only [refOf,oJ] at hr; subst hr; exact hnd hdd
    | mapr _ l _ _ =>
     have h2:=congrArg (fun m:Sem Deferred=>m.run E.P w) hof
     simp [Deferred.ofValue] at h2
   ·simp only at hv
    have hb:=z1do hv hnd
    have hO:=h.sim.obj i (h.sim.lt_of_own hb)
    unfold ORel at hO
    rw [ho] at hO
    obtain ⟨l',hb',hh⟩:=hO
    rw [hb] at hb'
    simp at hb'
    subst hb'
    obtain ⟨S',X⟩:=z1it h.sim hb (by unfold alive; rw [ho]; trivial) (.deferred none) (by rw [hh]; intro _ _ _ h; cases h) (by rw [hh]; intro _ _ h; cases h)
    have hmr:fr.mode=.returning:=by
     simp only [Conf.fr] at hmf
     rw [hcm] at hmf; exact hmf
    have hst:=step_mark (P:=E.P) (cs:=cs) hmr (by rw [hdf,hd']) (run_take (P:=E.P) hh)
    refine (hN _ { fr with defers:=ds' } cs _ bl hr ⟨S',⟨h.top.fn,h.top.kind,fun hm'=>absurd hm' hm,h.top.round.mono X,h.top.tmps.mono X,hD'.mono X,?_⟩,h.stk.mono X,h.base⟩).steps (.one hst)
    have:=h.top.mode.mono X
    exact this
  ·cases hr
 | nil =>
  rw [hd] at hr
  simp only at hr
  split at hr
  ·rename_i hcm
   refine z1d6 (bl:=bl) hE hN (c:=c) ?_ hr
   rw [show ({ c with mode:=.ret }:Conf)=c by rw [← hcm]]
   exact h
  ·rename_i v hcm
   split at hr
   case h_2=>cases hr
   rename_i fnp f fs hfn hrest
   cases hl:c.late with
   | true=>rw [hl] at hr; cases hr
   | false =>
   rw [hl] at hr
   simp only [cond_false] at hr
   split at hr
   case h_2=>cases hr
   rename_i hfm hwt
   simp only [oB,Out.go] at hr
   have hstk:=h.stk
   have hbase:=h.base
   rw [hrest] at hstk hbase
   obtain ⟨fr2,fr20,cs',rfl,hW,hF,hK⟩:=hstk
   simp only [Conf.fr,hcm] at hmf
   obtain ⟨u,hmf,hu⟩:=hmf
   have hdf:fr.defers=[]:=by
    have:=h.top.defers
    simp only [Conf.fr,hd] at this
    cases hx:fr.defers with
    | nil=>rfl
    | cons d ds=>rw [hx] at this; exact this.elim
   have hm2:=hF.mode
   rw [hfm] at hm2
   have hm2:fr2.mode=.run:=hW.run hm2
   have hst:=step_going_panicked (c:=fr2) (cs:=cs') (P:=E.P) (w:=w) (fr:=fr) (chain:=[{ v:=u,recovered:=false }]) ⟨hmf,hdf,fnp,by rw [h.top.fn]; exact hfn⟩
   have e:raised fr2.mode [{ v:=u,recovered:=false }]=.panicking [{ v:=u,recovered:=false }]:=by rw [hm2]; rfl
   rw [e] at hst
   exact (hN _ { fr2 with mode:=.panicking [{ v:=u,recovered:=false }] } cs' w bl hr ⟨h.sim,(hW.panic hF hfm hwt hu).nowait (by simp),hK,hbase⟩).steps (.one hst)
  ·cases hr
end
omit hE in
theorem loop_new {w:World} {bl:zh} {objs:List Obj} (S:Sim w0 Wx w bl objs) (fn:Nat) {T:List PV} {tmps:Array Value} {keep:List Nat} (hT:TRel w (WT Wx bl objs) bl objs (killT keep 0 T) tmps) (ps:Array Nat) (as bd:Code) :
  ∃ bl2,Sim w0 Wx ((w.alloc (.deferred (some []))).alloc (.loop { state:=.ready,pending:=none,fn,tmps,params:=ps,assign:=as,body:=bd,defers:=w.heap.size })) bl2 (objs++[.dfr,.loop .ready none fn (killT keep 0 T) ps as bd]) ∧
   Ext w (WT Wx bl objs) bl objs ((w.alloc (.deferred (some []))).alloc (.loop { state:=.ready,pending:=none,fn,tmps,params:=ps,assign:=as,body:=bd,defers:=w.heap.size })) (WT Wx bl2 (objs++[.dfr,.loop .ready none fn (killT keep 0 T) ps as bd])) bl2 (objs++[.dfr,.loop .ready none fn (killT keep 0 T) ps as bd]) ∧
   VR ((w.alloc (.deferred (some []))).alloc (.loop { state:=.ready,pending:=none,fn,tmps,params:=ps,assign:=as,body:=bd,defers:=w.heap.size })) (WT Wx bl2 (objs++[.dfr,.loop .ready none fn (killT keep 0 T) ps as bd])) bl2 (objs++[.dfr,.loop .ready none fn (killT keep 0 T) ps as bd]) (.mapr objs.length) (.map (some w.heap.size)) ∧
   VR ((w.alloc (.deferred (some []))).alloc (.loop { state:=.ready,pending:=none,fn,tmps,params:=ps,assign:=as,body:=bd,defers:=w.heap.size })) (WT Wx bl2 (objs++[.dfr,.loop .ready none fn (killT keep 0 T) ps as bd])) bl2 (objs++[.dfr,.loop .ready none fn (killT keep 0 T) ps as bd]) (.mapr (objs.length+1)) (.map (some (w.heap.size+1))):=by
 have e:objs++[.dfr,.loop .ready none fn (killT keep 0 T) ps as bd]=(objs++[.dfr])++[.loop .ready none fn (killT keep 0 T) ps as bd]:=by simp
 rw [e]
 have hl1:(bl++[some (w.heap.size,0)])[objs.length]?=some (some (w.heap.size,0)):=by rw [← S.len]; simp
 have S1:Sim w0 Wx (w.alloc (.deferred (some []))) (bl++[some (w.heap.size,0)]) (objs++[.dfr]):=zl5 S _ _ 0 (by
  unfold ORel
  rw [z11]
  exact ⟨w.heap.size,hl1,new_heap w _⟩)
 have X1:Ext w (WT Wx bl objs) bl objs (w.alloc (.deferred (some []))) (WT Wx (bl++[some (w.heap.size,0)]) (objs++[.dfr])) (bl++[some (w.heap.size,0)]) (objs++[.dfr]):=zi4 S _ _ 0
 have hs1:(w.alloc (.deferred (some []))).heap.size=w.heap.size+1:=by simp [World.size_alloc]
 have hl2:(bl++[some (w.heap.size,0)]++[some (w.heap.size+1,0)])[objs.length+1]?=some (some (w.heap.size+1,0)):=by
  rw [List.getElem?_append_right (by simp [S.len])]; simp [S.len]
 have hl3:(bl++[some (w.heap.size,0)]++[some (w.heap.size+1,0)])[objs.length]?=some (some (w.heap.size,0)):=by
  rw [List.getElem?_append_left (by simp [S.len])]; exact hl1
 have X2:=zi4 S1 (.loop { state:=.ready,pending:=none,fn,tmps,params:=ps,assign:=as,body:=bd,defers:=w.heap.size }) (.loop .ready none fn (killT keep 0 T) ps as bd) 0
 rw [hs1] at X2
 have hT2:=(hT.mono X1).mono X2
 have S2:=zl5 S1 (.loop { state:=.ready,pending:=none,fn,tmps,params:=ps,assign:=as,body:=bd,defers:=w.heap.size }) (.loop .ready none fn (killT keep 0 T) ps as bd) 0 (by
  rw [hs1]
  unfold ORel
  rw [z11]
  refine ⟨w.heap.size+1,w.heap.size,tmps,by simpa using hl2,?_,hT2.1,hT2.2⟩
  have:=new_heap (w.alloc (.deferred (some []))) (.loop { state:=.ready,pending:=none,fn,tmps,params:=ps,assign:=as,body:=bd,defers:=w.heap.size })
  rw [hs1] at this
  exact this)
 rw [hs1] at S2
 exact ⟨_,S2,X1.trans X2,.mapr _ _ (by simp) hl3,.mapr _ _ (by simp) hl2⟩
omit hE in
theorem setPs_rel {w:World} {W:Nat→Nat→Prop} {bl:zh} {objs:List Obj} {T:List PV} {tmps:Array Value} (hT:TRel w W bl objs T tmps) (ps:Array Nat) {args:List PV} {vs:Array Value} (ha:TRel w W bl objs args vs) :
  TRel w W bl objs (setPs T ps.toList args) ((ps.zip vs).foldl (fun tmps (t,a)=>tmps.setIfInBounds t a) tmps):=by
 have key:∀ (ps:List Nat) (args:List PV) (vs:List Value) (T:List PV) (tmps:Array Value),TRel w W bl objs T tmps→args.length=vs.length→(∀ (j:Nat) (p:PV),args[j]?=some p→VR w W bl objs p (vs.getD j undef)) →
   TRel w W bl objs (setPs T ps args) ((ps.zip vs).foldl (fun tmps (t,a)=>tmps.setIfInBounds t a) tmps):=by
  intro ps
  induction ps with
  | nil=>intro args vs T tmps h _ _; cases args <;> exact h
  | cons p ps ih =>
   intro args vs T tmps h hl hx
   match args,vs,hl with
   | [],[],_=>exact h
   | q::args,v::vs,hl =>
    refine ih args vs _ _ ?_ (by simpa using hl) (fun j p hp=>by simpa using hx (j+1) p (by simpa using hp))
    exact h.put (some p) (by simpa using hx 0 q rfl)
 have:=key ps.toList args vs.toList T tmps hT (by simpa using ha.1) (fun j p hp=>by
  have:=ha.2 j p hp
  simpa [List.getD_eq_getElem?_getD,Array.getD_eq_getD_getElem?] using this)
 rw [← Array.foldl_toList]
 simpa using this
omit hE in
theorem z14m (c:Conf) (ops:Array Oper) (i:Nat) (is:List Nat) (t:List Item) (o:Oper):zls E c ops i is t o=(guardOf c.T ops o).bind fun b=>bif b then operD E c ops i is t o else skipD c ops is t o.dst:=by
 unfold zls guardOf
 cases o.guard with
 | none=>rfl
 | some jw =>
  obtain ⟨j,want⟩:=jw
  simp only
  cases (ops[j]?).bind (·.dst) with
  | none=>rfl
  | some d =>
   simp only
   generalize nthD .undef c.T d=v
   cases v with
   | bool b=>cases b <;> cases want <;> rfl
   | _=>rfl
section
variable {C:Orc} {tis:List TI} {n:Nat} {r:PV} {fn0:Nat} {cs0:List Frame} {w:World} {bl:zh} {c:Conf} {b:Frame} {a:Act} {cs:List Frame}
 (hN:∀ (c':Conf) (fr':Frame) (cs':List Frame) (w':World) (bl':zh),runN E C tis n (normC E c')=some r→CoRel E.P w0 Wx w' bl' fn0 cs0 c' fr' cs'→Ends E w0 Wx tis fn0 cs0 (lone fr' cs' w') r)
include hN
theorem z1k3 (hm:c.mode=.run) {ops:Array Oper} {i:Nat} {is:List Nat} {t:List Item} {o:Oper} (ht:c.todo=.inRegion ops (i::is)::t) (h:CoRel E.P w0 Wx w bl fn0 cs0 c (b.atR a c.todo) cs) (ho:ops[i]?=some o) (hg:guardOf c.T ops o=some true)
  (hw:Walks E c o) (hr:(operD E c ops i is t o).bind (Out.go C (fun c'=>runN E C tis n (normC E c')) (fun v=>filt tis (some v)))=some r):Ends E w0 Wx tis fn0 cs0 (lone (b.atR a c.todo) cs w) r:=by
 have hT:TRel w (WT Wx bl c.objs) bl c.objs c.T a.tmps:=h.top.tmps
 have hfn:b.fn=c.fn:=h.top.fn
 have hkind:b.kind=bif c.late then .deferred else .normal:=h.top.kind
 have hdef:DRel w (WT Wx bl c.objs) bl c.objs c.defers a.defers:=h.top.defers
 have hwant:=z14n hT ops o hg
 have hrd:RRel w (WT Wx bl c.objs) bl c.objs c.round b.roundOf:=h.top.round
 have hgoR:=stepGR_op (P:=E.P) (b:=b) (a:=a) (k:=t) (cs:=cs) (w:=w) (rest:=is) ho hwant
 have hgo:(∀ c,o.op≠.defer c)→stepG E.P true { frame:=b.atR a (.inRegion ops (i::is)::t),callers:=cs,status:=.running,dying:=none } w=stepG.apply E.P true (b.atR a (.inRegion ops (i::is)::t)) cs none (execOp a.eval o) w:=by
  intro hnd; rw [hgoR,Oper.semAt_eq _ _ _ hnd]
 have hfin:∀ v,(b.atR a (.inRegion ops (i::is)::t)).finish v=b.atR (a.put o.dst v) (.inRegion ops is::t):=by
  intro v; rw [Frame.finish_atR,ho]; rfl
 have hstk:=h.stk
 have hbase:=h.base
 have hargs:∀ (args:Array Operand),TRel w (WT Wx bl c.objs) bl c.objs (args.toList.map (ev c.T)) (args.map a.eval):=by
  intro args
  refine ⟨by simp,fun j q hq=>?_⟩
  have:=zlr hT args.toList j q hq
  simpa [List.getD_eq_getElem?_getD,Array.getD_eq_getD_getElem?] using this
 have hB:FRel w (WT Wx bl c.objs) bl c.objs { c.fr with todo:=.inRegion ops (i::is)::t } (b.atR a (.inRegion ops (i::is)::t)) :=
  FRel.mk_at (f:={ c.fr with todo:=.inRegion ops (i::is)::t }) hfn hkind hT hdef hm hrd
 have putrel:∀ (p:PV) (v:Value),VR w (WT Wx bl c.objs) bl c.objs p v→TRel w (WT Wx bl c.objs) bl c.objs (putT c.T o.dst p) (a.put o.dst v).tmps:=by
  intro p v hv
  have:=hT.put o.dst hv
  cases hd:o.dst <;> rw [hd] at this <;> exact this
 have putdef:∀ (v:Value),(a.put o.dst v).defers=a.defers:=by intro v; cases o.dst <;> rfl
 rw [ht]
 unfold operD at hr
 cases hsp:z2a E o.op with
 | some s =>
  rw [hsp] at hr
  simp only at hr
  rw [Option.bind_assoc] at hr
  obtain ⟨⟨p,objs'⟩,hp,hr⟩:=zb hr
  simp only [oB,Out.go] at hr
  obtain ⟨nx,v,w',bl',hrun,hnx,hS,hX,hv⟩:=z17g hE h.sim hT o hsp hp
  refine (hN _ (b.atR (a.put o.dst v) (.inRegion ops is::t)) cs w' bl' hr ⟨hS,?_,hstk.mono hX,hbase⟩).steps (.one (step_lone_go ?_))
  ·refine FRel.mk_at (f:={ fn:=c.fn,T:=putT c.T o.dst p,todo:=.inRegion ops is::t,defers:=c.defers,mode:=c.mode,late:=c.late,round:=c.round }) hfn hkind ?_ (by rw [putdef]; exact hdef.mono hX) hm (hrd.mono hX)
   have:=(hT.mono hX).put o.dst hv
   cases hd:o.dst <;> rw [hd] at this <;> exact this
  ·rw [hgo (by intro c hc; rw [hc] at hsp; cases hsp),← hfin]
   rcases hnx with rfl | ⟨rfl,rfl⟩
   ·simp [stepG.apply,hrun]
   ·simp [stepG.apply,hrun]
 | none =>
 rw [hsp] at hr
 simp only at hr
 obtain ⟨dst,op,type,guard,after,ps'⟩:=o
 cases hw with
 | val _ f args ats g xa xb hop hf hi =>
  simp only at hop
  subst hop
  simp only at hr
  rw [hf] at hr
  simp only [zee,hi,cond_true] at hr
  have hfr:=ev_rel hT f
  rw [hf] at hfr
  obtain ⟨xs,ys,hv,hT'⟩:=zsr hfr (hargs args)
  refine zhp hN (Waits.refl _ _) h.sim hstk hB hbase hT' (fun fn body hf' hb=>.one (step_lone_go ?_)) hr
  have he:(execOp a.eval (⟨dst,.call ⟨.value f,args,ats⟩,type,guard,after,ps'⟩:Oper)).run E.P w=.ok (.enter g (xs++args.map a.eval++ys)) w:=by
   simp only [execOp,resolve,Sem.run_bind,hv,Deferred.ofValue,Sem.run_pure,Result.andThen_ok,invoke]
   exact zao (zxh hE hf' hb) _ _
  rw [hgo (by intro c hc; cases hc)]
  simp [stepG.apply,he,Frame.atR]
 | yld _ f args ats n j hop hf below0 c0 hy0 =>
  simp only at hop
  subst hop
  simp only at hr
  rw [hf] at hr
  simp only [zee] at hr
  cases hy:yieldC E c { c.fr with todo:=.inRegion ops (i::is)::t } j (args.toList.map (ev c.T)) with
  | none =>
   unfold yieldC at hy0 hy
   exfalso
   cases hoj:nthD .dead c.objs j with
   | loop st pd fn T ps as bd =>
    rw [hoj] at hy hy0
    simp only at hy hy0
    cases hcnd:(mem2 c.fn fn E.inl&&((args.toList.map (ev c.T)).length == ps.size)) <;> rw [hcnd] at hy hy0 <;> first | (cases hy; done) | (cases hy0; done)
   | _=>rw [hoj] at hy0; cases hy0
  | some c' =>
  rw [hy] at hr
  simp only [oB,Out.go] at hr
  have hfr:=ev_rel hT f
  rw [hf] at hfr
  obtain ⟨l,hfv,hvl⟩:∃ l,a.eval f=.func (.yield l) #[] #[]∧VR w (WT Wx bl c.objs) bl c.objs (.mapr j) (.map (some l)):=by
   generalize a.eval f=fv at hfr
   cases hfr with
   | fz _ _ h=>cases h with | func _ _ _ _ _ _ _ _ _ hn=>cases hn
   | func _ _ _ _ _ _ _ _ _ hn=>cases hn
   | yv _ l _ h=>exact ⟨l,rfl,h⟩
   | dead _ _ _ _ hr=>simp [refOf] at hr
  unfold yieldC at hy
  split at hy
  case h_2=>cases hy
  rename_i st pd fn T ps as bd hoj
  cases hcnd:(mem2 c.fn fn E.inl&&((args.toList.map (ev c.T)).length == ps.size)) with
  | false=>rw [hcnd] at hy; cases hy
  | true =>
  rw [hcnd] at hy
  simp only [cond_true,oJ] at hy
  subst hy
  simp only [Bool.and_eq_true,beq_iff_eq] at hcnd
  obtain ⟨hb,r0,tmps,hh,hTl⟩:=z1al h.sim hoj hvl
  have hsz:(args.map a.eval).size=ps.size:=by simpa using hcnd.2
  have hrun:=run_yield (P:=E.P) hh (args:=args.map a.eval) hsz
  have he:(execOp a.eval (⟨dst,.call ⟨.value f,args,ats⟩,type,guard,after,ps'⟩:Oper)).run E.P w=.ok (.round l fn ((ps.zip (args.map a.eval)).foldl (fun tmps (t,a)=>tmps.setIfInBounds t a) tmps) as bd) w:=by
   simp only [execOp,resolve,Sem.run_bind,hfv,Deferred.ofValue,Sem.run_pure,Result.andThen_ok,invoke,callFunc]
   simpa using hrun
  refine (hN _ (Frame.round l fn ((ps.zip (args.map a.eval)).foldl (fun tmps (t,a)=>tmps.setIfInBounds t a) tmps) as bd .normal) (b.atR a (.inRegion ops (i::is)::t)::cs) w bl hr ⟨h.sim,⟨rfl,rfl,fun _=>rfl,⟨l,rfl,hvl⟩,?_,trivial,rfl⟩,⟨_,_,cs,rfl,Waits.refl _ _,hB,hstk⟩,hbase⟩).steps (.one (step_lone_go ?_))
  ·exact setPs_rel hTl ps (hargs args)
  ·rw [hgo (by intro c hc; cases hc)]
   simp [stepG.apply,he,Frame.atR]
 | inv _ rv name args ats u v g hop hr' hg' hi =>
  simp only at hop
  subst hop
  simp only at hr
  rw [hr'] at hr
  simp only [z14j,hg',hi,cond_true] at hr
  have hfr:=ev_rel hT rv
  rw [hr'] at hfr
  obtain ⟨x,hx,hrx⟩:∃ x,a.eval rv=.iface u x∧VR w (WT Wx bl c.objs) bl c.objs v x:=by
   generalize a.eval rv=rv' at hfr
   cases hfr with
   | fz _ _ h=>cases h with | iface _ _ v h=>exact ⟨v,rfl,.fz _ _ h⟩
   | iface _ _ v h=>exact ⟨v,rfl,h⟩
   | dead _ _ _ _ hr=>simp [refOf] at hr
  have hT':TRel w (WT Wx bl c.objs) bl c.objs (v::args.toList.map (ev c.T)) (#[x]++args.map a.eval):=by
   refine ⟨by simp; omega,fun j q hq=>?_⟩
   cases j with
   | zero =>
    simp at hq
    subst hq
    have e0:(#[x]++args.map a.eval)[0]?=some x:=by rw [Array.getElem?_append_left (by simp)]; rfl
    rw [Array.getD_eq_getD_getElem?,e0]
    exact hrx
   | succ j =>
    have:=(hargs args).2 j q (by simpa using hq)
    have e:(#[x]++args.map a.eval)[j+1]?=(args.map a.eval)[j]?:=by
     rw [Array.getElem?_append_right (by simp)]
     simp
    rw [Array.getD_eq_getD_getElem?,e,← Array.getD_eq_getD_getElem?]
    exact this
  refine zhp hN (Waits.refl _ _) h.sim hstk hB hbase hT' (fun fn body hf' hb=>.one (step_lone_go ?_)) hr
  have he:(execOp a.eval (⟨dst,.call ⟨.invoke rv name,args,ats⟩,type,guard,after,ps'⟩:Oper)).run E.P w=.ok (.enter g (#[x]++args.map a.eval)) w:=by
   have hmm:=hE.mt u name g hg' w x
   have ex:(#[Value.iface u x]++args.map a.eval).extract 1 (#[Value.iface u x]++args.map a.eval).size=args.map a.eval:=by
    apply Array.ext'
    simp
    exact List.take_of_length_le (by simp)
   have h0:(#[Value.iface u x]++args.map a.eval)[0]?=some (.iface u x):=by rw [Array.getElem?_append_left (by simp)]; rfl
   simp only [execOp,resolve,Sem.run_bind,Sem.run_pure,Result.andThen_ok,invoke,hx,h0,ex,callMethod,run_program,hmm]
   exact zao (zxh hE hf' hb) _ _
  rw [hgo (by intro c hc; cases hc)]
  simp [stepG.apply,he,Frame.atR]
 | rcv _ args ats hop =>
  simp only at hop
  subst hop
  simp only [recoverD] at hr
  have he:(execOp a.eval (⟨dst,.call ⟨.builtin .recover,args,ats⟩,type,guard,after,ps'⟩:Oper)).run E.P w=.ok .recover w:=by
   simp only [execOp,resolve,Sem.run_bind,Sem.run_pure,Result.andThen_ok,invoke,builtin]
  split at hr
  case h_2=>cases hr
  rename_i f fs hl hrest hcr
  have hrn:b.roundOf=none:=by rw [hcr] at hrd; exact hrd
  rw [hl] at hkind
  simp only [cond_true] at hkind
  rw [hrest] at hstk hbase
  obtain ⟨fr2,fr20,cs',rfl,hW,hF,hK⟩:=hstk
  have htr:tryRecover (b.atR a (.inRegion ops (i::is)::t)) (fr2::cs')=Go.recoverD (fr2::cs'):=tryRecover_deferred (fr:=b.atR a (.inRegion ops (i::is)::t)) hkind _
  have hm2:=hF.mode
  split at hr
  ·rename_i v hfm
   rw [hfm] at hm2
   obtain ⟨u,hm2,hu⟩:=hm2
   obtain rfl:=hW.eq (by rw [hm2]; exact fun h=>by cases h)
   simp only [oB,Out.go] at hr
   have hrc:Go.recoverD (fr2::cs')=some (u,{ fr2 with mode:=.panicking [{ v:=u,recovered:=true }] }::cs'):=by
    simp only [Go.recoverD,Go.recoverD,hm2]
   rw [hrc] at htr
   refine (hN _ (b.atR (a.put dst u) (.inRegion ops is::t)) ({ fr2 with mode:=.panicking [{ v:=u,recovered:=true }] }::cs') w bl hr ⟨h.sim,?_,⟨_,_,cs',rfl,Waits.refl _ _,⟨hF.fn,hF.kind,(fun h=>by cases h),hF.round,hF.tmps,hF.defers,⟨u,rfl,hu⟩⟩,hK⟩,hbase⟩).steps (.one (step_lone_go ?_))
   ·exact FRel.mk_at (f:={ fn:=c.fn,T:=putT c.T dst v,todo:=.inRegion ops is::t,defers:=c.defers,mode:=c.mode,late:=c.late,round:=c.round }) hfn (by rw [hl]; exact hkind) (putrel v u hu) (by rw [putdef]; exact hdef) hm hrd
   ·rw [hgo (by intro c hc; cases hc),← hfin]
    simp only [Frame.atR] at htr ⊢
    rw [hrn] at htr ⊢
    simp [stepG.apply,he,htr]
  ·rename_i hfm
   rw [hfm] at hm2
   have hm2:fr20.mode=.returning:=hm2
   obtain rfl:=hW.eq (by rw [hm2]; exact fun h=>by cases h)
   simp only [oB,Out.go] at hr
   have hrc:Go.recoverD (fr2::cs')=none:=by
    simp only [Go.recoverD,Go.recoverD,hm2]
   rw [hrc] at htr
   refine (hN _ (b.atR (a.put dst .nilIface) (.inRegion ops is::t)) (fr2::cs') w bl hr ⟨h.sim,?_,by simp only; rw [hrest]; exact ⟨_,_,cs',rfl,Waits.refl _ _,hF,hK⟩,by simp only; rw [hrest]; exact hbase⟩).steps (.one (step_lone_go ?_))
   ·exact FRel.mk_at (f:={ fn:=c.fn,T:=putT c.T dst .nili,todo:=.inRegion ops is::t,defers:=c.defers,mode:=c.mode,late:=c.late,round:=c.round }) hfn (by rw [hl]; exact hkind) (putrel .nili .nilIface (.fz _ _ .nili)) (by rw [putdef]; exact hdef) hm hrd
   ·rw [hgo (by intro c hc; cases hc),← hfin]
    simp only [Frame.atR] at htr ⊢
    rw [hrn] at htr ⊢
    simp [stepG.apply,he,htr]
  ·cases hr
 | pan _ x hop =>
  simp only at hop
  subst hop
  simp only at hr
  split at hr
  case h_2=>cases hr
  rename_i u v hx
  simp only [oB,Out.go] at hr
  have hfr:=ev_rel hT x
  rw [hx] at hfr
  obtain ⟨y,hy⟩:∃ y,a.eval x=.iface u y:=by
   generalize a.eval x=rv' at hfr
   cases hfr with
   | fz _ _ h=>cases h with | iface _ _ v h=>exact ⟨v,rfl⟩
   | iface _ _ v h=>exact ⟨v,rfl⟩
   | dead _ _ _ _ hr=>simp [refOf] at hr
  rw [hy] at hfr
  have he:(execOp a.eval (⟨dst,.panic x,type,guard,after,ps'⟩:Oper)).run E.P w=.halt (.panic (.iface u y)) w:=by
   simp only [execOp,hy,Instr.panic,Sem.run_bind]
   rfl
  refine (hN _ { b.atR a (.inRegion ops (i::is)::t) with mode:=.panicking [{ v:=.iface u y,recovered:=false }] } cs w bl hr ⟨h.sim,⟨hfn,hkind,(fun h=>by cases h),hrd,hT,hdef,⟨_,rfl,hfr⟩⟩,hstk,hbase⟩).steps (.one (step_lone_go ?_))
  rw [hgo (by intro c hc; cases hc)]
  simp [stepG.apply,he,Frame.raise_atR]
 | dfr _ cl hop =>
  simp only at hop
  subst hop
  obtain ⟨callee,args,ats⟩:=cl
  cases callee with
  | invoke _ _=>simp only [opD,opK] at hr; cases hr
  | builtin _=>simp only [opD,opK] at hr; cases hr
  | value f =>
  simp only at hr
  split at hr
  case h_2=>cases hr
  rename_i g xa xb hcr hf
  simp only [oB,Out.go] at hr
  have hrn:b.roundOf=none:=by rw [hcr] at hrd; exact hrd
  have hfr:=ev_rel hT f
  rw [hf] at hfr
  obtain ⟨xs,ys,hv,hT'⟩:=zsr hfr (hargs args)
  rw [hv] at hfr
  have he:(execOp a.eval (⟨dst,.defer ⟨.value f,args,ats⟩,type,guard,after,ps'⟩:Oper)).run E.P w=.ok (.defer { target:=.fn (.func g) ys,args:=xs++args.map a.eval }) w:=by
   simp only [execOp,resolve,Sem.run_bind,hv,Deferred.ofValue,Sem.run_pure,Result.andThen_ok]
  let a2:Act:=⟨(a.put dst undef).tmps,{ target:=.fn (.func g) ys,args:=xs++args.map a.eval }::a.defers⟩
  refine (hN _ (b.atR a2 (.inRegion ops is::t)) cs w bl hr ⟨h.sim,?_,hstk,hbase⟩).steps (.one (step_lone_go ?_))
  ·exact FRel.mk_at (a:=a2) (f:={ fn:=c.fn,T:=putT c.T dst (.tuple []),todo:=.inRegion ops is::t,defers:=(.func (.func g) xa xb,args.toList.map (ev c.T))::c.defers,mode:=c.mode,late:=c.late,round:=c.round }) hfn hkind
    (putrel (.tuple []) undef (.fz _ _ (.tuple [] #[] rfl (fun j p hp=>by simp at hp)))) ⟨.inl ⟨_,_,hfr,hargs args,rfl⟩,hdef⟩ hm hrd
  ·rw [hgoR,show b.roundOf=none from hrn,Oper.semAt_none]
   have hx:({ b.atR a (.inRegion ops (i::is)::t) with defers:={ target:=.fn (.func g) ys,args:=xs++args.map a.eval }::a.defers }:Frame).finish undef=b.atR a2 (.inRegion ops is::t):=by
    have:=Frame.finish_atR b ⟨a.tmps,{ target:=.fn (.func g) ys,args:=xs++args.map a.eval }::a.defers⟩ ops i is t undef
    rw [ho] at this
    simp only [oB] at this
    rw [show ({ b.atR a (.inRegion ops (i::is)::t) with defers:={ target:=.fn (.func g) ys,args:=xs++args.map a.eval }::a.defers }:Frame)=b.atR ⟨a.tmps,{ target:=.fn (.func g) ys,args:=xs++args.map a.eval }::a.defers⟩ (.inRegion ops (i::is)::t) from rfl,this]
    cases dst <;> rfl
   simp only [Frame.atR] at hx ⊢
   simp [stepG.apply,he,hx]
end
omit hE in
theorem zzg {w:World} {tmps:Array Value}:∀ (l:List Oper) (T:List PV) (objs:List Obj) (bl:zh),Sim w0 Wx w bl objs→TRel w (WT Wx bl objs) bl objs T tmps →
  ∃ bl',Sim w0 Wx w bl' (resvL l T objs).2∧Ext w (WT Wx bl objs) bl objs w (WT Wx bl' (resvL l T objs).2) bl' (resvL l T objs).2∧TRel w (WT Wx bl' (resvL l T objs).2) bl' (resvL l T objs).2 (resvL l T objs).1 tmps
 | [],T,objs,bl,S,hT=>⟨bl,S,Ext.refl _ _ _ _,hT⟩
 | x::xs,T,objs,bl,S,hT=>by
  unfold resvL
  split
  ·rename_i t d _ _
   have hT1:=hT.mono (z1aq S)
   have hT2:TRel w (WT Wx (bl++[none]) (objs++[.hole])) (bl++[none]) (objs++[.hole]) (setN T d (.resv objs.length)) tmps:=by
    refine ⟨by rw [z1fv]; exact hT1.1,fun j p hp=>?_⟩
    rw [z2z] at hp
    by_cases hd:d=j
    ·subst hd
     have hl:d<T.length:=by have:=z3j hp; simpa using this
     rw [List.getElem?_set_self hl] at hp
     simp only [oJ] at hp
     subst hp
     exact .fz _ _ (.resv _ _)
    ·rw [List.getElem?_set_ne hd] at hp
     exact hT1.2 j p hp
   obtain ⟨bl',h1,h2,h3⟩:=zzg xs _ _ _ (hole_sim S) hT2
   exact ⟨bl',h1,(z1aq S).trans h2,h3⟩
  ·exact zzg xs T objs bl S hT
omit hE in
theorem z17l {C:Orc} {tis:List TI} (ops:Array Oper) (t:List Item) (is:List Nat):∀ (l:List Nat) (n:Nat) (c:Conf) (r:PV),c.mode=.run→(∀ i∈l,∃ o,ops[i]?=some o∧zoi E o=true) →
  runN E C tis n { c with todo:=.inRegion ops (l++is)::t }=some r→∃ m T',m≤n∧z8z E C ops l (c.T,c.objs)=some (T',c.objs)∧runN E C tis m { c with T:=T',todo:=.inRegion ops is::t }=some r
 | [],n,c,r,hm,hs,h=>⟨n,c.T,Nat.le_refl _,rfl,h⟩
 | i::l,0,c,r,hm,hs,h=>by cases h
 | i::l,n+1,c,r,hm,hs,h=>by
  obtain ⟨o,ho,hst⟩:=hs i (List.mem_cons_self ..)
  simp only [runN,za0,zs6] at h
  rw [zoj (c:={ c with todo:=.inRegion ops (i::l++is)::t }) hm] at h
  simp only [zgt,List.cons_append] at h
  rw [ho] at h
  simp only at h
  rw [zvq { c with todo:=.inRegion ops (i::(l++is))::t } ops i (l++is) t o ho (fun _=>z1fl hst)] at h
  simp only at h
  rw [zx2 ho hst] at h
  obtain ⟨s0,hs0,h⟩:=zb h
  obtain ⟨⟨v,objs1⟩,hv,rfl⟩:=Option.map_eq_some_iff.1 hs0
  have:=z17e (zdl hst).2.2 hv
  subst this
  rw [z12o rfl] at h
  obtain ⟨m,T',h1,h2,h3⟩:=z17l ops t is l n { c with T:=putT c.T o.dst v } r hm (fun j hj=>hs j (List.mem_cons_of_mem _ hj)) h
  refine ⟨m,T',by omega,?_,h3⟩
  simp only [z8z,zx2 ho hst,hv,Option.map_some,oB]
  exact h2
omit hE in
theorem loud_kind {fn:Nat} {o:Oper} (h:z1is E fn o=true):z2a E o.op=none∧o.guard=none∧∃ g args ats,o.op=.call ⟨.value (.func g),args,ats⟩∧mem2 fn g E.inl=true:=by
 obtain ⟨dst,op,type,pos,after,guard⟩:=o
 unfold z1is at h
 simp only at h ⊢
 cases hs:z2a E op with
 | some s=>rw [hs] at h; cases h
 | none =>
 rw [hs] at h
 simp only at h
 cases guard with
 | some g=>cases h
 | none =>
 refine ⟨rfl,rfl,?_⟩
 simp only at h
 split at h
 ·rename_i g args ats; exact ⟨g,_,_,rfl,h⟩
 ·cases h
theorem z1l6 {C:Orc} (hC:OrcOk E C) (hmix:E.P.follows .mixedOrders=true) {tis:List TI} {n:Nat} {r:PV} {fn0:Nat} {cs0:List Frame} {w:World} {bl:zh} {c:Conf} {b:Frame} {a:Act} {cs:List Frame}
  (hN:∀ m,m<n+1→∀ (c':Conf) (fr':Frame) (cs':List Frame) (w':World) (bl':zh),runN E C tis m (normC E c')=some r→CoRel E.P w0 Wx w' bl' fn0 cs0 c' fr' cs'→Ends E w0 Wx tis fn0 cs0 (lone fr' cs' w') r)
  (hm:c.mode=.run) {id:Nat} {ops:Array Oper} {t:List Item} {p:Nat} {op:Oper} (L:Loud E c.fn ops p op) (ht:c.todo=.code (.region id ops true)::t) (H:CoRel E.P w0 Wx w bl fn0 cs0 c (b.atR a c.todo) cs)
  (h:runN E C tis n { c with todo:=.inRegion ops (List.range ops.size)::t }=some r):Ends E w0 Wx tis fn0 cs0 (lone (b.atR a c.todo) cs w) r:=by
 have hT:TRel w (WT Wx bl c.objs) bl c.objs c.T a.tmps:=H.top.tmps
 have hfn:b.fn=c.fn:=H.top.fn
 have hkind:b.kind=bif c.late then .deferred else .normal:=H.top.kind
 have hdef:DRel w (WT Wx bl c.objs) bl c.objs c.defers a.defers:=H.top.defers
 have hrd:RRel w (WT Wx bl c.objs) bl c.objs c.round b.roundOf:=H.top.round
 have S:=H.sim
 have hlt:=L.lt
 have hrg:List.range ops.size=List.range' 0 p++(p::List.range' (p+1) (ops.size-(p+1))):=by
  rw [List.range_eq_range',← List.range'_succ,show ops.size-(p+1)+1=ops.size-p by omega]
  have:=List.range'_append_1 (s:=0) (m:=p) (n:=ops.size-p)
  rw [Nat.zero_add] at this
  rw [this]; congr 1; omega
 rw [hrg] at h
 obtain ⟨m,TA,hmn,hreg,hrun⟩:=z17l ops t _ (List.range' 0 p) n c r hm (fun i hi=>by
  obtain ⟨o,h1,h2,_⟩:=L.still i (by have:=List.mem_range'_1.1 hi; omega)
  exact ⟨o,h1,h2⟩) h
 obtain ⟨v1,v2,v3⟩:=z1iy L p 0 c.T (by omega) hreg
 have hV:∀ i o,i<p→ops[i]?=some o→∃ v,opD E TA c.objs o=some (v,c.objs)∧∀ d,o.dst=some d→nthD .undef TA d=if d<TA.length then v else .undef:=fun i o h1 h2=>v3 i o (by omega) h1 h2
 have hrep:∀ j,(Array.replicate ops.size false).getD j false=false:=by
  intro j; rw [Array.getD_eq_getD_getElem?,Array.getElem?_replicate]; split <;> rfl
 obtain ⟨rest,listed',w',bl',T',a',st,df,S',X',R',A',z1,z2,z3,z4,z5⟩:=to_call hE hC L hV b t cs _ _ w.drew bl c.T a (z1cw L.down (w.tape w.drawn (.order b.fn id))) (by simp) (hrep p)
  (fun j oj _ hl=>by rw [hrep] at hl; cases hl) (zlw S) (hT.mono zea) ⟨v1.symm,fun s hs=>(v2 s fun i o _ h2 h3=>hs i o h2 (hrep i) h3).symm⟩
 obtain ⟨pend,a2,hrest,hlater,hTA⟩:=put_off hE L hV S' rest _ T' a' z5 (by simp [z1]) (zse (by omega)) (fun q hq=>by rw [z9m (by omega),z4 q hq]; exact hrep q) (z2.set z3) R'
  ⟨A'.1,fun s hs=>A'.2 s fun j o h1 h2 h3=>hs j o h1 (by rw [z9m (by omega)]; exact h2) h3⟩
 subst hrest
 have hX:=(zea (w:=w) (Wx:=Wx) (bl:=bl) (objs:=c.objs)).trans X'
 have hst0:Steps E.P (lone (b.atR a c.todo) cs w) (lone (b.atR a' (.inRegion ops (p::(pend++List.range' (p+1) (ops.size-(p+1))))::t)) cs w'):=by
  rw [ht]
  refine (Steps.one stepR_region_draw).trans ?_
  rw [hmix]
  exact st
 refine Ends.steps hst0 ?_
 generalize List.range' (p+1) (ops.size-(p+1))=is at hrun
 have hagree:=A'.operands L (Nat.le_refl p) z3 L.at_
 obtain ⟨k1,k2,g,args,ats,k3,k4⟩:=loud_kind L.loud
 have hW:Waits E.P (b.atR a' (.inRegion ops (p::(pend++is))::t)) (b.atR a2 (.inRegion ops (p::is)::t)):=.inr ⟨b,ops,p,pend,is,t,a',a2,op,rfl,rfl,L.at_,hlater⟩
 have hargs:TRel w' (WT Wx bl' c.objs) bl' c.objs (args.toList.map (ev TA)) (args.map a'.eval):=by
  have e:args.toList.map (ev TA)=args.toList.map (ev T'):=List.map_congr_left fun y hy=>(hagree y (by rw [k3]; simp [Op.operands,Call.operands,Array.mem_toList_iff.1 hy])).symm
  rw [e]
  refine ⟨by simp,fun j q hq=>?_⟩
  have:=zlr R' args.toList j q hq
  simpa [List.getD_eq_getElem?_getD,Array.getD_eq_getD_getElem?] using this
 have hB:FRel w' (WT Wx bl' c.objs) bl' c.objs { c.fr with T:=TA,todo:=.inRegion ops (p::is)::t } (b.atR a2 (.inRegion ops (p::is)::t)) :=
  FRel.mk_at (f:={ c.fr with T:=TA,todo:=.inRegion ops (p::is)::t }) hfn hkind hTA (by rw [hlater.same.1,df]; exact hdef.mono hX) hm (hrd.mono hX)
 have hwant:Region.wanted op (yielded ops a'.tmps)=true:=by unfold Region.wanted; rw [k2]
 have hgo:=stepGR_op (P:=E.P) (b:=b) (a:=a') (k:=t) (cs:=cs) (w:=w') (rest:=pend++is) L.at_ hwant
 cases m with
 | zero=>cases hrun
 | succ m =>
 simp only [runN,za0,zs6] at hrun
 rw [zoj (c:={ c with T:=TA,todo:=.inRegion ops (p::is)::t }) hm] at hrun
 simp only [zgt] at hrun
 rw [L.at_] at hrun
 simp only at hrun
 rw [z14m] at hrun
 rw [show guardOf TA ops op=some true by unfold guardOf; rw [k2]] at hrun
 simp only [oB,cond_true] at hrun
 unfold operD at hrun
 rw [k1] at hrun
 simp only at hrun
 rw [k3] at hrun
 simp only [zee,ev,k4,cond_true] at hrun
 refine zhp (c:={ c with T:=TA,todo:=.inRegion ops (p::is)::t }) (g:=g) (late:=false) (frB:=b.atR a' (.inRegion ops (p::(pend++is))::t)) (hN m (by omega)) hW S' (H.stk.mono hX) hB H.base (vals:=args.map a'.eval) (as:=[]++args.toList.map (ev TA)++[]) (by simpa using hargs) (fun fn body hf' hb=>.one (step_lone_go ?_)) hrun
 have he:(execOp a'.eval op).run E.P w'=.ok (.enter g (args.map a'.eval)) w':=by
  obtain ⟨dst,op0,type,pos,after,guard⟩:=op
  simp only at k3
  subst k3
  have hev:a'.eval (.func g)=.func (.func g) #[] #[]:=rfl
  simp only [execOp,resolve,Sem.run_bind,hev,Deferred.ofValue,Sem.run_pure,Result.andThen_ok,invoke]
  have:=zao (zxh hE hf' hb) (args.map a'.eval) w'
  simpa using this
 rw [hgo,Oper.semAt_eq _ _ _ (by intro c hc; rw [k3] at hc; cases hc)]
 simp [stepG.apply,he,Frame.atR]
theorem run_sound {C:Orc} (hC:OrcOk E C) (hD:z1ex E C) (tis:List TI) (fn0:Nat) (cs0:List Frame):∀ (n:Nat) (c:Conf) (r:PV) (w:World) (bl:zh) (fr:Frame) (cs:List Frame),runN E C tis n c=some r→CoRel E.P w0 Wx w bl fn0 cs0 c fr cs →
  Ends E w0 Wx tis fn0 cs0 (lone fr cs w) r:=by
 intro n
 induction n using Nat.strongRecOn with
 | _ n ih =>
 intro c r w bl fr cs h H
 cases n with
 | zero=>cases h
 | succ n =>
 have hN:∀ m,m<n+1→∀ (c':Conf) (fr':Frame) (cs':List Frame) (w':World) (bl':zh),runN E C tis m (normC E c')=some r→CoRel E.P w0 Wx w' bl' fn0 cs0 c' fr' cs'→Ends E w0 Wx tis fn0 cs0 (lone fr' cs' w') r:=by
  intro m hm c' fr' cs' w' bl' hr h'
  obtain ⟨bl2,h2⟩:=z17r (E:=E) h'
  exact ih m hm _ r w' bl2 fr' cs' hr h2
 have hn:=hN n (Nat.lt_succ_self n)
 by_cases hm:c.mode=.run
 case neg =>
  simp only [runN,za0,zs6] at h
  have hs:stepD E c=zz1 E c:=by
   unfold stepD
   cases hcm:c.mode with
   | run=>exact absurd hcm hm
   | _=>rfl
  rw [hs] at h
  exact z1c1 hE hn hm H h
 have hfr:=H.top.eq_at hm rfl
 obtain ⟨b,a,rfl,hab⟩:∃ b a,fr=b.atR a c.todo∧a=⟨fr.tmps,fr.defers⟩:=⟨fr,_,hfr,rfl⟩
 have hT:TRel w (WT Wx bl c.objs) bl c.objs c.T a.tmps:=H.top.tmps
 have hfn:b.fn=c.fn:=H.top.fn
 have hkind:b.kind=bif c.late then .deferred else .normal:=H.top.kind
 have hdef:DRel w (WT Wx bl c.objs) bl c.objs c.defers a.defers:=H.top.defers
 have hrd:RRel w (WT Wx bl c.objs) bl c.objs c.round b.roundOf:=H.top.round
 have S:=H.sim
 have goto:∀ (todo:List Item),runN E C tis n (normC E { c with todo })=some r→Steps E.P (lone (b.atR a c.todo) cs w) (lone (b.atR a todo) cs w)→Ends E w0 Wx tis fn0 cs0 (lone (b.atR a c.todo) cs w) r:=by
  intro todo hrun hst
  refine (hn _ _ cs w bl hrun ⟨S,?_,H.stk,H.base⟩).steps hst
  exact FRel.mk_at (f:={ fn:=c.fn,T:=c.T,todo,defers:=c.defers,mode:=c.mode,late:=c.late,round:=c.round }) hfn hkind hT hdef hm hrd
 have fin:∀ todo,(retD E c).bind (Out.go C (fun c'=>runN E C tis n (normC E c')) (fun v=>filt tis (some v)))=some r→c.todo=todo→Steps E.P (lone (b.atR a todo) cs w) (lone { b.atR a todo with mode:=.returning } cs w)→Ends E w0 Wx tis fn0 cs0 (lone (b.atR a c.todo) cs w) r:=by
  intro todo hr ht hst
  rw [ht]
  refine (z1d6 hE hn (c:=c) (fr:={ b.atR a todo with mode:=.returning }) ⟨S,⟨hfn,hkind,(fun h=>by cases h),hrd,hT,hdef,rfl⟩,H.stk,H.base⟩ hr).steps hst
 simp only [runN,za0,zs6] at h
 rw [zoj hm] at h
 unfold zgt at h
 split at h
 ·rename_i ht
  cases hq:c.round with
  | none=>rw [hq] at h hrd; exact fin _ h ht (.one (stepR_end hrd))
  | some q =>
   rw [hq] at h
   simp only at h
   cases hc:zp3 c none with
   | none=>rw [hc] at h; cases h
   | some c' =>
    rw [hc] at h
    simp only [Option.map_some,oB,Out.go] at h
    obtain ⟨l,fr2,cs',v,w1,h1,rfl,h2,h3,fr',w',bl',h4,h5⟩:=zvo hc H
    rw [ht]
    exact (hn c' fr' cs' w' bl' h h5).steps ((Steps.one (stepR_round_end h1 h2 h3)).trans h4)
 ·rename_i t ht
  cases hq:c.round with
  | none=>rw [hq] at h hrd; exact fin _ h ht (.one (stepR_ret hrd))
  | some q =>
   rw [hq] at h
   simp only at h
   cases hc:zp3 c (some .ret) with
   | none=>rw [hc] at h; cases h
   | some c' =>
    rw [hc] at h
    simp only [Option.map_some,oB,Out.go] at h
    obtain ⟨l,fr2,cs',v,w1,h1,rfl,h2,h3,fr',w',bl',h4,h5⟩:=zvo hc H
    rw [ht]
    exact (hn c' fr' cs' w' bl' h h5).steps ((Steps.one (stepR_round_ret h1 h2 h3)).trans h4)
 ·
  rename_i t ht
  cases hc:z1ju c t with
  | none=>rw [hc] at h; cases h
  | some c' =>
  rw [hc] at h
  simp only [Option.map_some,oB,Out.go] at h
  unfold z1ju at hc
  split at hc
  case h_2=>cases hc
  rename_i i hq
  split at hc
  case h_2=>cases hc
  rename_i pd fn T ps as bd ho
  simp only [oJ] at hc
  subst hc
  have hrd':=hrd
  rw [hq] at hrd'
  obtain ⟨l,hrl,hvl⟩:=hrd'
  obtain ⟨hb,r0,tmps,hh,hTl⟩:=z1al S ho hvl
  obtain ⟨S',X⟩:=z1dp S ho hb hh hTl .busy pd
  refine (hn _ (b.atR a t) cs _ bl h ⟨S',?_,H.stk.mono X,H.base⟩).steps (by rw [ht]; exact .one (stepR_beginRound hrl (z16p (P:=E.P) hh rfl)))
  exact FRel.mk_at (f:={ fn:=c.fn,T:=c.T,todo:=t,defers:=c.defers,mode:=c.mode,late:=c.late,round:=c.round }) hfn hkind (hT.mono X) (hdef.mono X) hm (hrd.mono X)
 ·
  rename_i x ps as bd t ht
  split at h
  case h_2=>cases h
  rename_i g xa xb hq hx
  cases hmi:mem2 c.fn g E.inl with
  | false=>rw [hmi] at h; cases h
  | true =>
  rw [hmi] at h
  simp only [cond_true] at h
  have hrn:b.roundOf=none:=by rw [hq] at hrd; exact hrd
  obtain ⟨bl2,S2,X2,hv1,hv2⟩:=loop_new S c.fn hT.killed ps as bd (keep:=zkz as++zkz bd)
  have hfr:=ev_rel hT x
  rw [hx] at hfr
  obtain ⟨xs,ys,hfv,hT'⟩:=zsr (hfr.mono X2) (as:=[.func (.yield 0) [.mapr (c.objs.length+1)] []]) (vargs:=#[.func (.yield (w.heap.size+1)) #[] #[]]) ⟨rfl,fun j q hj=>by
   cases j with
   | zero=>simp at hj; subst hj; exact .yv _ _ _ hv2
   | succ j=>simp at hj⟩
  have he:∀ fn0 body,E.P.funcs[g]?=some fn0→fn0.body=some body→(do let d ← resolve a.eval { callee:=.value x,args:=#[.const (.func (.yield (w.heap.size+1)) #[] #[])],argTypes:=#[] } 0; invoke d.target d.args:Sem Next).run E.P
    ((w.alloc (.deferred (some []))).alloc (.loop { state:=.ready,pending:=none,fn:=c.fn,tmps:=a.tmps,params:=ps,assign:=as,body:=bd,defers:=w.heap.size })) =
    .ok (.enter g (xs++#[.func (.yield (w.heap.size+1)) #[] #[]]++ys)) ((w.alloc (.deferred (some []))).alloc (.loop { state:=.ready,pending:=none,fn:=c.fn,tmps:=a.tmps,params:=ps,assign:=as,body:=bd,defers:=w.heap.size })):=by
   intro fn0 body hf' hb'
   have hce:a.eval (.const (.func (.yield (w.heap.size+1)) #[] #[]))=.func (.yield (w.heap.size+1)) #[] #[]:=rfl
   simp only [resolve,Sem.run_bind,hfv,Deferred.ofValue,Sem.run_pure,Result.andThen_ok,invoke]
   have:=zao (zxh hE hf' hb') (xs++#[.func (.yield (w.heap.size+1)) #[] #[]]++ys) ((w.alloc (.deferred (some []))).alloc (.loop { state:=.ready,pending:=none,fn:=c.fn,tmps:=a.tmps,params:=ps,assign:=as,body:=bd,defers:=w.heap.size }))
   simpa [hce] using this
  rw [ht]
  refine zhp (c:=(loopC c ps as bd t).1) (below:=(loopC c ps as bd t).2.1) (frB:={ b.atR a (.inRangeFunc (w.heap.size+1)::t) with defers:=[{ target:=.collected w.heap.size,args:=#[] }]++a.defers }) hn (Waits.refl _ _) S2 (H.stk.mono X2) ?_ H.base hT' (fun fn0 body hf' hb'=>.one (z16d hrn hfn (z19u (P:=E.P) c.fn a.tmps ps as bd) (he fn0 body hf' hb'))) h
  refine ⟨hfn,hkind,fun _=>⟨_,rfl,hv2⟩,hrd.mono X2,hT.mono X2,⟨.inr ⟨_,hv1,rfl,rfl⟩,hdef.mono X2⟩,?_⟩
  have:=H.top.mode.mono X2
  exact this
 ·rename_i ht; exact goto _ h (by rw [ht]; exact .one stepR_skip)
 ·rename_i ht; exact goto _ h (by rw [ht]; exact .one stepR_label)
 ·rename_i ht; exact goto _ h (by rw [ht]; exact .one stepR_inBlock)
 ·rename_i ht; exact goto _ h (by rw [ht]; exact .one z1ck)
 ·rename_i ht; exact goto _ h (by rw [ht]; exact .one stepR_seq)
 ·rename_i x y z t ht
  split at h
  ·rename_i hx
   have hv:=ev_rel hT x
   rw [hx] at hv
   have hv:=hv.frozen_leaf trivial
   have hxe:a.eval x=.bool true:=by generalize a.eval x=v at hv; cases hv; rfl
   exact goto _ h (by rw [ht]; exact .one (by have:=stepR_cond (P:=E.P) (b:=b) (a:=a) (k:=t) (cs:=cs) (w:=w) (x:=y) (y:=z) hxe; simpa using this))
  ·rename_i hx
   have hv:=ev_rel hT x
   rw [hx] at hv
   have hv:=hv.frozen_leaf trivial
   have hxe:a.eval x=.bool false:=by generalize a.eval x=v at hv; cases hv; rfl
   exact goto _ h (by rw [ht]; exact .one (by have:=stepR_cond (P:=E.P) (b:=b) (a:=a) (k:=t) (cs:=cs) (w:=w) (x:=y) (y:=z) hxe; simpa using this))
  ·cases h
 ·rename_i ht; exact goto _ h (by rw [ht]; exact .one stepR_block)
 ·rename_i ht; exact goto _ h (by rw [ht]; exact .one stepR_loop)
 ·rename_i ht; exact goto _ h (by rw [ht]; exact .one stepR_inLoop)
 ·rename_i ht; exact goto _ h (by rw [ht]; exact .one z1kk)
 ·rename_i id t ht
  cases hx:exitTo id t with
  | none =>
   rw [hx] at h
   simp only at h
   cases hc:zp3 { c with todo:=t } (some (.exit id)) with
   | none=>rw [hc] at h; cases h
   | some c' =>
    rw [hc] at h
    simp only [Option.map_some,oB,Out.go] at h
    obtain ⟨l,fr2,cs',v,w1,h1,rfl,h2,h3,fr',w',bl',h4,h5⟩:=zvo (c:={ c with todo:=t }) (a:=a) (b:=b) (todo:=t) hc ⟨S,FRel.mk_at (f:={ fn:=c.fn,T:=c.T,todo:=t,defers:=c.defers,mode:=c.mode,late:=c.late,round:=c.round }) hfn hkind hT hdef hm hrd,H.stk,H.base⟩
    rw [ht]
    exact (hn c' fr' cs' w' bl' h h5).steps ((Steps.one (stepR_round_exit h1 h2 hx h3)).trans h4)
  | some t'=>rw [hx] at h; exact goto _ h (by rw [ht]; exact .one (stepR_exit hx))
 ·rename_i id ops t ht
  exact goto _ h (by rw [ht]; exact .one stepR_region)
 ·
  rename_i id ops t ht
  obtain ⟨bl1,S1,X1,T1⟩:=zzg ops.toList c.T c.objs bl S hT
  generalize hrv:resvL ops.toList c.T c.objs=rv at h S1 X1 T1
  cases hdr:drawOk E rv.1 c.fn ops with
  | false =>
   rw [hdr] at h
   simp only [cond_false] at h
   cases hla:loudAt E c.fn ops with
   | none=>rw [hla] at h; cases h
   | some p =>
    rw [hla] at h
    simp only [oB,Out.go] at h
    rw [z12o rfl] at h
    obtain ⟨op,L⟩:∃ op,Loud E c.fn ops p op:=by
     unfold loudAt at hla
     cases h1:zsn E c.fn ops (ops.size-1) with
     | true =>
      rw [h1] at hla
      simp only [cond_true,oJ] at hla
      subst hla
      exact zya h1
     | false =>
      rw [h1] at hla
      simp only [cond_false] at hla
      cases h2:zsn E c.fn ops (ops.size-2) with
      | true =>
       rw [h2] at hla
       simp only [cond_true,oJ] at hla
       subst hla
       exact zya h2
      | false=>rw [h2] at hla; cases hla
    exact z1l6 hE hC hD.1 hN hm L ht H h
  | true =>
  rw [hdr] at h
  simp only [cond_true,oB,Out.go] at h
  have hq:allB (zoy E c.fn) ops.toList=true:=by
   unfold drawOk at hdr
   simp only [Bool.and_eq_true] at hdr
   exact hdr.1.1.1
  rw [z12o rfl] at h
  obtain ⟨m',s,hm',hs,hrun'⟩:=zvh ops t _ n { c with T:=rv.1,objs:=rv.2 } r hm hq h
  have hl:=hD.2 c.fn ops (w.tape w.drawn (.order b.fn id)) (rv.1,rv.2) s (fun s=>∃ (w:World) (bl:zh) (a:Act),Sim w0 Wx w bl s.2∧TRel w (WT Wx bl s.2) bl s.2 s.1 a.tmps)
   (fun i s s1 ⟨w,bl,a,S,hT⟩ h=>let ⟨a',w',bl',_,_,S',_,T'⟩:=zxc hE hC S hT ops i (s':=s1) h b [] t cs; ⟨w',bl',a',S',T'⟩)
   (fun s ⟨w,bl,a,S,hT⟩ x i hx=>(ev_rel hT x).ref_lt hx) ⟨w,bl1,a,S1,T1⟩ hdr hs
  obtain ⟨a',w',bl',d',st',S',X',T'⟩:=z10q hE hC ops b t cs _ w.drew bl1 (rv.1,rv.2) s a (zlw S1) (T1.mono zea) hl
  have X2:=X1.trans ((zea (w:=w) (Wx:=Wx) (bl:=bl1) (objs:=rv.2)).trans X')
  refine (hN m' (by omega) _ (b.atR a' t) cs w' bl' hrun' ⟨S',?_,H.stk.mono X2,H.base⟩).steps ?_
  ·exact FRel.mk_at (f:={ fn:=c.fn,T:=s.1,todo:=t,defers:=c.defers,mode:=c.mode,late:=c.late,round:=c.round }) hfn hkind T' (by rw [d']; exact hdef.mono X2) hm (hrd.mono X2)
  ·rw [ht]
   exact (Steps.one stepR_region_draw).trans st'
 ·rename_i ops t ht
  exact goto _ h (by rw [ht]; exact .one stepR_region_end)
 ·rename_i ops i is t ht
  cases ho:ops[i]? with
  | none =>
   rw [ho] at h
   simp only [oB,Out.go] at h
   refine goto _ h ?_
   rw [ht]
   have hs:=stepR_op_skip (P:=E.P) (b:=b) (a:=a) (k:=t) (cs:=cs) (w:=w) (ops:=ops) (i:=i) (rest:=is) (by simp [ho])
   simp only [ho,Option.bind_none,Act.put] at hs
   exact .one hs
  | some o =>
  rw [ho] at h
  simp only at h
  by_cases hwk:guardOf c.T ops o=some true∧Walks E c o
  ·obtain ⟨hg,hw⟩:=hwk
   rw [z14m,hg] at h
   simp only [oB,cond_true] at h
   exact z1k3 hE hn hm ht H ho hg hw h
  ·rw [zvq c ops i is t o ho (fun hg hw=>hwk ⟨hg,hw⟩)] at h
   obtain ⟨s,hs,h⟩:=zb h
   obtain ⟨a',w',bl',d',st',S',X',T'⟩:=zxc hE hC S hT ops i hs b is t cs
   refine (hn _ (b.atR a' (.inRegion ops is::t)) cs w' bl' h ⟨S',?_,H.stk.mono X',H.base⟩).steps (by rw [ht]; exact st')
   exact FRel.mk_at (f:={ fn:=c.fn,T:=s.1,todo:=.inRegion ops is::t,defers:=c.defers,mode:=c.mode,late:=c.late,round:=c.round }) hfn hkind T' (by rw [d']; exact hdef.mono X') hm (hrd.mono X')
 ·cases h
end
end Dv

namespace Dv
open Go Go.RowKit
section
variable {E:Env} (hE:EnvOk E)
def ExtOk (E:Env):Prop:=∀ g m,zfs g E.ext=some m→∀ args r,m args=some r→(Named E g∧FunOk E g args r)∨ValOk E g args r
theorem zq8 {w:World} {W:Nat→Nat→Prop}:∀ (ts:List TI) (args as:List PV) (g:Nat→Value),argsIn ts args=some as→(∀ (j:Nat) (q:PV),args[j]?=some q→VRf w W q (g j)) →
  as.length=args.length∧∀ (j:Nat) (q:PV),as[j]?=some q→VRf w W q (g j)
 | [],[],as,g,h,_=>by simp only [argsIn,oJ] at h; subst h; exact ⟨rfl,fun j q hq=>by simp at hq⟩
 | [],v::vs,as,g,h,hv=>by
  simp only [argsIn] at h
  cases hk:okOther v with
  | false=>rw [hk] at h; cases h
  | true =>
  rw [hk] at h
  simp only [cond_true] at h
  cases hr:argsIn [] vs with
  | none=>rw [hr] at h; cases h
  | some l =>
  rw [hr] at h
  simp only [oJ] at h
  subst h
  obtain ⟨h1,h2⟩:=zq8 [] vs l (fun j=>g (j+1)) hr (fun j q hq=>hv (j+1) q (by simpa using hq))
  refine ⟨by simp [h1],fun j q hq=>?_⟩
  cases j with
  | zero=>simp at hq; subst hq; exact .opq0 _ _ hk (hv 0 v rfl)
  | succ j=>exact h2 j q (by simpa using hq)
 | t::ts,v::vs,as,g,h,hv=>by
  simp only [argsIn] at h
  cases hk:hasTy t v with
  | false=>rw [hk] at h; cases h
  | true =>
  rw [hk] at h
  simp only [cond_true] at h
  cases hr:argsIn ts vs with
  | none=>rw [hr] at h; cases h
  | some l =>
  rw [hr] at h
  simp only [oJ] at h
  subst h
  obtain ⟨h1,h2⟩:=zq8 ts vs l (fun j=>g (j+1)) hr (fun j q hq=>hv (j+1) q (by simpa using hq))
  refine ⟨by simp [h1],fun j q hq=>?_⟩
  cases j with
  | zero=>simp at hq; subst hq; exact z17j hk (hv 0 v rfl)
  | succ j=>exact h2 j q (by simpa using hq)
 | _::_,[],_,_,h,_=>by simp [argsIn] at h
theorem z1fx {C:Orc} {tis:List TI}:∀ (n:Nat) (c:Conf) (r:PV),runN E C tis n c=some r→zg4 tis r=true
 | 0,c,r,h=>by cases h
 | n+1,c,r,h=>by
  simp only [runN,za0] at h
  cases hs:stepD E (sharp c) with
  | none=>rw [hs] at h; cases h
  | some o =>
   rw [hs] at h
   simp only [oB] at h
   cases o with
   | next c'=>exact z1fx n _ r h
   | done v =>
    simp only [Out.go,filt] at h
    cases hty:zg4 tis v with
    | false=>rw [hty] at h; cases h
    | true=>rw [hty] at h; simp only [cond_true,oJ] at h; subst h; exact hty
   | ask a k =>
    simp only [Out.go] at h
    cases hc:C a.tis a.f a.args with
    | none=>rw [hc] at h; cases h
    | some v=>rw [hc] at h; exact z1fx n _ r h
include hE
theorem z13f {C:Orc} (hC:OrcOk E C) (hD:z1ex E C) {tis:List TI} {n g:Nat} {args:List PV} {c:Conf} {r:PV} (hs:zx3 E g args=some c) (hr:runN E C tis n c=some r) :
  zg4 tis r=true∧Named E g∧FunOk E g args r:=by
 unfold zx3 at hs
 cases hf:E.P.funcs[g]? with
 | none=>rw [hf] at hs; cases hs
 | some fn =>
 rw [hf] at hs
 simp only at hs
 cases hb:fn.body with
 | none=>rw [hb] at hs; cases hs
 | some body =>
 rw [hb] at hs
 simp only at hs
 cases ha:argsIn (z1dd E fn) args with
 | none=>rw [ha] at hs; cases hs
 | some as =>
 rw [ha] at hs
 simp only [oJ] at hs
 subst hs
 have hty:zg4 tis r=true:=z1fx n _ r hr
 refine ⟨hty,⟨fn,hf,by rw [hb]; rfl,hE.names g fn hf⟩,fun w W vals hW hlen hargs cs=>?_⟩
 obtain ⟨h1,h2⟩:=zq8 (z1dd E fn) args as (fun j=>vals.getD j undef) ha hargs
 have S:Sim w W w [] []:=⟨Below.refl _ _,rfl,fun i b o h=>by simp at h,fun i j b o o' h=>by simp at h,fun i h=>by simp at h,hW⟩
 have hWT:∀ b o,WT W [] [] b o→W b o:=by
  rintro b o (h | ⟨i,o0,hb,_⟩)
  ·exact h
  ·simp at hb
 have T:TRel w (WT W [] []) [] [] as vals:=⟨h1.trans hlen,fun j q hq=>.fz _ _ ((h2 j q hq).mono (Keep.sub (W':=WT W [] []) hWT))⟩
 have H:CoRel E.P (cs0:=cs) w W w [] g (enterC g fn body as) (Frame.enter E.P g vals .normal) cs:=⟨S,z1e9 (E:=E) hf hb T false,rfl,rfl⟩
 obtain ⟨bl',H'⟩:=z17r (E:=E) H
 obtain ⟨v,w',fr,h1,h2,h3,h4,_,h6⟩:=run_sound hE hC hD tis g cs n _ r w bl' _ cs hr H'
 exact ⟨.returned v,w',fr,⟨v,rfl,h4,h6⟩,h1,h2,h3⟩
theorem z1jq (hX:ExtOk E) (hD:∀ C,z1ex E C):∀ n,OrcOk E (callN E n)
 | 0=>fun tis f args r h=>by cases h
 | n+1=>fun tis f args r h=>by
  have hC:=z1jq hX hD n
  unfold callN at h
  split at h
  case h_2=>cases h
  rename_i g a b
  cases he:zfs g E.ext with
  | some m =>
   rw [he] at h
   simp only at h
   cases hm:m (a++args++b) with
   | none=>rw [hm] at h; cases h
   | some x =>
    rw [hm] at h
    simp only [filt] at h
    cases hty:zg4 tis x with
    | false=>rw [hty] at h; cases h
    | true =>
     rw [hty] at h
     simp only [cond_true,oJ] at h
     subst h
     exact ⟨hty,g,a,b,rfl,hX g m he _ _ hm⟩
  | none =>
   rw [he] at h
   simp only at h
   cases hs:zx3 E g (a++args++b) with
   | none=>rw [hs] at h; cases h
   | some c =>
    rw [hs] at h
    obtain ⟨h1,h2,h3⟩:=z13f hE hC (hD _) hs h
    exact ⟨h1,g,a,b,rfl,.inl ⟨h2,h3⟩⟩
theorem z1gx (hX:ExtOk E) (hD:∀ C,z1ex E C) {g:Nat} {args:List PV} {r:PV} (hg:zfs g E.ext=none) (h:callF E g args=some r):zg4 (funTI E g) r=true∧FunOk E g args r:=by
 obtain ⟨n,hn⟩:=z17q h
 cases n with
 | zero=>cases hn
 | succ n =>
 unfold callN at hn
 simp only [hg,List.nil_append,List.append_nil] at hn
 cases hs:zx3 E g args with
 | none=>rw [hs] at hn; cases hn
 | some c =>
 rw [hs] at hn
 obtain ⟨h1,h2,h3⟩:=z13f hE (z1jq hE hX hD n) (hD _) hs hn
 exact ⟨h1,h3⟩
end
end Dv

namespace Dv
open Go Go.RowKit
def zvw (u:Option TypeDesc):TD→Bool
 | .other=>true
 | .bool=>match u with | some .bool=>true | _=>false
 | .int k=>match u with | some (.int k')=>ikEq k' k | _=>false
 | .str=>match u with | some .string=>true | _=>false
 | .ptr e=>match u with | some (.pointer e')=>Nat.beq e' e | _=>false
 | .slice e=>match u with | some (.slice e')=>Nat.beq e' e | _=>false
 | .arr n e=>match u with | some (.array n' e')=>Nat.beq n' n&&Nat.beq e' e | _=>false
 | .struct fs=>match u with | some (.struct fields)=>fsEq fields.toList fs | _=>false
 | .map k e=>match u with | some (.map k' e')=>Nat.beq k' k&&Nat.beq e' e | _=>false
 | .iface _=>match u with | some (.interface _)=>true | _=>false
 | .func=>match u with | some (.func ..)=>true | _=>false
 | .uptr=>match u with | some .unsafePointer=>true | _=>false
 | .tuple ts=>match u with | some (.tuple a)=>z154 a.toList ts | _=>false
where fsEq:List Field→List (Nat×Nat)→Bool
 | [],[]=>true
 | f::r,(o,t)::q=>Nat.beq f.offset o&&Nat.beq f.type t&&fsEq r q
 | _,_=>false
theorem z1e8:∀ {a b:List Nat},z154 a b=true→a=b
 | [],[],_=>rfl
 | a::l,b::m,h=>by
  simp only [z154,Bool.and_eq_true,beq_iff_eq] at h
  rw [h.1,z1e8 h.2]
 | [],_::_,h=>by simp [z154] at h
 | _::_,[],h=>by simp [z154] at h
theorem fsEq_eq:∀ {a:List Field} {b:List (Nat×Nat)},zvw.fsEq a b=true→a.map (fun f=>(f.offset,f.type))=b
 | [],[],_=>rfl
 | f::r,(o,t)::q,h=>by
  simp only [zvw.fsEq,Bool.and_eq_true] at h
  simp [Nat.eq_of_beq_eq_true h.1.1,Nat.eq_of_beq_eq_true h.1.2,fsEq_eq h.2]
 | [],_::_,h=>by simp [zvw.fsEq] at h
 | _::_,[],h=>by simp [zvw.fsEq] at h
theorem z1ln {u:Option TypeDesc} {d:TD} (h:zvw u d=true):z1ed u d:=by
 cases d <;> simp only [zvw] at h <;> (try (unfold z1ed)) <;> (try trivial) <;> split at h <;> (try (cases h; done)) <;>
  (try simp only [Bool.and_eq_true] at h)
 ·rfl
 ·rw [zfr h]
 ·rfl
 ·rw [Nat.eq_of_beq_eq_true h]
 ·rw [Nat.eq_of_beq_eq_true h]
 ·rw [Nat.eq_of_beq_eq_true h.1,Nat.eq_of_beq_eq_true h.2]
 ·exact ⟨_,rfl,fsEq_eq h⟩
 ·rw [Nat.eq_of_beq_eq_true h.1,Nat.eq_of_beq_eq_true h.2]
 ·exact ⟨_,rfl⟩
 ·exact ⟨_,_,_,rfl⟩
 ·exact ⟨_,rfl,z1e8 h⟩
 ·rfl
def tiChk (P:Program) (t:Nat) (ti:TI):Bool :=
 zvw (P.underlying t) ti.d &&
 (bif ti.d.known then (match P.info? t with
  | some i=>Nat.beq i.size ti.size&&Nat.beq i.bytes ti.bytes&&(match i.zero with | some z=>zOk 1000 ti.zero z&&Nat.beq z.cells.size ti.size | none=>false)
  | none=>false) else true) &&
 (bif ti.isAgg then Nat.beq ti.leaves.length ti.size else (bif ti.d.known then Nat.beq ti.size 1&&Nat.beq ti.leaves.length 1 else true))
theorem tiChk_ok {P:Program} {t:Nat} {ti:TI} (h:tiChk P t ti=true):TIok P t ti:=by
 simp only [tiChk,Bool.and_eq_true] at h
 obtain ⟨⟨h1,h2⟩,h3⟩:=h
 refine ⟨z1ln h1,fun hk=>?_,fun ha=>?_,fun ha hk=>?_⟩
 ·rw [hk] at h2
  simp only [cond_true] at h2
  split at h2
  ·rename_i i hi
   simp only [Bool.and_eq_true] at h2
   obtain ⟨⟨a,b⟩,c⟩:=h2
   split at c
   ·rename_i z hz
    simp only [Bool.and_eq_true] at c
    exact ⟨i,z,hi,Nat.eq_of_beq_eq_true a,Nat.eq_of_beq_eq_true b,hz,c.1,Nat.eq_of_beq_eq_true c.2⟩
   ·cases c
  ·cases h2
 ·rw [ha] at h3; exact Nat.eq_of_beq_eq_true h3
 ·rw [ha,hk] at h3
  simp only [cond_false,cond_true,Bool.and_eq_true] at h3
  exact ⟨Nat.eq_of_beq_eq_true h3.1,Nat.eq_of_beq_eq_true h3.2⟩
def z1cg (P:Program):Nat→List TI→Bool
 | _,[]=>true
 | n,t::r=>tiChk P n t&&z1cg P (n+1) r
theorem z1cf {P:Program}:∀ {l:List TI} {n:Nat},z1cg P n l=true→∀ j,TIok P (n+j) (nthD default l j)
 | [],n,_,j=>by
  have:nthD (default:TI) [] j=⟨.other,0,0,.undef,[]⟩:=by simp [nthD]; rfl
  rw [this]
  exact ⟨trivial,fun h=>by simp [TD.known] at h,fun h=>by simp [TI.isAgg] at h,fun _ h=>by simp [TD.known] at h⟩
 | t::r,n,h,j=>by
  simp only [z1cg,Bool.and_eq_true] at h
  cases j with
  | zero=>exact tiChk_ok h.1
  | succ j=>have:=z1cf h.2 j; rw [show n+(j+1)=n+1+j by omega]; exact this
def z1af (l : List Func) : Bool := allB (fun fn => !(fn.name == "runtime.NumGoroutine")) l
theorem z1gc {P : Program} (h : z1af P.funcs.toList = true) (g : Nat) (fn : Func) (hf : P.funcs[g]? = some fn) : (fn.name == "runtime.NumGoroutine") = false := by
 have:=zk h fn (by rw [← Array.getElem?_toList] at hf; exact List.mem_of_getElem? hf)
 simpa using this
def zxl (u:Option TypeDesc):LK→Bool
 | .int _=>match u with | some (.int _)=>true | _=>false
 | .bool=>match u with | some .bool=>true | _=>false
 | .str=>match u with | some .string=>true | _=>false
 | _=>false
def flatN (P:Program):Nat→Nat→List Field→List LK→Bool
 | _+1,_,[],[]=>true
 | d + 1, n, f :: r, ks => (f.name != "_") && Nat.beq f.offset n && match P.underlying f.type with
  | some (.struct gs)=>!P.stoodInHeld f.type&&Nat.ble (P.cellsOf f.type) ks.length&&flatN P d 0 gs.toList (ks.take (P.cellsOf f.type))&&flatN P d (n+P.cellsOf f.type) r (ks.drop (P.cellsOf f.type))
  | u=>match ks with | k::ks=>zxl u k&&flatN P d (n+1) r ks | []=>false
 | _,_,_,_=>false
def eqChk (P:Program) (t size:Nat) (ks:List LK):Bool :=
 !P.eqGuardType P.depth t&&!P.stoodInHeld t&&(match P.underlying t with | some (.struct fs)=>flatN P 60 0 fs.toList ks&&Nat.beq ks.length size | _=>false)
theorem zx8 {P:Program} {w:World} {t:Nat} {cs:Array Value} {n:Nat} {k:LK} (ht:zxl (P.underlying t) k=true) (hn:n<cs.size) :
  (part t cs n).run P w=.ok (cs.getD n undef) w:=by
 have ha:(isAgg t).run P w=.ok false w:=by
  cases k <;> simp only [zxl] at ht <;> (try (cases ht; done)) <;> split at ht <;> first | (cases ht; done) | skip
  all_goals (rename_i h; simp [isAgg,run_underlying h])
 simp only [part,Sem.run_bind,ha,Result.andThen_ok,Bool.false_eq_true,if_false,Array.getElem?_eq_getElem hn,Sem.run_pure]
 simp [Array.getD,hn]
theorem z1lm {P:Program} {w:World} (d t:Nat) {k:LK} {x y:PV} {vx vy:Value} {c:Bool} (ht:zxl (P.underlying t) k=true) (hx:zyn x vx) (hy:zyn y vy) (h:z156 k x y=some c) :
  (Op.equalIn (d+1) t vx vy).run P w=.ok c w:=by
 cases k <;> cases x <;> cases y <;> simp only [z156] at h <;> (try (cases h; done)) <;> simp only [zyn] at hx hy <;> subst hx <;> subst hy <;> simp only [zxl] at ht <;> split at ht <;> (try (cases ht; done))
 ·rename_i k1 a k2 b _ _ hu
  cases hk:(ikEq _ k1&&ikEq _ k2) with
  | false=>rw [hk] at h; cases h
  | true =>
   rw [hk] at h
   simp only [cond_true,oJ] at h
   simp only [Bool.and_eq_true] at hk
   obtain ⟨h1,h2⟩:=hk
   have h1:=zfr h1
   have h2:=zfr h2
   subst h; subst h1; subst h2
   rw [run_equalIn_int w d _ _ _ _ _ hu]
   congr 1
 ·rename_i a b _ hu
  simp only [oJ] at h
  subst h
  exact run_equalIn_bool' w d _ _ _ hu
 ·rename_i a b _ hu
  simp only [oJ] at h
  subst h
  rw [run_equalIn_string w d _ _ _ hu]
  congr 1
  rw [ByteArray.toList_eq,ByteArray.toList_eq]
  by_cases hab:a=b <;> simp [hab]
theorem zy7:∀ (n:Nat) (ks:List LK) (a b:List PV) (c:Bool),z1n ks a b=some c→∃ c1 c2,z1n (ks.take n) (a.take n) (b.take n)=some c1∧z1n (ks.drop n) (a.drop n) (b.drop n)=some c2∧c=(c1&&c2)
 | 0,ks,a,b,c,h=>⟨true,c,by simp [z1n],by simpa using h,by simp⟩
 | n+1,[],a,b,c,h=>by
  cases a <;> cases b <;> simp [z1n] at h
  subst h
  exact ⟨true,true,by simp [z1n],by simp [z1n],rfl⟩
 | n+1,k::ks,[],b,c,h=>by simp [z1n] at h
 | n+1,k::ks,x::a,[],c,h=>by simp [z1n] at h
 | n+1,k::ks,x::a,y::b,c,h=>by
  simp only [z1n] at h
  cases e1:z156 k x y with
  | none=>rw [e1] at h; simp at h
  | some c1 =>
  cases e2:z1n ks a b with
  | none=>rw [e1,e2] at h; simp at h
  | some c2 =>
  rw [e1,e2] at h
  simp only [oJ] at h
  obtain ⟨d1,d2,f1,f2,f3⟩:=zy7 n ks a b c2 e2
  refine ⟨c1&&d1,d2,?_,by simpa using f2,by rw [← h,f3,Bool.and_assoc]⟩
  simp only [List.take_succ_cons,z1n,e1,f1]
theorem z116:∀ (ks:List LK) (a b:List PV) (c:Bool),z1n ks a b=some c→a.length=ks.length∧b.length=ks.length
 | [],[],[],_,_=>⟨rfl,rfl⟩
 | [],_::_,_,_,h=>by simp [z1n] at h
 | [],[],_::_,_,h=>by simp [z1n] at h
 | k::ks,[],_,_,h=>by simp [z1n] at h
 | k::ks,_::_,[],_,h=>by simp [z1n] at h
 | k::ks,x::a,y::b,c,h=>by
  simp only [z1n] at h
  cases e1:z156 k x y with
  | none=>rw [e1] at h; simp at h
  | some c1 =>
  cases e2:z1n ks a b with
  | none=>rw [e1,e2] at h; simp at h
  | some c2 =>
  have:=z116 ks a b c2 e2
  simp only [List.length_cons]; omega
theorem z115 (xs:Array Value) (n s j:Nat) (h:n+s≤xs.size) (hj:j<s):(xs.extract n (n+s)).getD j undef=xs.getD (n+j) undef:=by
 have h1:j<(xs.extract n (n+s)).size:=by rw [Array.size_extract]; omega
 have h2:n+j<xs.size:=by omega
 rw [Array.getD,dif_pos h1,Array.getD,dif_pos h2]
 exact Array.getElem_extract _
theorem zou {P:Program} {w:World} {t:Nat} {gs:Array Field} (ht:P.underlying t=some (.struct gs)) (cs:Array Value) (n:Nat) :
  (part t cs n).run P w=.ok (.agg (cs.extract n (n+P.cellsOf t))) w:=by
 obtain ⟨i,hi⟩:=info_of_underlying ht
 simp [part,isAgg,run_underlying ht,run_sizeOf w hi]
theorem zgy {P:Program} {w:World}:∀ (m d:Nat),m≤d→∀ (xs ys:Array Value) (hxy:xs.size=ys.size) (fs:List Field) (ks:List LK) (n:Nat) (a b:List PV) (c:Bool),flatN P m n fs ks=true→n+ks.length≤xs.size →
  (∀ (j:Nat) (p:PV),a[j]?=some p→zyn p (xs.getD (n+j) undef))→(∀ (j:Nat) (p:PV),b[j]?=some p→zyn p (ys.getD (n+j) undef))→z1n ks a b=some c →
  (Op.eqFields (d+1) xs ys fs).run P w=.ok c w
 | 0,_,_,_,_,_,fs,ks,n,a,b,c,h,_,_,_,_=>by unfold flatN at h; cases h
 | m+1,d,hd,xs,ys,hxy,[],[],n,a,b,c,_,_,_,_,he=>by
  cases a <;> cases b <;> simp [z1n] at he
  subst he; simp [Op.eqFields]
 | m+1,d,hd,xs,ys,hxy,[],_::_,n,a,b,c,h,_,_,_,_=>by unfold flatN at h; cases h
 | m+1,0,hd,xs,ys,hxy,f::r,ks,n,a,b,c,hf,hn,ha,hb,he=>by omega
 | m+1,d+1,hd,xs,ys,hxy,f::r,ks,n,a,b,c,hf,hn,ha,hb,he=>by
  unfold flatN at hf
  simp only [Bool.and_eq_true] at hf
  obtain ⟨⟨h1,h2⟩,h3⟩:=hf
  have h2:=Nat.eq_of_beq_eq_true h2
  have hname : f.name ≠ "_" := by simpa using h1
  have go:∀ (c1 c2:Bool) (v u:Value),c=(c1&&c2)→(part f.type xs n).run P w=.ok v w→(part f.type ys n).run P w=.ok u w→(Op.equalIn (d+1+1) f.type v u).run P w=.ok c1 w→(Op.eqFields (d+1+1) xs ys r).run P w=.ok c2 w →
    (Op.eqFields (d+1+1) xs ys (f::r)).run P w=.ok c w:=by
   intro c1 c2 v u hc p1 p2 heq rest
   simp only [Op.eqFields,hname,ne_eq,not_false_eq_true,if_true,Sem.run_bind,h2,p1,p2,Result.andThen_ok,heq,Sem.run_ite,Sem.run_pure]
   subst hc
   cases c1 with
   | false=>simp
   | true=>simpa using rest
  split at h3
  ·rename_i gs hgs
   simp only [Bool.and_eq_true,Bool.not_eq_true'] at h3
   obtain ⟨⟨⟨g1,g2⟩,g3⟩,g4⟩:=h3
   have g2:=Nat.le_of_ble_eq_true g2
   obtain ⟨c1,c2,e1,e2,e3⟩:=zy7 (P.cellsOf f.type) ks a b c he
   obtain ⟨la,lb⟩:=z116 ks a b c he
   have hfo:P.fieldsOf f.type=gs:=by simp [Program.fieldsOf,hgs]
   refine go c1 c2 _ _ e3 (zou hgs xs n) (zou hgs ys n) ?_ ?_
   ·rw [run_equalIn_struct w (d+1) f.type _ _ (by rw [hfo]; exact hgs) g1,hfo]
    refine zgy m d (by omega) _ _ (by simp only [Array.size_extract]; omega) gs.toList _ 0 _ _ c1 g3 (by simp only [Array.size_extract,List.length_take]; omega) ?_ ?_ e1
    ·intro j p hp
     have hj:j<P.cellsOf f.type:=by
      have:=(List.getElem?_eq_some_iff.1 hp).1
      simp only [List.length_take] at this; omega
     rw [Nat.zero_add,z115 xs n _ j (by omega) hj]
     exact ha j p (by rw [List.getElem?_take_of_lt hj] at hp; exact hp)
    ·intro j p hp
     have hj:j<P.cellsOf f.type:=by
      have:=(List.getElem?_eq_some_iff.1 hp).1
      simp only [List.length_take] at this; omega
     rw [Nat.zero_add,z115 ys n _ j (by omega) hj]
     exact hb j p (by rw [List.getElem?_take_of_lt hj] at hp; exact hp)
   ·refine zgy m (d+1) (by omega) xs ys hxy r _ (n+P.cellsOf f.type) _ _ c2 g4 (by simp only [List.length_drop]; omega) ?_ ?_ e2
    ·intro j p hp
     rw [List.getElem?_drop] at hp
     rw [Nat.add_assoc]; exact ha _ p hp
    ·intro j p hp
     rw [List.getElem?_drop] at hp
     rw [Nat.add_assoc]; exact hb _ p hp
  ·rename_i u hu
   cases ks with
   | nil=>cases h3
   | cons k ks =>
   simp only [Bool.and_eq_true] at h3
   obtain ⟨g1,g2⟩:=h3
   cases a with
   | nil=>simp [z1n] at he
   | cons x a =>
   cases b with
   | nil=>simp [z1n] at he
   | cons y b =>
   simp only [z1n] at he
   cases e1:z156 k x y with
   | none=>rw [e1] at he; simp at he
   | some c1 =>
   cases e2:z1n ks a b with
   | none=>rw [e1,e2] at he; simp at he
   | some c2 =>
   rw [e1,e2] at he
   simp only [oJ] at he
   simp only [List.length_cons] at hn
   have hx:=ha 0 x rfl
   have hy:=hb 0 y rfl
   simp only [Nat.add_zero] at hx hy
   refine go c1 c2 _ _ he.symm (zx8 g1 (by omega:n<xs.size)) (zx8 g1 (by omega:n<ys.size)) (z1lm (d+1) f.type g1 hx hy e1) ?_
   exact zgy m (d+1) (by omega) xs ys hxy r ks (n+1) a b c2 g2 (by omega) (fun j p hp=>by have:=ha (j+1) p (by simpa using hp); rwa [show n+(j+1)=n+1+j by omega] at this)
    (fun j p hp=>by have:=hb (j+1) p (by simpa using hp); rwa [show n+(j+1)=n+1+j by omega] at this) e2
theorem eqChk_ok {P:Program} {t size:Nat} {ks:List LK} (h:eqChk P t size ks=true):EqOk P t size ks:=by
 simp only [eqChk,Bool.and_eq_true] at h
 obtain ⟨⟨h1,h2⟩,h3⟩:=h
 simp only [Bool.not_eq_true'] at h1 h2
 split at h3
 ·rename_i fs hfs
  simp only [Bool.and_eq_true] at h3
  have hsz:=Nat.eq_of_beq_eq_true h3.2
  have hfo:P.fieldsOf t=fs:=by simp [Program.fieldsOf,hfs]
  refine ⟨h1,fun w a b xs ys c ha hx hy hca hcb he=>?_⟩
  rw [run_equalIn_struct w 9999 t xs ys (by rw [hfo]; exact hfs) h2,hfo]
  exact zgy 60 9998 (by omega) xs ys (by omega) fs.toList ks 0 a b c h3.1 (by omega) (fun j p hp=>by simpa using hca j p hp) (fun j p hp=>by simpa using hcb j p hp) he
 ·cases h3
def eqsChk (E:Env):Bool:=allB (fun t=>eqChk E.P t (E.ti t).size (E.ti t).leaves) E.eqs
theorem z1io {a:Nat}:∀ {l:List Nat},memN a l=true→a∈l
 | [],h=>by simp [memN] at h
 | b::r,h=>by
  simp only [memN,Bool.or_eq_true,beq_iff_eq] at h
  rcases h with rfl | h
  ·simp
  ·exact List.mem_cons_of_mem _ (z1io h)
def mtChk (P:Program) (e:(Nat×String)×Nat):Bool :=
 match P.info? e.1.1 with
 | some i=>match i.methods.find? (·.name == e.1.2) with
  | some m=>m.path.isEmpty&&(match m.func,P.underlying e.1.1 with
   | some (f,true),some (.pointer _)=>Nat.beq f e.2
   | some (_,false),some (.pointer _)=>false
   | some (f,false),some _=>Nat.beq f e.2
   | _,_=>false)
  | none=>false
 | none=>false
theorem mtChk_ok {P:Program} {t:Nat} {name:String} {g:Nat} (h:mtChk P ((t,name),g)=true) (n:Nat) (w:World) (v:Value):(method (n+1) t v name).run P w=.ok (g,v) w:=by
 simp only [mtChk] at h
 split at h
 case h_2=>cases h
 rename_i i hi
 split at h
 case h_2=>cases h
 rename_i m hm
 simp only [Bool.and_eq_true] at h
 obtain ⟨hp,h⟩:=h
 have hp':m.path.toList=[]:=by
  have:m.path=#[]:=by simpa [Array.isEmpty_iff] using hp
  rw [this]
 split at h
 case h_2=>cases h
 case h_4=>cases h
 ·rename_i f e hf hu
  have:=Nat.eq_of_beq_eq_true h
  subst this
  simp [method,typeInfo,hi,hm,hp',follow,hf,receiverAt,run_underlying hu,Place.get]
 ·rename_i f d hne hf hu
  have:=Nat.eq_of_beq_eq_true h
  subst this
  cases d <;> first | (exact absurd rfl (hne _)) | (simp [method,typeInfo,hi,hm,hp',follow,hf,receiverAt,run_underlying hu,Place.get])
theorem z1e6 {t:Nat} {name:String} {g:Nat}:∀ {l:List ((Nat×String)×Nat)},findM t name l=some g→((t,name),g)∈l
 | [],h=>by simp [findM] at h
 | ((u,n),f)::r,h=>by
  simp only [findM] at h
  cases hc:((t == u)&&(name == n)) with
  | true =>
   rw [hc] at h
   simp only [cond_true,oJ] at h
   simp only [Bool.and_eq_true,beq_iff_eq] at hc
   rw [hc.1,hc.2,h]; exact List.mem_cons_self ..
  | false=>rw [hc] at h; exact List.mem_cons_of_mem _ (z1e6 h)
def envChk (E:Env):Bool:=z1af E.P.funcs.toList&&z1cg E.P 0 E.tt&&eqsChk E&&allB (mtChk E.P) E.mt&&E.P.follows .mixedOrders
theorem envChk_ok {E:Env} (h:envChk E=true) (hs:∀ g,memN g E.same=true→ExtAt E g Extern.AbiNoEscape.same)
  (hm:∀ g e,findN g E.mnz=some e→∃ ps t,E.P.underlying t=some (.slice e)∧ExtAt E g (Extern.BytealgMakeNoZero.makeNoZero ps #[t])):EnvOk E:=by
 simp only [envChk,Bool.and_eq_true] at h
 obtain ⟨⟨⟨⟨h1,h2⟩,h3⟩,h4⟩,h5⟩:=h
 refine ⟨fun g fn hf=>z1gc h1 g fn hf,fun t=>?_,fun t ht=>eqChk_ok (zk h3 t (z1io ht)),fun t name g hg w v=>?_,h5,hs,hm⟩
 ·have:=z1cf h2 t
  rwa [Nat.zero_add] at this
 ·exact mtChk_ok (zk h4 _ (z1e6 hg)) (E.P.types.size+Made.depth-1) w v |> fun h=>by
   rwa [show E.P.types.size+Made.depth-1+1=E.P.types.size+Made.depth by simp only [Made.depth]; omega] at h
end Dv

namespace Dv
open Go Go.RowKit
mutual
def dbulk {H:Type}:DataW H→Nat
 | .lit (.string bytes)=>bytes.length+1
 | .lit _=>1
 | .nil=>1
 | .ptr d=>dbulk d+1
 | .slice elems spare=>z8a elems+z8a spare+1
 | .agg parts=>z8a parts+1
 | .iface _ d=>dbulk d+1
 | .map entries=>z1ef entries+1
 | .held _=>1
def z8a {H:Type}:List (DataW H)→Nat
 | []=>0
 | d::r=>dbulk d+z8a r
def z1ef {H:Type}:List (Lit×DataW H)→Nat
 | []=>0
 | x::r=>dbulkP x+z1ef r
def dbulkP {H:Type}:Lit×DataW H→Nat
 | (.string bytes,d)=>bytes.length+dbulk d+1
 | (_,d)=>dbulk d+1
end
mutual
def pbulk:PV→Nat
 | .str s=>s.length+1
 | .sl _ l=>pbulkL l+1
 | .agg l=>pbulkL l+1
 | _=>1
def pbulkL:List PV→Nat
 | []=>0
 | p::r=>pbulk p+pbulkL r
end
theorem zxb:∀ (a b:List PV),pbulkL (a++b)=pbulkL a+pbulkL b
 | [],b=>by simp [pbulkL]
 | p::a,b=>by simp only [List.cons_append,pbulkL,zxb a b]; omega
theorem zyb {H:Type}:∀ (a b:List (DataW H)),z8a (a++b)=z8a a+z8a b
 | [],b=>by simp [z8a]
 | p::a,b=>by simp only [List.cons_append,z8a,zyb a b]; omega
def inTy (E:Env):Nat→Nat→List PV→Prop
 | 0,_,_=>False
 | n+1,t,qs=>match (E.ti t).d with
  | .bool=>∃ b,qs=[.bool b]
  | .int k=>∃ m,qs=[.int k m]∧k.min≤m∧m≤k.max
  | .str=>∃ s,qs=[.str s]∧s.length≤maxLen
  | .slice e=>∃ l,qs=[.sl (E.ti e).size l]∧l.length≤maxLen∧∀ p∈l,(p=bif (E.ti e).isAgg then .agg p.cellsL else nthD .undef p.cellsL 0)∧inTy E n e p.cellsL
  | .struct fs=>qs.length=(E.ti t).size∧∀ f∈fs,inTy E n f.2 ((qs.drop f.1).take (E.ti f.2).size)
  | _=>False
def tile (E:Env):Nat→List (Nat×Nat)→Nat→Bool
 | n,[],m=>Nat.beq n m
 | n,(o,t)::r,m=>Nat.beq o n&&tile E (n+(E.ti t).size) r m
def zty (E:Env):Nat→Nat→Bool
 | 0,_=>false
 | n+1,t=>match (E.ti t).d with
  | .bool | .int _ | .str=>true
  | .slice e=>zty E n e&&Nat.blt 0 (E.ti e).size&&(E.ti e).d.known
  | .struct fs=>tile E 0 fs (E.ti t).size&&allB (fun f=>zty E n f.2&&(E.ti f.2).d.known) fs
  | _=>false
abbrev noW:Nat→Nat→Prop:=fun _ _=>False
section
variable {E:Env} (hE:EnvOk E) {H:Type} {enc:TypeId×Value→H} {w:World} {base:Nat} {spare:Nat→Bool} {held:Bool}
theorem zzx (hE:EnvOk E) {t:Nat} (hk:(E.ti t).d.known=true):E.P.cellsOf t=(E.ti t).size:=by
 obtain ⟨i,z,h1,h2,_⟩:=(hE.ti t).info hk
 simp [Program.cellsOf,h1,h2]
def Opens (E:Env) (w:World) (n t:Nat) (cs:List Value) (b:Nat):Prop :=
 ∃ qs:List PV,qs.length=cs.length∧(∀ (j:Nat) (q:PV),qs[j]?=some q→PV.scalar q=true∧VRf w noW q (cs.getD j undef))∧inTy E n t qs∧pbulkL qs+(bif (E.ti t).isAgg then 1 else 0)≤b
theorem z1ew (b o i:Nat):(⟨b,o,none⟩:Addr).add i=⟨b,o+i,none⟩:=by
 unfold Addr.add; split
 ·rename_i h; subst h; rfl
 ·rfl
theorem cell_spot {w:World} {a:Addr} {v:Value} (h:w.cell? a=some v):a.spot=none:=by
 unfold World.cell? at h
 split at h
 ·split at h
  ·cases h
  ·rename_i hh; cases hs:a.spot with
   | none=>rfl
   | some z=>rw [hs] at hh; simp at hh
 ·cases h
theorem one {v:Value} {q:PV} (h:PV.scalar q=true) (hv:VRf w noW q v):∀ (j:Nat) (r:PV),[q][j]?=some r→PV.scalar r=true∧VRf w noW r ([v].getD j undef):=by
 intro j r hr
 cases j with
 | zero=>simp at hr; subst hr; exact ⟨h,hv⟩
 | succ j=>simp at hr
theorem z17z (hE:EnvOk E):∀ {n t:Nat} {qs:List PV},inTy E n t qs→(E.ti t).isAgg=false→∃ q,qs=[q]∧PV.scalar q=true
 | 0,_,_,h,_=>h.elim
 | n+1,t,qs,h,ha=>by
  unfold inTy at h
  split at h
  ·obtain ⟨b,rfl⟩:=h; exact ⟨_,rfl,rfl⟩
  ·obtain ⟨m,rfl,_⟩:=h; exact ⟨_,rfl,rfl⟩
  ·obtain ⟨s,rfl,_⟩:=h; exact ⟨_,rfl,rfl⟩
  ·obtain ⟨l,rfl,_⟩:=h; exact ⟨_,rfl,rfl⟩
  ·rename_i fs hd; simp [TI.isAgg,hd] at ha
  ·exact h.elim
theorem z1ch (n:Nat) (cs:List Value):∀ (fs:List (Nat×Nat)) (o m:Nat) (bs:List Nat),tile E o fs m=true→m=cs.length→bs.length=fs.length →
  (∀ (i:Nat) (f:Nat×Nat) (b:Nat),fs[i]?=some f→bs[i]?=some b→Opens E w n f.2 ((cs.drop f.1).take (E.ti f.2).size) b) →
  ∃ qs:List PV,qs.length=(cs.drop o).length∧(∀ (j:Nat) (q:PV),qs[j]?=some q→PV.scalar q=true∧VRf w noW q ((cs.drop o).getD j undef)) ∧
   (∀ f∈fs,∃ k,f.1=o+k∧inTy E n f.2 ((qs.drop k).take (E.ti f.2).size))∧pbulkL qs≤bs.sum∧o≤cs.length
 | [],o,m,bs,ht,hm,hb,_=>by
  have:=Nat.eq_of_beq_eq_true ht
  refine ⟨[],by simp; omega,fun j q hq=>by simp at hq,fun f hf=>by simp at hf,by simp [pbulkL],by omega⟩
 | (o',t)::fs,o,m,[],_,_,hb,_=>by simp at hb
 | (o',t)::fs,o,m,b::bs,ht,hm,hb,h=>by
  simp only [tile,Bool.and_eq_true] at ht
  obtain ⟨h1,h2⟩:=ht
  have h1:=Nat.eq_of_beq_eq_true h1
  subst h1
  obtain ⟨qs2,l2,r2,t2,b2,o2⟩:=z1ch n cs fs (o'+(E.ti t).size) m bs h2 hm (by simpa using hb) (fun i f b hf hb=>h (i+1) f b (by simpa using hf) (by simpa using hb))
  obtain ⟨qs1,l1,r1,t1,b1⟩:=h 0 (o',t) b rfl rfl
  simp only at l1 r1 t1 b1
  have hlen1:qs1.length=(E.ti t).size:=by rw [l1]; simp; omega
  refine ⟨qs1++qs2,?_,?_,?_,?_,by omega⟩
  ·simp [hlen1,l2]; omega
  ·intro j q hq
   by_cases hj:j<qs1.length
   ·rw [List.getElem?_append_left hj] at hq
    obtain ⟨a,b⟩:=r1 j q hq
    refine ⟨a,?_⟩
    have e:((cs.drop o').take (E.ti t).size).getD j undef=(cs.drop o').getD j undef:=by
     simp only [List.getD_eq_getElem?_getD]
     rw [List.getElem?_take_of_lt (by omega)]
    rwa [e] at b
   ·rw [List.getElem?_append_right (by omega)] at hq
    obtain ⟨a,b⟩:=r2 _ q hq
    refine ⟨a,?_⟩
    have e:(cs.drop (o'+(E.ti t).size)).getD (j-qs1.length) undef=(cs.drop o').getD j undef:=by
     simp only [List.getD_eq_getElem?_getD,List.getElem?_drop]
     rw [show o'+(E.ti t).size+(j-qs1.length)=o'+j by omega]
    rwa [e] at b
  ·intro f hf
   rcases List.mem_cons.1 hf with rfl | hf
   ·refine ⟨0,rfl,?_⟩
    simp only [List.drop_zero]
    rw [← hlen1,List.take_left]
    exact t1
   ·obtain ⟨k,hk,ht⟩:=t2 f hf
    refine ⟨(E.ti t).size+k,by omega,?_⟩
    rw [← hlen1,← List.drop_drop,List.drop_left]
    exact ht
  ·rw [zxb]
   simp only [List.sum_cons]
   cases ha:(E.ti t).isAgg <;> rw [ha] at b1 <;> simp at b1 <;> omega
theorem sum_bulk (xs:List (DataW H×List MemPlace)):(xs.map fun x=>dbulk x.1).sum=z8a (xs.map (·.1)):=by
 induction xs with
 | nil=>simp [z8a]
 | cons x xs ih=>simp [z8a,ih]
theorem pbulkL_le {l:List PV} {ds:List (DataW H)} (hl:l.length=ds.length) (h:∀ (i:Nat) (p:PV) (d:DataW H),l[i]?=some p→ds[i]?=some d→pbulk p≤dbulk d):pbulkL l≤z8a ds:=by
 induction l generalizing ds with
 | nil=>simp [pbulkL]
 | cons p l ih =>
  cases ds with
  | nil=>simp at hl
  | cons d ds =>
   have h1:=h 0 p d rfl rfl
   have h2:=ih (ds:=ds) (by simpa using hl) (fun i p d hp hd=>h (i+1) p d (by simpa using hp) (by simpa using hd))
   simp only [pbulkL,z8a]; omega
theorem z17u {α:Type} {Q:Nat→α→Prop}:∀ (n:Nat),(∀ i,i<n→∃ a,Q i a)→∃ l:List α,l.length=n∧∀ i a,l[i]?=some a→Q i a
 | 0,_=>⟨[],rfl,fun i a h=>by simp at h⟩
 | n+1,h=>by
  obtain ⟨l,h1,h2⟩:=z17u n (fun i hi=>h i (by omega))
  obtain ⟨a,ha⟩:=h n (by omega)
  refine ⟨l++[a],by simp [h1],fun i b hb=>?_⟩
  by_cases hi:i<n
  ·rw [List.getElem?_append_left (by omega)] at hb; exact h2 i b hb
  ·rw [List.getElem?_append_right (by omega)] at hb
   have:i=n:=by
    have:=(List.getElem?_eq_some_iff.1 hb).1
    simp at this; omega
   subst this
   simp [h1] at hb
   subst hb; exact ha
theorem z145 (hE:EnvOk E):∀ (n t fuel:Nat) (cs:List Value) (x:DataW H×List MemPlace),zty E n t=true→DataW.trod enc E.P w base spare held fuel t cs=some x→Opens E w n t cs (dbulk x.1)
 | 0,t,fuel,cs,x,ho,_=>by simp [zty] at ho
 | n+1,t,fuel,cs,x,ho,h=>by
  have hdesc:=(hE.ti t).desc
  unfold zty at ho
  split at ho
  ·rename_i hd
   rw [hd] at hdesc
   obtain ⟨b,rfl,rfl⟩:=DataW.trod_bool hdesc h
   exact ⟨[.bool b],rfl,one rfl (.bool b),by unfold inTy; rw [hd]; exact ⟨b,rfl⟩,by simp [pbulkL,pbulk,dbulk,TI.isAgg,hd]⟩
  ·rename_i k hd
   rw [hd] at hdesc
   obtain ⟨m,rfl,rfl,hw⟩:=DataW.trod_int hdesc h
   simp only [Lit.wf,Bool.and_eq_true,decide_eq_true_eq] at hw
   exact ⟨[.int k m],rfl,one rfl (.int k m),by unfold inTy; rw [hd]; exact ⟨m,rfl,hw⟩,by simp [pbulkL,pbulk,dbulk,TI.isAgg,hd]⟩
  ·rename_i hd
   rw [hd] at hdesc
   obtain ⟨s,rfl,rfl,hs⟩:=DataW.trod_string hdesc h
   exact ⟨[.str s.data.toList],rfl,one rfl (VRf.str s.data.toList),by unfold inTy; rw [hd]; exact ⟨_,rfl,(show s.data.toList.length=s.size by rw [Array.length_toList]; rfl)▸hs⟩,by simp [pbulkL,pbulk,dbulk,TI.isAgg,hd]⟩
  ·rename_i e hd
   rw [hd] at hdesc
   simp only [Bool.and_eq_true] at ho
   obtain ⟨⟨ho1,ho2⟩,ho3⟩:=ho
   have hsz:0<(E.ti e).size:=by simpa [Nat.blt_eq] using ho2
   have hce:=zzx hE ho3
   rcases DataW.trod_slice hdesc h with ⟨rfl,rfl⟩ | ⟨a,len,cap,elems,rest,m,rfl,rfl,rfl,hb,hl,hm,hlen,hel,_,_⟩
   ·exact ⟨[.sl (E.ti e).size []],rfl,one rfl (.slemp _ _ _),by unfold inTy; rw [hd]; exact ⟨[],rfl,Nat.zero_le _,fun p hp=>by simp at hp⟩,by simp [pbulkL,pbulk,dbulk,TI.isAgg,hd]⟩
   ·have each:∀ i,i<len→∃ p:PV,∃ cs' y,elems[i]?=some y∧w.cells? base (a.add (i*(E.ti e).size)) (E.ti e).size=some cs'∧p.cellsL.length=(E.ti e).size∧allB PV.scalar p.cellsL=true ∧
      (∀ (j:Nat) (q:PV),p.cellsL[j]?=some q→VRf w noW q (cs'.getD j undef))∧(p=bif (E.ti e).isAgg then .agg p.cellsL else nthD .undef p.cellsL 0)∧inTy E n e p.cellsL∧pbulk p≤dbulk y.1:=by
     intro i hi
     have he:=hel i hi
     have hget:elems[i]?=some (elems[i]'(by omega)):=List.getElem?_eq_getElem (by omega)
     rw [hget,hce,Option.bind_eq_some_iff] at he
     obtain ⟨cs',hcs,hy⟩:=he
     obtain ⟨qs,q1,q2,q3,q4⟩:=z145 hE n e m cs' _ ho1 hy
     have hcl:cs'.length=(E.ti e).size:=(World.cells?_some hcs).2.1
     have hsc:allB PV.scalar qs=true:=zw7 (fun q hq=>by obtain ⟨j,hj⟩:=List.getElem?_of_mem hq; exact (q2 j q hj).1)
     cases ha:(E.ti e).isAgg with
     | true =>
      refine ⟨.agg qs,cs',_,hget,hcs,by simp only [PV.cellsL]; omega,hsc,fun j q hq=>(q2 j q hq).2,rfl,q3,?_⟩
      rw [ha] at q4
      simpa [pbulk] using q4
     | false =>
      obtain ⟨q,rfl,hq⟩:=z17z hE q3 ha
      have hcq:=zbn hq
      refine ⟨q,cs',_,hget,hcs,by rw [hcq]; simp at q1 ⊢; omega,by rw [hcq]; exact hsc,fun j r hr=>by rw [hcq] at hr; exact (q2 j r hr).2,by rw [hcq]; simp [nthD],by rw [hcq]; exact q3,?_⟩
      rw [ha] at q4
      simp [pbulkL] at q4
      omega
    obtain ⟨l,hl1,hl2⟩:=z17u len each
    have hbk:pbulkL l≤z8a (elems.map (·.1)):=by
     refine pbulkL_le (by simp [hl1,hlen]) (fun i p d hp hd'=>?_)
     obtain ⟨cs',y,hy,_,_,_,_,_,_,hb'⟩:=hl2 i p hp
     simp [hy] at hd'
     subst hd'; exact hb'
    refine ⟨[.sl (E.ti e).size l],rfl,one rfl ?_,?_,?_⟩
    ·cases l with
     | nil =>
      simp at hl1
      subst hl1
      exact .slemp _ _ _
     | cons p0 l0 =>
      obtain ⟨cs0,y0,_,hc0,hn0,_⟩:=hl2 0 p0 rfl
      have hsp:a.spot=none:=by
       have hc:=(World.cells?_some hc0).2.2 0 hsz
       have hl0:=(World.cells?_some hc0).2.1
       rw [List.getElem?_eq_getElem (by omega)] at hc
       have ea:(a.add (0*(E.ti e).size)).add 0=a:=by simp [Addr.add]
       rw [ea] at hc
       exact cell_spot hc
      obtain ⟨b0,o0,sp⟩:=a
      simp only at hsp
      subst hsp
      let f:Nat→Nat→Value:=fun k j=>(w.cell? ⟨b0,o0+k*(E.ti e).size+j,none⟩).getD undef
      have hfc:∀ (k:Nat) (p:PV),(p0::l0)[k]?=some p→∀ (j:Nat) (q:PV),p.cellsL[j]?=some q→w.cell? ⟨b0,o0+k*(E.ti e).size+j,none⟩=some (f k j)∧VRf w noW q (f k j):=by
       intro k p hp j q hq
       obtain ⟨cs',y,_,hc,hn,_,hv,_⟩:=hl2 k p hp
       have hj:j<(E.ti e).size:=by rw [← hn]; exact (List.getElem?_eq_some_iff.1 hq).1
       have h1:=(World.cells?_some hc).2.2 j hj
       have h2:=(World.cells?_some hc).2.1
       have ea:(((⟨b0,o0,none⟩:Addr).add (k*(E.ti e).size)).add j)=⟨b0,o0+k*(E.ti e).size+j,none⟩:=by rw [z1ew,z1ew]
       rw [ea,List.getElem?_eq_getElem (by omega)] at h1
       have h3:f k j=cs'.getD j undef:=by
        show (w.cell? _).getD undef=_
        rw [h1,List.getD_eq_getElem?_getD,List.getElem?_eq_getElem (by omega)]
       refine ⟨by rw [h1,h3,List.getD_eq_getElem?_getD,List.getElem?_eq_getElem (by omega)]; rfl,?_⟩
       rw [h3]; exact hv j q hq
      have:(Value.slice (some ⟨b0,o0,none⟩) len cap)=.slice (some ⟨b0,o0,none⟩) (p0::l0).length cap:=by rw [hl1]
      rw [this]
      exact .sl (E.ti e).size (p0::l0) b0 o0 cap f (by omega) (fun k p hp=>by obtain ⟨_,_,_,_,h1,h2,_⟩:=hl2 k p hp; exact ⟨h1,h2⟩) (fun k p hp j q hq=>⟨(hfc k p hp j q hq).1,id⟩) (fun k p hp j q hq=>(hfc k p hp j q hq).2)
    ·unfold inTy
     rw [hd]
     refine ⟨l,rfl,by omega,fun p hp=>?_⟩
     obtain ⟨i,hi⟩:=List.getElem?_of_mem hp
     obtain ⟨_,_,_,_,_,_,_,h1,h2,_⟩:=hl2 i p hi
     exact ⟨h1,h2⟩
    ·simp only [pbulkL,pbulk,dbulk,TI.isAgg,hd,cond_false]
     omega
  ·rename_i fs hd
   simp only [Bool.and_eq_true] at ho
   obtain ⟨ht,hf⟩:=ho
   rw [hd] at hdesc
   obtain ⟨fields,hu,hfs⟩:=hdesc
   obtain ⟨xs,m,rfl,rfl,hcl,hxl,hx⟩:=DataW.trod_struct hu h
   have hk:(E.ti t).d.known=true:=by rw [hd]; rfl
   have hct:=zzx hE hk
   have hflen:fs.length=fields.size:=by rw [← hfs]; simp
   obtain ⟨qs,l1,r1,t1,b1,_⟩:=z1ch (E:=E) (w:=w) n cs fs 0 (E.ti t).size (xs.map fun x=>dbulk x.1) ht (by omega) (by simp [hxl,hflen]) (fun i f b hif hib=>by
    have hfi:∃ fd,fields[i]?=some fd∧(fd.offset,fd.type)=f:=by
     rw [← hfs,List.getElem?_map] at hif
     cases hfd:fields.toList[i]? with
     | none=>rw [hfd] at hif; simp at hif
     | some fd=>rw [hfd] at hif; simp at hif; exact ⟨fd,by simpa using hfd,hif⟩
    obtain ⟨fd,hfd,rfl⟩:=hfi
    simp only
    rw [List.getElem?_map] at hib
    cases hxi:xs[i]? with
    | none=>rw [hxi] at hib; simp at hib
    | some y =>
    rw [hxi] at hib
    simp at hib
    subst hib
    have hfm:=zk hf (fd.offset,fd.type) (List.mem_of_getElem? hif)
    simp only [Bool.and_eq_true] at hfm
    have:=hx i fd hfd
    rw [hxi,zzx hE hfm.2] at this
    exact z145 hE n fd.type m _ y hfm.1 this)
   rw [List.drop_zero] at l1 r1
   refine ⟨qs,l1,r1,?_,?_⟩
   ·unfold inTy
    rw [hd]
    refine ⟨by omega,fun f hf=>?_⟩
    obtain ⟨k,hk,hin⟩:=t1 f hf
    rw [show f.1=k by omega]
    exact hin
   ·rw [sum_bulk] at b1
    simp only [dbulk,TI.isAgg,hd,cond_true]
    omega
  ·cases ho
end
end Dv

namespace Dv
open Go Go.RowKit
section
variable {E:Env} {C:Orc}
theorem ev_put {T:List PV} {dst:Option Nat} {v:PV} {x:Operand} (h:∀ d,dst=some d→x≠.tmp d):ev (putT T dst v) x=ev T x:=by
 cases dst with
 | none=>rfl
 | some d =>
  cases x with
  | tmp t =>
   have hne:d≠t:=fun e=>h d rfl (e▸rfl)
   simp only [ev,putT]
   rw [zd _ _ _ _ _ hne]
  | _=>rfl
theorem putT_comm (T:List PV) {x y:Option Nat} (v u:PV) (h:∀ d,x=some d→y≠some d):putT (putT T x v) y u=putT (putT T y u) x v:=by
 cases x with
 | none=>rfl
 | some d =>
  cases y with
  | none=>rfl
  | some e =>
   have hne:d≠e:=fun he=>h d rfl (he▸rfl)
   simp only [putT,z2z]
   rw [List.set_comm _ _ hne]
theorem opD_congr {T T':List PV} (objs:List Obj) (o:Oper) (h:∀ x∈o.op.operands,ev T x=ev T' x) (hd:∀ d,o.dst=some d→nthD .undef T d=nthD .undef T' d):opD E T objs o=opD E T' objs o:=by
 obtain ⟨dst,op,type,pos,after,guard⟩:=o
 have pairs:∀ ps:Array (Nat×Operand),(∀ x∈(ps.toList.map (·.2)).toArray,ev T x=ev T' x)→(ps.toList.map fun (i,x)=>(i,ev T x))=(ps.toList.map fun (i,x)=>(i,ev T' x)):=fun ps hp =>
  List.map_congr_left fun p hm=>by
   obtain ⟨i,x⟩:=p
   simp only [hp x (by simp; exact ⟨i,by simpa using hm⟩)]
 have opt:∀ x:Option Operand,(∀ y∈x.toArray,ev T y=ev T' y)→x.map (ev T)=x.map (ev T'):=by
  intro x hx
  cases x with
  | none=>rfl
  | some x=>simp [hx x (by simp)]
 have arr:∀ a:Array Operand,(∀ y∈a,ev T y=ev T' y)→a.toList.map (ev T)=a.toList.map (ev T'):=fun a ha=>List.map_congr_left fun y hy=>ha y (by simpa using hy)
 unfold opD opK
 have hdv:dstV T dst=dstV T' dst:=by cases dst with | none=>rfl | some d=>exact hd d rfl
 cases op <;> simp only [Op.operands] at h <;> simp only
 case alloc t=>rw [hdv]
 case build t ps=>rw [pairs ps h]
 case buildSlice t n ps=>rw [pairs ps h]
 case makeFunc fn first captured=>rw [arr first fun x hx=>h x (by simp [hx]),arr captured fun x hx=>h x (by simp [hx])]
 case slice t x lo hi mx =>
  rw [h x (by simp),opt lo fun y hy=>h y (by simp at hy ⊢; simp [hy]),opt hi fun y hy=>h y (by simp at hy ⊢; simp [hy]),opt mx fun y hy=>h y (by simp at hy ⊢; simp [hy])]
 case call c =>
  obtain ⟨callee,args,ats⟩:=c
  cases callee with
  | value f=>rfl
  | invoke r n=>rfl
  | builtin b =>
   have ha:∀ y∈args,ev T y=ev T' y:=fun y hy=>h y (by simp [Call.operands,hy])
   cases b <;> simp only
   case len =>
    split
    ·rename_i x t ts hx ht
     rw [ha x (by rw [← Array.mem_toList_iff,hx]; simp)]
    ·rfl
   case cap =>
    split
    ·rename_i x t ts hx ht
     rw [ha x (by rw [← Array.mem_toList_iff,hx]; simp)]
    ·rfl
   case clear =>
    split
    ·rename_i x t hx ht
     rw [ha x (by rw [← Array.mem_toList_iff,hx]; simp)]
    ·rfl
   case copy =>
    split
    ·rename_i d x t u hx ht
     rw [ha d (by rw [← Array.mem_toList_iff,hx]; simp),ha x (by rw [← Array.mem_toList_iff,hx]; simp)]
    ·rfl
   case append =>
    split
    ·rename_i d x t u hx ht
     rw [ha d (by rw [← Array.mem_toList_iff,hx]; simp),ha x (by rw [← Array.mem_toList_iff,hx]; simp)]
    ·rfl
   case max=>rw [arr args ha]
   case min=>rw [arr args ha]
 case pick c a b=>rw [h c (by simp),h a (by simp),h b (by simp)]
 case next x st=>cases st <;> simp only <;> rw [h x (by simp)]
 all_goals (first | rfl | (rw [h _ (by simp)]; done) | (rename_i x y; rw [h x (by simp),h y (by simp)]; done) | (simp_all; done))
theorem z1gr {T T':List PV} (objs:List Obj) (o:Oper) (h:∀ x∈o.op.operands,ev T x=ev T' x) (hd:∀ d,o.dst=some d→nthD .undef T d=nthD .undef T' d):execP E C T objs o=execP E C T' objs o:=by
 have plain:=opD_congr (E:=E) objs o h hd
 obtain ⟨dst,op,type,pos,after,guard⟩:=o
 unfold execP
 simp only
 cases op with
 | call c =>
  obtain ⟨callee,args,ats⟩:=c
  simp only [Op.operands] at h
  have ha:args.toList.map (ev T)=args.toList.map (ev T'):=List.map_congr_left fun y hy=>h y (by simp [Call.operands,Array.mem_toList_iff.1 hy])
  cases callee with
  | value f=>simp only; rw [h f (by simp [Call.operands]),ha]
  | invoke r n=>simp only; rw [h r (by simp [Call.operands]),ha]
  | builtin b=>exact plain
 | _=>exact plain
theorem z1kl {T T':List PV} (objs:List Obj) {o:Op} {s:Spec} (hs:z2a E o=some s) (h:∀ x∈o.operands,ev T x=ev T' x):specD E T objs s=specD E T' objs s:=by
 unfold z2a at hs
 split at hs
 ·rename_i g args ats
  split at hs
  case h_2=>cases hs
  rename_i x hx
  have hxe:ev T x=ev T' x:=h x (by simp [Op.operands,Call.operands,← Array.mem_toList_iff,hx])
  cases hm:memN g E.same with
  | true=>rw [hm] at hs; simp only [cond_true,oJ] at hs; subst hs; simp only [specD,specK,hxe]
  | false =>
   rw [hm] at hs
   simp only [cond_false] at hs
   split at hs
   case h_2=>cases hs
   simp only [oJ] at hs; subst hs; simp only [specD,specK,hxe]
 ·rename_i args ats
  split at hs
  case h_2=>cases hs
  rename_i x hx
  have hxe:ev T x=ev T' x:=h x (by simp [Op.operands,Call.operands,← Array.mem_toList_iff,hx])
  simp only [oJ] at hs; subst hs; simp only [specD,specK,hxe]
 ·rename_i args ats
  split at hs
  case h_2=>cases hs
  rename_i pp nn tt tu ha hat
  have h1:ev T pp=ev T' pp:=h pp (by simp [Op.operands,Call.operands,← Array.mem_toList_iff,ha])
  have h2:ev T nn=ev T' nn:=h nn (by simp [Op.operands,Call.operands,← Array.mem_toList_iff,ha])
  split at hs
  case h_2=>cases hs
  simp only [oJ] at hs; subst hs; simp only [specD,specK,h1,h2]
 ·split at hs
  case h_2=>cases hs
  simp only [oJ] at hs; subst hs
  rename_i a b _ _ _ _
  have h1:ev T (.tmp a)=ev T' (.tmp a):=h _ (by simp [Op.operands])
  have h2:ev T (.tmp b)=ev T' (.tmp b):=h _ (by simp [Op.operands])
  simp only [specD,specK,h1,h2]
 ·split at hs
  case h_2=>cases hs
  simp only [oJ] at hs; subst hs
  rename_i a b _ _ _ _
  have h1:ev T (.tmp a)=ev T' (.tmp a):=h _ (by simp [Op.operands])
  have h2:ev T (.tmp b)=ev T' (.tmp b):=h _ (by simp [Op.operands])
  simp only [specD,specK,h1,h2]
 ·cases hs
theorem z1gs {T T':List PV} (objs:List Obj) (o:Oper) (h:∀ x∈o.op.operands,ev T x=ev T' x) (hd:∀ d,o.dst=some d→nthD .undef T d=nthD .undef T' d):execD E C T objs o=execD E C T' objs o:=by
 unfold execD
 cases hs:z2a E o.op with
 | some s=>exact z1kl objs hs h
 | none=>exact z1gr objs o h hd
theorem z1gl {T:List PV} {ops:Array Oper} {o:Oper} {dst:Option Nat} {v:PV} (h:∀ d,dst=some d→d∉o.looksAt ops):guardOf (putT T dst v) ops o=guardOf T ops o:=by
 cases dst with
 | none=>rfl
 | some d =>
  unfold guardOf
  cases hg:o.guard with
  | none=>rfl
  | some jw =>
   obtain ⟨j,want⟩:=jw
   simp only
   cases hd:(ops[j]?).bind (·.dst) with
   | none=>rfl
   | some e =>
    have hne:d≠e:=by
     rintro rfl
     exact h d rfl (by simp [Oper.looksAt,hg,hd])
    simp only [putT]
    rw [zd _ _ _ _ _ hne]
theorem execD_put {T:List PV} {ops:Array Oper} {o:Oper} {dst:Option Nat} {v:PV} (objs:List Obj) (h:∀ d,dst=some d→d∉o.looksAt ops) (h':∀ d,dst=some d→o.dst≠some d):execD E C (putT T dst v) objs o=execD E C T objs o :=
 z1gs objs o (fun x hx=>ev_put fun d hd hxd=>h d hd (by
  subst hxd
  exact List.mem_append_left _ (List.mem_filterMap.2 ⟨.tmp d,by simpa using hx,rfl⟩))) fun e he=>by
   cases dst with
   | none=>rfl
   | some d =>
    have hne:d≠e:=fun hde=>h' d rfl (hde▸he)
    simp only [putT]
    rw [zd _ _ _ _ _ hne]
theorem z1ei {T:List PV} {o:Oper} (h:zit E o=0) (objs objs2:List Obj):execP E C T objs o=(execP E C T objs2 o).map fun p=>(p.1,objs):=by
 have vk:∀ (x:Option PV),(x.bind fun v=>some (v,objs))=(x.bind fun v=>some (v,objs2)).map fun p=>(p.1,objs):=by intro x; cases x <;> rfl
 obtain ⟨dst,op,type,pos,after,guard⟩:=o
 unfold zit at h
 unfold execP
 simp only at h ⊢
 cases op <;> (try simp only at h) <;> first | (cases h; done) | skip
 case convert s d x=>split at h <;> cases h
 case call c =>
  obtain ⟨callee,args,ats⟩:=c
  cases callee with
  | value f=>simp only at h; cases hp:allB (fun ti=>allB z1t ti.leaves) (resTIs E type) <;> rw [hp] at h <;> cases h
  | invoke r n=>simp only at h; cases hp:allB (fun ti=>allB z1t ti.leaves) (resTIs E type) <;> rw [hp] at h <;> cases h
  | builtin b=>cases b <;> cases h
 all_goals simp only [opD,opK]
 case move x=>rfl
 case assign x=>rfl
 case pick c a b=>split <;> first | rfl | (rename_i b _; cases b <;> rfl)
 case build t ps=>rw [zi3,zi3 (k:=fun v=>some (v,objs2))]; exact vk _
 case binOp op t x y e=>rw [zl4,zl4 (k:=fun v=>some (v,objs2))]; exact vk _
 case unOp op t x=>rw [zwn,zwn (k:=fun v=>some (v,objs2))]; exact vk _
 case makeInterface t x=>split <;> rfl
 case makeFunc fn _ _=>cases isYield fn <;> rfl
 case field t x f=>rw [zho,zho (k:=fun v=>some (v,objs2))]; exact vk _
 case index t x i=>rw [zhj,zhj (k:=fun v=>some (v,objs2))]; exact vk _
 case typeAssert x xt a ok=>rw [zfk,zfk (k:=fun v=>some (v,objs2))]; exact vk _
 case extract x i=>split <;> first | rfl | (split <;> rfl)
theorem z9v {x:Option PV} {objs objs':List Obj} {p:PV} (h:(x.bind fun v=>some (v,objs))=some (p,objs')):objs'=objs:=by
 cases x with
 | none=>cases h
 | some v=>simp only [oB,oJ,pJ] at h; exact h.2.symm
theorem z1er {T:List PV} {objs objs':List Obj} {t:Nat} {f p:PV} {args:List PV} (hp:allB (fun ti=>allB z1t ti.leaves) (resTIs E t)=true) (h:askR C (callAsk E t f args objs)=some (p,objs')):objs'=objs:=by
 unfold askR callAsk at h
 cases hpf:plainFn E f with
 | true =>
  rw [hpf] at h
  simp only [cond_true] at h
  cases hpl:allB plainPV args with
  | false=>rw [hpl] at h; cases h
  | true =>
  rw [hpl] at h
  simp only [cond_true,oB] at h
  cases hc:C (resTIs E t) f args with
  | none=>rw [hc] at h; cases h
  | some r=>rw [hc] at h; simp only [Option.map_some,oJ,pJ] at h; exact h.2.symm
 | false =>
 rw [hpf] at h
 simp only [cond_false] at h
 cases h1:purify pfuel objs f with
 | none=>rw [h1] at h; cases h
 | some y =>
 obtain ⟨f',objs1⟩:=y
 rw [h1] at h
 simp only at h
 cases h2:purifyL pfuel objs1 args with
 | none=>rw [h2] at h; cases h
 | some y =>
 obtain ⟨args',objs2⟩:=y
 rw [h2] at h
 simp only [oB,hp,cond_true] at h
 cases hc:C (resTIs E t) f' args' with
 | none=>rw [hc] at h; cases h
 | some r =>
 rw [hc] at h
 simp only [Option.map_some,oJ,pJ] at h
 exact h.2.symm
theorem z1eh {b:Bool} {x p:PV} {objs objs':List Obj} (h:(bif b then some (x,objs) else none)=some (p,objs')):objs'=objs:=by
 cases b with
 | false=>cases h
 | true=>simp only [cond_true,oJ,pJ] at h; exact h.2.symm
theorem class1 {T:List PV} {o:Oper} (h:zit E o=1) {objs objs':List Obj} {p:PV} (he:execP E C T objs o=some (p,objs')):objs'=objs:=by
 obtain ⟨dst,op,type,pos,after,guard⟩:=o
 unfold zit at h
 unfold execP at he
 simp only at h he
 cases op <;> (try simp only at h) <;> first | (cases h; done) | skip
 case convert s d x =>
  simp only [opD,opK] at he
  unfold convK at he
  cases hk:(E.ti s).d.known with
  | false=>rw [hk] at he; simp at he
  | true =>
  rw [hk] at he
  simp only [Bool.not_true,cond_false] at he
  split at he
  ·simp only [oJ,pJ] at he; exact he.2.symm
  ·simp only [oJ,pJ] at he; exact he.2.symm
  ·simp only [oJ,pJ] at he; exact he.2.symm
  ·rename_i hd _; rw [hd] at h; cases h
  ·split at he
   ·rename_i e _ _ _ _ _ _
    cases hz:((E.ti e).size == 1) with
    | false=>rw [hz] at he; simp at he
    | true =>
     rw [hz] at he
     simp only [Bool.not_true,cond_false] at he
     split at he
     ·rename_i l _
      cases hb:z7h l with
      | none=>rw [hb] at he; cases he
      | some z=>rw [hb] at he; simp only [oB,oJ,pJ] at he; exact he.2.symm
     ·cases he
   ·cases he
  ·split at he
   ·exact z1eh he
   ·cases he
  ·split at he
   ·exact z1eh he
   ·cases he
  ·cases he
 case call c =>
  obtain ⟨callee,args,ats⟩:=c
  cases callee with
  | value f =>
   simp only at h he
   cases hp:allB (fun ti=>allB z1t ti.leaves) (resTIs E type) with
   | false=>rw [hp] at h; cases h
   | true=>exact z1er (T:=T) hp he
  | invoke r n =>
   simp only at h he
   cases hp:allB (fun ti=>allB z1t ti.leaves) (resTIs E type) with
   | false=>rw [hp] at h; cases h
   | true =>
    split at he
    case h_2=>cases he
    split at he
    case h_2=>cases he
    exact z1er (T:=T) hp he
  | builtin b =>
   cases b <;> first | (cases h; done) | skip
   all_goals simp only [opD,opK] at he
   ·split at he
    ·rw [zl3] at he; exact z9v he
    ·cases he
   ·split at he
    ·rw [zeo] at he; exact z9v he
    ·cases he
   ·rw [zsd] at he; exact z9v he
   ·rw [zsd] at he; exact z9v he
 all_goals simp only [opD,opK] at he
 case load t x=>rw [z3y] at he; exact z9v he
 case nilCheck x=>rw [z1y] at he; exact z9v he
 case slice t x lo hi mx=>rw [z6q] at he; exact z9v he
 case fieldAddr t x f=>rw [z1h] at he; exact z9v he
 case indexAddr t x i=>rw [z26] at he; exact z9v he
def valR (E:Env) (C:Orc) (ops:Array Oper) (o:Oper) (T:List PV) (objs:List Obj):Option (PV×List Obj) :=
 (guardOf T ops o).bind fun b=>bif b then execD E C T objs o else some (.tuple [],objs)
theorem zk6 {ops:Array Oper} {i:Nat} {o:Oper} (ho:ops[i]?=some o) (s:RSt):oneR E C ops i s=(valR E C ops o s.1 s.2).map fun p=>(putT s.1 o.dst p.1,p.2):=by
 unfold oneR valR
 rw [ho]
 simp only
 cases guardOf s.1 ops o with
 | none=>rfl
 | some b=>cases b <;> simp
theorem z1h7 {ops:Array Oper} {o:Oper} {T:List PV} {dst:Option Nat} {v:PV} (objs:List Obj) (h:∀ d,dst=some d→d∉o.looksAt ops) (h':∀ d,dst=some d→o.dst≠some d):valR E C ops o (putT T dst v) objs=valR E C ops o T objs:=by
 unfold valR
 rw [z1gl h]
 cases guardOf T ops o with
 | none=>rfl
 | some b=>cases b <;> simp [execD_put objs h h']
theorem z25 {x y:Option PV} {objs objs2:List Obj} (h:x=y):(y.bind fun v=>some (v,objs2))=(x.bind fun v=>some (v,objs)).map fun p=>(p.1,objs2):=by subst h; cases x <;> rfl
def Inv (ops:Array Oper) (T0 T:List PV):Prop :=
 (∀ a,stable ops a=true→nthD .undef T a=nthD .undef T0 a)∧(∀ n a r,derOf ops T0 n (.tmp a)=some r→refOf (nthD .undef T a)=none∨refOf (nthD .undef T a)=r) ∧
 (∀ a j,z17n ops T0 (.tmp a)=some j→nthD .undef T a=.resv j∨nthD .undef T a=.tuple []∨nthD .undef T a=.ptr j 0) ∧
 ∀ a j,fldOf ops T0 (.tmp a)=some j→refOf (nthD .undef T a)=none∨∃ off,nthD .undef T a=.ptr j off
def Fr (T0 T:List PV) (o:Oper):Prop:=∀ t d,o.op=.alloc t→o.dst=some d→nthD .undef T d=nthD .undef T0 d
theorem zvi {ops:Array Oper} {T:List PV} {a j:Nat} (h:z17n ops T (.tmp a)=some j):nthD .undef T a=.resv j∧∃ o t,ops.toList.filter (z2n a)=[o]∧o.op=.alloc t:=by
 unfold z17n at h
 simp only at h
 cases h1:nthD .undef T a with
 | resv i =>
  rw [h1] at h
  cases h2:ops.toList.filter (z2n a) with
  | nil=>rw [h2] at h; cases h
  | cons o l =>
   cases l with
   | cons o' l=>rw [h2] at h; cases h
   | nil =>
    rw [h2] at h
    simp only at h
    split at h
    ·rename_i t ho
     simp only [oJ] at h
     subst h
     exact ⟨rfl,o,t,rfl,ho⟩
    ·cases h
 | _=>rw [h1] at h; cases h
theorem z18a {ops:Array Oper} {T:List PV} {a j:Nat} (h:fldOf ops T (.tmp a)=some j) :
  refOf (nthD .undef T a)=none∧∃ o t x f off,ops.toList.filter (z2n a)=[o]∧o.op=.fieldAddr t x f∧zol ops T x=some (.ptr j off):=by
 unfold fldOf at h
 simp only at h
 cases h1:refOf (nthD .undef T a) with
 | some k=>rw [h1] at h; cases h
 | none =>
  rw [h1] at h
  cases h2:ops.toList.filter (z2n a) with
  | nil=>rw [h2] at h; cases h
  | cons o l =>
   cases l with
   | cons o' l=>rw [h2] at h; cases h
   | nil =>
    rw [h2] at h
    simp only at h
    split at h
    ·rename_i t x f ho
     split at h
     ·rename_i j' off hs
      simp only [oJ] at h
      subst h
      exact ⟨rfl,o,t,x,f,off,rfl,ho,hs⟩
     ·cases h
    ·cases h
theorem Inv.refl (ops:Array Oper) (T:List PV):Inv ops T T:=by
 refine ⟨fun _ _=>rfl,fun n a j h=>.inl ?_,fun a j h=>.inl (zvi h).1,fun a j h=>.inl (z18a h).1⟩
 cases n with
 | zero=>unfold derOf at h; cases h
 | succ n =>
  unfold derOf at h
  cases hr:refOf (nthD .undef T a) with
  | none=>rfl
  | some k=>rw [hr] at h; simp at h
theorem zlh {ops:Array Oper} {T0 T:List PV} (hI:Inv ops T0 T) {x:Operand} {v:PV} (h:zol ops T0 x=some v):ev T x=v:=by
 cases x with
 | tmp a =>
  simp only [zol] at h
  cases hs:stable ops a with
  | false=>rw [hs] at h; cases h
  | true =>
   rw [hs] at h
   simp only [cond_true,oJ] at h
   simp only [ev]
   rw [hI.1 a hs,h]
 | _=>simp [zol] at h
def Agree (r:Option Nat) (objs objs2:List Obj):Prop:=∀ i,r=some i→nthD .dead objs i=nthD .dead objs2 i
theorem z14g (t:Nat) {v:PV} {objs objs2:List Obj} (h:Agree (refOf v) objs objs2):loadK E t objs v some=loadK E t objs2 v some:=by
 unfold loadK
 cases v <;> first | rfl | (simp only; rw [h _ rfl])
theorem zmy (t f:Nat) {v:PV} {objs objs2:List Obj} (h:Agree (refOf v) objs objs2):z1p E t objs v f some=z1p E t objs2 v f some:=by
 unfold z1p
 cases v <;> first | rfl | (simp only; rw [h _ rfl])
theorem zp1 {v:PV} {objs objs2:List Obj} (h:Agree (refOf v) objs objs2):z4m objs v some=z4m objs2 v some:=by
 unfold z4m
 cases v <;> first | rfl | (simp only; rw [h _ rfl])
theorem z17v (t:Nat) {v:PV} {objs objs2:List Obj} (h:Agree (refOf v) objs objs2):lenK E t objs v some=lenK E t objs2 v some:=by
 unfold lenK
 cases v <;> first | rfl | (simp only; rw [h _ rfl]; done) | (rename_i i off; cases off <;> rfl)
theorem zmr (t:Nat) (ix:PV) {v:PV} {objs objs2:List Obj} (h:Agree (refOf v) objs objs2):z56 E t objs v ix some=z56 E t objs2 v ix some:=by
 unfold z56
 cases v <;> first | rfl | (simp only; rw [h _ rfl]; done) | (rename_i i off; cases off <;> first | rfl | (simp only; rw [h _ rfl]))
theorem z10f (t:Nat) (lo hi mx:Option PV) {v:PV} {objs objs2:List Obj} (h:Agree (refOf v) objs objs2):zk2 E t objs v lo hi mx some=zk2 E t objs2 v lo hi mx some:=by
 unfold zk2 z9j
 cases v <;> first | rfl | (simp only; rw [h _ rfl]; done) | (rename_i i off; cases off <;> first | rfl | (simp only; rw [h _ rfl]))
theorem zox {ops:Array Oper} {T0 T:List PV} (hI:Inv ops T0 T) {x:Operand} {r:Option (Option Nat)} {i:Option Nat} (hr:zbp ops T0 x=.reads r) (hi:r=some i) {objs objs2:List Obj} (ha:Agree i objs objs2):Agree (refOf (ev T x)) objs objs2:=by
 simp only [zbp,Eff.reads.injEq] at hr
 rw [hi] at hr
 cases hs:zol ops T0 x with
 | some v =>
  rw [hs] at hr
  simp only [oJ] at hr
  rw [zlh hI hs,hr]; exact ha
 | none =>
  rw [hs] at hr
  simp only at hr
  cases x with
  | tmp a =>
   rcases hI.2.1 8 a i hr with h | h
   ·simp only [ev]; rw [h]; intro k hk; cases hk
   ·simp only [ev]; rw [h]; exact ha
  | _=>unfold derOf at hr; cases hr
theorem reads_dep {ops:Array Oper} {T0 T:List PV} (hI:Inv ops T0 T) {o:Oper} {r:Option (Option Nat)} (h:z159 E ops T0 o=.reads r) :
  (∀ objs objs' p,execP E C T objs o=some (p,objs')→objs'=objs)∧(∀ i,r=some i→∀ objs objs2,Agree i objs objs2→execP E C T objs2 o=(execP E C T objs o).map fun p=>(p.1,objs2)):=by
 have rd:∀ {x:Operand} {i:Option Nat},zbp ops T0 x=.reads r→r=some i→∀ {objs objs2:List Obj},Agree i objs objs2→Agree (refOf (ev T x)) objs objs2:=fun hr hi=>zox hI hr hi
 have by1:zit E o=1→∀ objs objs' p,execP E C T objs o=some (p,objs')→objs'=objs:=fun h1 objs objs' p he=>class1 h1 he
 have gen:∀ o:Oper,zxn E o=.reads r→zit E o=1∧r=none:=by
  intro o h
  unfold zxn at h
  split at h
  ·cases h
  ·rename_i h1; cases h; exact ⟨h1,rfl⟩
  ·cases h
 obtain ⟨dst,op,type,pos,after,guard⟩:=o
 unfold z159 at h
 cases op
 case store t x y=>simp only at h; cases ha:(E.ti t).d.isArr <;> rw [ha] at h <;> simp only [cond_true,cond_false] at h <;> first | (cases h; done) | (split at h <;> first | (cases h; done) | (split at h <;> first | (cases h; done) | (split at h <;> cases h)))
 case alloc t=>simp only at h; split at h <;> first | (cases h; done) | (split at h <;> cases h)
 case load t x =>
  refine ⟨by1 rfl,fun i hi objs objs2 ha=>?_⟩
  have hr:=fun {objs objs2:List Obj} (ha:Agree i objs objs2)=>rd (objs:=objs) (objs2:=objs2) h hi ha
  unfold execP; simp only [opD,opK]
  rw [z3y,z3y (k:=fun v=>some (v,objs))]
  exact z25 (z14g t (hr ha))
 case fieldAddr t x f =>
  refine ⟨by1 rfl,fun i hi objs objs2 ha=>?_⟩
  have hr:=fun {objs objs2:List Obj} (ha:Agree i objs objs2)=>rd (objs:=objs) (objs2:=objs2) h hi ha
  unfold execP; simp only [opD,opK]
  rw [z1h,z1h (k:=fun v=>some (v,objs))]
  exact z25 (zmy t f (hr ha))
 case nilCheck x =>
  refine ⟨by1 rfl,fun i hi objs objs2 ha=>?_⟩
  have hr:=fun {objs objs2:List Obj} (ha:Agree i objs objs2)=>rd (objs:=objs) (objs2:=objs2) h hi ha
  unfold execP; simp only [opD,opK]
  rw [z1y,z1y (k:=fun v=>some (v,objs))]
  exact z25 (zp1 (hr ha))
 case slice t x lo hi' mx =>
  refine ⟨by1 rfl,fun i hi objs objs2 ha=>?_⟩
  unfold execP; simp only [opD,opK]
  rw [z6q,z6q (k:=fun v=>some (v,objs))]
  simp only at h
  by_cases hd:(E.ti t).d=.str
  ·refine z25 ?_
   unfold zk2
   rw [hd]
  ·have h':zbp ops T0 x=.reads r:=by
    cases hdd:(E.ti t).d <;> rw [hdd] at h hd <;> first | exact h | exact absurd rfl hd
   have hr:=fun {objs objs2:List Obj} (ha:Agree i objs objs2)=>rd (objs:=objs) (objs2:=objs2) h' hi ha
   exact z25 (z10f t _ _ _ (hr ha))
 case indexAddr t x ix =>
  refine ⟨by1 rfl,fun i hi objs objs2 ha=>?_⟩
  have hr:=fun {objs objs2:List Obj} (ha:Agree i objs objs2)=>rd (objs:=objs) (objs2:=objs2) h hi ha
  unfold execP; simp only [opD,opK]
  rw [z26,z26 (k:=fun v=>some (v,objs))]
  exact z25 (zmr t _ (hr ha))
 case lookup t m ix ok =>
  simp only at h
  unfold z1an at h
  split at h
  case h_2=>cases h
  rename_i r' hm
  have hr:r=some r':=by simp only [Eff.reads.injEq] at h; exact h.symm
  refine ⟨fun objs objs' p he=>?_,fun i hi objs objs2 ha=>?_⟩
  ·unfold execP at he; simp only [opD,opK] at he
   rw [zar] at he
   exact z9v he
  ·rw [hr] at hi
   simp only [oJ] at hi
   subst hi
   have hg:=zox hI hm rfl ha
   unfold execP; simp only [opD,opK]
   rw [zar,zar (k:=fun v=>some (v,objs))]
   refine z25 ?_
   unfold zvm
   generalize ev T m=v at hg
   cases v <;> first | rfl | (simp only; rw [hg _ rfl]; done) | (rename_i off; cases off <;> rfl)
 case call c =>
  obtain ⟨callee,args,ats⟩:=c
  cases callee with
  | value f =>
   have other:zxn E (⟨dst,.call ⟨.value f,args,ats⟩,type,pos,after,guard⟩:Oper)=.reads r→(∀ objs objs' p,execP E C T objs (⟨dst,.call ⟨.value f,args,ats⟩,type,pos,after,guard⟩:Oper)=some (p,objs')→objs'=objs) ∧
     (∀ i,r=some i→∀ objs objs2,Agree i objs objs2→execP E C T objs2 (⟨dst,.call ⟨.value f,args,ats⟩,type,pos,after,guard⟩:Oper)=(execP E C T objs (⟨dst,.call ⟨.value f,args,ats⟩,type,pos,after,guard⟩:Oper)).map fun p=>(p.1,objs2)):=by
    intro h
    obtain ⟨h1,h2⟩:=gen _ h
    exact ⟨by1 h1,fun i hi=>by rw [h2] at hi; cases hi⟩
   cases f with
   | func g =>
    simp only at h
    cases hp:plainFn E (.func (.func g) [] []) with
    | true=>rw [hp] at h; cases h
    | false=>rw [hp] at h; exact other h
   | _=>exact other h
  | invoke rr n =>
   obtain ⟨h1,h2⟩:=gen _ h
   exact ⟨by1 h1,fun i hi=>by rw [h2] at hi; cases hi⟩
  | builtin b =>
   cases b
   case len =>
    simp only at h
    split at h
    ·rename_i x hx
     refine ⟨by1 rfl,fun i hi objs objs2 ha=>?_⟩
     have hr:=fun {objs objs2:List Obj} (ha:Agree i objs objs2)=>rd (objs:=objs) (objs2:=objs2) h hi ha
     unfold execP; simp only [opD,opK]
     rw [hx]
     cases ats.toList with
     | nil=>rfl
     | cons t ts =>
      simp only
      rw [zeo,zeo (k:=fun v=>some (v,objs))]
      exact z25 (z17v t (hr ha))
    ·cases h
     exact ⟨by1 rfl,fun i hi=>by cases hi⟩
   all_goals
    obtain ⟨h1,h2⟩:=gen _ h
    exact ⟨by1 h1,fun i hi=>by rw [h2] at hi; cases hi⟩
 all_goals
  obtain ⟨h1,h2⟩:=gen _ h
  exact ⟨by1 h1,fun i hi=>by rw [h2] at hi; cases hi⟩
theorem free_dep {ops:Array Oper} {T0 T:List PV} {o:Oper} (h:z159 E ops T0 o=.free) (objs objs2:List Obj):execP E C T objs o=(execP E C T objs2 o).map fun p=>(p.1,objs):=by
 have gen:∀ o:Oper,zxn E o=.free→zit E o=0:=by
  intro o h
  unfold zxn at h
  split at h
  ·assumption
  ·cases h
  ·cases h
 have hall:=h
 obtain ⟨dst,op,type,pos,after,guard⟩:=o
 unfold z159 at h
 cases op
 case store t x y=>simp only at h; cases ha:(E.ti t).d.isArr <;> rw [ha] at h <;> simp only [cond_true,cond_false] at h <;> first | (cases h; done) | (split at h <;> first | (cases h; done) | (split at h <;> first | (cases h; done) | (split at h <;> cases h)))
 case alloc t=>simp only at h; split at h <;> first | (cases h; done) | (split at h <;> cases h)
 case call c =>
  obtain ⟨callee,args,ats⟩:=c
  cases callee with
  | value f =>
   cases f with
   | func g =>
    simp only at h
    cases hp:plainFn E (.func (.func g) [] []) with
    | false=>rw [hp] at h; exact z1ei (gen _ h) objs objs2
    | true =>
     unfold execP
     simp only [ev]
     unfold askR callAsk
     rw [hp]
     simp only [cond_true]
     cases allB plainPV (args.toList.map (ev T)) with
     | false=>rfl
     | true =>
      simp only [cond_true,oB]
      cases C (resTIs E type) (.func (.func g) [] []) (args.toList.map (ev T)) <;> rfl
   | _=>exact z1ei (gen _ h) objs objs2
  | invoke rr n=>exact z1ei (gen _ h) objs objs2
  | builtin b =>
   cases b
   case len=>simp only at h; split at h <;> cases h
   all_goals exact z1ei (gen _ h) objs objs2
 case load=>cases h
 case fieldAddr=>cases h
 case nilCheck=>cases h
 case slice t x lo hi' mx=>simp only at h; split at h <;> cases h
 case indexAddr=>cases h
 case lookup=>simp only at h; unfold z1an at h; split at h <;> cases h
 all_goals exact z1ei (gen _ h) objs objs2
theorem z1hl {R:Type} (t:Nat) (objs:List Obj) (a v:PV) (k:List Obj→Option R) (h:(∃ j,a=.resv j)∨a=.tuple []):zoh E t objs a v k=none:=by
 rcases h with ⟨j,rfl⟩ | rfl <;> (unfold zoh; simp)
theorem store_ref {R:Type} (t:Nat) (objs:List Obj) (a v:PV) (k:List Obj→Option R) (h:refOf a=none):zoh E t objs a v k=none:=by
 unfold zoh
 cases a <;> first | (cases h; done) | simp
theorem z1k2 {ops:Array Oper} {T0 T:List PV} (hI:Inv ops T0 T) {o:Oper} (hF:Fr T0 T o) {j:Nat} (h:z159 E ops T0 o=.writes j) {objs objs':List Obj} {p:PV} (he:execP E C T objs o=some (p,objs')) :
  ∃ ob,objs'=setN objs j ob∧∀ objs2,nthD .dead objs2 j=nthD .dead objs j→execP E C T objs2 o=some (p,setN objs2 j ob):=by
 have gen:∀ o:Oper,zxn E o≠.writes j:=by
  intro o h
  unfold zxn at h
  split at h <;> cases h
 obtain ⟨dst,op,type,pos,after,guard⟩:=o
 unfold z159 at h
 cases op
 case store t x y =>
  simp only at h
  cases ha:(E.ti t).d.isArr with
  | true=>rw [ha] at h; cases h
  | false =>
  rw [ha] at h
  simp only [cond_false] at h
  have key:∀ off,ev T x=.ptr j off→∃ ob,objs'=setN objs j ob∧∀ objs2,nthD .dead objs2 j=nthD .dead objs j→execP E C T objs2 (⟨dst,.store t x y,type,pos,after,guard⟩:Oper)=some (p,setN objs2 j ob):=by
   intro off hx
   unfold execP at he ⊢
   simp only [opD,opK,hx] at he ⊢
   unfold zoh at he ⊢
   simp only at he ⊢
   cases hc:((E.ti t).d.known&&((ev T y).cellsL.length == (E.ti t).size)&&allB PV.scalar (ev T y).cellsL) with
   | false=>rw [hc] at he; simp at he
   | true =>
   rw [hc] at he
   simp only [Bool.not_true,cond_false] at he ⊢
   cases ho:nthD .dead objs j with
   | cells e l f =>
    cases f with
    | true=>rw [ho] at he; cases he
    | false =>
     rw [ho] at he
     simp only at he
     cases hle:Nat.ble (off+(E.ti t).size) l.length with
     | false=>rw [hle] at he; cases he
     | true =>
      rw [hle] at he
      simp only [cond_true,oJ,pJ] at he
      obtain ⟨rfl,rfl⟩:=he
      refine ⟨_,rfl,fun objs2 h2=>?_⟩
      rw [h2]
      simp only [hle,cond_true]
   | row e s l fz cap =>
    rw [ho] at he
    simp only at he
    exfalso
    cases hp:purifyL pfuel objs (ev T y).cellsL with
    | none=>rw [hp] at he; cases he
    | some z =>
     obtain ⟨vs,o1⟩:=z
     rw [hp] at he
     simp only [ha,Bool.false_and,cond_false] at he
     split at he <;> cases he
   | _=>rw [ho] at he; cases he
  split at h
  ·rename_i j' off hs
   cases h
   exact key off (zlh hI hs)
  ·cases h
  ·split at h
   case h_2 =>
    split at h
    case h_2=>cases h
    rename_i j' hr
    cases h
    cases x with
    | tmp a =>
     rcases hI.2.2.2 a j hr with h1 | ⟨off,h1⟩
     ·exfalso
      unfold execP at he
      simp only [opD,opK,ev] at he
      rw [store_ref _ _ _ _ _ h1] at he
      cases he
     ·exact key off h1
    | _=>unfold fldOf at hr; cases hr
   rename_i j' hr
   cases h
   cases x with
   | tmp a =>
    rcases hI.2.2.1 a j hr with h1 | h1 | h1
    ·exfalso
     unfold execP at he
     simp only [opD,opK,ev,h1] at he
     rw [z1hl _ _ _ _ _ (by first | exact .inl ⟨_,rfl⟩ | exact .inr rfl)] at he
     cases he
    ·exfalso
     unfold execP at he
     simp only [opD,opK,ev,h1] at he
     rw [z1hl _ _ _ _ _ (by first | exact .inl ⟨_,rfl⟩ | exact .inr rfl)] at he
     cases he
    ·exact key 0 h1
   | _=>unfold z17n at hr; cases hr
 case alloc t =>
  simp only at h
  split at h
  case h_2=>cases h
  rename_i d
  split at h
  case h_2=>cases h
  rename_i j' hr
  cases h
  have hT:nthD .undef T d=.resv j:=(hF t d rfl rfl).trans (zvi hr).1
  unfold execP at he ⊢
  simp only [opD,opK,dstV,hT] at he ⊢
  cases hk:(E.ti t).d.known with
  | false=>rw [hk] at he; cases he
  | true =>
  rw [hk] at he
  simp only [cond_true] at he ⊢
  unfold zn1 at he ⊢
  simp only at he ⊢
  cases ho:nthD .dead objs j with
  | hole =>
   rw [ho] at he
   cases hs:allB PV.scalar (E.ti t).zero.cellsL with
   | false =>
    exfalso
    cases hd:(E.ti t).d <;> rw [hd] at he <;> simp only [hs,cond_false] at he <;> cases he
   | true =>
   refine ⟨.cells t (E.ti t).zero.cellsL false,?_,fun objs2 h2=>?_⟩
   ·cases hd:(E.ti t).d <;> rw [hd] at he <;> simp only [hs,cond_true,oJ,pJ] at he <;> first | exact he.2.symm | cases he
   ·rw [h2]
    cases hd:(E.ti t).d <;> rw [hd] at he <;> simp only [hs,cond_true,oJ,pJ] at he ⊢ <;> first | exact ⟨he.1,trivial⟩ | cases he
  | _=>rw [ho] at he; cases hd:(E.ti t).d <;> rw [hd] at he <;> cases he
 case call c =>
  obtain ⟨callee,args,ats⟩:=c
  cases callee with
  | value f =>
   cases f with
   | func g =>
    simp only at h
    cases hp:plainFn E (.func (.func g) [] []) with
    | true=>rw [hp] at h; cases h
    | false=>rw [hp] at h; exact absurd h (gen _)
   | _=>exact absurd h (gen _)
  | invoke rr n=>exact absurd h (gen _)
  | builtin b =>
   cases b
   case len=>simp only at h; split at h <;> cases h
   all_goals exact absurd h (gen _)
 case load=>cases h
 case fieldAddr=>cases h
 case nilCheck=>cases h
 case slice t x lo hi' mx=>simp only at h; split at h <;> cases h
 case indexAddr=>cases h
 case lookup=>simp only at h; unfold z1an at h; split at h <;> cases h
 all_goals exact absurd h (gen _)
section
variable {ops:Array Oper} {T0 T:List PV} {o:Oper}
theorem z1lr {b:Bool} {x p:PV} {objs objs':List Obj} (h:(bif b then none else some (x,objs))=some (p,objs')):objs'=objs:=by
 cases b with
 | true=>cases h
 | false=>simp only [cond_false,oJ,pJ] at h; exact h.2.symm
theorem free_depD (h:effOf E ops T0 o=.free) (objs objs2:List Obj):execD E C T objs o=(execD E C T objs2 o).map fun p=>(p.1,objs):=by
 unfold effOf at h
 unfold execD
 cases hs:z2a E o.op with
 | none=>rw [hs] at h; exact free_dep h objs objs2
 | some s =>
  rw [hs] at h
  cases s with
  | same x=>rfl
  | sdata x=>simp only [zbp] at h; cases h
  | _=>cases h
theorem z1kt (hI:Inv ops T0 T) {r:Option (Option Nat)} (h:effOf E ops T0 o=.reads r) :
  (∀ objs objs' p,execD E C T objs o=some (p,objs')→objs'=objs)∧(∀ i,r=some i→∀ objs objs2,Agree i objs objs2→execD E C T objs2 o=(execD E C T objs o).map fun p=>(p.1,objs2)):=by
 unfold effOf at h
 unfold execD
 cases hs:z2a E o.op with
 | none=>rw [hs] at h; exact reads_dep hI h
 | some s =>
  rw [hs] at h
  cases s with
  | sdata x =>
   have h:=fun {objs objs2:List Obj} {i:Option Nat} (hi:r=some i) (ha:Agree i objs objs2)=>zox hI (x:=x) (objs:=objs) (objs2:=objs2) h hi ha
   refine ⟨fun objs objs' p he=>?_,fun i hi objs objs2 ha=>?_⟩
   ·simp only [specD,specK] at he
    split at he
    ·simp only [oJ,pJ] at he; exact he.2.symm
    ·split at he
     ·exact z1lr he
     ·cases he
    ·cases he
   ·have hr:=h hi ha
    simp only [specD,specK]
    generalize ev T x=v at hr
    cases v <;> first | rfl | skip
    rename_i k
    simp only
    rw [← hr k rfl]
    cases nthD .dead objs k <;> first | rfl | skip
    rename_i l _ _
    simp only
    cases isNilL l <;> rfl
  | _=>cases h
theorem z1f5 (hI:Inv ops T0 T) (hF:Fr T0 T o) {j:Nat} (h:effOf E ops T0 o=.writes j) {objs objs':List Obj} {p:PV} (he:execD E C T objs o=some (p,objs')) :
  ∃ ob,objs'=setN objs j ob∧∀ objs2,nthD .dead objs2 j=nthD .dead objs j→execD E C T objs2 o=some (p,setN objs2 j ob):=by
 unfold effOf at h
 unfold execD at he ⊢
 cases hs:z2a E o.op with
 | none=>rw [hs] at h he; exact z1k2 hI hF h he
 | some s =>
  rw [hs] at h
  cases s with
  | sdata x=>simp only [zbp] at h; cases h
  | _=>cases h
theorem z12a (h:effOf E ops T0 o=.free) {objs objs':List Obj} {p:PV} (he:valR E C ops o T objs=some (p,objs')):objs'=objs∧∀ o2,valR E C ops o T o2=some (p,o2):=by
 have h1:∀ o1 o2,valR E C ops o T o1=(valR E C ops o T o2).map fun p=>(p.1,o1):=by
  intro o1 o2
  unfold valR
  cases guardOf T ops o with
  | none=>rfl
  | some b =>
   cases b with
   | false=>rfl
   | true=>simp only [oB,cond_true]; exact free_depD h o1 o2
 have h2:=h1 objs objs
 rw [he] at h2
 simp only [Option.map_some,oJ,pJ,true_and] at h2
 subst h2
 exact ⟨rfl,fun o2=>by rw [h1 o2 objs',he]; rfl⟩
theorem zwl (hI:Inv ops T0 T) {r:Option (Option Nat)} (h:effOf E ops T0 o=.reads r) {objs objs':List Obj} {p:PV} (he:valR E C ops o T objs=some (p,objs')) :
  objs'=objs∧∀ i,r=some i→∀ o2,Agree i objs o2→valR E C ops o T o2=some (p,o2):=by
 obtain ⟨d1,d2⟩:=z1kt (C:=C) hI h
 unfold valR at he ⊢
 cases hg:guardOf T ops o with
 | none=>rw [hg] at he; cases he
 | some b =>
  rw [hg] at he
  cases b with
  | false =>
   simp only [oB,cond_false,oJ,pJ] at he ⊢
   exact ⟨he.2.symm,fun i _ o2 _=>⟨he.1,trivial⟩⟩
  | true =>
   simp only [oB,cond_true] at he ⊢
   refine ⟨d1 _ _ _ he,fun i hi o2 ha=>?_⟩
   rw [d2 i hi objs o2 ha,he]; rfl
theorem zz0 (hI:Inv ops T0 T) (hF:Fr T0 T o) {j:Nat} (h:effOf E ops T0 o=.writes j) {objs objs':List Obj} {p:PV} (he:valR E C ops o T objs=some (p,objs')) :
  ∃ u:List Obj→List Obj,objs'=u objs∧((∀ x,u x=x)∨∃ ob,∀ x,u x=setN x j ob)∧∀ o2,nthD .dead o2 j=nthD .dead objs j→valR E C ops o T o2=some (p,u o2):=by
 unfold valR at he ⊢
 cases hg:guardOf T ops o with
 | none=>rw [hg] at he; cases he
 | some b =>
  rw [hg] at he
  cases b with
  | false =>
   simp only [oB,cond_false,oJ,pJ] at he ⊢
   exact ⟨id,he.2.symm,.inl (fun _=>rfl),fun o2 _=>⟨he.1,rfl⟩⟩
  | true =>
   simp only [oB,cond_true] at he ⊢
   obtain ⟨ob,h1,h2⟩:=z1f5 hI hF h he
   exact ⟨fun x=>setN x j ob,h1,.inr ⟨ob,fun _=>rfl⟩,h2⟩
end
def Tight (s:RSt):Prop:=∀ (x:Operand) (i:Nat),refOf (ev s.1 x)=some i→i<s.2.length
theorem z1ls (t:Nat) {v:PV} {objs objs2:List Obj} (h:Agree (refOf v) objs objs2):capK E t objs v some=capK E t objs2 v some:=by
 unfold capK
 cases v <;> first | rfl | (simp only; rw [h _ rfl]; done) | (rename_i a b c d; cases d <;> (simp only; rw [h _ rfl]))
theorem zzm {o:Oper} {T:List PV} (h:lookB E o=true) {objs objs2:List Obj} (ha:∀ (x:Operand),Agree (refOf (ev T x)) objs objs2) :
  execD E C T objs2 o=(execD E C T objs o).map fun p=>(p.1,objs2):=by
 unfold lookB at h
 unfold execD
 cases hs:z2a E o.op with
 | some s=>rw [hs] at h; cases h
 | none =>
 rw [hs] at h
 simp only at h ⊢
 obtain ⟨dst,op,type,pos,after,guard⟩:=o
 simp only at h
 cases op <;> (try simp only at h) <;> first | (cases h; done) | skip
 all_goals unfold execP
 all_goals simp only [opD,opK]
 case load t x=>rw [z3y,z3y (k:=fun v=>some (v,objs))]; exact z25 (z14g t (ha x))
 case nilCheck x=>rw [z1y,z1y (k:=fun v=>some (v,objs))]; exact z25 (zp1 (ha x))
 case fieldAddr t x f=>rw [z1h,z1h (k:=fun v=>some (v,objs))]; exact z25 (zmy t f (ha x))
 case slice t x lo hi mx=>rw [z6q,z6q (k:=fun v=>some (v,objs))]; exact z25 (z10f t _ _ _ (ha x))
 case indexAddr t x i=>rw [z26,z26 (k:=fun v=>some (v,objs))]; exact z25 (zmr t _ (ha x))
 case call c =>
  obtain ⟨callee,args,ats⟩:=c
  cases callee with
  | value f=>cases h
  | invoke r n=>cases h
  | builtin b =>
   cases b <;> (try simp only at h) <;> first | (cases h; done) | skip
   case len =>
    simp only
    split
    ·rename_i x t ts hx ht
     rw [zeo,zeo (k:=fun v=>some (v,objs))]; exact z25 (z17v t (ha x))
    ·rfl
   case cap =>
    simp only
    split
    ·rename_i x t ts hx ht
     rw [zl3,zl3 (k:=fun v=>some (v,objs))]; exact z25 (z1ls t (ha x))
    ·rfl
theorem zxj {o:Oper} {T:List PV} (h:lookB E o=true) {objs objs':List Obj} {p:PV} (he:execD E C T objs o=some (p,objs')):objs'=objs:=by
 have:=zzm (C:=C) (T:=T) h (objs:=objs) (objs2:=objs) (fun x i hi=>rfl)
 rw [he] at this
 simp only [Option.map_some,oJ,pJ,true_and] at this
 exact this
theorem z18o {o:Oper} {T:List PV} (h:z1jx E o=true) {objs objs':List Obj} {p:PV} (he:execD E C T objs o=some (p,objs')) :
  ∃ ob,objs'=objs++[ob]∧∀ objs2,objs2.length=objs.length→execD E C T objs2 o=some (p,objs2++[ob]):=by
 unfold z1jx at h
 unfold execD at he ⊢
 cases hs:z2a E o.op with
 | none =>
  rw [hs] at h he
  obtain ⟨dst,op,type,pos,after,guard⟩:=o
  simp only at h
  cases op <;> (try simp only at h) <;> first | (cases h; done) | skip
  rename_i t r
  unfold execP at he ⊢
  simp only [opD,opK] at he ⊢
  unfold zlq at he ⊢
  cases hd:(E.ti t).d <;> rw [hd] at he <;> first | (cases he; done) | skip
  simp only at he ⊢
  split at he
  ·simp only [oJ,pJ] at he
   obtain ⟨rfl,rfl⟩:=he
   rename_i hr
   exact ⟨_,rfl,fun objs2 hl=>by rw [hl]⟩
  ·simp only [oJ,pJ] at he
   obtain ⟨rfl,rfl⟩:=he
   rename_i hr
   exact ⟨_,rfl,fun objs2 hl=>by rw [hl]⟩
  ·cases he
 | some s =>
  rw [hs] at h he
  cases s <;> simp only at h <;> first | (cases h; done) | skip
  simp only [specD,specK] at he ⊢
  split at he
  ·obtain ⟨hg,he⟩:=zc he
   simp only [oJ,pJ] at he
   obtain ⟨rfl,rfl⟩:=he
   exact ⟨_,rfl,fun objs2 hl=>by rw [hg,hl]; rfl⟩
  ·cases he
theorem z1ev {T:List PV} {objs:List Obj} (ob:Obj) (ht:∀ (x:Operand) (i:Nat),refOf (ev T x)=some i→i<objs.length) (x:Operand):Agree (refOf (ev T x)) objs (objs++[ob]):=fun i hi =>
 (zo _ _ _ _ (ht x i hi)).symm
theorem u_nth {u:List Obj→List Obj} {j i:Nat} (h:(∀ x,u x=x)∨∃ ob,∀ x,u x=setN x j ob) (hij:j≠i) (x:List Obj):nthD .dead (u x) i=nthD .dead x i:=by
 rcases h with h | ⟨ob,h⟩
 ·rw [h]
 ·rw [h,zd _ _ _ _ _ hij]
theorem u_comm {u v:List Obj→List Obj} {i j:Nat} (h:(∀ x,u x=x)∨∃ ob,∀ x,u x=setN x i ob) (h':(∀ x,v x=x)∨∃ ob,∀ x,v x=setN x j ob) (hij:i≠j) (x:List Obj):u (v x)=v (u x):=by
 rcases h with h | ⟨ob,h⟩
 ·rw [h,h]
 ·rcases h' with h' | ⟨ob',h'⟩
  ·rw [h',h']
  ·rw [h,h',h,h',z2z,z2z,z2z,z2z,List.set_comm _ _ (Ne.symm hij)]
def z1c3:Obj→Obj
 | .cells e l _=>.cells e l false
 | .row e s l _ c=>.row e s l 0 c
 | .map _ _ _ _=>.map [] [] false false
 | .bmap _ _=>.bmap none none
 | o=>o
def SameC (o o2:List Obj):Prop:=∀ i,z1c3 (nthD .dead o i)=z1c3 (nthD .dead o2 i)
theorem SameC.refl (o:List Obj):SameC o o:=fun _=>rfl
theorem SameC.trans {a b c:List Obj} (h:SameC a b) (h':SameC b c):SameC a c:=fun i=>(h i).trans (h' i)
theorem SameC.set {o:List Obj} {i:Nat} {ob:Obj} (h:z1c3 (nthD .dead o i)=z1c3 ob):SameC o (setN o i ob):=by
 intro k
 by_cases hk:i=k
 ·subst hk
  by_cases hl:i<o.length
  ·rw [z8 _ _ _ _ hl,h]
  ·have:setN o i ob=o:=by rw [z2z]; exact List.set_eq_of_length_le (by omega)
   rw [this]
 ·rw [zd _ _ _ _ _ hk]
mutual
theorem zln:∀ (n:Nat) (o:List Obj) (v v':PV) (o':List Obj),purify n o v=some (v',o')→SameC o o'
 | 0,o,v,v',o',h=>by unfold purify at h; cases h
 | n+1,o,v,v',o',h=>by
  unfold purify at h
  cases v <;> simp only at h
  all_goals first | (simp only [oJ,pJ] at h; rw [← h.2]; exact .refl _) | skip
  case resv i=>cases h
  case opq x k =>
   cases k with
   | zero=>simp only [oJ,pJ] at h; rw [← h.2]; exact .refl _
   | succ k=>cases h
  case iface t x =>
   split at h
   ·rename_i x' o1 h1
    simp only [oJ,pJ] at h; rw [← h.2]; exact zln n o _ _ _ h1
   ·cases h
  case func f a b =>
   cases hyf:isYield f <;> rw [hyf] at h
   case true=>cases h
   simp only [cond_false] at h
   split at h
   ·rename_i a' o1 h1
    split at h
    ·rename_i b' o2 h2
     simp only [oJ,pJ] at h; rw [← h.2]; exact (z6m n o _ _ _ h1).trans (z6m n o1 _ _ _ h2)
    ·cases h
   ·cases h
  case agg l =>
   split at h
   ·rename_i x' o1 h1
    simp only [oJ,pJ] at h; rw [← h.2]; exact z6m n o _ _ _ h1
   ·cases h
  case tuple l =>
   split at h
   ·rename_i x' o1 h1
    simp only [oJ,pJ] at h; rw [← h.2]; exact z6m n o _ _ _ h1
   ·cases h
  case lall i =>
   split at h
   ·rename_i e s l f c h1
    simp only [oJ,pJ] at h; rw [← h.2]; exact .set (by rw [h1]; rfl)
   ·cases h
  case lsl i off len cap =>
   split at h
   ·rename_i e s l f c h1
    simp only [oJ,pJ] at h; rw [← h.2]; exact .set (by rw [h1]; rfl)
   ·cases h
  case ptr i off =>
   split at h
   ·rename_i e l h1
    split at h
    ·rename_i l' o1 h2
     simp only [oJ,pJ] at h; rw [← h.2]; exact z6m n o _ _ _ h2
    ·cases h
   ·rename_i e l h1
    split at h
    ·rename_i l' o1 h2
     simp only [oJ,pJ] at h; rw [← h.2]
     exact SameC.trans (.set (by rw [h1]; rfl)) (z6m n _ _ _ _ h2)
    ·cases h
   ·cases h
  case raw=>cases h
  case mapr i =>
   split at h
   ·rename_i ks vs fz h1
    simp only [oJ,pJ] at h; rw [← h.2]; exact .set (by rw [h1]; rfl)
   ·cases h
  case rptr i k off =>
   split at h
   ·rename_i e s l f c h1
    split at h
    ·simp only [oJ,pJ] at h; rw [← h.2]; exact .set (by rw [h1]; rfl)
    ·cases h
   ·cases h
theorem z6m:∀ (n:Nat) (o:List Obj) (l l':List PV) (o':List Obj),purifyL n o l=some (l',o')→SameC o o'
 | 0,o,l,l',o',h=>by unfold purifyL at h; cases h
 | n+1,o,[],l',o',h=>by
  unfold purifyL at h
  simp only [oJ,pJ] at h; rw [← h.2]; exact .refl _
 | n+1,o,v::vs,l',o',h=>by
  unfold purifyL at h
  split at h
  ·rename_i v' o1 h1
   split at h
   ·rename_i vs' o2 h2
    simp only [oJ,pJ] at h; rw [← h.2]; exact (zln n o _ _ _ h1).trans (z6m n o1 _ _ _ h2)
   ·cases h
  ·cases h
end
theorem putC_some {R:Type} {key x:PV} {G:List PV→List PV→Option R} {ks vs ks0 vs0:List PV} {r:R} (h:putC key x G ks0 vs0 ks vs=some r):∃ a b,G a b=some r:=by
 have hb:=z142 key x (fun a b=>some (a,b)) (fun p=>G p.1 p.2) ks vs ks0 vs0
 have h':putC key x (fun a b=>((fun a b=>some (a,b)) a b:Option (List PV×List PV)).bind fun p=>G p.1 p.2) ks0 vs0 ks vs=some r:=h
 rw [hb] at h'
 obtain ⟨q,_,hq⟩:=zb h'
 exact ⟨_,_,hq⟩
theorem z1ej {o:Oper} {T:List PV} (h:callB E o=true) {objs objs':List Obj} {p:PV} (he:execD E C T objs o=some (p,objs')):SameC objs objs':=by
 unfold callB at h
 unfold execD at he
 cases hs:z2a E o.op with
 | some s=>rw [hs] at h; cases h
 | none =>
 rw [hs] at h he
 simp only at h he
 obtain ⟨dst,op,type,pos,after,guard⟩:=o
 simp only at h
 cases op <;> (try simp only at h) <;> first | (cases h; done) | skip
 case insert t m ix x =>
  unfold execP at he
  simp only [opD,opK] at he
  unfold z8o at he
  split at he
  case h_2=>cases he
  rename_i i _ _
  cases hk:keyOk (E.ti _).d (ev T ix) with
  | false=>rw [hk] at he; simp at he
  | true =>
  rw [hk] at he
  simp only [Bool.not_true,cond_false] at he
  split at he
  ·rename_i e0 e1 ho
   cases hkey:ev T ix <;> rw [hkey] at he <;> first | (cases he; done) | skip
   rename_i c
   simp only at he
   cases c with
   | true=>cases e1 <;> simp only [cond_true,z52,oJ,pJ,reduceCtorEq] at he; rw [← he.2]; exact SameC.set (by rw [ho]; rfl)
   | false=>cases e0 <;> simp only [cond_false,z52,oJ,pJ,reduceCtorEq] at he; rw [← he.2]; exact SameC.set (by rw [ho]; rfl)
  ·rename_i ks vs ho
   cases hbd:boolD (E.ti _).d with
   | true=>rw [hbd] at he; cases he
   | false =>
   rw [hbd] at he
   simp only [cond_false] at he
   obtain ⟨ka,va,he⟩:=putC_some he
   simp only [oJ,pJ] at he
   rw [← he.2]
   exact SameC.set (by rw [ho]; rfl)
  ·rename_i ks vs ho
   cases hbd:boolD (E.ti _).d with
   | true=>rw [hbd] at he; cases he
   | false =>
   rw [hbd] at he
   simp only [cond_false] at he
   split at he
   ·rename_i x' o1 hpx
    split at he
    ·rename_i ks' vs' ho'
     obtain ⟨q,_,he⟩:=zb he
     simp only [oJ,pJ] at he
     rw [← he.2]
     exact (zln _ _ _ _ _ hpx).trans (SameC.set (by rw [ho']; rfl))
    ·cases he
   ·cases he
  ·cases he
 rename_i c
 obtain ⟨callee,args,ats⟩:=c
 cases callee <;> (try simp only at h) <;> first | (cases h; done) | skip
 unfold execP at he
 simp only at he
 unfold askR at he
 rename_i f
 cases ha:callAsk E type (ev T f) (args.toList.map (ev T)) objs with
 | none=>rw [ha] at he; cases he
 | some k =>
 rw [ha] at he
 simp only [oB] at he
 cases hc:C k.tis k.f k.args with
 | none=>rw [hc] at he; cases he
 | some v =>
 rw [hc] at he
 simp only [Option.map_some,oJ,pJ] at he
 rw [← he.2]
 unfold callAsk at ha
 cases hp:plainFn E (ev T f) with
 | true =>
  rw [hp] at ha
  simp only [cond_true] at ha
  cases hq:allB plainPV (args.toList.map (ev T)) with
  | false=>rw [hq] at ha; cases ha
  | true =>
   rw [hq] at ha
   simp only [cond_true,oJ] at ha
   subst ha; exact .refl _
 | false =>
 rw [hp] at ha
 simp only [cond_false] at ha
 split at ha
 ·rename_i f' o1 h1
  split at ha
  ·rename_i a' o2 h2
   simp only [oJ] at ha
   subst ha
   simp only
   cases allB (fun ti=>allB z1t ti.leaves) (resTIs E type) with
   | true=>exact .refl _
   | false=>exact (zln _ _ _ _ _ h1).trans (z6m _ _ _ _ _ h2)
  ·cases ha
 ·cases ha
theorem same_cases {o o2:List Obj} (h:SameC o o2) (i:Nat) :
  (∃ e l a b,nthD .dead o i=.cells e l a∧nthD .dead o2 i=.cells e l b)∨(∃ e s l a b c,nthD .dead o i=.row e s l a c∧nthD .dead o2 i=.row e s l b c) ∨
  (∃ ks vs im a ks' vs' im' b,nthD .dead o i=.map ks vs im a∧nthD .dead o2 i=.map ks' vs' im' b)∨(∃ a b a' b',nthD .dead o i=.bmap a b∧nthD .dead o2 i=.bmap a' b')∨nthD .dead o i=nthD .dead o2 i:=by
 have:=h i
 cases h1:nthD .dead o i <;> cases h2:nthD .dead o2 i <;> rw [h1,h2] at this <;> simp only [z1c3] at this <;> try (cases this; done)
 all_goals first
  | exact .inr (.inr (.inr (.inr rfl)))
  | exact .inr (.inr (.inl ⟨_,_,_,_,_,_,_,_,rfl,rfl⟩))
  | exact .inr (.inr (.inr (.inl ⟨_,_,_,_,rfl,rfl⟩)))
  | (cases this; exact .inl ⟨_,_,_,_,rfl,rfl⟩)
  | (cases this; exact .inr (.inl ⟨_,_,_,_,_,_,rfl,rfl⟩))
  | (cases this; exact .inr (.inr (.inr (.inr rfl))))
theorem z1l7 (t:Nat) (v:PV) {objs objs2:List Obj} (h:SameC objs objs2):loadK E t objs v some=loadK E t objs2 v some:=by
 unfold loadK
 cases v <;> first | rfl | skip
 case ptr i off=>rcases same_cases h i with ⟨_,_,_,_,h1,h2⟩ | ⟨_,_,_,_,_,_,h1,h2⟩ | ⟨_,_,_,_,_,_,_,_,h1,h2⟩ | ⟨_,_,_,_,h1,h2⟩ | h1 <;> first | (simp only [h1,h2]; done) | (simp only [h1]; done)
 case rptr i k off=>rcases same_cases h i with ⟨_,_,_,_,h1,h2⟩ | ⟨_,_,_,_,_,_,h1,h2⟩ | ⟨_,_,_,_,_,_,_,_,h1,h2⟩ | ⟨_,_,_,_,h1,h2⟩ | h1 <;> first | (simp only [h1,h2]; done) | (simp only [h1]; done)
theorem z153 (t f:Nat) (v:PV) {objs objs2:List Obj} (h:SameC objs objs2):z1p E t objs v f some=z1p E t objs2 v f some:=by
 unfold z1p
 cases v <;> first | rfl | skip
 case ptr i off=>rcases same_cases h i with ⟨_,_,_,_,h1,h2⟩ | ⟨_,_,_,_,_,_,h1,h2⟩ | ⟨_,_,_,_,_,_,_,_,h1,h2⟩ | ⟨_,_,_,_,h1,h2⟩ | h1 <;> first | (simp only [h1,h2]; done) | (simp only [h1]; done)
 case rptr i k off=>rcases same_cases h i with ⟨_,_,_,_,h1,h2⟩ | ⟨_,_,_,_,_,_,h1,h2⟩ | ⟨_,_,_,_,_,_,_,_,h1,h2⟩ | ⟨_,_,_,_,h1,h2⟩ | h1 <;> first | (simp only [h1,h2]; done) | (simp only [h1]; done)
theorem z16s (v:PV) {objs objs2:List Obj} (h:SameC objs objs2):z4m objs v some=z4m objs2 v some:=by
 unfold z4m
 cases v <;> first | rfl | skip
 case ptr i off=>rcases same_cases h i with ⟨_,_,_,_,h1,h2⟩ | ⟨_,_,_,_,_,_,h1,h2⟩ | ⟨_,_,_,_,_,_,_,_,h1,h2⟩ | ⟨_,_,_,_,h1,h2⟩ | h1 <;> first | (simp only [h1,h2]; done) | (simp only [h1]; done)
 case rptr i k off=>rcases same_cases h i with ⟨_,_,_,_,h1,h2⟩ | ⟨_,_,_,_,_,_,h1,h2⟩ | ⟨_,_,_,_,_,_,_,_,h1,h2⟩ | ⟨_,_,_,_,h1,h2⟩ | h1 <;> first | (simp only [h1,h2]; done) | (simp only [h1]; done)
theorem z1db {o:Oper} {T:List PV} (h:peekB E o=true):lookB E o=true:=by
 unfold peekB at h
 unfold lookB
 cases hs:z2a E o.op with
 | some s=>rw [hs] at h; cases h
 | none =>
 rw [hs] at h
 simp only at h ⊢
 obtain ⟨dst,op,type,pos,after,guard⟩:=o
 simp only at h ⊢
 cases op <;> (try simp only at h) <;> first | rfl | (cases h; done)
theorem z1da {o:Oper} {T:List PV} (h:peekB E o=true) {objs objs2:List Obj} (ha:SameC objs objs2) :
  execD E C T objs2 o=(execD E C T objs o).map fun p=>(p.1,objs2):=by
 unfold peekB at h
 unfold execD
 cases hs:z2a E o.op with
 | some s=>rw [hs] at h; cases h
 | none =>
 rw [hs] at h
 simp only at h ⊢
 obtain ⟨dst,op,type,pos,after,guard⟩:=o
 simp only at h
 cases op <;> (try simp only at h) <;> first | (cases h; done) | skip
 all_goals unfold execP
 all_goals simp only [opD,opK]
 case load t x=>rw [z3y,z3y (k:=fun v=>some (v,objs))]; exact z25 (z1l7 t _ ha)
 case nilCheck x=>rw [z1y,z1y (k:=fun v=>some (v,objs))]; exact z25 (z16s _ ha)
 case fieldAddr t x f=>rw [z1h,z1h (k:=fun v=>some (v,objs))]; exact z25 (z153 t f _ ha)
def insO (c:Bool) (x:PV) (e0 e1:Option PV):Obj:=.bmap (bif c then e0 else some x) (bif c then some x else e1)
theorem bmap_lt {objs:List Obj} {i:Nat} {e0 e1:Option PV} (h:nthD .dead objs i=.bmap e0 e1):i<objs.length:=by
 rcases Nat.lt_or_ge i objs.length with h' | h'
 ·exact h'
 ·rw [zhi _ _ _ h'] at h; cases h
theorem z1j3 {o:Oper} {T:List PV} (h:insB E o=true) {objs objs':List Obj} {p:PV} (he:execD E C T objs o=some (p,objs')) :
  p=.tuple []∧∃ i c x,(∃ e0 e1,nthD .dead objs i=.bmap e0 e1∧(bif c then e1 else e0)=none∧objs'=setN objs i (insO c x e0 e1)) ∧
   ∀ objs2 f0 f1,nthD .dead objs2 i=.bmap f0 f1→(bif c then f1 else f0)=none→execD E C T objs2 o=some (.tuple [],setN objs2 i (insO c x f0 f1)):=by
 unfold insB at h
 unfold execD at he ⊢
 cases hs:z2a E o.op with
 | some s=>rw [hs] at h; cases h
 | none =>
 rw [hs] at h he
 simp only at h he ⊢
 obtain ⟨dst,op,type,pos,after,guard⟩:=o
 simp only at h
 cases op <;> (try simp only at h) <;> first | (cases h; done) | skip
 rename_i t m ix x
 unfold execP at he ⊢
 simp only [opD,opK] at he ⊢
 cases hd:(E.ti t).d <;> rw [hd] at h <;> first | (cases h; done) | skip
 rename_i kt et
 simp only at h
 unfold z8o at he ⊢
 rw [hd] at he
 simp only [hd] at he ⊢
 cases hm:ev T m <;> rw [hm] at he <;> first | (cases he; done) | skip
 rename_i i
 simp only at he ⊢
 cases hk:keyOk (E.ti kt).d (ev T ix) with
 | false=>rw [hk] at he; cases he
 | true =>
 rw [hk] at he
 simp only [Bool.not_true,cond_false,h,cond_true] at he ⊢
 split at he
 ·rename_i e0 e1 ho
  cases hkey:ev T ix <;> rw [hkey] at he <;> first | (cases he; done) | skip
  rename_i c
  simp only at he
  have h':(bif c then e1 else e0)=none∧p=.tuple []∧objs'=setN objs i (insO c (ev T x) e0 e1):=by
   cases c with
   | true=>cases e1 <;> simp only [cond_true,z52,oJ,pJ,reduceCtorEq] at he; exact ⟨rfl,he.1.symm,he.2.symm⟩
   | false=>cases e0 <;> simp only [cond_false,z52,oJ,pJ,reduceCtorEq] at he; exact ⟨rfl,he.1.symm,he.2.symm⟩
  refine ⟨h'.2.1,i,c,ev T x,⟨e0,e1,ho,h'.1,h'.2.2⟩,fun objs2 f0 f1 g1 g2=>?_⟩
  rw [g1]
  simp only
  cases c with
  | true=>simp only [cond_true] at g2 ⊢; subst g2; rfl
  | false=>simp only [cond_false] at g2 ⊢; subst g2; rfl
 ·cases he
 ·cases he
 ·cases he
theorem oneR_comm {ops:Array Oper} {T0:List PV} {i j:Nat} {oi oj:Oper} (hi:ops[i]?=some oi) (hj:ops[j]?=some oj) (hap:oi.apart ops oj=true) (hcls:clsOk E ops T0 oi oj=true) {s s1 s2:RSt} (ht:Tight s) (hI:Inv ops T0 s.1) (hFi:Fr T0 s.1 oi) (hFj:Fr T0 s.1 oj) (h1:oneR E C ops i s=some s1) (h2:oneR E C ops j s1=some s2) :
  ∃ s1',oneR E C ops j s=some s1'∧oneR E C ops i s1'=some s2:=by
 obtain ⟨a1,a2,a3⟩:=Oper.apart_spec hap
 rw [zk6 hi] at h1
 cases hv:valR E C ops oi s.1 s.2 with
 | none=>rw [hv] at h1; cases h1
 | some pi =>
 rw [hv] at h1
 simp only [Option.map_some,oJ] at h1
 subst h1
 rw [zk6 hj] at h2
 simp only at h2
 have a2':∀ d,oj.dst=some d→oi.dst≠some d:=fun d h1 h2=>a2 d h2 h1
 rw [z1h7 _ a1 a2] at h2
 cases hw:valR E C ops oj s.1 pi.2 with
 | none=>rw [hw] at h2; cases h2
 | some pj =>
 rw [hw] at h2
 simp only [Option.map_some,oJ] at h2
 subst h2
 have fin:∀ oj',valR E C ops oj s.1 s.2=some (pj.1,oj')→valR E C ops oi s.1 oj'=some (pi.1,pj.2)→∃ s1',oneR E C ops j s=some s1'∧oneR E C ops i s1'=some (putT (putT s.1 oi.dst pi.1) oj.dst pj.1,pj.2):=by
  intro oj' e1 e2
  refine ⟨(putT s.1 oj.dst pj.1,oj'),by rw [zk6 hj,e1]; rfl,?_⟩
  rw [zk6 hi]
  simp only
  rw [z1h7 _ a3 a2',e2,putT_comm s.1 pi.1 pj.1 a2]
  rfl
 obtain ⟨pi1,pi2⟩:=pi
 obtain ⟨pj1,pj2⟩:=pj
 simp only at hv hw fin ⊢
 unfold clsOk at hcls
 simp only [Bool.or_eq_true,Bool.and_eq_true] at hcls
 rcases hcls with ((((⟨hi1,hi2⟩ | hcls) | ⟨hal,hlk⟩) | ⟨hlk,hal⟩) | ⟨hal,hlk⟩) | ⟨hlk,hal⟩
 ·
  unfold valR at hv hw
  cases hgi:guardOf s.1 ops oi with
  | none=>rw [hgi] at hv; cases hv
  | some bi =>
  cases hgj:guardOf s.1 ops oj with
  | none=>rw [hgj] at hw; cases hw
  | some bj =>
  rw [hgi] at hv; rw [hgj] at hw
  cases bi with
  | false =>
   simp only [oB,cond_false,oJ,pJ] at hv
   obtain ⟨rfl,rfl⟩:=hv
   refine fin pj2 (by unfold valR; rw [hgj]; exact hw) (by unfold valR; rw [hgi]; rfl)
  | true =>
   simp only [oB,cond_true] at hv
   cases bj with
   | false =>
    simp only [oB,cond_false,oJ,pJ] at hw
    obtain ⟨rfl,rfl⟩:=hw
    exact fin s.2 (by unfold valR; rw [hgj]; rfl) (by unfold valR; rw [hgi]; exact hv)
   | true =>
    simp only [oB,cond_true] at hw
    obtain ⟨rfl,a,c,x,⟨e0,e1,b1,b2,rfl⟩,b3⟩:=z1j3 hi1 hv
    obtain ⟨rfl,a',c',x',⟨f0,f1,d1,d2,rfl⟩,d3⟩:=z1j3 hi2 hw
    by_cases haa:a=a'
    ·subst haa
     rw [z8 _ _ _ _ (bmap_lt b1)] at d1
     unfold insO at d1
     simp only [Obj.bmap.injEq] at d1
     obtain ⟨rfl,rfl⟩:=d1
     have hcc:c'=!c:=by cases c <;> cases c' <;> simp only [cond_true,cond_false,reduceCtorEq] at d2 <;> rfl
     subst hcc
     refine fin (setN s.2 a (insO (!c) x' e0 e1)) (by unfold valR; rw [hgj]; exact d3 _ e0 e1 b1 (by cases c <;> exact d2)) ?_
     unfold valR; rw [hgi]
     simp only [oB,cond_true]
     rw [b3 (setN s.2 a (insO (!c) x' e0 e1)) _ _ (by rw [z8 _ _ _ _ (bmap_lt b1)]; rfl) (by cases c <;> exact b2)]
     simp only [z2z,List.set_set]
     cases c <;> rfl
    ·rw [zd _ _ _ _ _ haa] at d1
     refine fin (setN s.2 a' (insO c' x' f0 f1)) (by unfold valR; rw [hgj]; exact d3 _ f0 f1 d1 d2) ?_
     unfold valR; rw [hgi]
     simp only [oB,cond_true]
     rw [b3 (setN s.2 a' (insO c' x' f0 f1)) e0 e1 (by rw [zd _ _ _ _ _ (Ne.symm haa)]; exact b1) b2]
     simp only [z2z]
     rw [List.set_comm _ _ haa]
 rotate_left
 ·
  unfold valR at hv hw
  cases hgi:guardOf s.1 ops oi with
  | none=>rw [hgi] at hv; cases hv
  | some bi =>
  cases hgj:guardOf s.1 ops oj with
  | none=>rw [hgj] at hw; cases hw
  | some bj =>
  rw [hgi] at hv; rw [hgj] at hw
  cases bi with
  | false =>
   simp only [oB,cond_false,oJ,pJ] at hv
   obtain ⟨rfl,rfl⟩:=hv
   refine fin pj2 (by unfold valR; rw [hgj]; exact hw) (by unfold valR; rw [hgi]; rfl)
  | true =>
   simp only [oB,cond_true] at hv
   obtain ⟨ob,rfl,hall⟩:=z18o hal hv
   cases bj with
   | false =>
    simp only [oB,cond_false,oJ,pJ] at hw
    obtain ⟨rfl,rfl⟩:=hw
    exact fin s.2 (by unfold valR; rw [hgj]; rfl) (by unfold valR; rw [hgi]; exact hv)
   | true =>
    simp only [oB,cond_true] at hw
    rw [zzm hlk (z1ev ob (fun x i hi=>ht x i hi))] at hw
    cases hx:execD E C s.1 s.2 oj with
    | none=>rw [hx] at hw; cases hw
    | some q =>
    rw [hx] at hw
    obtain ⟨q1,q2⟩:=q
    simp only [Option.map_some,oJ,pJ] at hw
    obtain ⟨rfl,rfl⟩:=hw
    obtain rfl:=zxj hlk hx
    exact fin _ (by unfold valR; rw [hgj]; exact hx) (by unfold valR; rw [hgi]; exact hv)
 ·
  unfold valR at hv hw
  cases hgi:guardOf s.1 ops oi with
  | none=>rw [hgi] at hv; cases hv
  | some bi =>
  cases hgj:guardOf s.1 ops oj with
  | none=>rw [hgj] at hw; cases hw
  | some bj =>
  rw [hgi] at hv; rw [hgj] at hw
  cases bi with
  | false =>
   simp only [oB,cond_false,oJ,pJ] at hv
   obtain ⟨rfl,rfl⟩:=hv
   refine fin pj2 (by unfold valR; rw [hgj]; exact hw) (by unfold valR; rw [hgi]; rfl)
  | true =>
   simp only [oB,cond_true] at hv
   obtain rfl:=zxj hlk hv
   cases bj with
   | false =>
    simp only [oB,cond_false,oJ,pJ] at hw
    obtain ⟨rfl,rfl⟩:=hw
    exact fin s.2 (by unfold valR; rw [hgj]; rfl) (by unfold valR; rw [hgi]; exact hv)
   | true =>
    simp only [oB,cond_true] at hw
    obtain ⟨ob,rfl,hall⟩:=z18o hal hw
    refine fin (s.2++[ob]) (by unfold valR; rw [hgj]; exact hw) ?_
    unfold valR
    rw [hgi]
    simp only [oB,cond_true]
    rw [zzm hlk (z1ev ob (fun x i hi=>ht x i hi)),hv]
    rfl
 ·
  unfold valR at hv hw
  cases hgi:guardOf s.1 ops oi with
  | none=>rw [hgi] at hv; cases hv
  | some bi =>
  cases hgj:guardOf s.1 ops oj with
  | none=>rw [hgj] at hw; cases hw
  | some bj =>
  rw [hgi] at hv; rw [hgj] at hw
  cases bi with
  | false =>
   simp only [oB,cond_false,oJ,pJ] at hv
   obtain ⟨rfl,rfl⟩:=hv
   refine fin pj2 (by unfold valR; rw [hgj]; exact hw) (by unfold valR; rw [hgi]; rfl)
  | true =>
   simp only [oB,cond_true] at hv
   have hsm:=z1ej hal hv
   cases bj with
   | false =>
    simp only [oB,cond_false,oJ,pJ] at hw
    obtain ⟨rfl,rfl⟩:=hw
    exact fin s.2 (by unfold valR; rw [hgj]; rfl) (by unfold valR; rw [hgi]; exact hv)
   | true =>
    simp only [oB,cond_true] at hw
    rw [z1da hlk hsm] at hw
    cases hx:execD E C s.1 s.2 oj with
    | none=>rw [hx] at hw; cases hw
    | some q =>
    rw [hx] at hw
    obtain ⟨q1,q2⟩:=q
    simp only [Option.map_some,oJ,pJ] at hw
    obtain ⟨rfl,rfl⟩:=hw
    obtain rfl:=zxj (z1db (T:=s.1) hlk) hx
    exact fin _ (by unfold valR; rw [hgj]; exact hx) (by unfold valR; rw [hgi]; exact hv)
 ·
  unfold valR at hv hw
  cases hgi:guardOf s.1 ops oi with
  | none=>rw [hgi] at hv; cases hv
  | some bi =>
  cases hgj:guardOf s.1 ops oj with
  | none=>rw [hgj] at hw; cases hw
  | some bj =>
  rw [hgi] at hv; rw [hgj] at hw
  cases bi with
  | false =>
   simp only [oB,cond_false,oJ,pJ] at hv
   obtain ⟨rfl,rfl⟩:=hv
   refine fin pj2 (by unfold valR; rw [hgj]; exact hw) (by unfold valR; rw [hgi]; rfl)
  | true =>
   simp only [oB,cond_true] at hv
   obtain rfl:=zxj (z1db (T:=s.1) hlk) hv
   cases bj with
   | false =>
    simp only [oB,cond_false,oJ,pJ] at hw
    obtain ⟨rfl,rfl⟩:=hw
    exact fin s.2 (by unfold valR; rw [hgj]; rfl) (by unfold valR; rw [hgi]; exact hv)
   | true =>
    simp only [oB,cond_true] at hw
    refine fin pj2 (by unfold valR; rw [hgj]; exact hw) ?_
    unfold valR
    rw [hgi]
    simp only [oB,cond_true]
    rw [z1da hlk (z1ej hal hw),hv]
    rfl
 cases ei:effOf E ops T0 oi with
 | free =>
  obtain ⟨rfl,hall⟩:=z12a ei hv
  exact fin pj2 hw (hall pj2)
 | any =>
  rw [ei] at hcls
  cases ej:effOf E ops T0 oj with
  | free =>
   obtain ⟨rfl,hall⟩:=z12a ej hw
   exact fin s.2 (hall s.2) hv
  | reads r =>
   rw [ej] at hcls
   obtain ⟨rfl,hr⟩:=zwl hI ej hw
   match r,hcls with
   | some none,_=>exact fin s.2 (hr none rfl _ (fun m hm=>by cases hm)) hv
  | _=>rw [ej] at hcls; cases hcls
 | reads r =>
  rw [ei] at hcls
  obtain ⟨rfl,hr⟩:=zwl hI ei hv
  cases ej:effOf E ops T0 oj with
  | free =>
   obtain ⟨rfl,hall⟩:=z12a ej hw
   exact fin s.2 hw hv
  | reads r' =>
   obtain ⟨rfl,_⟩:=zwl hI ej hw
   exact fin s.2 hw hv
  | writes k =>
   rw [ej] at hcls
   obtain ⟨u,rfl,hu,_⟩:=zz0 hI hFj ej hw
   cases r with
   | none=>cases hcls
   | some r =>
    refine fin (u s.2) hw (hr r rfl _ (fun m hm=>?_))
    subst hm
    simp only [effOk,Bool.not_eq_true',beq_eq_false_iff_ne] at hcls
    exact (u_nth hu (Ne.symm hcls) s.2).symm
  | any =>
   rw [ej] at hcls
   match r,hcls,hr with
   | some none,_,hr=>exact fin pj2 hw (hr none rfl _ (fun m hm=>by cases hm))
 | writes k =>
  rw [ei] at hcls
  obtain ⟨u,rfl,hu,hua⟩:=zz0 hI hFi ei hv
  cases ej:effOf E ops T0 oj with
  | free =>
   obtain ⟨rfl,hall⟩:=z12a ej hw
   exact fin s.2 (hall s.2) hv
  | reads r =>
   rw [ej] at hcls
   obtain ⟨rfl,hr⟩:=zwl hI ej hw
   cases r with
   | none=>cases hcls
   | some r =>
    refine fin s.2 (hr r rfl _ (fun m hm=>?_)) hv
    subst hm
    simp only [effOk,Bool.not_eq_true',beq_eq_false_iff_ne] at hcls
    exact u_nth hu (Ne.symm hcls) s.2
  | writes k' =>
   rw [ej] at hcls
   simp only [effOk,Bool.not_eq_true',beq_eq_false_iff_ne] at hcls
   obtain ⟨u',rfl,hu',hua'⟩:=zz0 hI hFj ej hw
   refine fin (u' s.2) (hua' s.2 (u_nth hu hcls s.2).symm) ?_
   rw [hua (u' s.2) (u_nth hu' (Ne.symm hcls) s.2),u_comm hu hu' hcls]
  | any=>rw [ej] at hcls; cases hcls
theorem z1b2 {t f j off:Nat} {objs:List Obj} {p:PV×List Obj} (e:(z1p E t objs (.ptr j off) f fun u=>some (u,objs))=some p):∃ o,p.1=.ptr j o:=by
 unfold z1p at e
 split at e
 ·rename_i o ft _
  cases hc:(!(E.ti ft).d.known||(z6c E ft == 0)) with
  | true=>rw [hc] at e; cases e
  | false =>
   rw [hc] at e
   simp only [cond_false] at e
   split at e <;> first | (cases e; done) | (simp only [oJ] at e; subst e; exact ⟨_,rfl⟩)
 ·cases e
theorem z1b1 {t f:Nat} {j:Option Nat} {v:PV} {objs:List Obj} {p:PV×List Obj} (hb:refOf v=none∨refOf v=j) (e:(z1p E t objs v f fun u=>some (u,objs))=some p):refOf p.1=none∨refOf p.1=j:=by
 unfold z1p at e
 split at e
 ·rename_i o ft _
  cases hc:(!(E.ti ft).d.known||(z6c E ft == 0)) with
  | true=>rw [hc] at e; cases e
  | false =>
   rw [hc] at e
   simp only [cond_false] at e
   cases v <;> simp only at e <;> try (cases e; done)
   case ptr i off=>split at e <;> first | (cases e; done) | (simp only [oJ] at e; subst e; exact hb)
   case rptr i k off=>split at e <;> first | (cases e; done) | (simp only [oJ] at e; subst e; exact hb)
   case ref l off=>simp only [oJ] at e; subst e; exact .inl rfl
   case opq v off =>
    cases hv:v.refR with
    | none=>rw [hv] at e; cases e
    | some _=>rw [hv] at e; simp only [oB,oJ] at e; subst e; exact .inl rfl
 ·cases e
theorem z1dk {j:Option Nat} {v:PV} {objs:List Obj} {p:PV×List Obj} (hb:refOf v=none∨refOf v=j) (e:(z4m objs v fun u=>some (u,objs))=some p):refOf p.1=none∨refOf p.1=j:=by
 unfold z4m at e
 cases v <;> simp only at e <;> try (cases e; done)
 case ptr i off=>split at e <;> first | (cases e; done) | (simp only [oJ] at e; subst e; exact hb)
 case rptr i k off=>split at e <;> first | (cases e; done) | (simp only [oJ] at e; subst e; exact hb)
 case ref l off=>simp only [oJ] at e; subst e; exact .inl rfl
 case opq v off =>
  cases hv:v.refR with
  | none=>rw [hv] at e; cases e
  | some _=>rw [hv] at e; simp only [oB,oJ] at e; subst e; exact .inl rfl
theorem z1ap {t:Nat} {j:Option Nat} {v ix:PV} {objs:List Obj} {p:PV×List Obj} (hb:refOf v=none∨refOf v=j) (e:(z56 E t objs v ix fun u=>some (u,objs))=some p):refOf p.1=none∨refOf p.1=j:=by
 rw [z26] at e
 obtain ⟨q,hq,e⟩:=zb e
 simp only [oJ] at e
 subst e
 simp only
 unfold z56 at hq
 split at hq
 ·rename_i e' k i _
  cases hk:(E.ti e').d.known with
  | false=>rw [hk] at hq; cases hq
  | true =>
  rw [hk] at hq
  simp only [Bool.not_true,cond_false] at hq
  split at hq
  ·rename_i s l
   left
   cases hc:(s == (E.ti e').size||isNilL l) with
   | false=>rw [hc] at hq; cases hq
   | true =>
    rw [hc] at hq
    simp only [cond_true] at hq
    obtain ⟨x,_,hx⟩:=zb hq
    simp only [oJ] at hx
    subst hx; rfl
  ·rename_i j'
   split at hq
   ·rename_i u s l fz cap _
    cases hc:(s == (E.ti e').size) with
    | false=>rw [hc] at hq; cases hq
    | true =>
     rw [hc] at hq
     simp only [cond_true] at hq
     obtain ⟨_,hq⟩:=zc hq
     simp only [oJ] at hq
     subst hq
     exact hb
   ·cases hq
  ·rename_i j' off len lim
   split at hq
   ·rename_i u s l fz cap _
    cases hc:(s == (E.ti e').size) with
    | false=>rw [hc] at hq; cases hq
    | true =>
     rw [hc] at hq
     simp only [cond_true] at hq
     obtain ⟨_,hq⟩:=zc hq
     simp only [oJ] at hq
     subst hq
     exact hb
   ·cases hq
  ·cases hq
 ·rename_i n e' k i _
  cases hk:(E.ti e').d.known with
  | false=>rw [hk] at hq; cases hq
  | true =>
  rw [hk] at hq
  simp only [Bool.not_true,cond_false] at hq
  split at hq
  ·rename_i j'
   split at hq
   ·rename_i u s l fz cap _
    cases hc:(s == (E.ti e').size) with
    | false=>rw [hc] at hq; cases hq
    | true =>
     rw [hc] at hq
     simp only [cond_true] at hq
     obtain ⟨_,hq⟩:=zc hq
     simp only [oJ] at hq
     subst hq
     exact hb
   ·cases hq
  ·cases hq
 ·cases hq
theorem z10e {i n:Nat} {lo hi mx:Option PV} {q:PV} (h:z9i i n lo hi mx some=some q):refOf q=some i:=by
 unfold z9i at h
 split at h <;> first | (cases h; done) | skip
 ·simp only [oJ] at h; subst h; rfl
 all_goals
  obtain ⟨_,h⟩:=zc h
  simp only [oJ] at h
  subst h; rfl
theorem z10g {n t:Nat} {j:Option Nat} {v:PV} {objs:List Obj} {lo hi mx:Option PV} {q:PV} (hb:refOf v=none∨refOf v=j) (h:z9j E n t objs v lo hi mx some=some q):refOf q=none∨refOf q=j:=by
 unfold z9j at h
 split at h
 ·rename_i i
  split at h
  ·rename_i s l fz c _
   cases hc:((E.ti t).d.known&&(s == (E.ti t).size)) with
   | false=>rw [hc] at h; cases h
   | true =>
    rw [hc] at h
    simp only [cond_true] at h
    obtain ⟨_,h⟩:=zc h
    obtain ⟨_,h⟩:=zc h
    rw [z10e h]; exact hb
  ·cases h
 ·cases h
theorem slice_ref {t:Nat} {j:Option Nat} {v:PV} {objs:List Obj} {lo hi mx:Option PV} {p:PV×List Obj} (hb:refOf v=none∨refOf v=j) (e:(zk2 E t objs v lo hi mx fun u=>some (u,objs))=some p):refOf p.1=none∨refOf p.1=j:=by
 rw [z6q] at e
 obtain ⟨q,hq,e⟩:=zb e
 simp only [oJ] at e
 subst e
 simp only
 unfold zk2 at hq
 split at hq
 ·split at hq
  ·rename_i s
   left
   unfold zk1 at hq
   split at hq <;> first | (cases hq; done) | skip
   ·simp only [oJ] at hq; subst hq; rfl
   all_goals
    obtain ⟨x,_,hx⟩:=zb hq
    simp only [oJ] at hx
    subst hx; rfl
  ·cases hq
 ·rename_i e' _
  cases hk:(E.ti e').d.known with
  | false=>rw [hk] at hq; cases hq
  | true =>
  rw [hk] at hq
  simp only [Bool.not_true,cond_false] at hq
  split at hq
  ·rename_i sz l
   left
   cases hc:(sz == (E.ti e').size||isNilL l) with
   | false=>rw [hc] at hq; cases hq
   | true =>
    rw [hc] at hq
    simp only [cond_true] at hq
    unfold zs5 at hq
    split at hq <;> first | (cases hq; done) | skip
    all_goals first
     | (simp only [oJ] at hq; subst hq; rfl)
     | (obtain ⟨x,_,hx⟩:=zb hq
        simp only [oJ] at hx
        subst hx; rfl)
     | (obtain ⟨_,hq⟩:=zc hq
        simp only [oJ] at hq
        subst hq; rfl)
  ·left
   unfold zej at hq
   split at hq <;> first | (cases hq; done) | skip
   all_goals first
    | (simp only [oJ] at hq; subst hq; rfl)
    | (obtain ⟨_,hq⟩:=zc hq
       simp only [oJ] at hq
       subst hq; rfl)
  ·left
   unfold zej at hq
   split at hq <;> first | (cases hq; done) | skip
   all_goals first
    | (simp only [oJ] at hq; subst hq; rfl)
    | (obtain ⟨_,hq⟩:=zc hq
       simp only [oJ] at hq
       subst hq; rfl)
  ·rename_i i
   split at hq
   ·rename_i u s l fz cap _
    cases hc:(s == (E.ti e').size) with
    | false=>rw [hc] at hq; cases hq
    | true =>
     rw [hc] at hq
     rw [z10e hq]; exact hb
   ·cases hq
  ·rename_i i m
   split at hq
   ·cases hc:((E.ti e').size == 1) with
    | false=>rw [hc] at hq; cases hq
    | true =>
     rw [hc] at hq
     simp only [cond_true] at hq
     obtain ⟨_,hq⟩:=zc hq
     simp only [oJ] at hq
     subst hq; exact hb
   ·cases hq
  ·rename_i i off len
   split at hq
   ·rename_i u s l fz cap _
    cases hc:(s == (E.ti e').size) with
    | false=>rw [hc] at hq; cases hq
    | true =>
     rw [hc] at hq
     simp only [cond_true] at hq
     unfold zh2 at hq
     split at hq <;> first | (cases hq; done) | skip
     ·simp only [oJ] at hq; subst hq; exact hb
     all_goals
      obtain ⟨_,hq⟩:=zc hq
      simp only [oJ] at hq
      subst hq; exact hb
   ·cases hq
  ·cases hq
 ·split at hq
  ·exact z10g hb hq
  ·cases hq
 ·exact z10g hb hq
 ·cases hq
theorem z1et {t d j:Nat} {T:List PV} {objs:List Obj} {p:PV×List Obj} (hT:nthD .undef T d=.resv j)
  (e:(bif (E.ti t).d.known then zn1 E t (dstV T (some d)) objs (fun v o=>some (v,o)) else none)=some p):p.1=.ptr j 0:=by
 cases hk:(E.ti t).d.known with
 | false=>rw [hk] at e; cases e
 | true =>
 rw [hk] at e
 simp only [cond_true,dstV,hT] at e
 unfold zn1 at e
 simp only at e
 split at e
 ·cases e
 ·cases hs:allB PV.scalar (E.ti t).zero.cellsL with
  | false=>rw [hs] at e; cases e
  | true=>rw [hs] at e; simp only [cond_true,oJ] at e; rw [← e]
 ·cases e
theorem alloc_ptr {t d j:Nat} {T:List PV} {objs:List Obj} {p:PV×List Obj} (hT:nthD .undef T d=.resv j)
  (e:(bif (E.ti t).d.known then zn1 E t (dstV T (some d)) objs (fun v o=>some (v,o)) else none)=some p):refOf p.1=some j:=by
 rw [z1et hT e]; rfl
theorem z1ia {ops:Array Oper} {T0:List PV} {i:Nat} {s s1:RSt} (hI:Inv ops T0 s.1) (hF:∀ o,ops[i]?=some o→Fr T0 s.1 o) (h:oneR E C ops i s=some s1):Inv ops T0 s1.1:=by
 cases ho:ops[i]? with
 | none =>
  unfold oneR at h
  rw [ho] at h
  simp only [oJ] at h
  subst h; exact hI
 | some o =>
  rw [zk6 ho] at h
  cases hv:valR E C ops o s.1 s.2 with
  | none=>rw [hv] at h; cases h
  | some p =>
   rw [hv] at h
   simp only [Option.map_some,oJ] at h
   subst h
   refine ⟨fun a ha=>?_,fun n a j hd=>?_,fun a j hr=>?_,fun a j hr=>?_⟩
   ·have hne:=zk ha o (List.mem_of_getElem? (by rw [Array.getElem?_toList]; exact ho))
    cases hd:o.dst with
    | none=>exact hI.1 a ha
    | some d =>
     rw [hd] at hne
     simp only [Bool.not_eq_true',beq_eq_false_iff_ne] at hne
     simp only [putT]
     rw [zd _ _ _ _ _ hne]
     exact hI.1 a ha
   ·cases hdst:o.dst with
    | none=>exact hI.2.1 n a j hd
    | some d =>
    simp only [putT]
    by_cases hda:d=a
    ·subst hda
     cases n with
     | zero=>unfold derOf at hd; cases hd
     | succ n =>
     have hmem:o∈ops.toList.filter (z2n d):=by
      refine List.mem_filter.2 ⟨List.mem_of_getElem? (by rw [Array.getElem?_toList]; exact ho),?_⟩
      unfold z2n; rw [hdst]; simp
     unfold derOf at hd
     cases hr0:refOf (nthD .undef T0 d) with
     | some k=>rw [hr0] at hd; simp at hd
     | none =>
     rw [hr0] at hd
     have base:∀ (x:Operand),(match zol ops T0 x with | some v=>some (refOf v) | none=>derOf ops T0 n x)=some j→refOf (ev s.1 x)=none∨refOf (ev s.1 x)=j:=by
      intro x hx
      cases hs:zol ops T0 x with
      | some v=>rw [hs] at hx; rw [zlh hI hs]; simp only [oJ] at hx; exact .inr hx
      | none =>
       rw [hs] at hx
       cases x with
       | tmp b=>exact hI.2.1 n b j hx
       | _=>cases n <;> (unfold derOf at hx; cases hx)
     by_cases hlen:d<s.1.length
     ·rw [z8 _ _ _ _ hlen]
      split at hd
      ·rename_i o' _ hw
       rw [hw] at hmem
       simp only [List.mem_singleton] at hmem
       subst hmem
       unfold valR at hv
       cases hg:guardOf s.1 ops o with
       | none=>rw [hg] at hv; cases hv
       | some b =>
        rw [hg] at hv
        cases b with
        | false =>
         simp only [oB,cond_false,oJ] at hv
         subst hv; exact .inl rfl
        | true =>
         simp only [oB,cond_true] at hv
         obtain ⟨dst,op,type,pos,after,guard⟩:=o
         simp only at hd
         split at hd
         ·rename_i t
          split at hd
          case h_2=>cases hd
          rename_i i' h0
          simp only [oJ] at hd
          subst hd
          have hT:nthD .undef s.1 d=.resv i':=(hF _ ho t d rfl hdst).trans h0
          have e:(bif (E.ti t).d.known then zn1 E t (dstV s.1 dst) s.2 (fun v o=>some (v,o)) else none)=some p:=hv
          simp only at hdst
          rw [hdst] at e
          exact .inr (alloc_ptr (hT:=hT) e)
         ·rename_i t x f
          have hb:=base x hd
          have e:(z1p E t s.2 (ev s.1 x) f fun v=>some (v,s.2))=some p:=hv
          exact z1b1 hb e
         ·rename_i x
          have hb:=base x hd
          have e:(z4m s.2 (ev s.1 x) fun v=>some (v,s.2))=some p:=hv
          exact z1dk hb e
         ·rename_i x
          have hb:=base x hd
          have e:some (ev s.1 x,s.2)=some p:=hv
          simp only [oJ] at e
          subst e; exact hb
         ·rename_i t x ix
          have hb:=base x hd
          have e:(z56 E t s.2 (ev s.1 x) (ev s.1 ix) fun v=>some (v,s.2))=some p:=hv
          exact z1ap hb e
         ·rename_i t x lo hi mx
          have hb:=base x hd
          have e:(zk2 E t s.2 (ev s.1 x) (lo.map (ev s.1)) (hi.map (ev s.1)) (mx.map (ev s.1)) fun v=>some (v,s.2))=some p:=hv
          exact slice_ref hb e
         ·cases hd
      ·cases hd
     ·have:setN s.1 d p.1=s.1:=by rw [z2z]; exact List.set_eq_of_length_le (Nat.le_of_not_lt hlen)
      rw [this]
      exact hI.2.1 (n+1) d j (by unfold derOf; rw [hr0]; exact hd)
    ·rw [zd _ _ _ _ _ hda]
     exact hI.2.1 n a j hd
   ·cases hdst:o.dst with
    | none=>exact hI.2.2.1 a j hr
    | some d =>
    simp only [putT]
    by_cases hda:d=a
    ·subst hda
     obtain ⟨h0,o',t,hfl,hal⟩:=zvi hr
     have hmem:o∈ops.toList.filter (z2n d):=by
      refine List.mem_filter.2 ⟨List.mem_of_getElem? (by rw [Array.getElem?_toList]; exact ho),?_⟩
      unfold z2n; rw [hdst]; simp
     rw [hfl] at hmem
     simp only [List.mem_singleton] at hmem
     subst hmem
     by_cases hlen:d<s.1.length
     ·rw [z8 _ _ _ _ hlen]
      unfold valR at hv
      cases hg:guardOf s.1 ops o with
      | none=>rw [hg] at hv; cases hv
      | some b =>
       rw [hg] at hv
       cases b with
       | false =>
        simp only [oB,cond_false,oJ] at hv
        subst hv; exact .inr (.inl rfl)
       | true =>
        simp only [oB,cond_true] at hv
        have hT:nthD .undef s.1 d=.resv j:=(hF _ ho t d hal hdst).trans h0
        obtain ⟨dst,op,type,pos,after,guard⟩:=o
        simp only at hal hdst
        subst hal
        have e:(bif (E.ti t).d.known then zn1 E t (dstV s.1 dst) s.2 (fun v o=>some (v,o)) else none)=some p:=hv
        rw [hdst] at e
        exact .inr (.inr (z1et hT e))
     ·have:setN s.1 d p.1=s.1:=by rw [z2z]; exact List.set_eq_of_length_le (Nat.le_of_not_lt hlen)
      rw [this]
      exact hI.2.2.1 d j hr
    ·rw [zd _ _ _ _ _ hda]
     exact hI.2.2.1 a j hr
   ·cases hdst:o.dst with
    | none=>exact hI.2.2.2 a j hr
    | some d =>
    simp only [putT]
    by_cases hda:d=a
    ·subst hda
     obtain ⟨h0,o',t,x,f,off,hfl,hop,hsl⟩:=z18a hr
     have hmem:o∈ops.toList.filter (z2n d):=by
      refine List.mem_filter.2 ⟨List.mem_of_getElem? (by rw [Array.getElem?_toList]; exact ho),?_⟩
      unfold z2n; rw [hdst]; simp
     rw [hfl] at hmem
     simp only [List.mem_singleton] at hmem
     subst hmem
     by_cases hlen:d<s.1.length
     ·rw [z8 _ _ _ _ hlen]
      unfold valR at hv
      cases hg:guardOf s.1 ops o with
      | none=>rw [hg] at hv; cases hv
      | some b =>
       rw [hg] at hv
       cases b with
       | false =>
        simp only [oB,cond_false,oJ] at hv
        subst hv; exact .inl rfl
       | true =>
        simp only [oB,cond_true] at hv
        obtain ⟨dst,op,type,pos,after,guard⟩:=o
        simp only at hop hdst
        subst hop
        have e:(z1p E t s.2 (ev s.1 x) f fun v=>some (v,s.2))=some p:=hv
        rw [zlh hI hsl] at e
        exact .inr (z1b2 e)
     ·have:setN s.1 d p.1=s.1:=by rw [z2z]; exact List.set_eq_of_length_le (Nat.le_of_not_lt hlen)
      rw [this]
      exact hI.2.2.2 d j hr
    ·rw [zd _ _ _ _ _ hda]
     exact hI.2.2.2 a j hr
def Fresh (ops:Array Oper) (T0:List PV) (listed:Array Bool) (T:List PV):Prop:=∀ k o,ops[k]?=some o→listed.getD k true=false→Fr T0 T o
theorem zzb {α:Type} {p:α→Bool} {c:α}:∀ {l:List α} {i j:Nat} {a b:α},i<j→l[i]?=some a→l[j]?=some b→p a=true→p b=true→l.filter p≠[c]
 | [],i,j,a,b,_,h,_,_,_=>by simp at h
 | x::l,0,j+1,a,b,_,h1,h2,ha,hb=>by
  simp at h1 h2
  subst h1
  intro h
  simp only [List.filter_cons,ha,if_true,List.cons.injEq] at h
  have:=List.mem_filter.2 ⟨List.mem_of_getElem? h2,hb⟩
  rw [h.2] at this
  cases this
 | x::l,i+1,j+1,a,b,hij,h1,h2,ha,hb=>by
  simp at h1 h2
  intro h
  rw [List.filter_cons] at h
  split at h
  ·simp only [List.cons.injEq] at h
   have:=List.mem_filter.2 ⟨List.mem_of_getElem? h2,hb⟩
   rw [h.2] at this
   cases this
  ·exact zzb (by omega) h1 h2 ha hb h
theorem Fresh.set {ops:Array Oper} {T0:List PV} {listed:Array Bool} {j:Nat} {s s1:RSt} (hu:z1i3 ops=true) (hF:Fresh ops T0 listed s.1) (h:oneR E C ops j s=some s1):Fresh ops T0 (listed.setIfInBounds j true) s1.1:=by
 intro k o hk hl t d hal hd
 by_cases hjk:j=k
 ·subst hjk
  exfalso
  rw [Array.getD_eq_getD_getElem?,Array.getElem?_setIfInBounds] at hl
  split at hl
  ·split at hl <;> simp at hl
  ·rename_i h; exact h rfl
 ·rw [getD_set_ne true hjk] at hl
  have h0:=hF k o hk hl t d hal hd
  cases ho:ops[j]? with
  | none =>
   unfold oneR at h
   rw [ho] at h
   simp only [oJ] at h
   subst h; exact h0
  | some oj =>
   rw [zk6 ho] at h
   cases hv:valR E C ops oj s.1 s.2 with
   | none=>rw [hv] at h; cases h
   | some p =>
    rw [hv] at h
    simp only [Option.map_some,oJ] at h
    subst h
    simp only
    cases hdj:oj.dst with
    | none=>exact h0
    | some e =>
     simp only [putT]
     by_cases hed:e=d
     ·exfalso
      subst hed
      have hu1:=zk hu o (List.mem_of_getElem? (by rw [Array.getElem?_toList]; exact hk))
      rw [hal,hd] at hu1
      simp only at hu1
      have w1:z2n e o=true:=by unfold z2n; rw [hd]; simp
      have w2:z2n e oj=true:=by unfold z2n; rw [hdj]; simp
      have g1:ops.toList[k]?=some o:=by rw [Array.getElem?_toList]; exact hk
      have g2:ops.toList[j]?=some oj:=by rw [Array.getElem?_toList]; exact ho
      split at hu1
      ·rename_i c hc
       rcases Nat.lt_or_gt_of_ne hjk with hlt | hlt
       ·exact zzb hlt g2 g1 w2 w1 hc
       ·exact zzb hlt g1 g2 w1 w2 hc
      ·cases hu1
     ·rw [zd _ _ _ _ _ hed]; exact h0
def anyR (E:Env) (C:Orc) (ops:Array Oper) (r:RSt):Nat→Array Bool→RSt→Prop
 | 0,listed,s=>Region.ready .any ops listed=[]∧s=r
 | fuel+1,listed,s=>(Region.ready .any ops listed=[]→s=r)∧∀ i∈Region.ready .any ops listed,∃ s1,oneR E C ops i s=some s1∧anyR E C ops r fuel (listed.setIfInBounds i true) s1
inductive Dep (ops:Array Oper) (i:Nat):Nat→Prop
 | here:Dep ops i i
 | step {j:Nat} {oj:Oper} {e:Edge} (hj:ops[j]?=some oj) (he:e∈oj.after) (hb:Region.binds .any e=true) (h:Dep ops i e.on):Dep ops i j
def z18p (ops:Array Oper) (listed:Array Bool):Prop:=∀ j oj,ops[j]?=some oj→listed.getD j false=true→∀ e∈oj.after,Region.binds .any e=true→listed.getD e.on false=true
theorem Dep.listed {ops:Array Oper} {listed:Array Bool} (hc:z18p ops listed) {i j:Nat} (h:Dep ops i j):listed.getD j false=true→listed.getD i false=true:=by
 induction h with
 | here=>exact id
 | step hj he hb _ ih=>exact fun hl=>ih (hc _ _ hj hl _ he hb)
theorem z18p.set {ops:Array Oper} {listed:Array Bool} (hc:z18p ops listed) {j:Nat} (hr:j∈Region.ready .any ops listed):z18p ops (listed.setIfInBounds j true):=by
 intro k ok hk hl e he hb
 obtain ⟨_,oj,hoj,hall⟩:=mem_ready.1 hr
 have up:∀ m,listed.getD m false=true→(listed.setIfInBounds j true).getD m false=true:=fun m hm=>getD_set_true hm
 by_cases hjk:j=k
 ·subst hjk
  rw [hoj] at hk
  simp only [oJ] at hk
  subst hk
  exact up _ (hall e he hb)
 ·rw [getD_set_ne false hjk] at hl
  exact up _ (hc k ok hk hl e he hb)
theorem z1lv {ops:Array Oper} {T0:List PV} {r:RSt} {J:RSt→Prop} (hJ:∀ i s s1,J s→oneR E C ops i s=some s1→J s1) (hJt:∀ s,J s→Tight s) (hu:z1i3 ops=true) {i:Nat} {oi:Oper} (hi:ops[i]?=some oi):∀ (fuel:Nat) (listed:Array Bool) (s s1:RSt),J s→Inv ops T0 s.1→Fresh ops T0 listed s.1→z18p ops listed →
  (∀ j oj,ops[j]?=some oj→j≠i→listed.getD j true=false→(∀ e∈oj.after,Region.binds .any e=true→e.on≠i)→oi.apart ops oj=true∧(¬ Dep ops i j→clsOk E ops T0 oi oj=true)) →
  i∈Region.ready .any ops listed→oneR E C ops i s=some s1→anyR E C ops r fuel (listed.setIfInBounds i true) s1→anyR E C ops r (fuel+1) listed s:=by
 intro fuel
 induction fuel with
 | zero =>
  intro listed s s1 _ _ _ _ _ hr hy H
  refine ⟨fun h=>(by rw [h] at hr; cases hr),fun j hj=>?_⟩
  by_cases hji:j=i
  ·subst hji; exact ⟨s1,hy,H⟩
  ·have:=ready_mono hj hji
   rw [H.1] at this
   cases this
 | succ fuel ih =>
  intro listed s s1 hJs hI hFs hcl hfree hr hy H
  refine ⟨fun h=>(by rw [h] at hr; cases hr),fun j hj=>?_⟩
  by_cases hji:j=i
  ·subst hji; exact ⟨s1,hy,H⟩
  ·obtain ⟨s2,h1,h1'⟩:=H.2 j (ready_mono hj hji)
   obtain ⟨hjun,oj,hoj,hall⟩:=mem_ready.1 hj
   have hnot:∀ e∈oj.after,Region.binds .any e=true→e.on≠i:=fun e he hb heq=>by
    have h1:=hall e he hb
    have h0:=(mem_ready.1 hr).1
    rw [heq] at h1
    rcases Nat.lt_or_ge i listed.size with h' | h'
    ·simp [h'] at h0 h1; rw [h0] at h1; cases h1
    ·simp [Array.getElem?_eq_none h'] at h1
   obtain ⟨f1,f2⟩:=hfree j oj hoj hji hjun hnot
   have hnd:¬ Dep ops i j:=by
    intro hd
    have hun:=(mem_ready.1 hr).1
    cases hd with
    | here=>exact hji rfl
    | step hj he hb h =>
     rw [hoj] at hj
     simp only [oJ] at hj
     subst hj
     have:=h.listed hcl (hall _ he hb)
     rcases Nat.lt_or_ge i listed.size with h' | h'
     ·simp [h'] at hun this; rw [hun] at this; cases this
     ·simp [Array.getElem?_eq_none h'] at this
   have f2:=f2 hnd
   obtain ⟨s1',e1,e2⟩:=oneR_comm hi hoj f1 f2 (hJt _ hJs) hI (hFs i oi hi (mem_ready.1 hr).1) (hFs j oj hoj hjun) hy h1
   have hfree':∀ k ok,ops[k]?=some ok→k≠i→(listed.setIfInBounds j true).getD k true=false →
     (∀ e∈ok.after,Region.binds .any e=true→e.on≠i)→oi.apart ops ok=true∧(¬ Dep ops i k→clsOk E ops T0 oi ok=true):=fun k ok hk hki hun hno=>by
    refine hfree k ok hk hki ?_ hno
    by_cases hjk:j=k
    ·subst hjk; exact hjun
    ·rw [getD_set_ne true hjk] at hun; exact hun
   refine ⟨s1',e1,ih (listed.setIfInBounds j true) s1' s2 (hJ _ _ _ hJs e1) (z1ia hI (fun o ho=>hFs j o ho hjun) e1) (hFs.set hu e1) (hcl.set hj) hfree' (ready_mono hr (Ne.symm hji)) e2 ?_⟩
   rw [Array.setIfInBounds_comm _ _ hji]
   exact h1'
theorem z1ip {a:Nat}:∀ {l:List Nat},memN a l=true↔a∈l
 | []=>by simp [memN]
 | b::l=>by simp [memN,z1ip (l:=l)]
theorem zfj {ops:Array Oper} {T0:List PV} {x:Oper} {i:Nat}:∀ {js seen:List Nat},(∀ k∈seen,Dep ops i k)→zpx E T0 ops x i seen js=true→∀ j∈js,∀ oj,ops[j]?=some oj→i<j→¬ Dep ops i j→clsOk E ops T0 x oj=true
 | [],_,_,_,j,hj,_,_,_,_=>by cases hj
 | k::js,seen,hs,h,j,hj,oj,hoj,hlt,hno=>by
  simp only [zpx] at h
  cases hk:ops[k]? with
  | none =>
   rw [hk] at h
   cases hj with
   | head=>rw [hoj] at hk; cases hk
   | tail _ hm=>exact zfj hs h j hm oj hoj hlt hno
  | some ok =>
   rw [hk] at h
   simp only at h
   cases hb:Nat.ble k i with
   | true =>
    rw [hb] at h
    cases hj with
    | head=>exact absurd (Nat.le_of_ble_eq_true hb) (by omega)
    | tail _ hm=>exact zfj hs h j hm oj hoj hlt hno
   | false =>
    rw [hb] at h
    simp only [cond_false] at h
    cases ha:ok.after.any (fun e=>Region.binds .any e&&memN e.on seen) with
    | true =>
     rw [ha] at h
     have hd:Dep ops i k:=by
      obtain ⟨e,he,hb⟩:=Array.any_eq_true'.1 ha
      simp only [Bool.and_eq_true] at hb
      exact .step hk he hb.1 (hs _ (z1ip.1 hb.2))
     cases hj with
     | head=>exact absurd hd hno
     | tail _ hm =>
      refine zfj (seen:=k::seen) (fun m hm=>?_) h j hm oj hoj hlt hno
      cases hm with
      | head=>exact hd
      | tail _ hm=>exact hs m hm
    | false =>
     rw [ha] at h
     simp only [cond_false,Bool.and_eq_true] at h
     cases hj with
     | head=>rw [hoj] at hk; cases hk; exact h.1
     | tail _ hm=>exact zfj hs h.2 j hm oj hoj hlt hno
theorem z1jw {ops:Array Oper} {T0:List PV} {r:RSt} {J:RSt→Prop} (hJ:∀ i s s1,J s→oneR E C ops i s=some s1→J s1) (hJt:∀ s,J s→Tight s) (hu:z1i3 ops=true) (hc:∀ i oi,ops[i]?=some oi→zpx E T0 ops oi i [i] (List.range ops.size)=true):∀ (n k:Nat) (listed:Array Bool) (s:RSt),J s→Inv ops T0 s.1→Fresh ops T0 listed s.1→z18p ops listed→k+n=ops.size→(∀ j,j<k→listed.getD j true=true) →
  Region.lexFrom .any ops n k listed=true→z8z E C ops (List.range' k n) s=some r→anyR E C ops r n listed s
 | 0,k,listed,s,_,_,_,_,_,_,hB,h=>by
  simp only [List.range'_zero,z8z,oJ] at h
  exact ⟨by simpa [Region.lexFrom] using hB,h⟩
 | n+1,k,listed,s,hJs,hI,hFs,hcl,hkn,hl,hB,h=>by
  have hk:k<ops.size:=by omega
  have h0:ops[k]?=some ops[k]:=Array.getElem?_eq_getElem hk
  simp only [Region.lexFrom,Bool.and_eq_true] at hB
  obtain ⟨⟨hr,hf⟩,hB'⟩:=hB
  simp only [List.range'_succ,z8z] at h
  obtain ⟨s1,h1,h⟩:=zb h
  have hl':∀ j,j<k+1→(listed.setIfInBounds k true).getD j true=true:=by
   intro j hj
   by_cases hjk:k=j
   ·subst hjk
    rw [Array.getD_eq_getD_getElem?,Array.getElem?_setIfInBounds]
    split
    ·split <;> rfl
    ·rename_i h; exact absurd rfl h
   ·rw [getD_set_ne true hjk]; exact hl j (by omega)
  have hrk:k∈Region.ready .any ops listed:=by simpa using hr
  refine z1lv hJ hJt hu h0 n listed s s1 hJs hI hFs hcl (fun j oj hoj hne hun hno=>⟨Region.free_spec h0 hf j oj hoj hne hun hno,fun hnd=>?_⟩) hrk h1 (z1jw hJ hJt hu hc n (k+1) _ s1 (hJ _ _ _ hJs h1) (z1ia hI (fun o ho=>hFs k o ho (mem_ready.1 hrk).1) h1) (hFs.set hu h1) (hcl.set hrk) (by omega) hl' hB' h)
  have hlt:k<j:=by
   rcases Nat.lt_or_ge j k with h' | h'
   ·rw [hl j h'] at hun; cases hun
   ·omega
  exact zfj (fun m hm=>by simp at hm; subst hm; exact .here) (hc k _ h0) j (List.mem_range.2 (Array.getElem?_eq_some_iff.1 hoj).1) oj hoj hlt hnd
theorem z1lu {ops:Array Oper} {r:RSt}:∀ (fuel t:Nat) (listed:Array Bool) (s:RSt),anyR E C ops r fuel listed s→z8z E C ops (Region.linearise.go .any ops fuel t listed []) s=some r:=by
 intro fuel
 induction fuel with
 | zero =>
  intro t listed s h
  simp only [Region.linearise.go,List.reverse_nil,z8z]
  rw [h.2]
 | succ fuel ih =>
  intro t listed s h
  obtain ⟨h₀,h₁⟩:=h
  simp only [Region.linearise.go]
  change z8z E C ops (match (Region.ready .any ops listed)[t % (Region.ready .any ops listed).length]? with
   | some i=>Region.linearise.go .any ops fuel (t / (Region.ready .any ops listed).length) (listed.setIfInBounds i true) [i]
   | none=>[].reverse) s=some r
  cases hi:(Region.ready .any ops listed)[t % (Region.ready .any ops listed).length]? with
  | none =>
   have hnil:Region.ready .any ops listed=[]:=by
    cases hr:Region.ready .any ops listed with
    | nil=>rfl
    | cons x xs =>
     rw [hr] at hi
     have hlt:t % (x::xs).length<(x::xs).length:=Nat.mod_lt _ (by simp)
     simp at hi
     simp at hlt
     omega
   simp [z8z,h₀ hnil]
  | some i =>
   simp only []
   rw [linearise_go_acc,List.reverse_singleton,List.singleton_append]
   obtain ⟨s1,e1,e2⟩:=h₁ i (List.mem_of_getElem? hi)
   simp only [z8z,e1,oB]
   exact ih _ _ s1 e2
theorem draw_ok (hm:E.P.follows .mixedOrders=true) (C:Orc):z1ex E C:=by
 refine ⟨hm,fun fn ops t s s' J hJ hJt hJs hd h=>?_⟩
 unfold drawOk at hd
 simp only [Bool.and_eq_true] at hd
 obtain ⟨⟨⟨_,hu⟩,hB⟩,hcl⟩:=hd
 simp only [Region.lexB,Bool.and_eq_true] at hB
 simp only [Region.schedule,hm,Bool.true_or,if_true]
 refine z1lu ops.size t _ s (z1jw (T0:=s.1) hJ hJt hu (fun i oi hoi=>?_) ops.size 0 _ s hJs (Inv.refl ops _) (fun _ _ _ _ _ _ _ _=>rfl) (fun j oj hoj hl=>by
  have hlt:=(Array.getElem?_eq_some_iff.1 hoj).1
  simp [hlt] at hl) (by omega) (fun j hj=>by omega) hB.2 (by rw [← List.range_eq_range']; exact h))
 have:=zk hcl i (List.mem_range.2 (Array.getElem?_eq_some_iff.1 hoi).1)
 rw [hoi] at this
 exact this
end
end Dv

namespace Dv
open Go Go.RowKit Go.ChangeShapes Go.WideShapes Go.ChangeAt
def argOf (E:Env) (t:Nat) (qs:List PV):PV:=bif (E.ti t).isAgg then .agg qs else nthD .undef qs 0
def zyo (E:Env) (n:Nat):List Nat→List PV→Nat→Prop
 | [],[],_=>True
 | t::ts,p::ps,b=>∃ b1 b2,(∃ qs,p=argOf E t qs∧inTy E n t qs∧pbulkL qs≤b1)∧zyo E n ts ps b2∧b1+b2≤b
 | _,_,_=>False
theorem zw6 {E:Env} {n t:Nat} {ts:List Nat} {xs:List PV} {b:Nat} (h:zyo E n (t::ts) xs b) :
  ∃ rest b1 b2 qs,xs=argOf E t qs::rest∧inTy E n t qs∧pbulkL qs≤b1∧zyo E n ts rest b2∧b1+b2≤b:=by
 cases xs with
 | nil=>exact h.elim
 | cons p rest =>
  obtain ⟨b1,b2,⟨qs,h1,h2,h3⟩,h4,h5⟩:=h
  exact ⟨rest,b1,b2,qs,by rw [h1],h2,h3,h4,h5⟩
theorem z1lt {E:Env} {n:Nat} {xs:List PV} {b:Nat} (h:zyo E n [] xs b):xs=[]:=by
 cases xs with
 | nil=>rfl
 | cons p rest=>exact h.elim
theorem z29 {E:Env} {n t:Nat} {k:IntKind} {qs:List PV} (hd:(E.ti t).d=.int k) (h:inTy E (n+1) t qs):∃ m,qs=[.int k m]∧k.min≤m∧m≤k.max:=by
 unfold inTy at h; rw [hd] at h; exact h
theorem z14l {E:Env} {n t:Nat} {qs:List PV} (hd:(E.ti t).d=.bool) (h:inTy E (n+1) t qs):∃ b,qs=[.bool b]:=by
 unfold inTy at h; rw [hd] at h; exact h
theorem z12q {E:Env} {n t:Nat} {qs:List PV} (hd:(E.ti t).d=.str) (h:inTy E (n+1) t qs):∃ s,qs=[.str s]∧s.length≤maxLen:=by
 unfold inTy at h; rw [hd] at h; exact h
theorem z1ld {E:Env} {n t e:Nat} {qs:List PV} (hd:(E.ti t).d=.slice e) (h:inTy E (n+1) t qs) :
  ∃ l,qs=[.sl (E.ti e).size l]∧l.length≤maxLen∧∀ p∈l,(p=bif (E.ti e).isAgg then .agg p.cellsL else nthD .undef p.cellsL 0)∧inTy E n e p.cellsL:=by
 unfold inTy at h; rw [hd] at h; exact h
theorem z4n {E:Env} {n t:Nat} {fs:List (Nat×Nat)} {qs:List PV} (hd:(E.ti t).d=.struct fs) (h:inTy E (n+1) t qs) :
  qs.length=(E.ti t).size∧∀ f∈fs,inTy E n f.2 ((qs.drop f.1).take (E.ti f.2).size):=by
 unfold inTy at h; rw [hd] at h; exact h
section
variable {E:Env} {H:Type} {enc:TypeId×Value→H} {w:World}
theorem val_cells (hE:EnvOk E) {n t:Nat} (ho:zty E n t=true) {base:Nat} {v:Value} (hv:Value.okWide E.P w .any base t v) :
  (if (E.ti t).isAgg=true then ∃ cs,v=.agg cs else v.cells=#[v]):=by
 have hdesc:=(hE.ti t).desc
 cases n with
 | zero=>simp [zty] at ho
 | succ n =>
 unfold zty at ho
 split at ho
 ·rename_i hd
  rw [hd] at hdesc
  have ha:(E.ti t).isAgg=false:=by simp [TI.isAgg,hd]
  rw [ha,if_neg (by decide)]
  have hdesc:E.P.underlying t=some .bool:=hdesc
  simp only [Value.okWide,hdesc,Cell.okWide,Cell.ok] at hv
  cases v <;> first | rfl | (simp at hv)
 ·rename_i k hd
  rw [hd] at hdesc
  have ha:(E.ti t).isAgg=false:=by simp [TI.isAgg,hd]
  rw [ha,if_neg (by decide)]
  have hdesc:E.P.underlying t=some (.int k):=hdesc
  simp only [Value.okWide,hdesc,Cell.okWide,Cell.ok] at hv
  cases v <;> first | rfl | (simp at hv)
 ·rename_i hd
  rw [hd] at hdesc
  have ha:(E.ti t).isAgg=false:=by simp [TI.isAgg,hd]
  rw [ha,if_neg (by decide)]
  have hdesc:E.P.underlying t=some .string:=hdesc
  simp only [Value.okWide,hdesc,Cell.okWide,Cell.ok] at hv
  cases v <;> first | rfl | (simp at hv)
 ·rename_i e hd
  rw [hd] at hdesc
  have ha:(E.ti t).isAgg=false:=by simp [TI.isAgg,hd]
  rw [ha,if_neg (by decide)]
  have hdesc:E.P.underlying t=some (.slice e):=hdesc
  simp only [Value.okWide,hdesc,Cell.okWide,Cell.ok] at hv
  cases v <;> first | rfl | (simp at hv)
 ·rename_i fs hd
  rw [hd] at hdesc
  have ha:(E.ti t).isAgg=true:=by simp [TI.isAgg,hd]
  rw [if_pos ha]
  obtain ⟨fields,hu,_⟩:=hdesc
  simp only [Value.okWide,hu] at hv
  obtain ⟨cs,h,_⟩:=hv
  exact ⟨cs,h⟩
 ·cases ho
theorem z1de (hE:EnvOk E) {n base:Nat}:∀ (ts:List Nat) (vs:List Value) (ds:List (DataW H)) (ps:List MemPlace),allB (zty E n) ts=true →
  (∀ (j:Nat) t v,ts[j]?=some t→vs[j]?=some v→Value.okWide E.P w .any base t v)→DataW.TrodAll enc E.P w 0 (fun _=>true) true ts vs ds ps →
  ∃ as:List PV,as.length=vs.length∧zyo E n ts as (z8a ds)∧∀ (j:Nat) (q:PV),as[j]?=some q→VRf w noW q (vs.getD j undef)
 | [],vs,ds,ps,_,_,h=>by
  obtain ⟨rfl,rfl,rfl⟩:=trodAll_nil h
  exact ⟨[],rfl,trivial,fun j q hq=>by simp at hq⟩
 | t::ts,vs,ds,ps,ho,hv,h=>by
  obtain ⟨v,vs',d,ds',p,q,rfl,rfl,rfl,h0,hr⟩:=trodAll_cons h
  simp only [allB,Bool.and_eq_true] at ho
  obtain ⟨as,l1,t1,r1⟩:=z1de hE ts vs' ds' q ho.2 (fun j t v ht hv'=>hv (j+1) t v (by simpa using ht) (by simpa using hv')) hr
  have hcells:=val_cells hE ho.1 (hv 0 t v rfl rfl)
  obtain ⟨fuel,hx⟩:=h0
  obtain ⟨qs,q1,q2,q3,q4⟩:=z145 hE n t fuel v.cells.toList _ ho.1 hx
  have hq4:pbulkL qs≤dbulk d:=by
   have:dbulk (d,p).1=dbulk d:=rfl
   omega
  refine ⟨argOf E t qs::as,by simp [l1],?_,?_⟩
  ·show ∃ b1 b2,_
   exact ⟨dbulk d,z8a ds',⟨qs,rfl,q3,hq4⟩,t1,by simp [z8a]⟩
  ·intro j a ha
   cases j with
   | succ j=>simpa using r1 j a (by simpa using ha)
   | zero =>
    simp at ha
    subst ha
    show VRf w noW _ v
    unfold argOf
    cases hagg:(E.ti t).isAgg with
    | true =>
     rw [if_pos hagg] at hcells
     obtain ⟨cs,rfl⟩:=hcells
     simp only [cond_true]
     refine .agg _ _ (show qs.length=(Value.agg cs).cells.size by simpa using q1) (fun j r hr=>?_)
     have:=(q2 j r hr).2
     simpa [Value.cells,List.getD_eq_getElem?_getD,Array.getD_eq_getD_getElem?] using this
    | false =>
     rw [hagg,if_neg (by decide)] at hcells
     simp only [cond_false]
     obtain ⟨r,rfl,hrs⟩:=z17z hE q3 hagg
     have:=(q2 0 r rfl).2
     rw [hcells] at this
     simpa [nthD] using this
theorem zws {P:Program} (hl:laidOutB P=true) {W W':World} (hb:Below W.heap.size W W'):∀ (ts:List Nat) (vs:List Value) (ds:List (DataW H)) (ps:List MemPlace),allB (fun t=>P.readableRec t&&Nat.blt t P.types.size) ts=true →
  DataW.TrodAll enc P W 0 (fun _=>true) true ts vs ds ps→(∀ x∈ps,x.block<W.heap.size)→DataW.TrodAll enc P W' 0 (fun b=>decide (b<W.heap.size)) true ts vs ds ps
 | [],vs,ds,ps,_,h,_=>by
  obtain ⟨rfl,rfl,rfl⟩:=trodAll_nil h
  rfl
 | t::ts,vs,ds,ps,ht,h,hlt=>by
  obtain ⟨v,vs',d,ds',p,q,rfl,rfl,rfl,h0,hr⟩:=trodAll_cons h
  simp only [allB,Bool.and_eq_true] at ht
  have hlt2:t<P.types.size:=by have:=ht.1.2; simpa [Nat.blt_eq] using this
  exact ⟨p,q,Below.trod hl ht.1.1 hlt2 h0 hb (fun x hx=>hlt x (by simp [hx])),zws hl hb ts vs' ds' q ht.2 hr (fun x hx=>hlt x (by simp [hx])),rfl⟩
theorem z1dv (hE:EnvOk E) (hX:ExtOk E) {g n tb:Nat} {fn:Func} (hf:E.P.funcs[g]?=some fn) (hg:zfs g E.ext=none) (s:ChangeSpec) (hvars:s.vars=[])
  (hspec:∀ ds:List (DataW H),ds.length=fn.params.size→s.fn H ds={ results:=[.lit (.bool true)],args:=ds })
  (hres:fn.resultTypes=#[tb]) (hbool:E.P.underlying tb=some .bool) (ho:allB (zty E n) fn.params.toList=true) (hlay:laidOutB E.P=true)
  (hread:allB (fun t=>E.P.readableRec t&&Nat.blt t E.P.types.size) fn.params.toList=true) {B:Nat}
  (law:∀ as,zyo E n fn.params.toList as B→callF E g as=some (.bool true))
  {W:World} {base:Nat} {args:Array Value} {ds gs:List (DataW H)} {before:List MemPlace}
  (hval:∀ (j:Nat) t v,fn.params[j]?=some t→args[j]?=some v→Value.okWide E.P W .any base t v)
  (hW:DataW.Whole enc E.P fn.params.toList s.vars false W args.toList ds gs before) (hbk:z8a ds≤B) :
  Calls E.P g args W fun e W'=>∃ v,e=.returned v∧s.post enc E.P fn false true false false W args v W':=by
 have hlt:=hW.lt
 have hW':=hW
 obtain ⟨p,q,hA,hV,rfl,_,_⟩:=hW
 rw [hvars] at hV
 obtain ⟨rfl,rfl⟩:gs=[]∧q=[]:=by
  cases gs with
  | nil=>exact ⟨rfl,hV⟩
  | cons _ _=>exact hV.elim
 obtain ⟨as,l1,t1,r1⟩:=z1de hE fn.params.toList args.toList ds p ho (fun j t v ht hv=>hval j t v (by simpa using ht) (by simpa using hv)) hA
 have mono:∀ (ts:List Nat) (as:List PV) (b b':Nat),b≤b'→zyo E n ts as b→zyo E n ts as b':=by
  intro ts as b b' hb h
  cases ts <;> cases as <;> try exact h
  obtain ⟨b1,b2,h1,h2,h3⟩:=h
  exact ⟨b1,b2,h1,h2,by omega⟩
 have hlaw:=law as (mono _ _ _ _ hbk t1)
 have hfun:=(z1gx hE hX (draw_ok hE.follows) hg hlaw).2
 refine (hfun W noW args (fun _ _ h=>h.elim) (by simpa using l1) (fun j q hq=>by
  have:=r1 j q hq
  simpa [List.getD_eq_getElem?_getD,Array.getD_eq_getD_getElem?] using this)).mono fun e W' ⟨v,he,hv,hbelow⟩=>?_
 cases hv
 subst he
 have hlen:ds.length=fn.params.size:=by
  have:∀ (ts:List Nat) (vs:List Value) (ds:List (DataW H)) (ps:List MemPlace),DataW.TrodAll enc E.P W 0 (fun _=>true) true ts vs ds ps→ds.length=ts.length:=by
   intro ts
   induction ts with
   | nil=>intro vs ds ps h; obtain ⟨_,rfl,_⟩:=trodAll_nil h; rfl
   | cons t ts ih =>
    intro vs ds ps h
    obtain ⟨v,vs',d,ds',p,q,rfl,rfl,rfl,_,hr⟩:=trodAll_cons h
    simp [ih _ _ _ hr]
  simpa using this _ _ _ _ hA
 refine ⟨_,rfl,ds,[],p++[],[],p,[],hW',?_,?_,?_,hbelow.frame _,fun h=>by cases h⟩
 ·rw [List.append_nil,hspec ds hlen,hres]
  exact trodAll_mk1 (shut_bool hbool _)
 ·rw [List.append_nil,hspec ds hlen]
  exact zws hlay hbelow _ _ _ _ hread hA (fun x hx=>hlt x (by simp [hx]))
 ·rw [List.append_nil,hspec ds hlen,hvars]
  rfl
end
end Dv

namespace Dv
open Go
mutual
def z1iu:DataW Unit→List Value
 | .lit (.int k n)=>[.int k n]
 | .lit (.bool b)=>[.bool b]
 | .lit (.string s)=>[.string ⟨s.toArray⟩]
 | .agg l=>z1dr l
 | _=>[]
def z1dr:List (DataW Unit)→List Value
 | []=>[]
 | d::r=>z1iu d++z1dr r
end
def layW (P:Program):List (String×DataW Unit)→World→World
 | [],w=>w
 | (n,d)::r,w=>layW P r { w with heap:=w.heap.modify ((P.globalNamed n).getD 0) fun
   | .cells _ t frozen=>.cells (z1iu d).toArray t frozen
   | o=>o }
theorem layW_os (P:Program):∀ (l:List (String×DataW Unit)) (w:World),(layW P l w).os=w.os
 | [],_=>rfl
 | (_,_)::r,_=>layW_os P r _
end Dv

namespace Dv
open Go Go.RowKit
theorem two {p q:PV} {w:World} {W:Nat→Nat→Prop} {vals:Array Value} (hl:[p,q].length=vals.size) (hv:∀ (j:Nat) (r:PV),[p,q][j]?=some r→VRf w W r (vals.getD j undef)) :
  ∃ v u,vals=#[v,u]∧VRf w W p v∧VRf w W q u:=by
 obtain ⟨l⟩:=vals
 match l,hl with
 | [v,u],_=>exact ⟨v,u,rfl,hv 0 p rfl,hv 1 q rfl⟩
theorem z1b4 {E:Env} {g:Nat} (h:ExtAt E g Extern.BytealgIndexByte.indexByte) (args:List PV) (r:PV) (hr:z89 args=some r):ValOk E g args r:=by
 unfold z89 at hr
 split at hr
 case h_2=>cases hr
 rename_i s c
 simp only [oJ] at hr
 subst hr
 intro w W vals hl hv
 obtain ⟨v,u,rfl,hs,hc⟩:=two hl hv
 cases hs; cases hc
 obtain ⟨fn,h1,h2,h3,h4,h5⟩:=h.at_
 refine ⟨.int .i64 (Lib.indexByte s (UInt8.ofNat c.toNat)),w,?_,.int _ _,Below.refl _ _⟩
 rw [run_callFunc_extern h1 h2 h3 h4 h5,Lib.run_indexByteString]; rfl
theorem three {p q o:PV} {w:World} {W:Nat→Nat→Prop} {vals:Array Value} (hl:[p,q,o].length=vals.size) (hv:∀ (j:Nat) (r:PV),[p,q,o][j]?=some r→VRf w W r (vals.getD j undef)) :
  ∃ v u t,vals=#[v,u,t]∧VRf w W p v∧VRf w W q u∧VRf w W o t:=by
 obtain ⟨l⟩:=vals
 match l,hl with
 | [v,u,t],_=>exact ⟨v,u,t,rfl,hv 0 p rfl,hv 1 q rfl,hv 2 o rfl⟩
theorem ext_add64 {E:Env} {g:Nat} (h:ExtAt E g Go.add64Entry) (args:List PV) (r:PV) (hr:zsl args=some r):ValOk E g args r:=by
 unfold zsl at hr
 split at hr
 case h_2=>cases hr
 rename_i x y c
 cases hc:(leB 0 x&&leB 0 y&&leB 0 c&&leB c 1) with
 | false=>rw [hc] at hr; cases hr
 | true =>
 rw [hc] at hr
 simp only [cond_true,oJ] at hr
 subst hr
 simp only [leB,Bool.and_eq_true,decide_eq_true_eq] at hc
 intro w W vals hl hv
 obtain ⟨v,u,t,rfl,h1,h2,h3⟩:=three hl hv
 cases h1; cases h2; cases h3
 obtain ⟨fn,h1,h2,h3,h4,h5⟩:=h.at_
 refine ⟨.tuple #[.int .u64 ((x+y+c) % 18446744073709551616),.int .u64 ((x+y+c) / 18446744073709551616)],w,?_,?_,Below.refl _ _⟩
 ·rw [run_callFunc_extern h1 h2 h3 h4 h5,Go.run_add64 x y c hc.1.1.1 hc.1.1.2 hc.1.2 hc.2]; rfl
 ·exact .tuple _ _ rfl (fun j r hj=>by
   match j,hj with
   | 0,hj=>cases hj; exact .int _ _
   | 1,hj=>cases hj; exact .int _ _)
end Dv

namespace Dv
open Go
theorem w64 {n:Int} (h1:-9223372036854775808≤n) (h2:n≤9223372036854775807):IntKind.i64.wrap n=n:=by rw [IntKind.wrap_i64]; omega
theorem wu8 {n:Int} (h1:0≤n) (h2:n≤255):IntKind.u8.wrap n=n:=by rw [IntKind.wrap_u8]; omega
theorem wu64 {n:Int} (h1:0≤n) (h2:n≤18446744073709551615):IntKind.u64.wrap n=n:=by
 simp [IntKind.wrap,IntKind.bits,IntKind.signed]; omega
section
variable {α:Type} {x y:α} {a b n:Int} {i j:Nat} {s t:List UInt8}
theorem c_not (c:Bool):(bif !c then x else y)=bif c then y else x:=by cases c <;> rfl
theorem z15m:(bif true then x else y)=x:=rfl
theorem z15n:(bif false then x else y)=y:=rfl
theorem c_eqT (h:a=b):(bif eqB a b then x else y)=x:=by rw [eqB,decide_eq_true h]; rfl
theorem c_eqF (h:¬ a=b):(bif eqB a b then x else y)=y:=by rw [eqB,decide_eq_false h]; rfl
theorem c_ltT (h:a<b):(bif ltB a b then x else y)=x:=by rw [ltB,decide_eq_true h]; rfl
theorem c_ltF (h:¬ a<b):(bif ltB a b then x else y)=y:=by rw [ltB,decide_eq_false h]; rfl
theorem c_leT (h:a≤b):(bif leB a b then x else y)=x:=by rw [leB,decide_eq_true h]; rfl
theorem c_leF (h:¬ a≤b):(bif leB a b then x else y)=y:=by rw [leB,decide_eq_false h]; rfl
theorem c_ltnT (h:i<j):(bif ltN i j then x else y)=x:=by rw [ltN,decide_eq_true h]; rfl
theorem c_ltnF (h:¬ i<j):(bif ltN i j then x else y)=y:=by rw [ltN,decide_eq_false h]; rfl
theorem z11e (h:i=j):(bif eqN i j then x else y)=x:=by rw [eqN,decide_eq_true h]; rfl
theorem c_inT (h:b≤a∧a<n):(bif inB b a n then x else y)=x:=by rw [inB,decide_eq_true h]; rfl
theorem zyk (h:s=t):(bif eqS s t then x else y)=x:=by rw [eqS,decide_eq_true h]; rfl
theorem zul (h:¬ s=t):(bif eqS s t then x else y)=y:=by rw [eqS,decide_eq_false h]; rfl
end
section
variable (k:IntKind) (n:Int) (b:Bool) (s:List UInt8) (z:Nat) (l r:List PV) (v0 v1 v2 v3 v4:PV)
theorem zl:(PV.int k n).toI=n:=rfl
theorem ze:(PV.bool b).toB=b:=rfl
theorem zg:(PV.str s).toS=s:=rfl
theorem zam:(PV.sl z l).toL=l:=rfl
theorem tn0:(PV.tuple (v0::r)).tnth 0=v0:=rfl
theorem tn1:(PV.tuple (v0::v1::r)).tnth 1=v1:=rfl
theorem tn2:(PV.tuple (v0::v1::v2::r)).tnth 2=v2:=rfl
theorem tn3:(PV.tuple (v0::v1::v2::v3::r)).tnth 3=v3:=rfl
theorem ag0:(PV.agg (v0::r)).nth 0=v0:=rfl
theorem ag1:(PV.agg (v0::v1::r)).nth 1=v1:=rfl
end
theorem z61 {a b:Int} (ha:0≤a):a.tmod b=a % b:=Int.tmod_eq_emod_of_nonneg ha
theorem z3w {a b:Int} (ha:0≤a):a.tdiv b=a / b:=Int.tdiv_eq_ediv_of_nonneg ha
theorem zju {a b:Int} (hb:0<b):(if a.tmod b<0 then a.tmod b+b else a.tmod b)=a % b:=by
 rcases Int.lt_or_le a 0 with h | h
 ·have h1:=Int.tmod_add_mul_tdiv a b
  have h2:=Int.emod_nonneg a (by omega:b≠0)
  have h3:=Int.emod_lt_of_pos a hb
  have h4:a.tmod b=-((-a).tmod b):=by rw [Int.neg_tmod]; omega
  have h6:(-a).tmod b=(-a) % b:=z61 (by omega)
  have h7:=Int.emod_nonneg (-a) (by omega:b≠0)
  have h8:=Int.emod_lt_of_pos (-a) hb
  have h9:a.tmod b≤0:=by omega
  have h5:-b<a.tmod b:=by omega
  split
  ·have:(a.tmod b+b) % b=a % b:=by
    conv=>rhs; rw [← h1]
    rw [Int.add_emod_right,Int.add_mul_emod_self_left]
   rw [← this,Int.emod_eq_of_lt (by omega) (by omega)]
  ·have:a.tmod b=0:=by omega
   rw [this]
   rw [this,Int.zero_add] at h1
   rw [← h1,Int.mul_emod_right]
 ·rw [z61 h]
  have:=Int.emod_nonneg a (by omega:b≠0)
  rw [if_neg (by omega)]
theorem zjx {a b:Int} (hb:0<b):(if a.tmod b<0 then a.tdiv b-1 else a.tdiv b)=a / b:=by
 have h0:=zju (a:=a) hb
 have h1:=Int.tmod_add_mul_tdiv a b
 have h2:=Int.emod_add_mul_ediv a b
 have key:∀ x y:Int,b*x=b*y→x=y:=fun x y h=>Int.eq_of_mul_eq_mul_left (by omega) h
 split at h0
 ·rw [if_pos (by assumption)]
  apply key
  rw [Int.mul_sub]; omega
 ·rw [if_neg (by assumption)]
  apply key
  omega
def leapI (y:Int):Bool:=decide (y % 4=0)&&(!decide (y % 100=0)||decide (y % 400=0))
def lenI (y m:Int):Int:=if m=2 then (if leapI y then 29 else 28) else if m=4∨m=6∨m=9∨m=11 then 30 else if 1≤m∧m≤12 then 31 else 0
def zci (k:Int):Int:=365*k+(k+3) / 4-(k+99) / 100+(k+399) / 400
def jan1 (y:Int):Int:=(y-2000) / 400*146097+zci ((y-2000) % 400)
def z1g (y m:Int):Int :=
 let l:=if leapI y then 1 else 0
 if m≤1 then 0 else if m=2 then 31 else if m=3 then 59+l else if m=4 then 90+l else if m=5 then 120+l else if m=6 then 151+l
 else if m=7 then 181+l else if m=8 then 212+l else if m=9 then 243+l else if m=10 then 273+l else if m=11 then 304+l else if m=12 then 334+l else 365+l
def dayI (y m d:Int):Int:=jan1 y+z1g y m+d-1
def wkI (n:Int):Int:=(n % 7+6) % 7
theorem zka (y:Int):leapI y=true↔(y % 4=0∧(y % 100≠0∨y % 400=0)):=by simp [leapI]
theorem z130 {k:Int} (h0:0≤k) (h1:k<400):zci (k+1)=zci k+365+(if leapI (2000+k) then 1 else 0):=by
 unfold zci
 by_cases hl:leapI (2000+k)=true
 ·rw [if_pos hl]
  rw [zka] at hl
  omega
 ·rw [if_neg hl]
  rw [zka] at hl
  omega
theorem zen {y m:Int} (h1:1≤m) (h2:m≤12):z1g y (m+1)=z1g y m+lenI y m:=by
 have:m=1∨m=2∨m=3∨m=4∨m=5∨m=6∨m=7∨m=8∨m=9∨m=10∨m=11∨m=12:=by omega
 unfold z1g lenI
 rcases this with rfl | rfl | rfl | rfl | rfl | rfl | rfl | rfl | rfl | rfl | rfl | rfl <;> cases leapI y <;> simp
theorem z7a (y m:Int) (h1:1≤m) (h2:m≤12):28≤lenI y m∧lenI y m≤31:=by
 unfold lenI
 repeat' split
 all_goals omega
def marchI (y m d:Int):Int :=
 (if m≤2 then y-1 else y) / 400*146097+(if m≤2 then y-1 else y) % 400*365+(if m≤2 then y-1 else y) % 400 / 4-(if m≤2 then y-1 else y) % 400 / 100 +
  (153*((if m≤2 then m+12 else m)-3)+2) / 5+d-1-730425
theorem z1k1 (y:Int):∃ q a c d:Int,y=400*q+100*a+4*c+d∧0≤a∧a≤3∧0≤c∧c≤24∧0≤d∧d≤3 :=
 ⟨y / 400,y % 400 / 100,y % 400 % 100 / 4,y % 400 % 100 % 4,by omega,by omega,by omega,by omega,by omega,by omega,by omega⟩
theorem z1la {q a c d:Int} (a0:0≤a) (a3:a≤3) (c0:0≤c) (c4:c≤24) (d0:0≤d) (d3:d≤3) :
  jan1 (400*q+100*a+4*c+d)=(q-5)*146097+365*(100*a+4*c+d)+(25*a+c+(if d=0 then 0 else 1))-(a+(if c=0∧d=0 then 0 else 1))+(if a=0∧c=0∧d=0 then 0 else 1):=by
 unfold jan1 zci
 have e1:(400*q+100*a+4*c+d-2000) / 400=q-5:=by omega
 have e2:(400*q+100*a+4*c+d-2000) % 400=100*a+4*c+d:=by omega
 rw [e1,e2]
 have e3:(100*a+4*c+d+3) / 4=25*a+c+(if d=0 then 0 else 1):=by split <;> omega
 have e4:(100*a+4*c+d+99) / 100=a+(if c=0∧d=0 then 0 else 1):=by split <;> omega
 have e5:(100*a+4*c+d+399) / 400=(if a=0∧c=0∧d=0 then 0 else 1):=by split <;> omega
 rw [e3,e4,e5]
 omega
theorem z1ge {q a c d:Int} (a0:0≤a) (a3:a≤3) (c0:0≤c) (c4:c≤24) (d0:0≤d) (d3:d≤3) :
  (400*q+100*a+4*c+d) / 400=q∧(400*q+100*a+4*c+d) % 400=100*a+4*c+d∧(100*a+4*c+d) / 4=25*a+c∧(100*a+4*c+d) / 100=a:=by
 refine ⟨?_,?_,?_,?_⟩ <;> omega
theorem z1l8 {q a c d:Int} (a0:0≤a) (a3:a≤3) (c0:0≤c) (c4:c≤24) (d0:0≤d) (d3:d≤3) :
  leapI (400*q+100*a+4*c+d)=true↔d=0∧(c≠0∨a=0):=by
 rw [zka]
 constructor
 ·intro h; omega
 ·intro h; omega
def zu0 (y:Int):Int:=y / 400*146097+y % 400*365+y % 400 / 4-y % 400 / 100
theorem z17s (y:Int):zu0 y-730425=jan1 y+59+(if leapI y then 1 else 0):=by
 obtain ⟨q,a,c,d,rfl,a0,a3,c0,c4,d0,d3⟩:=z1k1 y
 obtain ⟨e1,e2,e3,e4⟩:=z1ge (q:=q) a0 a3 c0 c4 d0 d3
 have hl:=z1l8 (q:=q) a0 a3 c0 c4 d0 d3
 unfold zu0
 rw [z1la a0 a3 c0 c4 d0 d3,e1,e2,e3,e4]
 by_cases h:leapI (400*q+100*a+4*c+d)=true
 ·have:=hl.1 h
  rw [if_pos h]
  split <;> split <;> split <;> omega
 ·have:¬ (d=0∧(c≠0∨a=0)):=fun x=>h (hl.2 x)
  rw [if_neg h]
  split <;> split <;> split <;> omega
theorem z1k0:zci 400=146097:=by unfold zci; omega
theorem z1h3:zci 0=0:=by unfold zci; omega
theorem leap_2000 (y:Int):leapI (2000+(y-2000) % 400)=leapI y:=by
 rw [Bool.eq_iff_iff,zka,zka]
 omega
theorem zp4 (y:Int):jan1 (y+1)=jan1 y+365+(if leapI y then 1 else 0):=by
 have hs:=z130 (k:=(y-2000) % 400) (by omega) (by omega)
 rw [leap_2000] at hs
 unfold jan1
 by_cases h:(y-2000) % 400=399
 ·have e1:(y+1-2000) % 400=0:=by omega
  have e2:(y+1-2000) / 400=(y-2000) / 400+1:=by omega
  rw [e1,e2,z1h3]
  rw [h] at hs ⊢
  have e3:zci (399+1)=146097:=z1k0
  rw [e3] at hs
  omega
 ·have e1:(y+1-2000) % 400=(y-2000) % 400+1:=by omega
  have e2:(y+1-2000) / 400=(y-2000) / 400:=by omega
  rw [e1,e2,hs]
  omega
theorem z1gf (y:Int):zu0 (y-1)-730425=jan1 y-306:=by
 rw [z17s]
 have:=zp4 (y-1)
 rw [show y-1+1=y by omega] at this
 omega
theorem z1ag (y:Int):z1g y 1=0:=rfl
theorem z1im (y:Int):z1g y 2=31:=rfl
theorem z1il (y:Int):z1g y 3=59+(if leapI y then 1 else 0):=rfl
theorem z1ik (y:Int):z1g y 4=90+(if leapI y then 1 else 0):=rfl
theorem z1ij (y:Int):z1g y 5=120+(if leapI y then 1 else 0):=rfl
theorem z1ii (y:Int):z1g y 6=151+(if leapI y then 1 else 0):=rfl
theorem z1ih (y:Int):z1g y 7=181+(if leapI y then 1 else 0):=rfl
theorem z1ig (y:Int):z1g y 8=212+(if leapI y then 1 else 0):=rfl
theorem z1if (y:Int):z1g y 9=243+(if leapI y then 1 else 0):=rfl
theorem z1dn (y:Int):z1g y 10=273+(if leapI y then 1 else 0):=rfl
theorem z1dm (y:Int):z1g y 11=304+(if leapI y then 1 else 0):=rfl
theorem z148 (y:Int):z1g y 12=334+(if leapI y then 1 else 0):=rfl
theorem z149 {y m d:Int} (h1:1≤m) (h2:m≤12) :
  zu0 (if m≤2 then y-1 else y)+(153*((if m≤2 then m+12 else m)-3)+2) / 5+d-1-730425=dayI y m d:=by
 have hA:=z17s y
 have hB:=z1gf y
 have hm:m=1∨m=2∨m=3∨m=4∨m=5∨m=6∨m=7∨m=8∨m=9∨m=10∨m=11∨m=12:=by omega
 unfold dayI
 generalize hl:(if leapI y=true then (1:Int) else 0)=l at hA
 rcases hm with rfl | rfl | rfl | rfl | rfl | rfl | rfl | rfl | rfl | rfl | rfl | rfl
 ·rw [if_pos (by decide),if_pos (by decide),z1ag]; omega
 ·rw [if_pos (by decide),if_pos (by decide),z1im]; omega
 ·rw [if_neg (by decide),if_neg (by decide),z1il,hl]; omega
 ·rw [if_neg (by decide),if_neg (by decide),z1ik,hl]; omega
 ·rw [if_neg (by decide),if_neg (by decide),z1ij,hl]; omega
 ·rw [if_neg (by decide),if_neg (by decide),z1ii,hl]; omega
 ·rw [if_neg (by decide),if_neg (by decide),z1ih,hl]; omega
 ·rw [if_neg (by decide),if_neg (by decide),z1ig,hl]; omega
 ·rw [if_neg (by decide),if_neg (by decide),z1if,hl]; omega
 ·rw [if_neg (by decide),if_neg (by decide),z1dn,hl]; omega
 ·rw [if_neg (by decide),if_neg (by decide),z1dm,hl]; omega
 ·rw [if_neg (by decide),if_neg (by decide),z148,hl]; omega
theorem zvp {y:Int} (h1:-4800≤y) (h2:y≤294500):-3000000≤jan1 y∧jan1 y≤108000000:=by
 unfold jan1 zci; omega
theorem ze7 {y m:Int} (h1:1≤m) (h2:m≤12):0≤z1g y m∧z1g y m≤366:=by
 have hm:m=1∨m=2∨m=3∨m=4∨m=5∨m=6∨m=7∨m=8∨m=9∨m=10∨m=11∨m=12:=by omega
 have hl:(if leapI y=true then (1:Int) else 0)=0∨(if leapI y=true then (1:Int) else 0)=1:=by cases leapI y <;> simp
 rcases hm with rfl | rfl | rfl | rfl | rfl | rfl | rfl | rfl | rfl | rfl | rfl | rfl
 ·rw [z1ag]; omega
 ·rw [z1im]; omega
 ·rw [z1il]; omega
 ·rw [z1ik]; omega
 ·rw [z1ij]; omega
 ·rw [z1ii]; omega
 ·rw [z1ih]; omega
 ·rw [z1ig]; omega
 ·rw [z1if]; omega
 ·rw [z1dn]; omega
 ·rw [z1dm]; omega
 ·rw [z148]; omega
theorem zef (n:Int):0≤wkI n∧wkI n≤6:=by unfold wkI; omega
end Dv

namespace Dv
open Go
theorem callN_cap (E:Env) (tis:List TI) (g:Nat) (a b args:List PV):∀ n,callN E n tis (.func (.func g) a b) args=callN E n tis (.func (.func g) [] []) (a++args++b)
 | 0=>rfl
 | n+1=>by simp only [callN,List.nil_append,List.append_nil]
theorem callW_cap (E:Env) (tis:List TI) (g:Nat) (a b args:List PV):callW E tis (.func (.func g) a b) args=callW E tis (.func (.func g) [] []) (a++args++b):=by
 unfold callW
 congr 1
 funext n
 exact callN_cap E tis g a b args n
theorem z12i {α:Type} {s:List α} {n:Int} (h0:0≤n) (h:n≤s.length):takeS s n=some (s.take n.toNat):=by
 unfold takeS; rw [decide_eq_true ⟨h0,h⟩]; rfl
theorem zlv {α:Type} {s:List α} {n:Int} (h0:0≤n) (h:n≤s.length):dropS s n=some (s.drop n.toNat):=by
 unfold dropS; rw [decide_eq_true ⟨h0,h⟩]; rfl
theorem takeS_n {α:Type} {s:List α} {n:Nat} (h:n≤s.length):takeS s (n:Int)=some (s.take n):=by rw [z12i (by omega) (by omega)]; rfl
theorem atS_ok {s:List UInt8} {i:Nat} {c:UInt8} (h:s[i]?=some c):atS s (i:Int)=some (c.toNat:Int):=by
 unfold atS; rw [decide_eq_true (by omega)]; simp [h]
theorem atS_z {s:List UInt8} {c:UInt8} (h:s[0]?=some c):atS s 0=some (c.toNat:Int):=atS_ok (i:=0) h
theorem z9 {a b:List UInt8} (h:a.length+b.length≤4611686018427387904):catS a b=some (a++b):=by
 unfold catS; rw [decide_eq_true (by omega)]; rfl
theorem zfz {k:Nat} {l x:List PV} (h:(l.length+x.length)*k≤70368744177664):appL k l x=some (l++x):=by
 unfold appL; rw [decide_eq_true (by omega)]; rfl
theorem rdT_byte {s:List UInt8} {i:Nat} {c:UInt8} (h:s[i]?=some c):rdT (tiInt .u8) (s.map byteV) i 0=some (byteV c):=by
 unfold rdT; rw [List.getElem?_map,h]; rfl
theorem zzj {l:List (List UInt8)} {i:Nat} {c:List UInt8} (h:l[i]?=some c):rdT tiStr (l.map PV.str) i 0=some (.str c):=by
 unfold rdT; rw [List.getElem?_map,h]; rfl
theorem rdI_n {t:TI} {l:List PV} (i:Nat):rdI t l (i:Int)=rdT t l i 0:=by
 unfold rdI; rw [decide_eq_true (by omega)]; rfl
theorem z75:∀ (s:List UInt8),z7h (s.map byteV)=some s
 | []=>rfl
 | c::s=>by
  have:z7h ((c::s).map byteV)=(z7h (s.map byteV)).map (UInt8.ofNat ((c.toNat:Int)).toNat::·):=rfl
  rw [this,z75 s]
  simp
theorem z1fo {s:List UInt8} {i:Nat} (h:i<s.length) (c:UInt8):stC (s.map byteV) i 0 [byteV c]=some ((s.set i c).map byteV):=by
 unfold stC
 rw [List.getElem?_map,List.getElem?_eq_getElem h]
 have:(Option.map byteV (some s[i]))=some (.int .u8 (s[i].toNat:Int)):=rfl
 rw [this]
 simp only [List.map_set]
def lowB (c:UInt8):UInt8:=if 65≤c.toNat∧c.toNat≤90 then c+32 else c
def lowS (s:List UInt8):List UInt8:=s.map lowB
@[simp] theorem lowS_length (s:List UInt8):(lowS s).length=s.length:=by simp [lowS]
def sameB (a b:List UInt8):Bool:=eqS (lowS a) (lowS b)
end Dv
