/- The evaluator's library. -/
import Derived.Test.YtkmaclnhmkncfaaDoorL2
import Derived.Still
import Derived.Carry
import Derived.ChangeSame
import Derived.ChangeOld
import Derived.RowKit
import GoSem.PinnedTables
import Derived.Test.YtkmaclnhmkncfaaDoorL1
import Derived.Laws.BitsLemmas
set_option linter.unusedVariables false
set_option linter.unusedSimpArgs false
/- The evaluator 'Dv': a region whose order is drawn does the same in every order. -/
namespace Dv
open Go Go.RowKit

section
variable {E : Env} {C : Orc}

theorem ev_put {T : List PV} {dst : Option Nat} {v : PV} {x : Operand} (h : ∀ d, dst = some d → x ≠ .tmp d) : ev (putT T dst v) x = ev T x := by
  cases dst with
  | none => rfl
  | some d =>
    cases x with
    | tmp t =>
      have hne : d ≠ t := fun e => h d rfl (e ▸ rfl)
      simp only [ev, putT]
      rw [nthD_setN_ne _ _ _ _ _ hne]
    | _ => rfl

theorem putT_comm (T : List PV) {x y : Option Nat} (v u : PV) (h : ∀ d, x = some d → y ≠ some d) : putT (putT T x v) y u = putT (putT T y u) x v := by
  cases x with
  | none => rfl
  | some d =>
    cases y with
    | none => rfl
    | some e =>
      have hne : d ≠ e := fun he => h d rfl (he ▸ rfl)
      simp only [putT, setN_eq]
      rw [List.set_comm _ _ hne]

theorem map_ev {T T' : List PV} {l : List Operand} (h : ∀ x ∈ l, ev T x = ev T' x) : l.map (ev T) = l.map (ev T') := List.map_congr_left h

theorem opD_congr {T T' : List PV} (objs : List Obj) (o : Oper) (h : ∀ x ∈ o.op.operands, ev T x = ev T' x) : opD E T objs o = opD E T' objs o := by
  obtain ⟨dst, op, type, pos, after, guard⟩ := o
  have pairs : ∀ ps : Array (Nat × Operand), (∀ x ∈ (ps.toList.map (·.2)).toArray, ev T x = ev T' x) → (ps.toList.map fun (i, x) => (i, ev T x)) = (ps.toList.map fun (i, x) => (i, ev T' x)) := fun ps hp =>
    List.map_congr_left fun p hm => by
      obtain ⟨i, x⟩ := p
      simp only [hp x (by simp; exact ⟨i, by simpa using hm⟩)]
  have opt : ∀ x : Option Operand, (∀ y ∈ x.toArray, ev T y = ev T' y) → x.map (ev T) = x.map (ev T') := by
    intro x hx
    cases x with
    | none => rfl
    | some x => simp [hx x (by simp)]
  have arr : ∀ a : Array Operand, (∀ y ∈ a, ev T y = ev T' y) → a.toList.map (ev T) = a.toList.map (ev T') := fun a ha => List.map_congr_left fun y hy => ha y (by simpa using hy)
  unfold opD opK
  cases op <;> simp only [Op.operands] at h <;> simp only
  case build t ps => rw [pairs ps h]
  case buildSlice t n ps => rw [pairs ps h]
  case makeFunc fn first captured => rw [arr first fun x hx => h x (by simp [hx]), arr captured fun x hx => h x (by simp [hx])]
  case slice t x lo hi mx =>
    rw [h x (by simp), opt lo fun y hy => h y (by simp at hy ⊢; simp [hy]), opt hi fun y hy => h y (by simp at hy ⊢; simp [hy]), opt mx fun y hy => h y (by simp at hy ⊢; simp [hy])]
  case call c =>
    obtain ⟨callee, args, ats⟩ := c
    cases callee with
    | value f => rfl
    | invoke r n => rfl
    | builtin b =>
      have ha : ∀ y ∈ args, ev T y = ev T' y := fun y hy => h y (by simp [Call.operands, hy])
      cases b <;> simp only
      case len =>
        split
        · rename_i x t ts hx ht
          rw [ha x (by rw [← Array.mem_toList_iff, hx]; simp)]
        · rfl
      case cap =>
        split
        · rename_i x t ts hx ht
          rw [ha x (by rw [← Array.mem_toList_iff, hx]; simp)]
        · rfl
      case append =>
        split
        · rename_i d x t u hx ht
          rw [ha d (by rw [← Array.mem_toList_iff, hx]; simp), ha x (by rw [← Array.mem_toList_iff, hx]; simp)]
        · rfl
      case max => rw [arr args ha]
      case min => rw [arr args ha]
  case pick c a b => rw [h c (by simp), h a (by simp), h b (by simp)]
  case next x st => cases st <;> simp only <;> rw [h x (by simp)]
  all_goals (first | rfl | (rw [h _ (by simp)]; done) | (rename_i x y; rw [h x (by simp), h y (by simp)]; done) | (simp_all; done))

theorem execD_congr {T T' : List PV} (objs : List Obj) (o : Oper) (h : ∀ x ∈ o.op.operands, ev T x = ev T' x) : execD E C T objs o = execD E C T' objs o := by
  have plain := opD_congr (E := E) objs o h
  obtain ⟨dst, op, type, pos, after, guard⟩ := o
  unfold execD
  simp only
  cases op with
  | call c =>
    obtain ⟨callee, args, ats⟩ := c
    simp only [Op.operands] at h
    have ha : args.toList.map (ev T) = args.toList.map (ev T') := List.map_congr_left fun y hy => h y (by simp [Call.operands, Array.mem_toList_iff.1 hy])
    cases callee with
    | value f => simp only; rw [h f (by simp [Call.operands]), ha]
    | invoke r n => simp only; rw [h r (by simp [Call.operands]), ha]
    | builtin b => exact plain
  | _ => exact plain

theorem guardOf_put {T : List PV} {ops : Array Oper} {o : Oper} {dst : Option Nat} {v : PV} (h : ∀ d, dst = some d → d ∉ o.looksAt ops) : guardOf (putT T dst v) ops o = guardOf T ops o := by
  cases dst with
  | none => rfl
  | some d =>
    unfold guardOf
    cases hg : o.guard with
    | none => rfl
    | some jw =>
      obtain ⟨j, want⟩ := jw
      simp only
      cases hd : (ops[j]?).bind (·.dst) with
      | none => rfl
      | some e =>
        have hne : d ≠ e := by
          rintro rfl
          exact h d rfl (by simp [Oper.looksAt, hg, hd])
        simp only [putT]
        rw [nthD_setN_ne _ _ _ _ _ hne]

theorem execD_put {T : List PV} {ops : Array Oper} {o : Oper} {dst : Option Nat} {v : PV} (objs : List Obj) (h : ∀ d, dst = some d → d ∉ o.looksAt ops) : execD E C (putT T dst v) objs o = execD E C T objs o :=
  execD_congr objs o fun x hx => ev_put fun d hd hxd => h d hd (by
    subst hxd
    exact List.mem_append_left _ (List.mem_filterMap.2 ⟨.tmp d, by simpa using hx, rfl⟩))

/-- What has nothing to do with the objects. -/
theorem class0 {T : List PV} {o : Oper} (h : objClass E o = 0) (objs objs2 : List Obj) : execD E C T objs o = (execD E C T objs2 o).map fun p => (p.1, objs) := by
  have vk : ∀ (x : Option PV), (x.bind fun v => some (v, objs)) = (x.bind fun v => some (v, objs2)).map fun p => (p.1, objs) := by intro x; cases x <;> rfl
  obtain ⟨dst, op, type, pos, after, guard⟩ := o
  unfold objClass at h
  unfold execD
  simp only at h ⊢
  cases op <;> (try simp only at h) <;> first | (cases h; done) | skip
  case convert s d x => split at h <;> cases h
  case call c =>
    obtain ⟨callee, args, ats⟩ := c
    cases callee with
    | value f => simp only at h; cases hp : allB (fun ti => allB plainLeaf ti.leaves) (resTIs E type) <;> rw [hp] at h <;> cases h
    | invoke r n => simp only at h; cases hp : allB (fun ti => allB plainLeaf ti.leaves) (resTIs E type) <;> rw [hp] at h <;> cases h
    | builtin b => cases b <;> cases h
  all_goals simp only [opD, opK]
  case move x => rfl
  case assign x => rfl
  case pick c a b => split <;> first | rfl | (rename_i b _; cases b <;> rfl)
  case build t ps => rw [buildK_bind, buildK_bind (k := fun v => some (v, objs2))]; exact vk _
  case binOp op t x y e => rw [binK_bind, binK_bind (k := fun v => some (v, objs2))]; exact vk _
  case unOp op t x => rw [unK_bind, unK_bind (k := fun v => some (v, objs2))]; exact vk _
  case makeInterface t x => split <;> rfl
  case makeFunc => rfl
  case field t x f => rw [fieldK_bind, fieldK_bind (k := fun v => some (v, objs2))]; exact vk _
  case index t x i => rw [indexK_bind, indexK_bind (k := fun v => some (v, objs2))]; exact vk _
  case typeAssert x xt a ok => rw [assertK_bind, assertK_bind (k := fun v => some (v, objs2))]; exact vk _
  case extract x i => split <;> first | rfl | (split <;> rfl)

theorem bind_objs {x : Option PV} {objs objs' : List Obj} {p : PV} (h : (x.bind fun v => some (v, objs)) = some (p, objs')) : objs' = objs := by
  cases x with
  | none => cases h
  | some v => simp only [Option.bind_some, Option.some.injEq, Prod.mk.injEq] at h; exact h.2.symm

theorem askR_objs {T : List PV} {objs objs' : List Obj} {t : Nat} {f p : PV} {args : List PV} (hp : allB (fun ti => allB plainLeaf ti.leaves) (resTIs E t) = true) (h : askR C (callAsk E t f args objs) = some (p, objs')) : objs' = objs := by
  unfold askR callAsk at h
  cases hpf : plainFn E f with
  | true =>
    rw [hpf] at h
    simp only [cond_true] at h
    cases hpl : allB plainPV args with
    | false => rw [hpl] at h; cases h
    | true =>
    rw [hpl] at h
    simp only [cond_true, Option.bind_some] at h
    cases hc : C (resTIs E t) f args with
    | none => rw [hc] at h; cases h
    | some r => rw [hc] at h; simp only [Option.map_some, Option.some.injEq, Prod.mk.injEq] at h; exact h.2.symm
  | false =>
  rw [hpf] at h
  simp only [cond_false] at h
  cases h1 : purify pfuel objs f with
  | none => rw [h1] at h; cases h
  | some y =>
  obtain ⟨f', objs1⟩ := y
  rw [h1] at h
  simp only at h
  cases h2 : purifyL pfuel objs1 args with
  | none => rw [h2] at h; cases h
  | some y =>
  obtain ⟨args', objs2⟩ := y
  rw [h2] at h
  simp only [Option.bind_some, hp, cond_true] at h
  cases hc : C (resTIs E t) f' args' with
  | none => rw [hc] at h; cases h
  | some r =>
  rw [hc] at h
  simp only [Option.map_some, Option.some.injEq, Prod.mk.injEq] at h
  exact h.2.symm

/-- What turns no object. -/
theorem class1 {T : List PV} {o : Oper} (h : objClass E o = 1) {objs objs' : List Obj} {p : PV} (he : execD E C T objs o = some (p, objs')) : objs' = objs := by
  obtain ⟨dst, op, type, pos, after, guard⟩ := o
  unfold objClass at h
  unfold execD at he
  simp only at h he
  cases op <;> (try simp only at h) <;> first | (cases h; done) | skip
  case convert s d x =>
    simp only [opD, opK] at he
    unfold convK at he
    cases hk : (E.ti s).d.known with
    | false => rw [hk] at he; simp at he
    | true =>
    rw [hk] at he
    simp only [Bool.not_true, cond_false] at he
    split at he
    · simp only [Option.some.injEq, Prod.mk.injEq] at he; exact he.2.symm
    · simp only [Option.some.injEq, Prod.mk.injEq] at he; exact he.2.symm
    · simp only [Option.some.injEq, Prod.mk.injEq] at he; exact he.2.symm
    · rename_i hd _; rw [hd] at h; cases h
    · split at he
      · rename_i e _ _ _ _ _ _
        cases hz : ((E.ti e).size == 1) with
        | false => rw [hz] at he; simp at he
        | true =>
          rw [hz] at he
          simp only [Bool.not_true, cond_false] at he
          split at he
          · rename_i l _
            cases hb : bytesOf l with
            | none => rw [hb] at he; cases he
            | some z => rw [hb] at he; simp only [Option.bind_some, Option.some.injEq, Prod.mk.injEq] at he; exact he.2.symm
          · cases he
      · cases he
    · cases he
  case call c =>
    obtain ⟨callee, args, ats⟩ := c
    cases callee with
    | value f =>
      simp only at h he
      cases hp : allB (fun ti => allB plainLeaf ti.leaves) (resTIs E type) with
      | false => rw [hp] at h; cases h
      | true => exact askR_objs (T := T) hp he
    | invoke r n =>
      simp only at h he
      cases hp : allB (fun ti => allB plainLeaf ti.leaves) (resTIs E type) with
      | false => rw [hp] at h; cases h
      | true =>
        split at he
        case h_2 => cases he
        split at he
        case h_2 => cases he
        exact askR_objs (T := T) hp he
    | builtin b =>
      cases b <;> first | (cases h; done) | skip
      all_goals simp only [opD, opK] at he
      · split at he
        · rw [capK_bind] at he; exact bind_objs he
        · cases he
      · split at he
        · rw [lenK_bind] at he; exact bind_objs he
        · cases he
      · rw [mmK_bind] at he; exact bind_objs he
      · rw [mmK_bind] at he; exact bind_objs he
  all_goals simp only [opD, opK] at he
  case load t x => rw [loadK_bind] at he; exact bind_objs he
  case nilCheck x => rw [nilCheckK_bind] at he; exact bind_objs he
  case slice t x lo hi mx => rw [sliceK_bind] at he; exact bind_objs he
  case fieldAddr t x f => rw [fieldAddrK_bind] at he; exact bind_objs he
  case indexAddr t x i => rw [indexAddrK_bind] at he; exact bind_objs he

def valR (E : Env) (C : Orc) (ops : Array Oper) (o : Oper) (T : List PV) (objs : List Obj) : Option (PV × List Obj) :=
  (guardOf T ops o).bind fun b => bif b then execD E C T objs o else some (.tuple [], objs)

theorem oneR_some {ops : Array Oper} {i : Nat} {o : Oper} (ho : ops[i]? = some o) (s : RSt) : oneR E C ops i s = (valR E C ops o s.1 s.2).map fun p => (putT s.1 o.dst p.1, p.2) := by
  unfold oneR valR
  rw [ho]
  simp only
  cases guardOf s.1 ops o with
  | none => rfl
  | some b => cases b <;> simp

theorem valR_put {ops : Array Oper} {o : Oper} {T : List PV} {dst : Option Nat} {v : PV} (objs : List Obj) (h : ∀ d, dst = some d → d ∉ o.looksAt ops) : valR E C ops o (putT T dst v) objs = valR E C ops o T objs := by
  unfold valR
  rw [guardOf_put h]
  cases guardOf T ops o with
  | none => rfl
  | some b => cases b <;> simp [execD_put objs h]

theorem valR0 {ops : Array Oper} {o : Oper} {T : List PV} (h : objClass E o = 0) (objs objs2 : List Obj) : valR E C ops o T objs = (valR E C ops o T objs2).map fun p => (p.1, objs) := by
  unfold valR
  cases guardOf T ops o with
  | none => rfl
  | some b =>
    cases b with
    | false => rfl
    | true => simp only [Option.bind_some, cond_true]; exact class0 h objs objs2

theorem valR1 {ops : Array Oper} {o : Oper} {T : List PV} (h : objClass E o = 1) {objs objs' : List Obj} {p : PV} (he : valR E C ops o T objs = some (p, objs')) : objs' = objs := by
  unfold valR at he
  cases hg : guardOf T ops o with
  | none => rw [hg] at he; cases he
  | some b =>
    rw [hg] at he
    cases b with
    | false => simp at he; exact he.2.symm
    | true => exact class1 h he

theorem valR0' {ops : Array Oper} {o : Oper} {T : List PV} (h : objClass E o = 0) {objs objs' : List Obj} {p : PV} (he : valR E C ops o T objs = some (p, objs')) : objs' = objs ∧ ∀ o2, valR E C ops o T o2 = some (p, o2) := by
  have h1 := valR0 (C := C) (ops := ops) (T := T) h objs objs
  rw [he] at h1
  simp only [Option.map_some, Option.some.injEq, Prod.mk.injEq, true_and] at h1
  subst h1
  refine ⟨rfl, fun o2 => ?_⟩
  rw [valR0 h o2 objs', he]
  rfl

/-! ### what an operation has to do with the objects -/
theorem bind_objs' {x y : Option PV} {objs objs2 : List Obj} (h : x = y) : (y.bind fun v => some (v, objs2)) = (x.bind fun v => some (v, objs)).map fun p => (p.1, objs2) := by subst h; cases x <;> rfl

/-- The slots that nobody writes are as they were. -/
def Inv (ops : Array Oper) (T0 T : List PV) : Prop := ∀ a, stable ops a = true → nthD .undef T a = nthD .undef T0 a

theorem slotAt_spec {ops : Array Oper} {T0 T : List PV} (hI : Inv ops T0 T) {x : Operand} {v : PV} (h : slotAt ops T0 x = some v) : ev T x = v := by
  cases x with
  | tmp a =>
    simp only [slotAt] at h
    cases hs : stable ops a with
    | false => rw [hs] at h; cases h
    | true =>
      rw [hs] at h
      simp only [cond_true, Option.some.injEq] at h
      simp only [ev]
      rw [hI a hs, h]
  | _ => simp [slotAt] at h

def Agree (r : Option Nat) (objs objs2 : List Obj) : Prop := ∀ i, r = some i → nthD .dead objs i = nthD .dead objs2 i

theorem loadK_agree (t : Nat) {v : PV} {objs objs2 : List Obj} (h : Agree (refOf v) objs objs2) : loadK E t objs v some = loadK E t objs2 v some := by
  unfold loadK
  cases v <;> first | rfl | (simp only; rw [h _ rfl])
theorem fieldAddrK_agree (t f : Nat) {v : PV} {objs objs2 : List Obj} (h : Agree (refOf v) objs objs2) : fieldAddrK E t objs v f some = fieldAddrK E t objs2 v f some := by
  unfold fieldAddrK
  cases v <;> first | rfl | (simp only; rw [h _ rfl])
theorem nilCheckK_agree {v : PV} {objs objs2 : List Obj} (h : Agree (refOf v) objs objs2) : nilCheckK objs v some = nilCheckK objs2 v some := by
  unfold nilCheckK
  cases v <;> first | rfl | (simp only; rw [h _ rfl])
theorem lenK_agree (t : Nat) {v : PV} {objs objs2 : List Obj} (h : Agree (refOf v) objs objs2) : lenK E t objs v some = lenK E t objs2 v some := by
  unfold lenK
  cases v <;> first | rfl | (simp only; rw [h _ rfl])
theorem indexAddrK_agree (t : Nat) (ix : PV) {v : PV} {objs objs2 : List Obj} (h : Agree (refOf v) objs objs2) : indexAddrK E t objs v ix some = indexAddrK E t objs2 v ix some := by
  unfold indexAddrK
  cases v <;> first | rfl | (simp only; rw [h _ rfl]; done) | (rename_i i off; cases off <;> first | rfl | (simp only; rw [h _ rfl]))
theorem sliceK_agree (t : Nat) (lo hi mx : Option PV) {v : PV} {objs objs2 : List Obj} (h : Agree (refOf v) objs objs2) : sliceK E t objs v lo hi mx some = sliceK E t objs2 v lo hi mx some := by
  unfold sliceK sliceArrK
  cases v <;> first | rfl | (simp only; rw [h _ rfl]; done) | (rename_i i off; cases off <;> first | rfl | (simp only; rw [h _ rfl]))

/-- A reader's answer hangs on its own object alone. -/
theorem reads_dep {ops : Array Oper} {T0 T : List PV} (hI : Inv ops T0 T) {o : Oper} {r : Option (Option Nat)} (h : effOf E ops T0 o = .reads r) :
    (∀ objs objs' p, execD E C T objs o = some (p, objs') → objs' = objs) ∧ (∀ i, r = some i → ∀ objs objs2, Agree i objs objs2 → execD E C T objs2 o = (execD E C T objs o).map fun p => (p.1, objs2)) := by
  have rd : ∀ {x : Operand} {i : Option Nat}, readsOf ops T0 x = .reads r → r = some i → refOf (ev T x) = i := by
    intro x i hr hi
    simp only [readsOf, Eff.reads.injEq] at hr
    rw [hi] at hr
    cases hs : slotAt ops T0 x with
    | none => rw [hs] at hr; cases hr
    | some v =>
      rw [hs] at hr
      simp only [Option.map_some, Option.some.injEq] at hr
      rw [slotAt_spec hI hs, hr]
  have by1 : objClass E o = 1 → ∀ objs objs' p, execD E C T objs o = some (p, objs') → objs' = objs := fun h1 objs objs' p he => class1 h1 he
  have gen : ∀ o : Oper, genEff E o = .reads r → objClass E o = 1 ∧ r = none := by
    intro o h
    unfold genEff at h
    split at h
    · cases h
    · rename_i h1; cases h; exact ⟨h1, rfl⟩
    · cases h
  obtain ⟨dst, op, type, pos, after, guard⟩ := o
  unfold effOf at h
  cases op
  case store t x y => simp only at h; cases ha : (E.ti t).d.isArr <;> rw [ha] at h <;> simp only [cond_true, cond_false] at h <;> first | (cases h; done) | (split at h <;> cases h)
  case load t x =>
    refine ⟨by1 rfl, fun i hi objs objs2 ha => ?_⟩
    have hr := rd h hi
    unfold execD; simp only [opD, opK]
    rw [loadK_bind, loadK_bind (k := fun v => some (v, objs))]
    exact bind_objs' (loadK_agree t (hr.symm ▸ ha))
  case fieldAddr t x f =>
    refine ⟨by1 rfl, fun i hi objs objs2 ha => ?_⟩
    have hr := rd h hi
    unfold execD; simp only [opD, opK]
    rw [fieldAddrK_bind, fieldAddrK_bind (k := fun v => some (v, objs))]
    exact bind_objs' (fieldAddrK_agree t f (hr.symm ▸ ha))
  case nilCheck x =>
    refine ⟨by1 rfl, fun i hi objs objs2 ha => ?_⟩
    have hr := rd h hi
    unfold execD; simp only [opD, opK]
    rw [nilCheckK_bind, nilCheckK_bind (k := fun v => some (v, objs))]
    exact bind_objs' (nilCheckK_agree (hr.symm ▸ ha))
  case slice t x lo hi' mx =>
    refine ⟨by1 rfl, fun i hi objs objs2 ha => ?_⟩
    have hr := rd h hi
    unfold execD; simp only [opD, opK]
    rw [sliceK_bind, sliceK_bind (k := fun v => some (v, objs))]
    exact bind_objs' (sliceK_agree t _ _ _ (hr.symm ▸ ha))
  case indexAddr t x ix =>
    refine ⟨by1 rfl, fun i hi objs objs2 ha => ?_⟩
    have hr := rd h hi
    unfold execD; simp only [opD, opK]
    rw [indexAddrK_bind, indexAddrK_bind (k := fun v => some (v, objs))]
    exact bind_objs' (indexAddrK_agree t _ (hr.symm ▸ ha))
  case call c =>
    obtain ⟨callee, args, ats⟩ := c
    cases callee with
    | value f =>
      have other : genEff E (⟨dst, .call ⟨.value f, args, ats⟩, type, pos, after, guard⟩ : Oper) = .reads r → (∀ objs objs' p, execD E C T objs (⟨dst, .call ⟨.value f, args, ats⟩, type, pos, after, guard⟩ : Oper) = some (p, objs') → objs' = objs) ∧
          (∀ i, r = some i → ∀ objs objs2, Agree i objs objs2 → execD E C T objs2 (⟨dst, .call ⟨.value f, args, ats⟩, type, pos, after, guard⟩ : Oper) = (execD E C T objs (⟨dst, .call ⟨.value f, args, ats⟩, type, pos, after, guard⟩ : Oper)).map fun p => (p.1, objs2)) := by
        intro h
        obtain ⟨h1, h2⟩ := gen _ h
        exact ⟨by1 h1, fun i hi => by rw [h2] at hi; cases hi⟩
      cases f with
      | func g =>
        simp only at h
        cases hp : plainFn E (.func (.func g) [] []) with
        | true => rw [hp] at h; cases h
        | false => rw [hp] at h; exact other h
      | _ => exact other h
    | invoke rr n =>
      obtain ⟨h1, h2⟩ := gen _ h
      exact ⟨by1 h1, fun i hi => by rw [h2] at hi; cases hi⟩
    | builtin b =>
      cases b
      case len =>
        simp only at h
        split at h
        · rename_i x hx
          refine ⟨by1 rfl, fun i hi objs objs2 ha => ?_⟩
          have hr := rd h hi
          unfold execD; simp only [opD, opK]
          rw [hx]
          cases ats.toList with
          | nil => rfl
          | cons t ts =>
            simp only
            rw [lenK_bind, lenK_bind (k := fun v => some (v, objs))]
            exact bind_objs' (lenK_agree t (hr.symm ▸ ha))
        · cases h
          exact ⟨by1 rfl, fun i hi => by cases hi⟩
      all_goals
        obtain ⟨h1, h2⟩ := gen _ h
        exact ⟨by1 h1, fun i hi => by rw [h2] at hi; cases hi⟩
  all_goals
    obtain ⟨h1, h2⟩ := gen _ h
    exact ⟨by1 h1, fun i hi => by rw [h2] at hi; cases hi⟩

/-- What is free of the objects. -/
theorem free_dep {ops : Array Oper} {T0 T : List PV} {o : Oper} (h : effOf E ops T0 o = .free) (objs objs2 : List Obj) : execD E C T objs o = (execD E C T objs2 o).map fun p => (p.1, objs) := by
  have gen : ∀ o : Oper, genEff E o = .free → objClass E o = 0 := by
    intro o h
    unfold genEff at h
    split at h
    · assumption
    · cases h
    · cases h
  have hall := h
  obtain ⟨dst, op, type, pos, after, guard⟩ := o
  unfold effOf at h
  cases op
  case store t x y => simp only at h; cases ha : (E.ti t).d.isArr <;> rw [ha] at h <;> simp only [cond_true, cond_false] at h <;> first | (cases h; done) | (split at h <;> cases h)
  case call c =>
    obtain ⟨callee, args, ats⟩ := c
    cases callee with
    | value f =>
      cases f with
      | func g =>
        simp only at h
        cases hp : plainFn E (.func (.func g) [] []) with
        | false => rw [hp] at h; exact class0 (gen _ h) objs objs2
        | true =>
          unfold execD
          simp only [ev]
          unfold askR callAsk
          rw [hp]
          simp only [cond_true]
          cases allB plainPV (args.toList.map (ev T)) with
          | false => rfl
          | true =>
            simp only [cond_true, Option.bind_some]
            cases C (resTIs E type) (.func (.func g) [] []) (args.toList.map (ev T)) <;> rfl
      | _ => exact class0 (gen _ h) objs objs2
    | invoke rr n => exact class0 (gen _ h) objs objs2
    | builtin b =>
      cases b
      case len => simp only at h; split at h <;> cases h
      all_goals exact class0 (gen _ h) objs objs2
  case load => cases h
  case fieldAddr => cases h
  case nilCheck => cases h
  case slice => cases h
  case indexAddr => cases h
  all_goals exact class0 (gen _ h) objs objs2

/-- A store turns one object, and hangs on that alone. -/
theorem writes_dep {ops : Array Oper} {T0 T : List PV} (hI : Inv ops T0 T) {o : Oper} {j : Nat} (h : effOf E ops T0 o = .writes j) {objs objs' : List Obj} {p : PV} (he : execD E C T objs o = some (p, objs')) :
    ∃ ob, objs' = setN objs j ob ∧ ∀ objs2, nthD .dead objs2 j = nthD .dead objs j → execD E C T objs2 o = some (p, setN objs2 j ob) := by
  have gen : ∀ o : Oper, genEff E o ≠ .writes j := by
    intro o h
    unfold genEff at h
    split at h <;> cases h
  obtain ⟨dst, op, type, pos, after, guard⟩ := o
  unfold effOf at h
  cases op
  case store t x y =>
    simp only at h
    cases ha : (E.ti t).d.isArr with
    | true => rw [ha] at h; cases h
    | false =>
    rw [ha] at h
    simp only [cond_false] at h
    split at h
    case h_2 => cases h
    rename_i j' off hs
    cases h
    have hx := slotAt_spec hI hs
    unfold execD at he ⊢
    simp only [opD, opK, hx] at he ⊢
    unfold storeK at he ⊢
    simp only at he ⊢
    cases hc : ((E.ti t).d.known && ((ev T y).cellsL.length == (E.ti t).size) && allB PV.scalar (ev T y).cellsL) with
    | false => rw [hc] at he; simp at he
    | true =>
    rw [hc] at he
    simp only [Bool.not_true, cond_false] at he ⊢
    cases ho : nthD .dead objs j with
    | cells l f =>
      cases f with
      | true => rw [ho] at he; cases he
      | false =>
        rw [ho] at he
        simp only at he
        cases hle : Nat.ble (off + (E.ti t).size) l.length with
        | false => rw [hle] at he; cases he
        | true =>
          rw [hle] at he
          simp only [cond_true, Option.some.injEq, Prod.mk.injEq] at he
          obtain ⟨rfl, rfl⟩ := he
          refine ⟨_, rfl, fun objs2 h2 => ?_⟩
          rw [h2]
          simp only [hle, cond_true]
    | row s l fz cap =>
      rw [ho] at he
      simp only at he
      exfalso
      cases hp : purifyL pfuel objs (ev T y).cellsL with
      | none => rw [hp] at he; cases he
      | some z =>
        obtain ⟨vs, o1⟩ := z
        rw [hp] at he
        simp only [ha, Bool.false_and, cond_false] at he
        split at he <;> cases he
    | _ => rw [ho] at he; cases he
  case call c =>
    obtain ⟨callee, args, ats⟩ := c
    cases callee with
    | value f =>
      cases f with
      | func g =>
        simp only at h
        cases hp : plainFn E (.func (.func g) [] []) with
        | true => rw [hp] at h; cases h
        | false => rw [hp] at h; exact absurd h (gen _)
      | _ => exact absurd h (gen _)
    | invoke rr n => exact absurd h (gen _)
    | builtin b =>
      cases b
      case len => simp only at h; split at h <;> cases h
      all_goals exact absurd h (gen _)
  case load => cases h
  case fieldAddr => cases h
  case nilCheck => cases h
  case slice => cases h
  case indexAddr => cases h
  all_goals exact absurd h (gen _)

section
variable {ops : Array Oper} {T0 T : List PV} {o : Oper}

theorem val_free (h : effOf E ops T0 o = .free) {objs objs' : List Obj} {p : PV} (he : valR E C ops o T objs = some (p, objs')) : objs' = objs ∧ ∀ o2, valR E C ops o T o2 = some (p, o2) := by
  have h1 : ∀ o1 o2, valR E C ops o T o1 = (valR E C ops o T o2).map fun p => (p.1, o1) := by
    intro o1 o2
    unfold valR
    cases guardOf T ops o with
    | none => rfl
    | some b =>
      cases b with
      | false => rfl
      | true => simp only [Option.bind_some, cond_true]; exact free_dep h o1 o2
  have h2 := h1 objs objs
  rw [he] at h2
  simp only [Option.map_some, Option.some.injEq, Prod.mk.injEq, true_and] at h2
  subst h2
  exact ⟨rfl, fun o2 => by rw [h1 o2 objs', he]; rfl⟩

theorem val_reads (hI : Inv ops T0 T) {r : Option (Option Nat)} (h : effOf E ops T0 o = .reads r) {objs objs' : List Obj} {p : PV} (he : valR E C ops o T objs = some (p, objs')) :
    objs' = objs ∧ ∀ i, r = some i → ∀ o2, Agree i objs o2 → valR E C ops o T o2 = some (p, o2) := by
  obtain ⟨d1, d2⟩ := reads_dep (C := C) hI h
  unfold valR at he ⊢
  cases hg : guardOf T ops o with
  | none => rw [hg] at he; cases he
  | some b =>
    rw [hg] at he
    cases b with
    | false =>
      simp only [Option.bind_some, cond_false, Option.some.injEq, Prod.mk.injEq] at he ⊢
      exact ⟨he.2.symm, fun i _ o2 _ => ⟨he.1, trivial⟩⟩
    | true =>
      simp only [Option.bind_some, cond_true] at he ⊢
      refine ⟨d1 _ _ _ he, fun i hi o2 ha => ?_⟩
      rw [d2 i hi objs o2 ha, he]; rfl

theorem val_writes (hI : Inv ops T0 T) {j : Nat} (h : effOf E ops T0 o = .writes j) {objs objs' : List Obj} {p : PV} (he : valR E C ops o T objs = some (p, objs')) :
    ∃ u : List Obj → List Obj, objs' = u objs ∧ ((∀ x, u x = x) ∨ ∃ ob, ∀ x, u x = setN x j ob) ∧ ∀ o2, nthD .dead o2 j = nthD .dead objs j → valR E C ops o T o2 = some (p, u o2) := by
  unfold valR at he ⊢
  cases hg : guardOf T ops o with
  | none => rw [hg] at he; cases he
  | some b =>
    rw [hg] at he
    cases b with
    | false =>
      simp only [Option.bind_some, cond_false, Option.some.injEq, Prod.mk.injEq] at he ⊢
      exact ⟨id, he.2.symm, .inl (fun _ => rfl), fun o2 _ => ⟨he.1, rfl⟩⟩
    | true =>
      simp only [Option.bind_some, cond_true] at he ⊢
      obtain ⟨ob, h1, h2⟩ := writes_dep hI h he
      exact ⟨fun x => setN x j ob, h1, .inr ⟨ob, fun _ => rfl⟩, h2⟩
end

theorem u_nth {u : List Obj → List Obj} {j i : Nat} (h : (∀ x, u x = x) ∨ ∃ ob, ∀ x, u x = setN x j ob) (hij : j ≠ i) (x : List Obj) : nthD .dead (u x) i = nthD .dead x i := by
  rcases h with h | ⟨ob, h⟩
  · rw [h]
  · rw [h, nthD_setN_ne _ _ _ _ _ hij]

theorem u_comm {u v : List Obj → List Obj} {i j : Nat} (h : (∀ x, u x = x) ∨ ∃ ob, ∀ x, u x = setN x i ob) (h' : (∀ x, v x = x) ∨ ∃ ob, ∀ x, v x = setN x j ob) (hij : i ≠ j) (x : List Obj) : u (v x) = v (u x) := by
  rcases h with h | ⟨ob, h⟩
  · rw [h, h]
  · rcases h' with h' | ⟨ob', h'⟩
    · rw [h', h']
    · rw [h, h', h, h', setN_eq, setN_eq, setN_eq, setN_eq, List.set_comm _ _ (Ne.symm hij)]

/-- Two operations that have nothing to do with each other may change places. -/
theorem oneR_comm {ops : Array Oper} {T0 : List PV} {i j : Nat} {oi oj : Oper} (hi : ops[i]? = some oi) (hj : ops[j]? = some oj) (hap : oi.apart ops oj = true) (hcls : clsOk E ops T0 oi oj = true) {s s1 s2 : RSt} (hI : Inv ops T0 s.1) (h1 : oneR E C ops i s = some s1) (h2 : oneR E C ops j s1 = some s2) :
    ∃ s1', oneR E C ops j s = some s1' ∧ oneR E C ops i s1' = some s2 := by
  obtain ⟨a1, a2, a3⟩ := Oper.apart_spec hap
  rw [oneR_some hi] at h1
  cases hv : valR E C ops oi s.1 s.2 with
  | none => rw [hv] at h1; cases h1
  | some pi =>
  rw [hv] at h1
  simp only [Option.map_some, Option.some.injEq] at h1
  subst h1
  rw [oneR_some hj] at h2
  simp only at h2
  rw [valR_put _ a1] at h2
  cases hw : valR E C ops oj s.1 pi.2 with
  | none => rw [hw] at h2; cases h2
  | some pj =>
  rw [hw] at h2
  simp only [Option.map_some, Option.some.injEq] at h2
  subst h2
  -- the other way
  have fin : ∀ oj', valR E C ops oj s.1 s.2 = some (pj.1, oj') → valR E C ops oi s.1 oj' = some (pi.1, pj.2) → ∃ s1', oneR E C ops j s = some s1' ∧ oneR E C ops i s1' = some (putT (putT s.1 oi.dst pi.1) oj.dst pj.1, pj.2) := by
    intro oj' e1 e2
    refine ⟨(putT s.1 oj.dst pj.1, oj'), by rw [oneR_some hj, e1]; rfl, ?_⟩
    rw [oneR_some hi]
    simp only
    rw [valR_put _ a3, e2, putT_comm s.1 pi.1 pj.1 a2]
    rfl
  obtain ⟨pi1, pi2⟩ := pi
  obtain ⟨pj1, pj2⟩ := pj
  simp only at hv hw fin ⊢
  unfold clsOk at hcls
  cases ei : effOf E ops T0 oi with
  | free =>
    obtain ⟨rfl, hall⟩ := val_free ei hv
    exact fin pj2 hw (hall pj2)
  | any =>
    rw [ei] at hcls
    cases ej : effOf E ops T0 oj with
    | free =>
      obtain ⟨rfl, hall⟩ := val_free ej hw
      exact fin s.2 (hall s.2) hv
    | _ => rw [ej] at hcls; cases hcls
  | reads r =>
    rw [ei] at hcls
    obtain ⟨rfl, hr⟩ := val_reads hI ei hv
    cases ej : effOf E ops T0 oj with
    | free =>
      obtain ⟨rfl, hall⟩ := val_free ej hw
      exact fin s.2 hw hv
    | reads r' =>
      obtain ⟨rfl, _⟩ := val_reads hI ej hw
      exact fin s.2 hw hv
    | writes k =>
      rw [ej] at hcls
      obtain ⟨u, rfl, hu, _⟩ := val_writes hI ej hw
      cases r with
      | none => cases hcls
      | some r =>
        refine fin (u s.2) hw (hr r rfl _ (fun m hm => ?_))
        subst hm
        simp only [effOk, Bool.not_eq_true', beq_eq_false_iff_ne] at hcls
        exact (u_nth hu (Ne.symm hcls) s.2).symm
    | any => rw [ej] at hcls; cases hcls
  | writes k =>
    rw [ei] at hcls
    obtain ⟨u, rfl, hu, hua⟩ := val_writes hI ei hv
    cases ej : effOf E ops T0 oj with
    | free =>
      obtain ⟨rfl, hall⟩ := val_free ej hw
      exact fin s.2 (hall s.2) hv
    | reads r =>
      rw [ej] at hcls
      obtain ⟨rfl, hr⟩ := val_reads hI ej hw
      cases r with
      | none => cases hcls
      | some r =>
        refine fin s.2 (hr r rfl _ (fun m hm => ?_)) hv
        subst hm
        simp only [effOk, Bool.not_eq_true', beq_eq_false_iff_ne] at hcls
        exact u_nth hu (Ne.symm hcls) s.2
    | writes k' =>
      rw [ej] at hcls
      simp only [effOk, Bool.not_eq_true', beq_eq_false_iff_ne] at hcls
      obtain ⟨u', rfl, hu', hua'⟩ := val_writes hI ej hw
      refine fin (u' s.2) (hua' s.2 (u_nth hu hcls s.2).symm) ?_
      rw [hua (u' s.2) (u_nth hu' (Ne.symm hcls) s.2), u_comm hu hu' hcls]
    | any => rw [ej] at hcls; cases hcls

theorem oneR_inv {ops : Array Oper} {T0 : List PV} {i : Nat} {s s1 : RSt} (hI : Inv ops T0 s.1) (h : oneR E C ops i s = some s1) : Inv ops T0 s1.1 := by
  cases ho : ops[i]? with
  | none =>
    unfold oneR at h
    rw [ho] at h
    simp only [Option.some.injEq] at h
    subst h; exact hI
  | some o =>
    rw [oneR_some ho] at h
    cases hv : valR E C ops o s.1 s.2 with
    | none => rw [hv] at h; cases h
    | some p =>
      rw [hv] at h
      simp only [Option.map_some, Option.some.injEq] at h
      subst h
      intro a ha
      have hne := allB_spec ha o (List.mem_of_getElem? (by rw [Array.getElem?_toList]; exact ho))
      cases hd : o.dst with
      | none => exact hI a ha
      | some d =>
        rw [hd] at hne
        simp only [Bool.not_eq_true', beq_eq_false_iff_ne] at hne
        simp only [putT]
        rw [nthD_setN_ne _ _ _ _ _ hne]
        exact hI a ha

/-- In every order that is open, the same comes out. -/
def anyR (E : Env) (C : Orc) (ops : Array Oper) (r : RSt) : Nat → Array Bool → RSt → Prop
  | 0, listed, s => Region.ready .any ops listed = [] ∧ s = r
  | fuel + 1, listed, s => (Region.ready .any ops listed = [] → s = r) ∧ ∀ i ∈ Region.ready .any ops listed, ∃ s1, oneR E C ops i s = some s1 ∧ anyR E C ops r fuel (listed.setIfInBounds i true) s1

theorem anyR_first {ops : Array Oper} {T0 : List PV} {r : RSt} {i : Nat} {oi : Oper} (hi : ops[i]? = some oi) : ∀ (fuel : Nat) (listed : Array Bool) (s s1 : RSt), Inv ops T0 s.1 →
    (∀ j oj, ops[j]? = some oj → j ≠ i → listed.getD j true = false → (∀ e ∈ oj.after, Region.binds .any e = true → e.on ≠ i) → oi.apart ops oj = true ∧ clsOk E ops T0 oi oj = true) →
    i ∈ Region.ready .any ops listed → oneR E C ops i s = some s1 → anyR E C ops r fuel (listed.setIfInBounds i true) s1 → anyR E C ops r (fuel + 1) listed s := by
  intro fuel
  induction fuel with
  | zero =>
    intro listed s s1 _ _ hr hy H
    refine ⟨fun h => (by rw [h] at hr; cases hr), fun j hj => ?_⟩
    by_cases hji : j = i
    · subst hji; exact ⟨s1, hy, H⟩
    · have := ready_mono hj hji
      rw [H.1] at this
      cases this
  | succ fuel ih =>
    intro listed s s1 hI hfree hr hy H
    refine ⟨fun h => (by rw [h] at hr; cases hr), fun j hj => ?_⟩
    by_cases hji : j = i
    · subst hji; exact ⟨s1, hy, H⟩
    · obtain ⟨s2, h1, h1'⟩ := H.2 j (ready_mono hj hji)
      obtain ⟨hjun, oj, hoj, hall⟩ := mem_ready.1 hj
      have hnot : ∀ e ∈ oj.after, Region.binds .any e = true → e.on ≠ i := fun e he hb heq => by
        have h1 := hall e he hb
        have h0 := (mem_ready.1 hr).1
        rw [heq] at h1
        rcases Nat.lt_or_ge i listed.size with h' | h'
        · simp [h'] at h0 h1; rw [h0] at h1; cases h1
        · simp [Array.getElem?_eq_none h'] at h1
      obtain ⟨f1, f2⟩ := hfree j oj hoj hji hjun hnot
      obtain ⟨s1', e1, e2⟩ := oneR_comm hi hoj f1 f2 hI hy h1
      have hfree' : ∀ k ok, ops[k]? = some ok → k ≠ i → (listed.setIfInBounds j true).getD k true = false →
          (∀ e ∈ ok.after, Region.binds .any e = true → e.on ≠ i) → oi.apart ops ok = true ∧ clsOk E ops T0 oi ok = true := fun k ok hk hki hun hno => by
        refine hfree k ok hk hki ?_ hno
        by_cases hjk : j = k
        · subst hjk; exact hjun
        · rw [getD_set_ne true hjk] at hun; exact hun
      refine ⟨s1', e1, ih (listed.setIfInBounds j true) s1' s2 (oneR_inv hI e1) hfree' (ready_mono hr (Ne.symm hji)) e2 ?_⟩
      rw [Array.setIfInBounds_comm _ _ hji]
      exact h1'

theorem clsFree_spec {ops : Array Oper} {T0 : List PV} {x : Oper} {i : Nat} : ∀ {js : List Nat}, clsFree E T0 ops x i js = true → ∀ j ∈ js, ∀ oj, ops[j]? = some oj → i < j → (∀ e ∈ oj.after, Region.binds .any e = true → e.on ≠ i) → clsOk E ops T0 x oj = true
  | [], _, j, hj, _, _, _, _ => by cases hj
  | k :: js, h, j, hj, oj, hoj, hlt, hno => by
    simp only [clsFree, Bool.and_eq_true] at h
    cases hj with
    | head =>
      have h1 := h.1
      rw [hoj] at h1
      simp only [Bool.or_eq_true] at h1
      rcases h1 with (h1 | h1) | h1
      · exact absurd (Nat.le_of_ble_eq_true h1) (by omega)
      · obtain ⟨e, he, hb⟩ := Array.any_eq_true'.1 h1
        simp only [Bool.and_eq_true, beq_iff_eq] at hb
        exact absurd hb.2 (hno e he hb.1)
      · exact h1
    | tail _ hm => exact clsFree_spec h.2 j hm oj hoj hlt hno

theorem anyR_lex {ops : Array Oper} {T0 : List PV} {r : RSt} (hc : ∀ i oi, ops[i]? = some oi → clsFree E T0 ops oi i (List.range ops.size) = true) : ∀ (n k : Nat) (listed : Array Bool) (s : RSt), Inv ops T0 s.1 → k + n = ops.size → (∀ j, j < k → listed.getD j true = true) →
    Region.lexFrom .any ops n k listed = true → regRun E C ops (List.range' k n) s = some r → anyR E C ops r n listed s
  | 0, k, listed, s, _, _, _, hB, h => by
    simp only [List.range'_zero, regRun, Option.some.injEq] at h
    exact ⟨by simpa [Region.lexFrom] using hB, h⟩
  | n + 1, k, listed, s, hI, hkn, hl, hB, h => by
    have hk : k < ops.size := by omega
    have h0 : ops[k]? = some ops[k] := Array.getElem?_eq_getElem hk
    simp only [Region.lexFrom, Bool.and_eq_true] at hB
    obtain ⟨⟨hr, hf⟩, hB'⟩ := hB
    simp only [List.range'_succ, regRun] at h
    obtain ⟨s1, h1, h⟩ := bind_some_eq h
    have hl' : ∀ j, j < k + 1 → (listed.setIfInBounds k true).getD j true = true := by
      intro j hj
      by_cases hjk : k = j
      · subst hjk
        rw [Array.getD_eq_getD_getElem?, Array.getElem?_setIfInBounds]
        split
        · split <;> rfl
        · rename_i h; exact absurd rfl h
      · rw [getD_set_ne true hjk]; exact hl j (by omega)
    refine anyR_first h0 n listed s s1 hI (fun j oj hoj hne hun hno => ⟨Region.free_spec h0 hf j oj hoj hne hun hno, ?_⟩) (by simpa using hr) h1 (anyR_lex hc n (k + 1) _ s1 (oneR_inv hI h1) (by omega) hl' hB' h)
    have hlt : k < j := by
      rcases Nat.lt_or_ge j k with h' | h'
      · rw [hl j h'] at hun; cases hun
      · omega
    exact clsFree_spec (hc k _ h0) j (List.mem_range.2 (Array.getElem?_eq_some_iff.1 hoj).1) oj hoj hlt hno

theorem anyR_sound {ops : Array Oper} {r : RSt} : ∀ (fuel t : Nat) (listed : Array Bool) (s : RSt), anyR E C ops r fuel listed s → regRun E C ops (Region.linearise.go .any ops fuel t listed []) s = some r := by
  intro fuel
  induction fuel with
  | zero =>
    intro t listed s h
    simp only [Region.linearise.go, List.reverse_nil, regRun]
    rw [h.2]
  | succ fuel ih =>
    intro t listed s h
    obtain ⟨h₀, h₁⟩ := h
    simp only [Region.linearise.go]
    change regRun E C ops (match (Region.ready .any ops listed)[t % (Region.ready .any ops listed).length]? with
      | some i => Region.linearise.go .any ops fuel (t / (Region.ready .any ops listed).length) (listed.setIfInBounds i true) [i]
      | none => [].reverse) s = some r
    cases hi : (Region.ready .any ops listed)[t % (Region.ready .any ops listed).length]? with
    | none =>
      have hnil : Region.ready .any ops listed = [] := by
        cases hr : Region.ready .any ops listed with
        | nil => rfl
        | cons x xs =>
          rw [hr] at hi
          have hlt : t % (x :: xs).length < (x :: xs).length := Nat.mod_lt _ (by simp)
          simp at hi
          simp at hlt
          omega
      simp [regRun, h₀ hnil]
    | some i =>
      simp only []
      rw [linearise_go_acc, List.reverse_singleton, List.singleton_append]
      obtain ⟨s1, e1, e2⟩ := h₁ i (List.mem_of_getElem? hi)
      simp only [regRun, e1, Option.bind_some]
      exact ih _ _ s1 e2

theorem draw_ok (hm : E.P.follows .mixedOrders = true) (C : Orc) : DrawOk E C := by
  intro fn ops t s s' hd h
  unfold drawOk at hd
  simp only [Bool.and_eq_true] at hd
  obtain ⟨⟨_, hB⟩, hcl⟩ := hd
  simp only [Region.lexB, Bool.and_eq_true] at hB
  simp only [Region.schedule, hm, Bool.true_or, if_true]
  refine anyR_sound ops.size t _ s (anyR_lex (T0 := s.1) (fun i oi hoi => ?_) ops.size 0 _ s (fun _ _ => rfl) (by omega) (fun j hj => by omega) hB.2 (by rw [← List.range_eq_range']; exact h))
  have := allB_spec hcl i (List.mem_range.2 (Array.getElem?_eq_some_iff.1 hoi).1)
  rw [hoi] at this
  exact this
end
end Dv

/- The evaluator 'Dv': a law that answers true, as the statements' rows ask it. -/
namespace Dv
open Go Go.RowKit Go.ChangeShapes Go.WideShapes Go.ChangeAt

/-- An argument, by its cells. -/
def argOf (E : Env) (t : Nat) (qs : List PV) : PV := bif (E.ti t).isAgg then .agg qs else nthD .undef qs 0

/-- The arguments are of their types; 'b': how much there is. -/
def ArgsTy (E : Env) (n : Nat) : List Nat → List PV → Nat → Prop
  | [], [], _ => True
  | t :: ts, p :: ps, b => ∃ b1 b2, (∃ qs, p = argOf E t qs ∧ inTy E n t qs ∧ pbulkL qs ≤ b1) ∧ ArgsTy E n ts ps b2 ∧ b1 + b2 ≤ b
  | _, _, _ => False

theorem argsTy_cons {E : Env} {n t : Nat} {ts : List Nat} {xs : List PV} {b : Nat} (h : ArgsTy E n (t :: ts) xs b) :
    ∃ rest b1 b2 qs, xs = argOf E t qs :: rest ∧ inTy E n t qs ∧ pbulkL qs ≤ b1 ∧ ArgsTy E n ts rest b2 ∧ b1 + b2 ≤ b := by
  cases xs with
  | nil => exact h.elim
  | cons p rest =>
    obtain ⟨b1, b2, ⟨qs, h1, h2, h3⟩, h4, h5⟩ := h
    exact ⟨rest, b1, b2, qs, by rw [h1], h2, h3, h4, h5⟩
theorem argsTy_nil {E : Env} {n : Nat} {xs : List PV} {b : Nat} (h : ArgsTy E n [] xs b) : xs = [] := by
  cases xs with
  | nil => rfl
  | cons p rest => exact h.elim
theorem inTy_int {E : Env} {n t : Nat} {k : IntKind} {qs : List PV} (hd : (E.ti t).d = .int k) (h : inTy E (n + 1) t qs) : ∃ m, qs = [.int k m] ∧ k.min ≤ m ∧ m ≤ k.max := by
  unfold inTy at h; rw [hd] at h; exact h
theorem inTy_bool {E : Env} {n t : Nat} {qs : List PV} (hd : (E.ti t).d = .bool) (h : inTy E (n + 1) t qs) : ∃ b, qs = [.bool b] := by
  unfold inTy at h; rw [hd] at h; exact h
theorem inTy_str {E : Env} {n t : Nat} {qs : List PV} (hd : (E.ti t).d = .str) (h : inTy E (n + 1) t qs) : ∃ s, qs = [.str s] ∧ s.length ≤ maxLen := by
  unfold inTy at h; rw [hd] at h; exact h
theorem inTy_slice {E : Env} {n t e : Nat} {qs : List PV} (hd : (E.ti t).d = .slice e) (h : inTy E (n + 1) t qs) :
    ∃ l, qs = [.sl (E.ti e).size l] ∧ l.length ≤ maxLen ∧ ∀ p ∈ l, (p = bif (E.ti e).isAgg then .agg p.cellsL else nthD .undef p.cellsL 0) ∧ inTy E n e p.cellsL := by
  unfold inTy at h; rw [hd] at h; exact h
theorem inTy_struct {E : Env} {n t : Nat} {fs : List (Nat × Nat)} {qs : List PV} (hd : (E.ti t).d = .struct fs) (h : inTy E (n + 1) t qs) :
    qs.length = (E.ti t).size ∧ ∀ f ∈ fs, inTy E n f.2 ((qs.drop f.1).take (E.ti f.2).size) := by
  unfold inTy at h; rw [hd] at h; exact h

section
variable {E : Env} {H : Type} {enc : TypeId × Value → H} {w : World}

/-- A value of a type has the cells that it should have. -/
theorem val_cells (hE : EnvOk E) {n t : Nat} (ho : okTree E n t = true) {base : Nat} {v : Value} (hv : Value.okWide E.P w .any base t v) :
    (if (E.ti t).isAgg = true then ∃ cs, v = .agg cs else v.cells = #[v]) := by
  have hdesc := (hE.ti t).desc
  cases n with
  | zero => simp [okTree] at ho
  | succ n =>
  unfold okTree at ho
  split at ho
  · rename_i hd
    rw [hd] at hdesc
    have ha : (E.ti t).isAgg = false := by simp [TI.isAgg, hd]
    rw [ha, if_neg (by decide)]
    have hdesc : E.P.underlying t = some .bool := hdesc
    simp only [Value.okWide, hdesc, Cell.okWide, Cell.ok] at hv
    cases v <;> first | rfl | (simp at hv)
  · rename_i k hd
    rw [hd] at hdesc
    have ha : (E.ti t).isAgg = false := by simp [TI.isAgg, hd]
    rw [ha, if_neg (by decide)]
    have hdesc : E.P.underlying t = some (.int k) := hdesc
    simp only [Value.okWide, hdesc, Cell.okWide, Cell.ok] at hv
    cases v <;> first | rfl | (simp at hv)
  · rename_i hd
    rw [hd] at hdesc
    have ha : (E.ti t).isAgg = false := by simp [TI.isAgg, hd]
    rw [ha, if_neg (by decide)]
    have hdesc : E.P.underlying t = some .string := hdesc
    simp only [Value.okWide, hdesc, Cell.okWide, Cell.ok] at hv
    cases v <;> first | rfl | (simp at hv)
  · rename_i e hd
    rw [hd] at hdesc
    have ha : (E.ti t).isAgg = false := by simp [TI.isAgg, hd]
    rw [ha, if_neg (by decide)]
    have hdesc : E.P.underlying t = some (.slice e) := hdesc
    simp only [Value.okWide, hdesc, Cell.okWide, Cell.ok] at hv
    cases v <;> first | rfl | (simp at hv)
  · rename_i fs hd
    rw [hd] at hdesc
    have ha : (E.ti t).isAgg = true := by simp [TI.isAgg, hd]
    rw [if_pos ha]
    obtain ⟨fields, hu, _⟩ := hdesc
    simp only [Value.okWide, hu] at hv
    obtain ⟨cs, h, _⟩ := hv
    exact ⟨cs, h⟩
  · cases ho

/-- The arguments' readings, as values. -/
theorem open_args (hE : EnvOk E) {n base : Nat} : ∀ (ts : List Nat) (vs : List Value) (ds : List (DataW H)) (ps : List MemPlace), allB (okTree E n) ts = true →
    (∀ (j : Nat) t v, ts[j]? = some t → vs[j]? = some v → Value.okWide E.P w .any base t v) → DataW.TrodAll enc E.P w 0 (fun _ => true) true ts vs ds ps →
    ∃ as : List PV, as.length = vs.length ∧ ArgsTy E n ts as (dbulkL ds) ∧ ∀ (j : Nat) (q : PV), as[j]? = some q → VRf w noW q (vs.getD j undef)
  | [], vs, ds, ps, _, _, h => by
    obtain ⟨rfl, rfl, rfl⟩ := trodAll_nil h
    exact ⟨[], rfl, trivial, fun j q hq => by simp at hq⟩
  | t :: ts, vs, ds, ps, ho, hv, h => by
    obtain ⟨v, vs', d, ds', p, q, rfl, rfl, rfl, h0, hr⟩ := trodAll_cons h
    simp only [allB, Bool.and_eq_true] at ho
    obtain ⟨as, l1, t1, r1⟩ := open_args hE ts vs' ds' q ho.2 (fun j t v ht hv' => hv (j + 1) t v (by simpa using ht) (by simpa using hv')) hr
    have hcells := val_cells hE ho.1 (hv 0 t v rfl rfl)
    obtain ⟨fuel, hx⟩ := h0
    obtain ⟨qs, q1, q2, q3, q4⟩ := open_trod hE n t fuel v.cells.toList _ ho.1 hx
    have hq4 : pbulkL qs ≤ dbulk d := by
      have : dbulk (d, p).1 = dbulk d := rfl
      omega
    refine ⟨argOf E t qs :: as, by simp [l1], ?_, ?_⟩
    · show ∃ b1 b2, _
      exact ⟨dbulk d, dbulkL ds', ⟨qs, rfl, q3, hq4⟩, t1, by simp [dbulkL]⟩
    · intro j a ha
      cases j with
      | succ j => simpa using r1 j a (by simpa using ha)
      | zero =>
        simp at ha
        subst ha
        show VRf w noW _ v
        unfold argOf
        cases hagg : (E.ti t).isAgg with
        | true =>
          rw [if_pos hagg] at hcells
          obtain ⟨cs, rfl⟩ := hcells
          simp only [cond_true]
          refine .agg _ _ (show qs.length = (Value.agg cs).cells.size by simpa using q1) (fun j r hr => ?_)
          have := (q2 j r hr).2
          simpa [Value.cells, List.getD_eq_getElem?_getD, Array.getD_eq_getD_getElem?] using this
        | false =>
          rw [hagg, if_neg (by decide)] at hcells
          simp only [cond_false]
          obtain ⟨r, rfl, hrs⟩ := inTy_cells hE q3 hagg
          have := (q2 0 r rfl).2
          rw [hcells] at this
          simpa [nthD] using this

/-- The arguments read as they did. -/
theorem trodAll_below {P : Program} (hl : laidOutB P = true) {W W' : World} (hb : Below W.heap.size W W') : ∀ (ts : List Nat) (vs : List Value) (ds : List (DataW H)) (ps : List MemPlace), allB (fun t => P.readableRec t && Nat.blt t P.types.size) ts = true →
    DataW.TrodAll enc P W 0 (fun _ => true) true ts vs ds ps → (∀ x ∈ ps, x.block < W.heap.size) → DataW.TrodAll enc P W' 0 (fun b => decide (b < W.heap.size)) true ts vs ds ps
  | [], vs, ds, ps, _, h, _ => by
    obtain ⟨rfl, rfl, rfl⟩ := trodAll_nil h
    rfl
  | t :: ts, vs, ds, ps, ht, h, hlt => by
    obtain ⟨v, vs', d, ds', p, q, rfl, rfl, rfl, h0, hr⟩ := trodAll_cons h
    simp only [allB, Bool.and_eq_true] at ht
    have hlt2 : t < P.types.size := by have := ht.1.2; simpa [Nat.blt_eq] using this
    exact ⟨p, q, Below.trod hl ht.1.1 hlt2 h0 hb (fun x hx => hlt x (by simp [hx])), trodAll_below hl hb ts vs' ds' q ht.2 hr (fun x hx => hlt x (by simp [hx])), rfl⟩

/-- WHAT THE STATEMENTS ASK OF A LAW, from its equation. -/
theorem law_contract (hE : EnvOk E) (hinl : E.inl = []) (hX : ExtOk E) {g n tb : Nat} {fn : Func} (hf : E.P.funcs[g]? = some fn) (hg : findExt g E.ext = none) (s : ChangeSpec) (hvars : s.vars = [])
    (hspec : ∀ ds : List (DataW H), ds.length = fn.params.size → s.fn H ds = { results := [.lit (.bool true)], args := ds })
    (hres : fn.resultTypes = #[tb]) (hbool : E.P.underlying tb = some .bool) (ho : allB (okTree E n) fn.params.toList = true) (hlay : laidOutB E.P = true)
    (hread : allB (fun t => E.P.readableRec t && Nat.blt t E.P.types.size) fn.params.toList = true) {B : Nat}
    (law : ∀ as, ArgsTy E n fn.params.toList as B → callF E g as = some (.bool true))
    {W : World} {base : Nat} {args : Array Value} {ds gs : List (DataW H)} {before : List MemPlace}
    (hval : ∀ (j : Nat) t v, fn.params[j]? = some t → args[j]? = some v → Value.okWide E.P W .any base t v)
    (hW : DataW.Whole enc E.P fn.params.toList s.vars false W args.toList ds gs before) (hbk : dbulkL ds ≤ B) :
    Calls E.P g args W fun e W' => ∃ v, e = .returned v ∧ s.post enc E.P fn false true false false W args v W' := by
  have hlt := hW.lt
  have hW' := hW
  obtain ⟨p, q, hA, hV, rfl, _, _⟩ := hW
  rw [hvars] at hV
  obtain ⟨rfl, rfl⟩ : gs = [] ∧ q = [] := by
    cases gs with
    | nil => exact ⟨rfl, hV⟩
    | cons _ _ => exact hV.elim
  obtain ⟨as, l1, t1, r1⟩ := open_args hE fn.params.toList args.toList ds p ho (fun j t v ht hv => hval j t v (by simpa using ht) (by simpa using hv)) hA
  have mono : ∀ (ts : List Nat) (as : List PV) (b b' : Nat), b ≤ b' → ArgsTy E n ts as b → ArgsTy E n ts as b' := by
    intro ts as b b' hb h
    cases ts <;> cases as <;> try exact h
    obtain ⟨b1, b2, h1, h2, h3⟩ := h
    exact ⟨b1, b2, h1, h2, by omega⟩
  have hlaw := law as (mono _ _ _ _ hbk t1)
  have hfun := (callF_sound hE hinl hX (draw_ok hE.follows) hg hlaw).2
  refine (hfun W noW args (fun _ _ h => h.elim) (by simpa using l1) (fun j q hq => by
    have := r1 j q hq
    simpa [List.getD_eq_getElem?_getD, Array.getD_eq_getD_getElem?] using this)).mono fun e W' ⟨v, he, hv, hbelow⟩ => ?_
  cases hv
  subst he
  have hlen : ds.length = fn.params.size := by
    have : ∀ (ts : List Nat) (vs : List Value) (ds : List (DataW H)) (ps : List MemPlace), DataW.TrodAll enc E.P W 0 (fun _ => true) true ts vs ds ps → ds.length = ts.length := by
      intro ts
      induction ts with
      | nil => intro vs ds ps h; obtain ⟨_, rfl, _⟩ := trodAll_nil h; rfl
      | cons t ts ih =>
        intro vs ds ps h
        obtain ⟨v, vs', d, ds', p, q, rfl, rfl, rfl, _, hr⟩ := trodAll_cons h
        simp [ih _ _ _ hr]
    simpa using this _ _ _ _ hA
  refine ⟨_, rfl, ds, [], p ++ [], [], p, [], hW', ?_, ?_, ?_, hbelow.frame _, fun h => by cases h⟩
  · rw [List.append_nil, hspec ds hlen, hres]
    exact trodAll_mk1 (shut_bool hbool _)
  · rw [List.append_nil, hspec ds hlen]
    exact trodAll_below hlay hbelow _ _ _ _ hread hA (fun x hx => hlt x (by simp [hx]))
  · rw [List.append_nil, hspec ds hlen, hvars]
    rfl
end
end Dv

/- The evaluator 'Dv': a world in which the listed variables lie as the rows say, for the witnesses. -/
namespace Dv
open Go

mutual
def litCells : DataW Unit → List Value
  | .lit (.int k n) => [.int k n]
  | .lit (.bool b) => [.bool b]
  | .lit (.string s) => [.string ⟨s.toArray⟩]
  | .agg l => litCellsL l
  | _ => []
def litCellsL : List (DataW Unit) → List Value
  | [] => []
  | d :: r => litCells d ++ litCellsL r
end

def layW (P : Program) : List (String × DataW Unit) → World → World
  | [], w => w
  | (n, d) :: r, w => layW P r { w with heap := w.heap.modify ((P.globalNamed n).getD 0) fun
      | .cells _ t frozen => .cells (litCells d).toArray t frozen
      | o => o }

theorem layW_os (P : Program) : ∀ (l : List (String × DataW Unit)) (w : World), (layW P l w).os = w.os
  | [], _ => rfl
  | (_, _) :: r, _ => layW_os P r _
end Dv

/- The evaluator 'Dv': functions of the library that have no body. -/
namespace Dv
open Go Go.RowKit

structure ExtAt (E : Env) (g : Nat) (e : Array Value → Sem Value) : Prop where
  at_ : ∃ fn, E.P.funcs[g]? = some fn ∧ (fn.name == "runtime.NumGoroutine") = false ∧ fn.body.isNone = true ∧ Extern.findNext fn = none ∧ Extern.find fn = some e

theorem two {p q : PV} {w : World} {W : Nat → Nat → Prop} {vals : Array Value} (hl : [p, q].length = vals.size) (hv : ∀ (j : Nat) (r : PV), [p, q][j]? = some r → VRf w W r (vals.getD j undef)) :
    ∃ v u, vals = #[v, u] ∧ VRf w W p v ∧ VRf w W q u := by
  obtain ⟨l⟩ := vals
  match l, hl with
  | [v, u], _ => exact ⟨v, u, rfl, hv 0 p rfl, hv 1 q rfl⟩

theorem ext_indexByte {E : Env} {g : Nat} (h : ExtAt E g Extern.BytealgIndexByte.indexByte) (args : List PV) (r : PV) (hr : extIndexByte args = some r) : ValOk E g args r := by
  unfold extIndexByte at hr
  split at hr
  case h_2 => cases hr
  rename_i s c
  simp only [Option.some.injEq] at hr
  subst hr
  intro w W vals hl hv
  obtain ⟨v, u, rfl, hs, hc⟩ := two hl hv
  cases hs; cases hc
  obtain ⟨fn, h1, h2, h3, h4, h5⟩ := h.at_
  refine ⟨.int .i64 (Lib.indexByte s (UInt8.ofNat c.toNat)), w, ?_, .int _ _, Below.refl _ _⟩
  rw [run_callFunc_extern h1 h2 h3 h4 h5, Lib.run_indexByteString]; rfl

theorem ext_count {E : Env} {g : Nat} (h : ExtAt E g Extern.BytealgCount.count) (args : List PV) (r : PV) (hr : extCount args = some r) : ValOk E g args r := by
  unfold extCount at hr
  split at hr
  case h_2 => cases hr
  rename_i s c
  simp only [Option.some.injEq] at hr
  subst hr
  intro w W vals hl hv
  obtain ⟨v, u, rfl, hs, hc⟩ := two hl hv
  cases hs; cases hc
  obtain ⟨fn, h1, h2, h3, h4, h5⟩ := h.at_
  refine ⟨.int .i64 ((Lib.countByte s (UInt8.ofNat c.toNat) : Nat) : Int), w, ?_, .int _ _, Below.refl _ _⟩
  rw [run_callFunc_extern h1 h2 h3 h4 h5, Lib.run_countString]; rfl
end Dv

/- Plain numbers for the proofs of laws: wrapping, division; days of the calendar. -/
namespace Dv
open Go

theorem w64 {n : Int} (h1 : -9223372036854775808 ≤ n) (h2 : n ≤ 9223372036854775807) : IntKind.i64.wrap n = n := by rw [IntKind.wrap_i64]; omega
theorem w32 {n : Int} (h1 : -2147483648 ≤ n) (h2 : n ≤ 2147483647) : IntKind.i32.wrap n = n := by rw [IntKind.wrap_i32]; omega
theorem wu8 {n : Int} (h1 : 0 ≤ n) (h2 : n ≤ 255) : IntKind.u8.wrap n = n := by rw [IntKind.wrap_u8]; omega
theorem wu64 {n : Int} (h1 : 0 ≤ n) (h2 : n ≤ 18446744073709551615) : IntKind.u64.wrap n = n := by
  simp [IntKind.wrap, IntKind.bits, IntKind.signed]; omega

/-! ### decisions -/
section
variable {α : Type} {x y : α} {a b n : Int} {i j : Nat} {s t : List UInt8}
theorem c_not (c : Bool) : (bif !c then x else y) = bif c then y else x := by cases c <;> rfl
theorem c_true : (bif true then x else y) = x := rfl
theorem c_false : (bif false then x else y) = y := rfl
theorem c_eqT (h : a = b) : (bif eqB a b then x else y) = x := by rw [eqB, decide_eq_true h]; rfl
theorem c_eqF (h : ¬ a = b) : (bif eqB a b then x else y) = y := by rw [eqB, decide_eq_false h]; rfl
theorem c_ltT (h : a < b) : (bif ltB a b then x else y) = x := by rw [ltB, decide_eq_true h]; rfl
theorem c_ltF (h : ¬ a < b) : (bif ltB a b then x else y) = y := by rw [ltB, decide_eq_false h]; rfl
theorem c_leT (h : a ≤ b) : (bif leB a b then x else y) = x := by rw [leB, decide_eq_true h]; rfl
theorem c_leF (h : ¬ a ≤ b) : (bif leB a b then x else y) = y := by rw [leB, decide_eq_false h]; rfl
theorem c_ltnT (h : i < j) : (bif ltN i j then x else y) = x := by rw [ltN, decide_eq_true h]; rfl
theorem c_ltnF (h : ¬ i < j) : (bif ltN i j then x else y) = y := by rw [ltN, decide_eq_false h]; rfl
theorem c_eqnT (h : i = j) : (bif eqN i j then x else y) = x := by rw [eqN, decide_eq_true h]; rfl
theorem c_eqnF (h : ¬ i = j) : (bif eqN i j then x else y) = y := by rw [eqN, decide_eq_false h]; rfl
theorem c_lenT (h : i ≤ j) : (bif leN i j then x else y) = x := by rw [leN, decide_eq_true h]; rfl
theorem c_lenF (h : ¬ i ≤ j) : (bif leN i j then x else y) = y := by rw [leN, decide_eq_false h]; rfl
theorem c_inT (h : b ≤ a ∧ a < n) : (bif inB b a n then x else y) = x := by rw [inB, decide_eq_true h]; rfl
theorem c_inF (h : ¬ (b ≤ a ∧ a < n)) : (bif inB b a n then x else y) = y := by rw [inB, decide_eq_false h]; rfl
theorem c_eqsT (h : s = t) : (bif eqS s t then x else y) = x := by rw [eqS, decide_eq_true h]; rfl
theorem c_eqsF (h : ¬ s = t) : (bif eqS s t then x else y) = y := by rw [eqS, decide_eq_false h]; rfl
end

/-! ### readers -/
section
variable (k : IntKind) (n : Int) (b : Bool) (s : List UInt8) (z : Nat) (l r : List PV) (v0 v1 v2 v3 v4 : PV)
theorem toI_int : (PV.int k n).toI = n := rfl
theorem toB_bool : (PV.bool b).toB = b := rfl
theorem toS_str : (PV.str s).toS = s := rfl
theorem toL_sl : (PV.sl z l).toL = l := rfl
theorem tn0 : (PV.tuple (v0 :: r)).tnth 0 = v0 := rfl
theorem tn1 : (PV.tuple (v0 :: v1 :: r)).tnth 1 = v1 := rfl
theorem tn2 : (PV.tuple (v0 :: v1 :: v2 :: r)).tnth 2 = v2 := rfl
theorem tn3 : (PV.tuple (v0 :: v1 :: v2 :: v3 :: r)).tnth 3 = v3 := rfl
theorem ag0 : (PV.agg (v0 :: r)).nth 0 = v0 := rfl
theorem ag1 : (PV.agg (v0 :: v1 :: r)).nth 1 = v1 := rfl
theorem ag2 : (PV.agg (v0 :: v1 :: v2 :: r)).nth 2 = v2 := rfl
theorem ag3 : (PV.agg (v0 :: v1 :: v2 :: v3 :: r)).nth 3 = v3 := rfl
theorem ag4 : (PV.agg (v0 :: v1 :: v2 :: v3 :: v4 :: r)).nth 4 = v4 := rfl
end

/-! ### division that is cut, by whole numbers above zero -/
theorem tmod_pos {a b : Int} (ha : 0 ≤ a) : a.tmod b = a % b := Int.tmod_eq_emod_of_nonneg ha
theorem tdiv_pos {a b : Int} (ha : 0 ≤ a) : a.tdiv b = a / b := Int.tdiv_eq_ediv_of_nonneg ha

theorem tmod_floor {a b : Int} (hb : 0 < b) : (if a.tmod b < 0 then a.tmod b + b else a.tmod b) = a % b := by
  rcases Int.lt_or_le a 0 with h | h
  · have h1 := Int.tmod_add_mul_tdiv a b
    have h2 := Int.emod_nonneg a (by omega : b ≠ 0)
    have h3 := Int.emod_lt_of_pos a hb
    have h4 : a.tmod b = -((-a).tmod b) := by rw [Int.neg_tmod]; omega
    have h6 : (-a).tmod b = (-a) % b := tmod_pos (by omega)
    have h7 := Int.emod_nonneg (-a) (by omega : b ≠ 0)
    have h8 := Int.emod_lt_of_pos (-a) hb
    have h9 : a.tmod b ≤ 0 := by omega
    have h5 : -b < a.tmod b := by omega
    split
    · have : (a.tmod b + b) % b = a % b := by
        conv => rhs; rw [← h1]
        rw [Int.add_emod_right, Int.add_mul_emod_self_left]
      rw [← this, Int.emod_eq_of_lt (by omega) (by omega)]
    · have : a.tmod b = 0 := by omega
      rw [this]
      rw [this, Int.zero_add] at h1
      rw [← h1, Int.mul_emod_right]
  · rw [tmod_pos h]
    have := Int.emod_nonneg a (by omega : b ≠ 0)
    rw [if_neg (by omega)]

theorem tdiv_floor {a b : Int} (hb : 0 < b) : (if a.tmod b < 0 then a.tdiv b - 1 else a.tdiv b) = a / b := by
  have h0 := tmod_floor (a := a) hb
  have h1 := Int.tmod_add_mul_tdiv a b
  have h2 := Int.emod_add_mul_ediv a b
  have key : ∀ x y : Int, b * x = b * y → x = y := fun x y h => Int.eq_of_mul_eq_mul_left (by omega) h
  split at h0
  · rw [if_pos (by assumption)]
    apply key
    rw [Int.mul_sub]; omega
  · rw [if_neg (by assumption)]
    apply key
    omega

/-! ### days -/
def leapI (y : Int) : Bool := decide (y % 4 = 0) && (!decide (y % 100 = 0) || decide (y % 400 = 0))
def lenI (y m : Int) : Int := if m = 2 then (if leapI y then 29 else 28) else if m = 4 ∨ m = 6 ∨ m = 9 ∨ m = 11 then 30 else if 1 ≤ m ∧ m ≤ 12 then 31 else 0
/-- The days of so many years behind 2000, up to 400. -/
def yearsI (k : Int) : Int := 365 * k + (k + 3) / 4 - (k + 99) / 100 + (k + 399) / 400
def jan1 (y : Int) : Int := (y - 2000) / 400 * 146097 + yearsI ((y - 2000) % 400)
/-- The days of the months ahead of a month. -/
def monthsI (y m : Int) : Int :=
  let l := if leapI y then 1 else 0
  if m ≤ 1 then 0 else if m = 2 then 31 else if m = 3 then 59 + l else if m = 4 then 90 + l else if m = 5 then 120 + l else if m = 6 then 151 + l
  else if m = 7 then 181 + l else if m = 8 then 212 + l else if m = 9 then 243 + l else if m = 10 then 273 + l else if m = 11 then 304 + l else if m = 12 then 334 + l else 365 + l
def dayI (y m d : Int) : Int := jan1 y + monthsI y m + d - 1
def wkI (n : Int) : Int := (n % 7 + 6) % 7

theorem leapI_iff (y : Int) : leapI y = true ↔ (y % 4 = 0 ∧ (y % 100 ≠ 0 ∨ y % 400 = 0)) := by simp [leapI]

theorem yearsI_succ {k : Int} (h0 : 0 ≤ k) (h1 : k < 400) : yearsI (k + 1) = yearsI k + 365 + (if leapI (2000 + k) then 1 else 0) := by
  unfold yearsI
  by_cases hl : leapI (2000 + k) = true
  · rw [if_pos hl]
    rw [leapI_iff] at hl
    omega
  · rw [if_neg hl]
    rw [leapI_iff] at hl
    omega

theorem monthsI_succ {y m : Int} (h1 : 1 ≤ m) (h2 : m ≤ 12) : monthsI y (m + 1) = monthsI y m + lenI y m := by
  have : m = 1 ∨ m = 2 ∨ m = 3 ∨ m = 4 ∨ m = 5 ∨ m = 6 ∨ m = 7 ∨ m = 8 ∨ m = 9 ∨ m = 10 ∨ m = 11 ∨ m = 12 := by omega
  unfold monthsI lenI
  rcases this with rfl | rfl | rfl | rfl | rfl | rfl | rfl | rfl | rfl | rfl | rfl | rfl <;> cases leapI y <;> simp

theorem lenI_range (y m : Int) (h1 : 1 ≤ m) (h2 : m ≤ 12) : 28 ≤ lenI y m ∧ lenI y m ≤ 31 := by
  unfold lenI
  repeat' split
  all_goals omega

/-- By years that begin in March. -/
def marchI (y m d : Int) : Int :=
  (if m ≤ 2 then y - 1 else y) / 400 * 146097 + (if m ≤ 2 then y - 1 else y) % 400 * 365 + (if m ≤ 2 then y - 1 else y) % 400 / 4 - (if m ≤ 2 then y - 1 else y) % 400 / 100 +
    (153 * ((if m ≤ 2 then m + 12 else m) - 3) + 2) / 5 + d - 1 - 730425

/-- A year by its place among 400. -/
theorem year_parts (y : Int) : ∃ q a c d : Int, y = 400 * q + 100 * a + 4 * c + d ∧ 0 ≤ a ∧ a ≤ 3 ∧ 0 ≤ c ∧ c ≤ 24 ∧ 0 ≤ d ∧ d ≤ 3 :=
  ⟨y / 400, y % 400 / 100, y % 400 % 100 / 4, y % 400 % 100 % 4, by omega, by omega, by omega, by omega, by omega, by omega, by omega⟩

theorem jan1_parts {q a c d : Int} (a0 : 0 ≤ a) (a3 : a ≤ 3) (c0 : 0 ≤ c) (c4 : c ≤ 24) (d0 : 0 ≤ d) (d3 : d ≤ 3) :
    jan1 (400 * q + 100 * a + 4 * c + d) = (q - 5) * 146097 + 365 * (100 * a + 4 * c + d) + (25 * a + c + (if d = 0 then 0 else 1)) - (a + (if c = 0 ∧ d = 0 then 0 else 1)) + (if a = 0 ∧ c = 0 ∧ d = 0 then 0 else 1) := by
  unfold jan1 yearsI
  have e1 : (400 * q + 100 * a + 4 * c + d - 2000) / 400 = q - 5 := by omega
  have e2 : (400 * q + 100 * a + 4 * c + d - 2000) % 400 = 100 * a + 4 * c + d := by omega
  rw [e1, e2]
  have e3 : (100 * a + 4 * c + d + 3) / 4 = 25 * a + c + (if d = 0 then 0 else 1) := by split <;> omega
  have e4 : (100 * a + 4 * c + d + 99) / 100 = a + (if c = 0 ∧ d = 0 then 0 else 1) := by split <;> omega
  have e5 : (100 * a + 4 * c + d + 399) / 400 = (if a = 0 ∧ c = 0 ∧ d = 0 then 0 else 1) := by split <;> omega
  rw [e3, e4, e5]
  omega

theorem march_parts {q a c d : Int} (a0 : 0 ≤ a) (a3 : a ≤ 3) (c0 : 0 ≤ c) (c4 : c ≤ 24) (d0 : 0 ≤ d) (d3 : d ≤ 3) :
    (400 * q + 100 * a + 4 * c + d) / 400 = q ∧ (400 * q + 100 * a + 4 * c + d) % 400 = 100 * a + 4 * c + d ∧ (100 * a + 4 * c + d) / 4 = 25 * a + c ∧ (100 * a + 4 * c + d) / 100 = a := by
  refine ⟨?_, ?_, ?_, ?_⟩ <;> omega

theorem leap_parts {q a c d : Int} (a0 : 0 ≤ a) (a3 : a ≤ 3) (c0 : 0 ≤ c) (c4 : c ≤ 24) (d0 : 0 ≤ d) (d3 : d ≤ 3) :
    leapI (400 * q + 100 * a + 4 * c + d) = true ↔ d = 0 ∧ (c ≠ 0 ∨ a = 0) := by
  rw [leapI_iff]
  constructor
  · intro h; omega
  · intro h; omega

/-- Days of the years ahead of March 1 of a year. -/
def marchY (y : Int) : Int := y / 400 * 146097 + y % 400 * 365 + y % 400 / 4 - y % 400 / 100

theorem marchY_jan (y : Int) : marchY y - 730425 = jan1 y + 59 + (if leapI y then 1 else 0) := by
  obtain ⟨q, a, c, d, rfl, a0, a3, c0, c4, d0, d3⟩ := year_parts y
  obtain ⟨e1, e2, e3, e4⟩ := march_parts (q := q) a0 a3 c0 c4 d0 d3
  have hl := leap_parts (q := q) a0 a3 c0 c4 d0 d3
  unfold marchY
  rw [jan1_parts a0 a3 c0 c4 d0 d3, e1, e2, e3, e4]
  by_cases h : leapI (400 * q + 100 * a + 4 * c + d) = true
  · have := hl.1 h
    rw [if_pos h]
    split <;> split <;> split <;> omega
  · have : ¬ (d = 0 ∧ (c ≠ 0 ∨ a = 0)) := fun x => h (hl.2 x)
    rw [if_neg h]
    split <;> split <;> split <;> omega

theorem yearsI_400 : yearsI 400 = 146097 := by unfold yearsI; omega
theorem yearsI_0 : yearsI 0 = 0 := by unfold yearsI; omega

theorem leap_2000 (y : Int) : leapI (2000 + (y - 2000) % 400) = leapI y := by
  rw [Bool.eq_iff_iff, leapI_iff, leapI_iff]
  omega

theorem jan1_succ (y : Int) : jan1 (y + 1) = jan1 y + 365 + (if leapI y then 1 else 0) := by
  have hs := yearsI_succ (k := (y - 2000) % 400) (by omega) (by omega)
  rw [leap_2000] at hs
  unfold jan1
  by_cases h : (y - 2000) % 400 = 399
  · have e1 : (y + 1 - 2000) % 400 = 0 := by omega
    have e2 : (y + 1 - 2000) / 400 = (y - 2000) / 400 + 1 := by omega
    rw [e1, e2, yearsI_0]
    rw [h] at hs ⊢
    have e3 : yearsI (399 + 1) = 146097 := yearsI_400
    rw [e3] at hs
    omega
  · have e1 : (y + 1 - 2000) % 400 = (y - 2000) % 400 + 1 := by omega
    have e2 : (y + 1 - 2000) / 400 = (y - 2000) / 400 := by omega
    rw [e1, e2, hs]
    omega

theorem marchY_prev (y : Int) : marchY (y - 1) - 730425 = jan1 y - 306 := by
  rw [marchY_jan]
  have := jan1_succ (y - 1)
  rw [show y - 1 + 1 = y by omega] at this
  omega

theorem months_1 (y : Int) : monthsI y 1 = 0 := rfl
theorem months_2 (y : Int) : monthsI y 2 = 31 := rfl
theorem months_3 (y : Int) : monthsI y 3 = 59 + (if leapI y then 1 else 0) := rfl
theorem months_4 (y : Int) : monthsI y 4 = 90 + (if leapI y then 1 else 0) := rfl
theorem months_5 (y : Int) : monthsI y 5 = 120 + (if leapI y then 1 else 0) := rfl
theorem months_6 (y : Int) : monthsI y 6 = 151 + (if leapI y then 1 else 0) := rfl
theorem months_7 (y : Int) : monthsI y 7 = 181 + (if leapI y then 1 else 0) := rfl
theorem months_8 (y : Int) : monthsI y 8 = 212 + (if leapI y then 1 else 0) := rfl
theorem months_9 (y : Int) : monthsI y 9 = 243 + (if leapI y then 1 else 0) := rfl
theorem months_10 (y : Int) : monthsI y 10 = 273 + (if leapI y then 1 else 0) := rfl
theorem months_11 (y : Int) : monthsI y 11 = 304 + (if leapI y then 1 else 0) := rfl
theorem months_12 (y : Int) : monthsI y 12 = 334 + (if leapI y then 1 else 0) := rfl

theorem march_day {y m d : Int} (h1 : 1 ≤ m) (h2 : m ≤ 12) :
    marchY (if m ≤ 2 then y - 1 else y) + (153 * ((if m ≤ 2 then m + 12 else m) - 3) + 2) / 5 + d - 1 - 730425 = dayI y m d := by
  have hA := marchY_jan y
  have hB := marchY_prev y
  have hm : m = 1 ∨ m = 2 ∨ m = 3 ∨ m = 4 ∨ m = 5 ∨ m = 6 ∨ m = 7 ∨ m = 8 ∨ m = 9 ∨ m = 10 ∨ m = 11 ∨ m = 12 := by omega
  unfold dayI
  generalize hl : (if leapI y = true then (1 : Int) else 0) = l at hA
  rcases hm with rfl | rfl | rfl | rfl | rfl | rfl | rfl | rfl | rfl | rfl | rfl | rfl
  · rw [if_pos (by decide), if_pos (by decide), months_1]; omega
  · rw [if_pos (by decide), if_pos (by decide), months_2]; omega
  · rw [if_neg (by decide), if_neg (by decide), months_3, hl]; omega
  · rw [if_neg (by decide), if_neg (by decide), months_4, hl]; omega
  · rw [if_neg (by decide), if_neg (by decide), months_5, hl]; omega
  · rw [if_neg (by decide), if_neg (by decide), months_6, hl]; omega
  · rw [if_neg (by decide), if_neg (by decide), months_7, hl]; omega
  · rw [if_neg (by decide), if_neg (by decide), months_8, hl]; omega
  · rw [if_neg (by decide), if_neg (by decide), months_9, hl]; omega
  · rw [if_neg (by decide), if_neg (by decide), months_10, hl]; omega
  · rw [if_neg (by decide), if_neg (by decide), months_11, hl]; omega
  · rw [if_neg (by decide), if_neg (by decide), months_12, hl]; omega

theorem jan1_bounds {y : Int} (h1 : -4800 ≤ y) (h2 : y ≤ 294500) : -3000000 ≤ jan1 y ∧ jan1 y ≤ 108000000 := by
  unfold jan1 yearsI; omega
theorem monthsI_bounds {y m : Int} (h1 : 1 ≤ m) (h2 : m ≤ 12) : 0 ≤ monthsI y m ∧ monthsI y m ≤ 366 := by
  have hm : m = 1 ∨ m = 2 ∨ m = 3 ∨ m = 4 ∨ m = 5 ∨ m = 6 ∨ m = 7 ∨ m = 8 ∨ m = 9 ∨ m = 10 ∨ m = 11 ∨ m = 12 := by omega
  have hl : (if leapI y = true then (1 : Int) else 0) = 0 ∨ (if leapI y = true then (1 : Int) else 0) = 1 := by cases leapI y <;> simp
  rcases hm with rfl | rfl | rfl | rfl | rfl | rfl | rfl | rfl | rfl | rfl | rfl | rfl
  · rw [months_1]; omega
  · rw [months_2]; omega
  · rw [months_3]; omega
  · rw [months_4]; omega
  · rw [months_5]; omega
  · rw [months_6]; omega
  · rw [months_7]; omega
  · rw [months_8]; omega
  · rw [months_9]; omega
  · rw [months_10]; omega
  · rw [months_11]; omega
  · rw [months_12]; omega
theorem wkI_range (n : Int) : 0 ≤ wkI n ∧ wkI n ≤ 6 := by unfold wkI; omega
end Dv

/- Plain texts for the proofs of laws. -/
namespace Dv
open Go

theorem callN_cap (E : Env) (tis : List TI) (g : Nat) (a b args : List PV) : ∀ n, callN E n tis (.func (.func g) a b) args = callN E n tis (.func (.func g) [] []) (a ++ args ++ b)
  | 0 => rfl
  | n + 1 => by simp only [callN, List.nil_append, List.append_nil]

/-- A call of a closure is a call with what it holds behind the arguments. -/
theorem callW_cap (E : Env) (tis : List TI) (g : Nat) (a b args : List PV) : callW E tis (.func (.func g) a b) args = callW E tis (.func (.func g) [] []) (a ++ args ++ b) := by
  unfold callW
  congr 1
  funext n
  exact callN_cap E tis g a b args n

/-! ### parts of texts -/
theorem takeS_ok {α : Type} {s : List α} {n : Int} (h0 : 0 ≤ n) (h : n ≤ s.length) : takeS s n = some (s.take n.toNat) := by
  unfold takeS; rw [decide_eq_true ⟨h0, h⟩]; rfl
theorem dropS_ok {α : Type} {s : List α} {n : Int} (h0 : 0 ≤ n) (h : n ≤ s.length) : dropS s n = some (s.drop n.toNat) := by
  unfold dropS; rw [decide_eq_true ⟨h0, h⟩]; rfl
theorem takeS_n {α : Type} {s : List α} {n : Nat} (h : n ≤ s.length) : takeS s (n : Int) = some (s.take n) := by rw [takeS_ok (by omega) (by omega)]; rfl
theorem dropS_n {α : Type} {s : List α} {n : Nat} (h : n ≤ s.length) : dropS s (n : Int) = some (s.drop n) := by rw [dropS_ok (by omega) (by omega)]; rfl
theorem atS_ok {s : List UInt8} {i : Nat} {c : UInt8} (h : s[i]? = some c) : atS s (i : Int) = some (c.toNat : Int) := by
  unfold atS; rw [decide_eq_true (by omega)]; simp [h]
theorem atS_z {s : List UInt8} {c : UInt8} (h : s[0]? = some c) : atS s 0 = some (c.toNat : Int) := atS_ok (i := 0) h
theorem catS_ok {a b : List UInt8} (h : a.length + b.length ≤ 4611686018427387904) : catS a b = some (a ++ b) := by
  unfold catS; rw [decide_eq_true (by omega)]; rfl
theorem appL_ok {k : Nat} {l x : List PV} (h : (l.length + x.length) * k ≤ 70368744177664) : appL k l x = some (l ++ x) := by
  unfold appL; rw [decide_eq_true (by omega)]; rfl
theorem rdT_byte {s : List UInt8} {i : Nat} {c : UInt8} (h : s[i]? = some c) : rdT (tiInt .u8) (s.map byteV) i 0 = some (byteV c) := by
  unfold rdT; rw [List.getElem?_map, h]; rfl
theorem rdT_str {l : List (List UInt8)} {i : Nat} {c : List UInt8} (h : l[i]? = some c) : rdT tiStr (l.map PV.str) i 0 = some (.str c) := by
  unfold rdT; rw [List.getElem?_map, h]; rfl
theorem rdI_n {t : TI} {l : List PV} (i : Nat) : rdI t l (i : Int) = rdT t l i 0 := by
  unfold rdI; rw [decide_eq_true (by omega)]; rfl

theorem bytes_byteV : ∀ (s : List UInt8), bytesOf (s.map byteV) = some s
  | [] => rfl
  | c :: s => by
    have : bytesOf ((c :: s).map byteV) = (bytesOf (s.map byteV)).map (UInt8.ofNat ((c.toNat : Int)).toNat :: ·) := rfl
    rw [this, bytes_byteV s]
    simp

theorem stC_map {s : List UInt8} {i : Nat} (h : i < s.length) (c : UInt8) : stC (s.map byteV) i 0 [byteV c] = some ((s.set i c).map byteV) := by
  unfold stC
  rw [List.getElem?_map, List.getElem?_eq_getElem h]
  have : (Option.map byteV (some s[i])) = some (.int .u8 (s[i].toNat : Int)) := rfl
  rw [this]
  simp only [List.map_set]

/-! ### small letters -/
def lowB (c : UInt8) : UInt8 := if 65 ≤ c.toNat ∧ c.toNat ≤ 90 then c + 32 else c
def lowS (s : List UInt8) : List UInt8 := s.map lowB
@[simp] theorem lowS_length (s : List UInt8) : (lowS s).length = s.length := by simp [lowS]

theorem or32 : ∀ n : Fin 256, 65 ≤ n.val → n.val ≤ 90 → orI .u8 (n.val : Int) 32 = ((n.val + 32 : Nat) : Int) := by decide +kernel
theorem add32 (c : UInt8) (h : 65 ≤ c.toNat ∧ c.toNat ≤ 90) : ((c + 32).toNat : Int) = (c.toNat : Int) + 32 := by
  have : (c + 32).toNat = (c.toNat + 32) % 256 := by rw [UInt8.toNat_add]; rfl
  omega

/-- The same, but for great letters. -/
def sameB (a b : List UInt8) : Bool := eqS (lowS a) (lowS b)

theorem getD_byte (c : UInt8) : (byteV c).toI = (c.toNat : Int) := rfl
end Dv
