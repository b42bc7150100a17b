import PyProof.Rows.All
import HandS.HeadHook4
import HandS.Head2
import Wide.All
import OpenK.AllK
import Wide.FinOn
import HandS.ForMost
import HandS.Exc
import HandS.ExcOwn
import HandS.CallSlots
import HandS.TupAny
import HandS.Walk
import HandS.Zip
import HandS.Defaults
import HandS.IsInst
import HandS.Conv
import HandS.Lambda
import KE.KeyNested
import HandS.ExcCtx
import HandS.ExcInit
import KE.GoesEnum
import KE.GoesMore
import KE.GoesZip
import KE.KDictZip
import HandS.Head0
import HandS.Head1
import HandS.HeadEnd
import HandS.HeadHook1
import HandS.HeadHook2
import HandS.MakeKwOnly
import KE.DataMinMax
import HandS.SortKw
import HandS.Deep
import HandS.Flow
import HandS.EndTab
import KE.KExcInit
import HandS.ExcField
import HandS.TryMany
import HandS.SetFor
import HandS.Strs
import HandS.TupSets
import KE.KDictCopyH
import KE.SortData
import HandS.SetBool
import KE.KUnpackStar
import HandS.ExcValue
import HandS.Style
import HandS.TryOnly
import KE.KTupSum
import HandS.Sort
import HandS.TupMul
import HandS.Small
import HandS.DictComp
import HandS.SortInts
import KE.KDictKeyed
import KE.DataMinKey
import HandS.Text
import HandS.SetTxt0
import PyProof.InstSpecial
import HandS.FStr
import HandS.RaiseMore
import PyProof.Rows.StrMul
import PyProof.Rows.CallKwBuiltin
import KE.IntTextLaws
import HandS.Finally
import HandS.SuiteRaise
import HandS.ExcInitHot
import HandS.DictEq
import PyProof.InstEq
import HandS.OwnEq
import HandS.Codes
import PyProof.NeKinds
import KE.KDictPairs
import HandS.DictSub
import PyProof.EqAt
import PyProof.ReprBulk
import KE.GoesRaise
import PySem.Challenge.RW_hodman_k12_plans_refused
set_option Elab.async false
set_option linter.all false
set_option maxRecDepth 100000
set_option synthInstance.maxSize 1000000
set_option synthInstance.maxHeartbeats 0
noncomputable section
namespace Y.GZ
open PySem PySem.W PySem.Calls PyProof.Rows HandSHeadRun
def btGet (T : BT) : Nat → Option Obj :=
  @BT.rec (fun _ => Nat → Option Obj) (fun _ => none)
    (fun v _ _ gl gr i => @Bool.rec (fun _ => Option Obj) (@Bool.rec (fun _ => Option Obj) (gr (Nat.sub (Nat.div i 2) 1)) (gl (Nat.div i 2)) (Nat.beq (Nat.mod i 2) 1)) (some v) (Nat.beq i 0)) T
def btSet {α : Type} (f : Obj → Obj) (T : BT) : Nat → (BT → α) → α :=
  @BT.rec (fun _ => Nat → (BT → α) → α) (fun _ k => k .nil)
    (fun v l r gl gr i k => @Bool.rec (fun _ => α) (@Bool.rec (fun _ => α) (gr (Nat.sub (Nat.div i 2) 1) fun r' => k (.node v l r')) (gl (Nat.div i 2) fun l' => k (.node v l' r)) (Nat.beq (Nat.mod i 2) 1)) (k (.node (f v) l r)) (Nat.beq i 0)) T
def btIns {α : Type} (o : Obj) (T : BT) : Nat → (BT → α) → α :=
  @BT.rec (fun _ => Nat → (BT → α) → α) (fun _ k => k (.node o .nil .nil))
    (fun v l r gl gr i k => @Bool.rec (fun _ => α) (@Bool.rec (fun _ => α) (gr (Nat.sub (Nat.div i 2) 1) fun r' => k (.node v l r')) (gl (Nat.div i 2) fun l' => k (.node v l' r)) (Nat.beq (Nat.mod i 2) 1)) (k (.node o l r)) (Nat.beq i 0)) T
theorem btGet_eq : ∀ (T : BT) (i : Nat), btGet T i = T.get i
  | .nil, _ => rfl
  | .node v l r, i => by
    show @Bool.rec (fun _ => Option Obj) (@Bool.rec (fun _ => Option Obj) (btGet r (i / 2 - 1)) (btGet l (i / 2)) (Nat.beq (i % 2) 1)) (some v) (Nat.beq i 0) = (match Nat.beq i 0 with | true => some v | false => match Nat.beq (i % 2) 1 with | true => l.get (i / 2) | false => r.get (i / 2 - 1))
    rw [btGet_eq l, btGet_eq r]
    cases Nat.beq i 0 <;> cases Nat.beq (i % 2) 1 <;> rfl
theorem btSet_eq {α : Type} (f : Obj → Obj) : ∀ (T : BT) (i : Nat) (k : BT → α), btSet f T i k = k (T.set i f)
  | .nil, _, _ => rfl
  | .node v l r, i, k => by
    show @Bool.rec (fun _ => α) (@Bool.rec (fun _ => α) (btSet f r (i / 2 - 1) fun r' => k (.node v l r')) (btSet f l (i / 2) fun l' => k (.node v l' r)) (Nat.beq (i % 2) 1)) (k (.node (f v) l r)) (Nat.beq i 0) = k (match Nat.beq i 0 with | true => .node (f v) l r | false => match Nat.beq (i % 2) 1 with | true => .node v (l.set (i / 2) f) r | false => .node v l (r.set (i / 2 - 1) f))
    rw [btSet_eq f l, btSet_eq f r]
    cases Nat.beq i 0 <;> cases Nat.beq (i % 2) 1 <;> rfl
theorem btIns_eq {α : Type} (o : Obj) : ∀ (T : BT) (i : Nat) (k : BT → α), btIns o T i k = k (T.ins i o)
  | .nil, _, _ => rfl
  | .node v l r, i, k => by
    show @Bool.rec (fun _ => α) (@Bool.rec (fun _ => α) (btIns o r (i / 2 - 1) fun r' => k (.node v l r')) (btIns o l (i / 2) fun l' => k (.node v l' r)) (Nat.beq (i % 2) 1)) (k (.node o l r)) (Nat.beq i 0) = k (match Nat.beq i 0 with | true => .node o l r | false => match Nat.beq (i % 2) 1 with | true => .node v (l.ins (i / 2) o) r | false => .node v l (r.ins (i / 2 - 1) o))
    rw [btIns_eq o l, btIns_eq o r]
    cases Nat.beq i 0 <;> cases Nat.beq (i % 2) 1 <;> rfl
def freedB (d : Data) : Bool := @Data.rec (fun _ => Bool) false (fun _ => false) (fun _ _ => false) (fun _ _ => false) (fun _ _ _ => false) (fun _ _ => false) (fun _ => false) (fun _ => false) (fun _ => false) (fun _ => false) true d
theorem alive_of {o : Obj} (h : freedB o.data = false) : alive o = some o := by
  obtain ⟨c, d, dt, sl⟩ := o
  cases dt <;> first | rfl | exact nomatch h
abbrev Nx := BT → Nat → Nat → Thread → Option SharedT
abbrev Br := BT → Nat → Nat → Code → Pos → List Frame → Nx → Option SharedT
section
variable (st : SharedT → Thread → Option (SharedT × Thread)) (p : Program) (w : World) (n0 : Nat) (ann : Option Value) (life : Life) (gens : Array GenState) (drawn : Drawn) (os : OsState)
def zNone : Br := fun _ _ _ _ _ _ _ => none
/-- a frame taken off -/
def zPop (x : Result) (e : Option SharedT) (T : BT) (n toks : Nat) (stack : List Frame) (go : Nx) : Option SharedT :=
  @List.rec Frame (fun _ => Option SharedT) e (fun fr r _ => @Frame.rec (fun _ => Option SharedT) (fun k _ _ _ c q _ => go T n toks ⟨k x, c, q, r⟩) (fun _ _ _ _ _ => none) fr) stack
def zDone (f : Flow) : Br := fun T n toks _ _ stack go => zPop (.ok f) (some ⟨T, n, life, gens, drawn, toks, os⟩) T n toks stack go
def zRaise (e : Value) : Br := fun T n toks _ _ stack go => zPop (.error e) none T n toks stack go
/-- any other step, by the model's own -/
def zElse (c : Sem PySem.Fin) : Br := fun T n toks code pos stack go =>
  @Bool.rec (fun _ => Option SharedT) none
    (@Option.rec (SharedT × Thread) (fun _ => Option SharedT) none (fun r => @Prod.rec SharedT Thread (fun _ => Option SharedT) (fun _ t => go T n toks t) r) (st ⟨T, n, life, gens, drawn, toks, os⟩ ⟨c, code, pos, stack⟩))
    (stepOk n0 ann ⟨c, code, pos, stack⟩)
def zAgain (c : Code) : Br := zElse st n0 ann life gens drawn os (.pure (.again c))
def zPure (f : PySem.Fin) : Br := @PySem.Fin.rec (fun _ => Br) (zDone life gens drawn os) (zAgain st n0 ann life gens drawn os) f
def zRule (k : Unit → Sem PySem.Fin) : Br := fun T n toks code pos stack go => go T n toks ⟨k (), code, pos, stack⟩
def zAt (q : Pos) (k : Unit → Sem PySem.Fin) : Br := fun T n toks code _ stack go => go T n toks ⟨k (), code, q, stack⟩
def zLive (k : Obj → Sem PySem.Fin) (T : BT) (n toks : Nat) (code : Code) (pos : Pos) (stack : List Frame) (go : Nx) (o : Obj) : Option SharedT :=
  @Bool.rec (fun _ => Option SharedT) (go T n toks ⟨k o, code, pos, stack⟩) none (freedB o.data)
def zLoad (a : Addr) (k : Obj → Sem PySem.Fin) : Br := fun T n toks code pos stack go =>
  @Bool.rec (fun _ => Option SharedT) none (@Option.rec Obj (fun _ => Option SharedT) none (zLive k T n toks code pos stack go) (btGet T a)) (Nat.blt a n)
def zUp (a : Addr) (f : Obj → Obj) (k : Unit → Sem PySem.Fin) (T : BT) (n toks : Nat) (code : Code) (pos : Pos) (stack : List Frame) (go : Nx) (o : Obj) : Option SharedT :=
  @Bool.rec (fun _ => Option SharedT) (btSet f T a fun T' => go T' n toks ⟨k (), code, pos, stack⟩) none (freedB o.data)
def zUpdate (a : Addr) (f : Obj → Obj) (k : Unit → Sem PySem.Fin) : Br := fun T n toks code pos stack go =>
  @Bool.rec (fun _ => Option SharedT) none
    (@Bool.rec (fun _ => Option SharedT) none (@Option.rec Obj (fun _ => Option SharedT) none (zUp a f k T n toks code pos stack go) (btGet T a)) (Nat.blt a n))
    (Nat.ble n0 a || a == mainNs || a == cStatics || ann == some (.ref a))
def zAlloc (o : Obj) (k : Addr → Sem PySem.Fin) : Br := fun T n toks code pos stack go =>
  btIns o T n fun T' => @Bool.rec (fun _ => Option SharedT) none (frNat (Nat.succ n) fun m => go T' m toks ⟨k n, code, pos, stack⟩) (btGet T' n).isSome
def zAlive (a : Addr) (k : Option Obj → Sem PySem.Fin) : Br := fun T n toks code pos stack go =>
  @Bool.rec (fun _ => Option SharedT) (go T n toks ⟨k none, code, pos, stack⟩) (@Option.rec Obj (fun _ => Option SharedT) none (fun o => go T n toks ⟨k (alive o), code, pos, stack⟩) (btGet T a)) (Nat.blt a n)
def zFresh (k : Tok → Sem PySem.Fin) : Br := fun T n toks code pos stack go => frNat (Nat.succ toks) fun m => go T n m ⟨k toks, code, pos, stack⟩
def zAsk (k : Setting → Sem PySem.Fin) : Br := fun T n toks code pos stack go => go T n toks ⟨k ⟨p, w.params⟩, code, pos, stack⟩
def zCall (c : Code) (h : Option Value) (g : Bool) (l : List Value) (k : Result → Sem PySem.Fin) : Br := zElse st n0 ann life gens drawn os (.call c h g l k)
def zHandled (own : Bool) (k : Option Value → Sem PySem.Fin) : Br := zElse st n0 ann life gens drawn os (.handled own k)
def zStack (k : List (Code × Pos) → Sem PySem.Fin) : Br := zElse st n0 ann life gens drawn os (.stack k)
def zStep (c : Sem PySem.Fin) : Br := @Sem.rec PySem.Fin (fun _ => Br) (zPure st n0 ann life gens drawn os) zRaise (fun _ => zNone) (fun _ => zNone) (fun _ k _ => zRule k) (fun q k _ => zAt q k) (fun a _ k _ => zLoad a k) (fun a _ f k _ => zUpdate n0 ann a f k) (fun o k _ => zAlloc o k) (fun a k _ => zAlive a k)
  (fun _ k _ => zRule k) (fun _ _ _ => zNone) (fun k _ => zFresh k) (fun k _ => zAsk p w k) (fun _ _ _ _ => zNone) (fun _ _ _ _ => zNone) (fun c h g l k _ => zCall st n0 ann life gens drawn os c h g l k) (fun o k _ => zHandled st n0 ann life gens drawn os o k) (fun _ _ _ => zNone) (fun _ _ _ => zNone) (fun _ _ _ _ _ => zNone) (fun _ _ _ _ _ => zNone) (fun k _ => zStack st n0 ann life gens drawn os k) (fun _ _ _ => zNone) (fun _ _ => zNone) (fun _ _ _ _ _ _ => zNone) c
def goZ (m : Nat) : Nx := @Nat.rec (fun _ => Nx) (fun _ _ _ _ => none) (fun _ go T n toks t => @Thread.rec (fun _ => Option SharedT) (fun cur code pos stack => zStep st p w n0 ann life gens drawn os cur T n toks code pos stack go) t) m
end
section
variable {den : Code → Sem PySem.Fin} {p : Program} {w : World} {n0 : Nat} {ann : Option Value} {life : Life} {gens : Array GenState} {drawn : Drawn} {os : OsState}
/-- what goF does at a step that goes on -/
theorem go_on {st : SharedT → Thread → Option (SharedT × Thread)} {m : Nat} {s s' : SharedT} {t t' : Thread} {r : Option SharedT} (h1 : through t = false) (h2 : stepOk n0 ann t = true) (h3 : st s t = some (s', t')) (h : goF st n0 ann m s' t' = r) : goF st n0 ann (m + 1) s t = r := by
  show (match through t with
    | true => some s
    | false => match stepOk n0 ann t with
      | false => none
      | true => match st s t with
        | some (s', t') => frS s' fun s' => goF st n0 ann m s' t'
        | none => none) = r
  rw [h1]
  show (match stepOk n0 ann t with
      | false => none
      | true => match st s t with
        | some (s', t') => frS s' fun s' => goF st n0 ann m s' t'
        | none => none) = r
  rw [h2]
  show (match st s t with
        | some (s', t') => frS s' fun s' => goF st n0 ann m s' t'
        | none => none) = r
  rw [h3]
  show (frS s' fun s' => goF st n0 ann m s' t') = r
  rw [frS_eq]
  exact h
abbrev S (T : BT) (n : Nat) (life : Life) (gens : Array GenState) (drawn : Drawn) (toks : Nat) (os : OsState) : SharedT := ⟨T, n, life, gens, drawn, toks, os⟩
/-- a step that touches no more than the thread -/
def Same (c : Sem PySem.Fin) : Prop := (∃ x, c = .pure (.again x)) ∨ (∃ a b d e f, c = .call a b d e f) ∨ (∃ a b, c = .handled a b) ∨ ∃ a, c = .stack a
theorem same_st {c : Sem PySem.Fin} (h : Same c) {T : BT} {n toks : Nat} {code : Code} {pos : Pos} {stack : List Frame} {s' : SharedT} {t' : Thread} (e : stepT den p w (S T n life gens drawn toks os) ⟨c, code, pos, stack⟩ = some (s', t')) : s' = S T n life gens drawn toks os := by
  rcases h with ⟨x, rfl⟩ | ⟨a, b, d, f, g, rfl⟩ | ⟨a, b, rfl⟩ | ⟨a, rfl⟩ <;> (simp only [stepT, step] at e; cases e; rfl)
theorem same_thr {c : Sem PySem.Fin} (h : Same c) {code : Code} {pos : Pos} {stack : List Frame} : through ⟨c, code, pos, stack⟩ = false := by
  rcases h with ⟨x, rfl⟩ | ⟨a, b, d, f, g, rfl⟩ | ⟨a, b, rfl⟩ | ⟨a, rfl⟩ <;> exact Bool.and_false _
theorem pop_ok {st : SharedT → Thread → Option (SharedT × Thread)} {x : Result} {c : Sem PySem.Fin} {m : Nat} {T : BT} {n toks : Nat} {code : Code} {pos : Pos} {stack : List Frame} {z : SharedT} {e : Option SharedT}
    (ih : ∀ {T : BT} {n toks : Nat} {t : Thread} {z : SharedT}, goZ st p w n0 ann life gens drawn os m T n toks t = some z → goF st n0 ann m (S T n life gens drawn toks os) t = some z)
    (he : stack = [] → e = some z → goF st n0 ann (m + 1) (S T n life gens drawn toks os) ⟨c, code, pos, []⟩ = some z)
    (ht : ∀ fr r, stack = fr :: r → through ⟨c, code, pos, fr :: r⟩ = false) (hk : stepOk n0 ann ⟨c, code, pos, stack⟩ = true)
    (hs : ∀ k a b d c' q f r, stack = .ret k a b d c' q f :: r → st (S T n life gens drawn toks os) ⟨c, code, pos, stack⟩ = some (S T n life gens drawn toks os, ⟨k x, c', q, r⟩))
    (h : zPop x e T n toks stack (goZ st p w n0 ann life gens drawn os m) = some z) : goF st n0 ann (m + 1) (S T n life gens drawn toks os) ⟨c, code, pos, stack⟩ = some z := by
  cases stack with
  | nil => exact he rfl h
  | cons fr r =>
    cases fr with
    | gen => exact nomatch h
    | ret k a b d c' q f => exact go_on (ht _ _ rfl) hk (hs _ _ _ _ _ _ _ _ rfl) (ih h)
theorem goZ_ok : ∀ {m : Nat} {T : BT} {n toks : Nat} {t : Thread} {z : SharedT}, goZ (stepT den p w) p w n0 ann life gens drawn os m T n toks t = some z → goF (stepT den p w) n0 ann m (S T n life gens drawn toks os) t = some z
  | 0, _, _, _, _, _, h => nomatch h
  | m + 1, T, n, toks, ⟨cur, code, pos, stack⟩, z, h => by
    have ih : ∀ {T : BT} {n toks : Nat} {t : Thread} {z : SharedT}, goZ (stepT den p w) p w n0 ann life gens drawn os m T n toks t = some z → goF (stepT den p w) n0 ann m (S T n life gens drawn toks os) t = some z := goZ_ok
    have h : zStep (stepT den p w) p w n0 ann life gens drawn os cur T n toks code pos stack (goZ (stepT den p w) p w n0 ann life gens drawn os m) = some z := h
    have els : Same cur → zElse (stepT den p w) n0 ann life gens drawn os cur T n toks code pos stack (goZ (stepT den p w) p w n0 ann life gens drawn os m) = some z → goF (stepT den p w) n0 ann (m + 1) (S T n life gens drawn toks os) ⟨cur, code, pos, stack⟩ = some z := by
      intro sm h
      unfold zElse at h
      cases e1 : stepOk n0 ann ⟨cur, code, pos, stack⟩ with
      | false => rw [e1] at h; exact nomatch h
      | true =>
        rw [e1] at h
        cases e2 : stepT den p w ⟨T, n, life, gens, drawn, toks, os⟩ ⟨cur, code, pos, stack⟩ with
        | none => rw [e2] at h; exact nomatch h
        | some r =>
          obtain ⟨s', t'⟩ := r
          rw [e2] at h
          have es := same_st sm e2
          rw [es] at e2
          exact go_on (same_thr sm) e1 e2 (ih h)
    cases cur with
    | pure f =>
      cases f with
      | done f => exact pop_ok ih (fun _ q => q) (fun _ _ _ => rfl) rfl (fun _ _ _ _ _ _ _ _ q => by subst q; rfl) h
      | again c => exact els (.inl ⟨_, rfl⟩) h
    | raise e => exact pop_ok (e := none) ih (fun _ q => nomatch q) (fun _ _ _ => rfl) rfl (fun _ _ _ _ _ _ _ _ q => by subst q; rfl) h
    | rule a k => exact go_on (Bool.and_false _) rfl rfl (ih h)
    | «at» q k => exact go_on (Bool.and_false _) rfl rfl (ih h)
    | point a k => exact go_on (Bool.and_false _) rfl rfl (ih h)
    | ask k => exact go_on (Bool.and_false _) rfl rfl (ih h)
    | fresh k =>
      have h : frNat (Nat.succ toks) (fun m' => goZ (stepT den p w) p w n0 ann life gens drawn os m T n m' ⟨k toks, code, pos, stack⟩) = some z := h
      rw [frNat_eq] at h
      exact go_on (Bool.and_false _) rfl rfl (ih h)
    | load a q k =>
      have h : zLoad a k T n toks code pos stack (goZ (stepT den p w) p w n0 ann life gens drawn os m) = some z := h
      unfold zLoad at h
      cases e1 : Nat.blt a n with
      | false => rw [e1] at h; exact nomatch h
      | true =>
        rw [e1] at h
        cases e2 : btGet T a with
        | none => rw [e2] at h; exact nomatch h
        | some o =>
          rw [e2] at h
          have h : zLive k T n toks code pos stack (goZ (stepT den p w) p w n0 ann life gens drawn os m) o = some z := h
          unfold zLive at h
          cases e3 : freedB o.data with
          | true => rw [e3] at h; exact nomatch h
          | false =>
            rw [e3] at h
            rw [btGet_eq] at e2
            refine go_on (Bool.and_false _) rfl ?_ (ih h)
            simp only [stepT, e1, e2, alive_of e3]
    | update a q f k =>
      have h : zUpdate n0 ann a f k T n toks code pos stack (goZ (stepT den p w) p w n0 ann life gens drawn os m) = some z := h
      unfold zUpdate at h
      cases e0 : (Nat.ble n0 a || a == mainNs || a == cStatics || ann == some (.ref a)) with
      | false => rw [e0] at h; exact nomatch h
      | true =>
      rw [e0] at h
      cases e1 : Nat.blt a n with
      | false => rw [e1] at h; exact nomatch h
      | true =>
        rw [e1] at h
        cases e2 : btGet T a with
        | none => rw [e2] at h; exact nomatch h
        | some o =>
          rw [e2] at h
          have h : zUp a f k T n toks code pos stack (goZ (stepT den p w) p w n0 ann life gens drawn os m) o = some z := h
          unfold zUp at h
          cases e3 : freedB o.data with
          | true => rw [e3] at h; exact nomatch h
          | false =>
            rw [e3] at h
            have h : btSet f T a (fun T' => goZ (stepT den p w) p w n0 ann life gens drawn os m T' n toks ⟨k (), code, pos, stack⟩) = some z := h
            rw [btSet_eq] at h
            rw [btGet_eq] at e2
            refine go_on (Bool.and_false _) e0 ?_ (ih h)
            simp only [stepT, e1, e2, alive_of e3]
    | alloc o k =>
      have h : btIns o T n (fun T' => @Bool.rec (fun _ => Option SharedT) none (frNat (Nat.succ n) fun m' => goZ (stepT den p w) p w n0 ann life gens drawn os m T' m' toks ⟨k n, code, pos, stack⟩) (btGet T' n).isSome) = some z := h
      rw [btIns_eq, btGet_eq] at h
      cases e1 : ((T.ins n o).get n).isSome with
      | false => rw [e1] at h; exact nomatch h
      | true =>
        rw [e1] at h
        have h : frNat (Nat.succ n) (fun m' => goZ (stepT den p w) p w n0 ann life gens drawn os m (T.ins n o) m' toks ⟨k n, code, pos, stack⟩) = some z := h
        rw [frNat_eq] at h
        refine go_on (Bool.and_false _) rfl ?_ (ih h)
        simp only [stepT, e1]
    | loadIfAlive a k =>
      have h : zAlive a k T n toks code pos stack (goZ (stepT den p w) p w n0 ann life gens drawn os m) = some z := h
      unfold zAlive at h
      cases e1 : Nat.blt a n with
      | false =>
        rw [e1] at h
        refine go_on (Bool.and_false _) rfl ?_ (ih h)
        simp only [stepT, e1]
      | true =>
        rw [e1] at h
        cases e2 : btGet T a with
        | none => rw [e2] at h; exact nomatch h
        | some o =>
          rw [e2] at h
          rw [btGet_eq] at e2
          refine go_on (Bool.and_false _) rfl ?_ (ih h)
          simp only [stepT, e1, e2]
    | call a b c d e => exact els (.inr (.inl ⟨_, _, _, _, _, rfl⟩)) h
    | handled a b => exact els (.inr (.inr (.inl ⟨_, _, rfl⟩))) h
    | stack a => exact els (.inr (.inr (.inr ⟨_, rfl⟩))) h
    | _ => exact nomatch h
end
/-- the state behind the top, by that machine -/
def endZ (st : SharedT → Thread → Option (SharedT × Thread)) (M : Nat) (p : Program) (w : World) (os : OsState) : Option SharedT := match putAll (boot_heap w.params).objs.toList .nil 0 with
  | some (t, n) => frNat n fun n0 => goZ st p w n0 (bootAnn w) (boot_heap w.params).life #[] boot_drawn os M t n0 boot_toks (topStub p)
  | none => none
theorem endZ_ok {M : Nat} {p : Program} {w : World} {os : OsState} {s : SharedT} (h : endZ (stepQ (denQ tabQ) p w) M p w os = some s) : endF (stepQ (denQ tabQ) p w) M p w os = some s := by
  rw [← stepQ_eq] at h ⊢
  unfold endZ at h
  unfold endF
  cases e : putAll (boot_heap w.params).objs.toList .nil 0 with
  | none => rw [e] at h; exact nomatch h
  | some r =>
    obtain ⟨t, n⟩ := r
    rw [e] at h
    have h : (frNat n fun n0 => goZ (stepT (denQ tabQ) p w) p w n0 (bootAnn w) (boot_heap w.params).life #[] boot_drawn os M t n0 boot_toks (topStub p)) = some s := h
    show (frNat n fun n0 => goF (stepT (denQ tabQ) p w) n0 (bootAnn w) M (bootT w os (t, n0)) (topStub p)) = some s
    rw [frNat_eq] at h ⊢
    exact goZ_ok h
theorem endZ_map {α : Type} {M : Nat} {p : Program} {w : World} {os : OsState} {f : SharedT → α} {v : α} (h : (endZ (stepQ (denQ tabQ) p w) M p w os).map f = some v) : (endF (stepQ (denQ tabQ) p w) M p w os).map f = some v := by
  obtain ⟨s, hs, hv⟩ := Option.map_eq_some_iff.mp h
  rw [endZ_ok hs]
  exact congrArg some hv
end Y.GZ
end
namespace Y
open PySem PySem.Spec PyProof.Rows L2
/-- what hangs at an object, no deeper than n; behind a code object nothing -/
def cloY (g : Addr → Option Obj) : Nat → Addr → List Addr
  | 0, a => [a]
  | n + 1, a => match g a with
    | some ⟨_, _, .fields _, _⟩ => [a]
    | some o => a :: ((He.refsD o).filter fun b => !Nat.beq b a).flatMap (cloY g n)
    | none => []
def asY (g : Addr → Option Obj) : List Addr := mainGlobals :: (match g mainGlobals with
  | some ⟨_, _, .dict es _, _⟩ => es.toList.flatMap fun e => match e.val with
    | .ref a => cloY g 4 a
    | _ => []
  | _ => [])
/-- the list made before it is handed on -/
def frK {α : Type} : List (Addr × Obj) → (PySem.W.Frag → α) → α
  | [], k => k []
  | (a, ⟨c, d, dt, sl⟩) :: r, k => HandSHeadRun.frNat a fun a' => frK r fun r' => k ((a', ⟨c, d, dt, sl⟩) :: r')
theorem frK_eq {α : Type} : ∀ (l : List (Addr × Obj)) (k : PySem.W.Frag → α), frK l k = k l
  | [], _ => rfl
  | (a, ⟨c, d, dt, sl⟩) :: r, k => by
    show HandSHeadRun.frNat a (fun a' => frK r fun r' => k ((a', ⟨c, d, dt, sl⟩) :: r')) = _
    rw [HandSHeadRun.frNat_eq, frK_eq r]
def lookY (fa : List He.Fa) (fn : List He.DefD) (ts : List He.Tab) (tf : List He.Defn) (ex : PySem.W.Frag → Bool) (g : Addr → Option Obj) (K : PySem.W.Frag) : He.AlX := (He.obsT fa fn ts K, ex K && He.tabsB g tf K)
def obsY (fa : List He.Fa) (fn : List He.DefD) (ts : List He.Tab) (tf : List He.Defn) (ex : PySem.W.Frag → Bool) (g : Addr → Option Obj) : He.AlX := frK (He.frT g (asY g)) (lookY fa fn ts tf ex g)
theorem saysY {fa : List He.Fa} {fn : List He.DefD} {ts : List He.Tab} {tf : List He.Defn} {ex : PySem.W.Frag → Bool} {w : World} {h : Heap} (e : obsY fa fn ts tf ex h.get? = He.valX fn ts w) : He.SaysX fa fn ts tf ex w h (He.frT h.get? (asY h.get?)) := by
  unfold obsY at e
  rw [frK_eq] at e
  generalize hK : He.frT h.get? (asY h.get?) = K at e
  obtain ⟨q1, q2⟩ := Prod.ext_iff.mp e
  have q2 : (ex K && He.tabsB h.get? tf K) = true := q2
  rw [Bool.and_eq_true] at q2
  have each : ∀ p ∈ tf, PySem.W.codeHdIn K (He.cT K p).1 (He.cT K p).2 = true ∧ h.get? (He.cT K p).2 = some { cls := .none, data := .fields #[] } := by
    intro p hp
    have z := List.all_eq_true.mp q2.2 p hp
    rw [Bool.and_eq_true] at z
    refine ⟨z.1, ?_⟩
    revert z
    cases h.get? (He.cT K p).2 with
    | none => exact fun z => nomatch z.2
    | some o => exact fun z => congrArg some (He.emptyTab_eq z.2)
  refine ⟨q1, q2.1, fun p hp => (each p hp).1, fun p hp => ?_, fun p hp => (each p hp).2⟩
  have z := He.frT_none (as := asY h.get?) (each p hp).2 rfl
  rw [hK] at z
  exact z
def hookY (fa : List He.Fa) (fn : List He.DefD) (ts : List He.Tab) (tf : List He.Defn) (ex : PySem.W.Frag → Bool) : PySem.W.Hook where
  α := He.AlX
  obs := fun s => obsY fa fn ts tf ex s.heap.get?
  val := fun w => He.valX fn ts w
  says := (He.hookX 4 fa fn ts tf ex).says
  of := fun _ _ e => ⟨_, He.frT_in, saysY e⟩
  keeps := (He.hookX 4 fa fn ts tf ex).keeps
theorem obsY_eq {fa : List He.Fa} {fn : List He.DefD} {ts : List He.Tab} {tf : List He.Defn} {ex : PySem.W.Frag → Bool} {g : Addr → Option Obj} {s : Shared} (h : ∀ a, g a = s.heap.get? a) : obsY fa fn ts tf ex g = (hookY fa fn ts tf ex).obs s := by
  rw [show g = s.heap.get? from funext h]
  rfl
def Part {α : Type} (r : PySem.W.OpenRow) (M : Nat) (w : World) (f : PySem.W.SharedT → α) (v : α) : Prop :=
  ∀ os : OsState, (GZ.endZ (HandSHeadRun.stepQ (HandSHeadRun.denQ HandSHeadRun.tabQ) r.prog w) M r.prog w os).map f = some v
theorem Part.to {α β : Type} {r : PySem.W.OpenRow} {M : Nat} {w : World} {f : PySem.W.SharedT → α} {v : α} {g : PySem.W.SharedT → β} {u : β} (p : Part r M w f v) (h : ∀ s, f s = v → g s = u) : Part r M w g u := by
  intro os
  have z := p os
  revert z
  generalize GZ.endZ (HandSHeadRun.stepQ (HandSHeadRun.denQ HandSHeadRun.tabQ) r.prog w) M r.prog w os = E
  cases E with
  | none => exact fun z => nomatch z
  | some s => exact fun z => congrArg some (h s (Option.some.inj z))
end Y
namespace Y
open PySem PySem.Spec PyProof.Rows L2 LamX
def lamN : List Str := ["law", "_law_doors", "_law_asked", "_law_kept_step", "_law_turn", "_law_end_told", "_law_kept_among", "_law_all_hold", "_law_answer", "_law_tidy_now", "_law_told_of", "choice"]
def lamT (K : PySem.W.Frag) : List (Addr × Str) := lamN.filterMap fun x => match K.lookup (He.fAd K (x, none)) with
  | some ⟨_, _, .func _, _⟩ => some ((He.cT K (x, none)).2, x ++ ".<locals>." ++ "<lambda>")
  | _ => none
def hotN : List Str := ["Broken", "BadText"]
def tabsOk (K : PySem.W.Frag) (tf : List He.Defn) : Bool := decide (lamT K = tf.map fun p => ((He.cT K p).2, p.1 ++ ".<locals>." ++ "<lambda>"))
abbrev leTail : List Value := [.type "LookupError", .type "Exception", .type "BaseException", .type "object"]
abbrev ieTail : List Value := [.type "IndexError", .type "LookupError", .type "Exception", .type "BaseException", .type "object"]
def refsB (t : List Value) : List Value → Bool
  | .ref c :: r => refsB t r
  | l => l == t
def oexN (n : String) (bm : List Value) : Bool := (decide (n = "ValueError.__new__") && refsB PySem.HandSPX.veTail bm) || ((decide (n = "LookupError.__new__") && refsB leTail bm) || (decide (n = "IndexError.__new__") && refsB ieTail bm))
def oexB (K : PySem.W.Frag) (C : Addr) : Bool := (match K.lookup C with
  | some ⟨.type t, _, .cls cd, sl⟩ => (match cd.mro, sl.toList with
    | .ref C' :: bm, [_, _, _, _, some (.builtin n), _] => (decide (t = "type") && decide (C' = C)) && ((oexN n bm) && (!cd.hasDel && cd.hasDict))
    | _, _ => false)
  | _ => false) && (He.eqO (PySem.W.findIn K (.ref C) "__setattr__") (some (some (.builtin "object.__setattr__"))) && (decide (PySem.W.subIn K (.ref C) (.type "BaseException") = some true) && (decide (PySem.W.typeIn K (.ref C) = some (.type "type")) && PySem.W.keepIn K (.ref C))))
inductive TV where
  | s (x : Str) | i (n : Int) | g (x : Str)
def TV.isB (K : PySem.W.Frag) : TV → Value → Bool
  | .s x, .str y _ => decide (y = x)
  | .i n, .int m _ => decide (m = n)
  | .g x, .ref a => decide (PySem.W.nsIn K mainGlobals x = some (some (.ref a)))
  | _, _ => false
def entsB (K : PySem.W.Frag) : List DictEntry → List (Str × TV) → Bool
  | [], [] => true
  | e :: r, (k, v) :: q => e.key.isStr k && (v.isB K e.val && entsB K r q)
  | _, _ => false
def tabB (K : PySem.W.Frag) (x : Str) (kvs : List (Str × TV)) : Bool := match K.lookup (He.ga K x) with
  | some ⟨_, _, .dict es _, _⟩ => entsB K es.toList kvs
  | _ => false
def kwAt (f : He.Defn) (x : Str) (K : PySem.W.Frag) : Addr := match K.lookup (He.fAd K f) with
  | some ⟨_, _, .func fd, _⟩ => (match fd.kwdefaults with
    | .ref D => (match PySem.W.nsIn K D x with
      | some (some (.ref a)) => a
      | _ => 0)
    | _ => 0)
  | _ => 0
def tup0B (K : PySem.W.Frag) (a : Addr) : Bool := match K.lookup a with
  | some ⟨.type c, _, .seq its _, _⟩ => decide (c = "tuple") && its.isEmpty
  | _ => false
def excB (K : PySem.W.Frag) (x : Str) (fs : List Str) : Bool := oexB K (He.ga K x) && (xfB K (He.ga K x) && (fs.all (fun f => decide (PySem.W.findIn K (.ref (He.ga K x)) f = some none)) && (decide (PySem.W.findIn K (.ref (He.ga K x)) "__init__" = some (some (.ref (He.fAd K (x, some "__init__"))))) && decide (PySem.W.typeIn K (.ref (He.fAd K (x, some "__init__"))) = some (.type "function")))))
def lamUB (K : PySem.W.Frag) (x : Str) : Bool := (lamT K).any (fun p => decide (p = ((He.cT K (x, none)).2, x ++ ".<locals>." ++ "<lambda>"))) && (lamT K).all fun p => !decide (p.1 = (He.cT K (x, none)).2) || decide (p.2 = x ++ ".<locals>." ++ "<lambda>")
def clsS (st : Stmt) (i : Nat) : Stmt := match st with
  | .ClassDef _ _ _ body _ _ _ _ _ _ _ => body.getD i (.Pass ⟨0, 0, 0, 0⟩)
  | _ => .Pass ⟨0, 0, 0, 0⟩
end Y
namespace Z
open PySem PySem.Spec PyProof.Rows L2 Y
def topS (i : Nat) : Stmt := PySem.Challenge.pw_hodman_k12_plans_refused.main.body.getD i (.Pass ⟨0, 0, 0, 0⟩)
abbrev tab_OTHER : List (Str × TV) := [("from", .s "ahead"), ("ahead", .s "from"), ("way", .s "not"), ("not", .s "way"), ("stays", .s "moves"), ("moves", .s "stays")]
abbrev st_spot_L : Stmt := topS 55
abbrev st_between : Stmt := topS 16
abbrev st_shut_wrong : Stmt := topS 17
abbrev st_is_stuff : Stmt := topS 18
abbrev st_is_way : Stmt := topS 19
abbrev st_is_work : Stmt := topS 20
abbrev st_is_tie : Stmt := topS 21
abbrev st_first_wrong : Stmt := topS 22
abbrev st_need_yard : Stmt := topS 23
abbrev st_days_of : Stmt := topS 25
abbrev st_held_by : Stmt := topS 26
abbrev st_need_planX : Stmt := topS 28
abbrev st_works_alone : Stmt := topS 29
abbrev st_tie_kept : Stmt := topS 30
abbrev st_used : Stmt := topS 31
abbrev st_first_broken : Stmt := topS 32
abbrev st_brokenX : Stmt := topS 33
abbrev st_need_daysX : Stmt := topS 34
abbrev st_end_ofX : Stmt := topS 35
abbrev st_tableX : Stmt := topS 36
abbrev st_is_saying : Stmt := topS 39
abbrev st_need_sayingsX : Stmt := topS 40
abbrev st_says_so : Stmt := topS 41
abbrev st_holdsX : Stmt := topS 42
abbrev st_open_L : Stmt := topS 44
abbrev st_pull_L : Stmt := topS 45
abbrev st_num_L : Stmt := topS 46
abbrev st_like_L : Stmt := topS 47
abbrev st_good_row_L : Stmt := topS 48
abbrev st_mode_L : Stmt := topS 49
abbrev st_job_L : Stmt := topS 50
abbrev st_link_L : Stmt := topS 51
abbrev st_closed_L : Stmt := topS 52
abbrev st_net_L : Stmt := topS 53
abbrev st_dates_L : Stmt := topS 54
abbrev st_law : Stmt := topS 56
abbrev st_BadPlan_init : Stmt := Y.clsS (topS 3) 0
abbrev st_BadSaying_init : Stmt := Y.clsS (topS 4) 0
def d_between : He.DefD := ⟨("between", none), "between", "between", defArgs st_between, defBody st_between, defScope st_between, [], []⟩
def d_shut_wrong : He.DefD := ⟨("shut_wrong", none), "shut_wrong", "shut_wrong", defArgs st_shut_wrong, defBody st_shut_wrong, defScope st_shut_wrong, [], []⟩
def d_is_stuff : He.DefD := ⟨("is_stuff", none), "is_stuff", "is_stuff", defArgs st_is_stuff, defBody st_is_stuff, defScope st_is_stuff, [], []⟩
def d_is_way : He.DefD := ⟨("is_way", none), "is_way", "is_way", defArgs st_is_way, defBody st_is_way, defScope st_is_way, [], []⟩
def d_is_work : He.DefD := ⟨("is_work", none), "is_work", "is_work", defArgs st_is_work, defBody st_is_work, defScope st_is_work, [], []⟩
def d_is_tie : He.DefD := ⟨("is_tie", none), "is_tie", "is_tie", defArgs st_is_tie, defBody st_is_tie, defScope st_is_tie, [], []⟩
def d_first_wrong : He.DefD := ⟨("first_wrong", none), "first_wrong", "first_wrong", defArgs st_first_wrong, defBody st_first_wrong, defScope st_first_wrong, [], []⟩
def d_need_yard : He.DefD := ⟨("need_yard", none), "need_yard", "need_yard", defArgs st_need_yard, defBody st_need_yard, defScope st_need_yard, [], []⟩
def d_days_of : He.DefD := ⟨("days_of", none), "days_of", "days_of", defArgs st_days_of, defBody st_days_of, defScope st_days_of, [], []⟩
def d_held_by : He.DefD := ⟨("held_by", none), "held_by", "held_by", defArgs st_held_by, defBody st_held_by, defScope st_held_by, [], []⟩
def d_need_planX : He.DefD := ⟨("need_plan", none), "need_plan", "need_plan", defArgs st_need_planX, defBody st_need_planX, defScope st_need_planX, [], []⟩
def d_works_alone : He.DefD := ⟨("works_alone", none), "works_alone", "works_alone", defArgs st_works_alone, defBody st_works_alone, defScope st_works_alone, [], []⟩
def d_tie_kept : He.DefD := ⟨("tie_kept", none), "tie_kept", "tie_kept", defArgs st_tie_kept, defBody st_tie_kept, defScope st_tie_kept, [], []⟩
def d_used : He.DefD := ⟨("used", none), "used", "used", defArgs st_used, defBody st_used, defScope st_used, [], []⟩
def d_first_broken : He.DefD := ⟨("first_broken", none), "first_broken", "first_broken", defArgs st_first_broken, defBody st_first_broken, defScope st_first_broken, [], []⟩
def d_brokenX : He.DefD := ⟨("broken", none), "broken", "broken", defArgs st_brokenX, defBody st_brokenX, defScope st_brokenX, [], []⟩
def d_need_daysX : He.DefD := ⟨("need_days", none), "need_days", "need_days", defArgs st_need_daysX, defBody st_need_daysX, defScope st_need_daysX, [], []⟩
def d_end_ofX : He.DefD := ⟨("end_of", none), "end_of", "end_of", defArgs st_end_ofX, defBody st_end_ofX, defScope st_end_ofX, [], []⟩
def d_tableX : He.DefD := ⟨("table", none), "table", "table", defArgs st_tableX, defBody st_tableX, defScope st_tableX, [], []⟩
def d_is_saying : He.DefD := ⟨("is_saying", none), "is_saying", "is_saying", defArgs st_is_saying, defBody st_is_saying, defScope st_is_saying, [], []⟩
def d_need_sayingsX : He.DefD := ⟨("need_sayings", none), "need_sayings", "need_sayings", defArgs st_need_sayingsX, defBody st_need_sayingsX, defScope st_need_sayingsX, [], []⟩
def d_says_so : He.DefD := ⟨("says_so", none), "says_so", "says_so", defArgs st_says_so, defBody st_says_so, defScope st_says_so, [], []⟩
def d_holdsX : He.DefD := ⟨("holds", none), "holds", "holds", defArgs st_holdsX, defBody st_holdsX, defScope st_holdsX, [], [("kept", .adr (Y.kwAt ("holds", none) "kept"))]⟩
def d_open_L : He.DefD := ⟨("_law_open", none), "_law_open", "_law_open", defArgs st_open_L, defBody st_open_L, defScope st_open_L, [], []⟩
def d_pull_L : He.DefD := ⟨("_law_pull", none), "_law_pull", "_law_pull", defArgs st_pull_L, defBody st_pull_L, defScope st_pull_L, [], []⟩
def d_num_L : He.DefD := ⟨("_law_num", none), "_law_num", "_law_num", defArgs st_num_L, defBody st_num_L, defScope st_num_L, [], []⟩
def d_like_L : He.DefD := ⟨("_law_like", none), "_law_like", "_law_like", defArgs st_like_L, defBody st_like_L, defScope st_like_L, [], []⟩
def d_good_row_L : He.DefD := ⟨("_law_good_row", none), "_law_good_row", "_law_good_row", defArgs st_good_row_L, defBody st_good_row_L, defScope st_good_row_L, [], []⟩
def d_mode_L : He.DefD := ⟨("_law_mode", none), "_law_mode", "_law_mode", defArgs st_mode_L, defBody st_mode_L, defScope st_mode_L, [], []⟩
def d_job_L : He.DefD := ⟨("_law_job", none), "_law_job", "_law_job", defArgs st_job_L, defBody st_job_L, defScope st_job_L, [], []⟩
def d_link_L : He.DefD := ⟨("_law_link", none), "_law_link", "_law_link", defArgs st_link_L, defBody st_link_L, defScope st_link_L, [], []⟩
def d_closed_L : He.DefD := ⟨("_law_closed", none), "_law_closed", "_law_closed", defArgs st_closed_L, defBody st_closed_L, defScope st_closed_L, [], []⟩
def d_net_L : He.DefD := ⟨("_law_net", none), "_law_net", "_law_net", defArgs st_net_L, defBody st_net_L, defScope st_net_L, [], []⟩
def d_dates_L : He.DefD := ⟨("_law_dates", none), "_law_dates", "_law_dates", defArgs st_dates_L, defBody st_dates_L, defScope st_dates_L, [], []⟩
def d_law : He.DefD := ⟨("law", none), "law", "law", defArgs st_law, defBody st_law, defScope st_law, [], []⟩
def d_spot_L : He.DefD := ⟨("_law_spot", none), "_law_spot", "_law_spot", defArgs st_spot_L, defBody st_spot_L, defScope st_spot_L, [], []⟩
def d_BadPlan_init : He.DefD := ⟨("BadPlan", some "__init__"), "__init__", "BadPlan.__init__", defArgs st_BadPlan_init, defBody st_BadPlan_init, defScope st_BadPlan_init, [], []⟩
def d_BadSaying_init : He.DefD := ⟨("BadSaying", some "__init__"), "__init__", "BadSaying.__init__", defArgs st_BadSaying_init, defBody st_BadSaying_init, defScope st_BadSaying_init, [], []⟩
def fnL : List He.DefD := [d_between, d_shut_wrong, d_is_stuff, d_is_way, d_is_work, d_is_tie, d_first_wrong, d_need_yard, d_days_of, d_held_by, d_need_planX, d_works_alone, d_tie_kept, d_used, d_first_broken, d_brokenX, d_need_daysX, d_end_ofX, d_tableX, d_is_saying, d_need_sayingsX, d_says_so, d_holdsX, d_open_L, d_pull_L, d_num_L, d_like_L, d_good_row_L, d_mode_L, d_job_L, d_link_L, d_closed_L, d_net_L, d_dates_L, d_law, d_spot_L, d_BadPlan_init, d_BadSaying_init]
def faL : List He.Fa := [.glo "between", .glo "shut_wrong", .glo "is_stuff", .glo "is_way", .glo "is_work", .glo "is_tie", .glo "first_wrong", .glo "need_yard", .glo "days_of", .glo "held_by", .glo "need_plan", .glo "works_alone", .glo "tie_kept", .glo "used", .glo "first_broken", .glo "broken", .glo "need_days", .glo "end_of", .glo "table", .glo "is_saying", .glo "need_sayings", .glo "says_so", .glo "holds", .glo "_law_open", .glo "_law_pull", .glo "_law_num", .glo "_law_like", .glo "_law_good_row", .glo "_law_mode", .glo "_law_job", .glo "_law_link", .glo "_law_closed", .glo "_law_net", .glo "_law_dates", .glo "law", .free "all", .free "any", .free "bool", .free "enumerate", .free "int", .free "isinstance", .free "len", .free "list", .free "max", .free "min", .free "range", .free "str", .free "sum", .free "tuple", .int "END" (1), .int "MOST_DAYS" (20), .int "MOST_GAP" (20), .int "MOST_LONG" (9), .int "MOST_MANY" (9), .int "MOST_STUFFS" (3), .int "MOST_TIES" (12), .int "MOST_WAYS" (3), .int "MOST_WORKS" (6), .int "START" (0), .glo "OTHER", .glo "_law_spot", .glo "BadPlan", .glo "BadSaying"]
abbrev RW : PySem.W.OpenRow := PySem.W.OpenLaw.row PySem.Challenge.rw_hodman_k12_plans_refused
def tfL : List He.Defn := [("law", none)]
def tsL : List He.Tab := [(fun K => He.ga K "OTHER", ["from", "ahead", "way", "not", "stays", "moves"])]
def exLs (K : PySem.W.Frag) : List Bool := [Y.tabsOk K tfL, Y.tabB K "OTHER" tab_OTHER, Y.tup0B K (Y.kwAt ("holds", none) "kept" K), Y.excB K "BadPlan" ["word", "at"], Y.excB K "BadSaying" ["word", "at"], decide (PySem.W.exmOne K (.ref (He.ga K "BadPlan")) (.ref (He.ga K "BadPlan")) = some true), decide (PySem.W.exmOne K (.ref (He.ga K "BadSaying")) (.ref (He.ga K "BadPlan")) = some false), Y.lamUB K "law"]
def exL (K : PySem.W.Frag) : Bool := (exLs K).all id
abbrev hkL : PySem.W.Hook := Y.hookY faL fnL tsL tfL exL
def obL (s : PySem.W.SharedT) : He.AlX := Y.obsY faL fnL tsL tfL exL (HandSHeadRun.getT s)
theorem obL_eq (s : PySem.W.SharedT) : obL s = hkL.obs s.abs := Y.obsY_eq (HandSHeadRun.getT_eq s)
def loose0 : List Str := ["YardError", "BadYard", "BadPlan", "BadSaying", "MOST_DAYS", "MOST_STUFFS", "MOST_WORKS", "MOST_WAYS", "MOST_TIES", "MOST_LONG", "MOST_MANY", "MOST_GAP", "START", "END", "between", "shut_wrong", "is_stuff", "is_way", "is_work", "is_tie", "first_wrong", "need_yard", "days_of", "held_by", "need_plan", "works_alone", "tie_kept", "used", "first_broken", "broken"]
def loose1 : List Str := ["need_days", "end_of", "table", "OTHER", "is_saying", "need_sayings", "says_so", "holds", "_law_open", "_law_pull", "_law_num", "_law_like", "_law_good_row", "_law_mode", "_law_job", "_law_link", "_law_closed", "_law_net", "_law_dates", "_law_spot"]
def looseL : List Str := loose0 ++ loose1
set_option maxHeartbeats 0 in
theorem runL0 (w : World) : HandSHeadRun.RunEq RW (PySem.W.view RW.prog [56]) hkL obL 20000 looseL (w.withFollow "special-get-raises" false) := by
  intro os
  refine Y.GZ.endZ_map ?_
  kernel_rfl
set_option maxHeartbeats 0 in
theorem runL1 (w : World) : HandSHeadRun.RunEq RW (PySem.W.view RW.prog [56]) hkL obL 20000 looseL (w.withFollow "special-get-raises" true) := by
  intro os
  refine Y.GZ.endZ_map ?_
  kernel_rfl
theorem runL (w : World) : HandSHeadRun.RunEq RW (PySem.W.view RW.prog [56]) hkL obL 20000 looseL w := PySem.W.byRow2 "special-get-raises" runL0 runL1 w
end Z
namespace HL
open PySem PySem.W PySem.Calls PyProof.Rows
set_option maxHeartbeats 8000000 in
theorem headL (hc : PySem.W.WalkO (PySem.W.view (OpenLaw.row PySem.Challenge.rw_hodman_k12_plans_refused).prog [56]) Z.looseL (PySem.W.XL (PySem.W.view (OpenLaw.row PySem.Challenge.rw_hodman_k12_plans_refused).prog [56]) []) Z.hkL.says (OpenLaw.row PySem.Challenge.rw_hodman_k12_plans_refused).toRowW (HandSHeadRun.topDef (OpenLaw.row PySem.Challenge.rw_hodman_k12_plans_refused).prog 56) [] (fun f vs => PySem.call f vs)) : PySem.Challenge.rw_hodman_k12_plans_refused.Holds := by
  w_on; o_law
  refine HandSHeadRun.head_any (r := OpenLaw.row PySem.Challenge.rw_hodman_k12_plans_refused) (q := view (OpenLaw.row PySem.Challenge.rw_hodman_k12_plans_refused).prog [56]) (H := Z.hkL) (ob := Z.obL) (M := 20000) (loose := Z.looseL)
    (d := HandSHeadRun.topDef (OpenLaw.row PySem.Challenge.rw_hodman_k12_plans_refused).prog 56) (kwd := []) Z.obL_eq (by kernel_rfl) (fun s => by kernel_rfl) Z.runL (by kernel_rfl) (by kernel_rfl) (by kernel_rfl) (by rfl)
    (by first | assumption | decide +kernel) (by decide +kernel) ⟨rfl, rfl, rfl, rfl, rfl, by decide +kernel⟩ ?hw hc
  case hw => w_witness2
end HL
namespace Y
open PySem PySem.Spec PyProof.Rows L2
/-- data: lst is a list that nobody changes any more, ptr one (or a dict, an instance) that may be changed, glo a def or a class of the text by its name -/
inductive D where
  | non | bl (b : Bool) | int (i : Int) | str (x : Str) | tup (ds : List D) | lst (ds : List D) | scr (ns : List Int) | ptr (n : Nat) | glo (x : Str) | ty (n : String) | fn (o : Obj) (c : Addr) (q : Str)
/-- a tuple that was just made: its object is known -/
abbrev newT (H : Hp) (xs : List V) (Q : VK) : Prop := ∀ (p : Addr) (ob : Obj), H p = none → ob.dict = none → Q (.ref p) (upd H p (.frz ob (.tup xs)))
theorem new_tup {X : Cx} {pins : List (Addr × Obj)} {σ : L2.St} {H : Hp} {s : Shared} {xs : List V} {us : List Value} {Q : VK} (I : Inv X pins σ H s) (rv : Vals xs us) (hz : xs.length ≤ sizeLine) (q : newT H xs Q) :
    EP X pins σ Q (.ref s.heap.objs.size) { s with heap := s.heap.push { cls := .type "tuple", data := .seq us.toArray } } :=
  ⟨.ref s.heap.objs.size, upd H s.heap.objs.size (.frz { cls := .type "tuple", data := .seq us.toArray } (.tup xs)), I.laid (t' := s.toks) (fun b ob e => Heap.get?_push_of_some _ e) (Nat.le_refl _) ⟨Heap.get?_push_size _ rfl, hz, us, rv, IsTup.new _ _⟩, rfl, q _ _ (I.hok.fresh (Nat.le_refl _)) rfl⟩
/-- what may be changed -/
inductive MO where
  | lst (ds : List D) | dk (kvs : List (Key × D)) | ins (c : Str) (fs : List (Str × D)) | nk (kvs : List (NestedKey × D)) | lk (od : Obj) (ys : List (Key × V)) (kvs : List (Key × D))
abbrev Mu := Nat → Option MO
abbrev Rho := List (Option D)
abbrev Io := Nat → Option Addr
structure Ge where
  K : PySem.W.Frag
  mg : Str → Option Value
  w : World
/-- an exception: its class, its fields -/
structure XD where
  cls : Str
  fs : List (Str × D)
def mset (μ : Mu) (n : Nat) (o : MO) : Mu := fun m => if m = n then some o else μ m
theorem mset_same {μ : Mu} {n : Nat} {o : MO} : mset μ n o n = some o := by unfold mset; rw [if_pos rfl]
theorem mset_ne {μ : Mu} {n m : Nat} {o : MO} (h : m ≠ n) : mset μ n o m = μ m := by unfold mset; rw [if_neg h]
theorem mset_mset {μ : Mu} {n : Nat} {o u : MO} : mset (mset μ n o) n u = mset μ n u := by
  funext b; unfold mset; split <;> rfl
/-- an object that is known, a made function -/
def ObjO (a : Addr) (o : Obj) : HO := .ext fun h => h.get? a = some o
mutual
inductive VD (g : Ge) (G : Hp) (ι : Io) : V → D → Prop
  | non : VD g G ι .non .non
  | bl (b : Bool) : VD g G ι (.bl b) (.bl b)
  | int (i : Int) : VD g G ι (.int i) (.int i)
  | str (x : Str) : VD g G ι (.str x) (.str x)
  | ty (n : String) : VD g G ι (.ty n) (.ty n)
  | tup {a : Addr} {xs : List V} {ds : List D} : SqT g.K G a xs → VDs g G ι xs ds → xs.length ≤ sizeLine → VD g G ι (.ref a) (.tup ds)
  | lst {a : Addr} {xs : List V} {ds : List D} : G a = some (.lst xs) → VDs g G ι xs ds → xs.length ≤ sizeLine → VD g G ι (.ref a) (.lst ds)
  | scr {a : Addr} {ns : List Int} : SqL g.K G a (ns.map V.int) → ns.length ≤ 1000 → VD g G ι (.ref a) (.scr ns)
  | ptr {a : Addr} {n : Nat} : ι n = some a → VD g G ι (.ref a) (.ptr n)
  | glo {a : Addr} {x : Str} : g.mg x = some (.ref a) → VD g G ι (.ref a) (.glo x)
  | fn {a c : Addr} {o : Obj} {q : Str} : G a = some (ObjO a o) → G c = some (LamX.CodeO c q) → VD g G ι (.ref a) (.fn o c q)
inductive VDs (g : Ge) (G : Hp) (ι : Io) : List V → List D → Prop
  | nil : VDs g G ι [] []
  | cons {v : V} {vs : List V} {d : D} {ds : List D} : VD g G ι v d → VDs g G ι vs ds → VDs g G ι (v :: vs) (d :: ds)
end
structure Ext (G : Hp) (ι : Io) (G' : Hp) (ι' : Io) : Prop where
  g : ∀ a o, G a = some o → G' a = some o
  i : ∀ n a, ι n = some a → ι' n = some a
theorem Ext.refl {G : Hp} {ι : Io} : Ext G ι G ι := ⟨fun _ _ h => h, fun _ _ h => h⟩
theorem Ext.trans {G G1 G2 : Hp} {ι ι1 ι2 : Io} (a : Ext G ι G1 ι1) (b : Ext G1 ι1 G2 ι2) : Ext G ι G2 ι2 := ⟨fun x o h => b.g x o (a.g x o h), fun n x h => b.i n x (a.i n x h)⟩
section
variable {g : Ge} {F G G' H H' : Hp} {ι ι' : Io} {μ : Mu}
theorem rd_mono (e : ∀ a o, G a = some o → G' a = some o) {a : Addr} {u : HO} (h : Rd G a u) : Rd G' a u := by
  rcases h with h | ⟨o, h⟩
  · exact .inl (e _ _ h)
  · exact .inr ⟨o, e _ _ h⟩
theorem sqT_mono (e : ∀ a o, G a = some o → G' a = some o) {K : PySem.W.Frag} {a : Addr} {xs : List V} (h : SqT K G a xs) : SqT K G' a xs := by
  rcases h with h | h
  · exact .inl (rd_mono e h)
  · exact .inr h
theorem sqL_mono (e : ∀ a o, G a = some o → G' a = some o) {K : PySem.W.Frag} {a : Addr} {xs : List V} (h : SqL K G a xs) : SqL K G' a xs := by
  rcases h with h | h
  · exact .inl (rd_mono e h)
  · exact .inr h
mutual
theorem VD.mono (e : Ext G ι G' ι') : ∀ {v : V} {d : D}, VD g G ι v d → VD g G' ι' v d
  | _, _, .non => .non
  | _, _, .bl b => .bl b
  | _, _, .int i => .int i
  | _, _, .str x => .str x
  | _, _, .ty n => .ty n
  | _, _, .tup h r z => .tup (sqT_mono e.g h) (VDs.mono e r) z
  | _, _, .lst h r z => .lst (e.g _ _ h) (VDs.mono e r) z
  | _, _, .scr h z => .scr (sqL_mono e.g h) z
  | _, _, .ptr h => .ptr (e.i _ _ h)
  | _, _, .glo h => .glo h
  | _, _, .fn h1 h2 => .fn (e.g _ _ h1) (e.g _ _ h2)
theorem VDs.mono (e : Ext G ι G' ι') : ∀ {vs : List V} {ds : List D}, VDs g G ι vs ds → VDs g G' ι' vs ds
  | _, _, .nil => .nil
  | _, _, .cons h r => .cons (VD.mono e h) (VDs.mono e r)
end
theorem VDs.length : ∀ {vs : List V} {ds : List D}, VDs g G ι vs ds → vs.length = ds.length
  | _, _, .nil => rfl
  | _, _, .cons _ r => congrArg (· + 1) r.length
theorem VDs.get : ∀ {vs : List V} {ds : List D} {i : Nat} {d : D}, VDs g G ι vs ds → ds[i]? = some d → ∃ v, vs[i]? = some v ∧ VD g G ι v d
  | _, _, _, _, .nil, e => by simp at e
  | _, _, 0, _, .cons h _, e => by simp at e; subst e; exact ⟨_, rfl, h⟩
  | _, _, i + 1, d, .cons _ r, e => by
    obtain ⟨v, h1, h2⟩ := VDs.get (i := i) (d := d) r (by simpa using e)
    exact ⟨v, by simpa using h1, h2⟩
theorem VDs.get' : ∀ {vs : List V} {ds : List D} {i : Nat} {v : V}, VDs g G ι vs ds → vs[i]? = some v → ∃ d, ds[i]? = some d ∧ VD g G ι v d
  | _, _, _, _, .nil, e => by simp at e
  | _, _, 0, _, .cons h _, e => by simp at e; subst e; exact ⟨_, rfl, h⟩
  | _, _, i + 1, d, .cons _ r, e => by
    obtain ⟨v, h1, h2⟩ := VDs.get' (i := i) (v := d) r (by simpa using e)
    exact ⟨v, by simpa using h1, h2⟩
theorem VDs.append : ∀ {vs ws : List V} {ds es : List D}, VDs g G ι vs ds → VDs g G ι ws es → VDs g G ι (vs ++ ws) (ds ++ es)
  | _, _, _, _, .nil, s => s
  | _, _, _, _, .cons h r, s => .cons h (VDs.append r s)
theorem VDs.take : ∀ {vs : List V} {ds : List D} (n : Nat), VDs g G ι vs ds → VDs g G ι (vs.take n) (ds.take n)
  | _, _, 0, _ => .nil
  | _, _, _ + 1, .nil => .nil
  | _, _, n + 1, .cons h r => .cons h (VDs.take n r)
theorem VDs.drop : ∀ {vs : List V} {ds : List D} (n : Nat), VDs g G ι vs ds → VDs g G ι (vs.drop n) (ds.drop n)
  | _, _, 0, r => r
  | _, _, _ + 1, .nil => .nil
  | _, _, n + 1, .cons _ r => VDs.drop n r
theorem VDs.set {v : V} {d : D} (h : VD g G ι v d) : ∀ {vs : List V} {ds : List D} (i : Nat), VDs g G ι vs ds → VDs g G ι (vs.set i v) (ds.set i d)
  | _, _, _, .nil => .nil
  | _, _, 0, .cons _ r => .cons h r
  | _, _, i + 1, .cons q r => .cons q (VDs.set h i r)
theorem VDs.ints : ∀ ns : List Int, VDs g G ι (ns.map V.int) (ns.map D.int)
  | [] => .nil
  | n :: r => .cons (.int n) (VDs.ints r)
/-- two lists of pairs with the same keys -/
abbrev KVD {κ : Type} (g : Ge) (G : Hp) (ι : Io) : List (κ × V) → List (κ × D) → Prop := Paired fun (p : κ × V) (q : κ × D) => p.1 = q.1 ∧ VD g G ι p.2 q.2
theorem KVD.mono {κ : Type} (e : Ext G ι G' ι') {ys : List (κ × V)} {fs : List (κ × D)} (h : KVD g G ι ys fs) : KVD g G' ι' ys fs :=
  Paired.mapP h fun _ _ z => ⟨z.1, z.2.mono e⟩
mutual
/-- a key that is a tuple, as data -/
def nkD : NestedKey → D
  | .none => .non
  | .num i => .int i
  | .text x => .str x
  | .tup ks => .tup (nkDs ks)
def nkDs : List NestedKey → List D
  | [] => []
  | k :: ks => nkD k :: nkDs ks
end
/-- at a stands a dict whose keys are tuples, hashed in the world w; the keys' own objects apart -/
def NkAt (w : World) (a : Addr) (xs : List (NestedKey × Addr × V)) (h : Heap) : Prop := (a == sysModules) = false ∧ xs.length ≤ sizeLine ∧ (∀ x ∈ xs, x.1.depth ≤ 8) ∧ ∃ ys : List (NestedKey × Addr × Value),
  Paired (fun (x : NestedKey × Addr × V) (y : NestedKey × Addr × Value) => x.1 = y.1 ∧ x.2.1 = y.2.1 ∧ RelV x.2.2 y.2.2) xs ys ∧
  ∃ o es ep, h.get? a = some o ∧ o.ExactDict ∧ o.data = .dict es ep ∧ es.toList = ys.map (fun y => (⟨y.1.hash w, .ref y.2.1, y.2.2⟩ : DictEntry)) ∧ (ys.map (·.1)).Nodup
def NkO (w : World) (a : Addr) (xs : List (NestedKey × Addr × V)) : HO := .ext (NkAt w a xs)
theorem nko_code {w : World} {a : Addr} {xs : List (NestedKey × Addr × V)} {q : Str} : NkO w a xs ≠ LamX.CodeO a q := by
  intro e
  have e2 : NkAt w a xs = fun h : Heap => ∃ (oc : Obj) (vs : Array Value) (t : Tok), h.get? a = some oc ∧ oc.data = .fields vs ∧ vs[1]? = some (.str q t) := HO.ext.inj e
  let ob : Obj := { cls := .none, data := .fields #[.none, .str q 0] }
  let h0 : Heap := { objs := Array.replicate (a + 1) ob }
  have hg : h0.get? a = some ob := by
    show Heap.get? h0 a = some ob
    simp [Heap.get?, h0, ob, Obj.isFreed]
  have y : NkAt w a xs h0 := by
    rw [congrFun e2 h0]
    exact ⟨ob, _, 0, hg, rfl, rfl⟩
  obtain ⟨_, _, _, ys, _, o, es, ep, ho, _, hd, _⟩ := y
  rw [hg] at ho
  cases ho
  cases hd
/-- the keys' objects and the values -/
abbrev NKV (g : Ge) (G : Hp) (ι : Io) : List (NestedKey × Addr × V) → List (NestedKey × D) → Prop := Paired fun (x : NestedKey × Addr × V) (q : NestedKey × D) => x.1 = q.1 ∧ VD g G ι (.ref x.2.1) (nkD x.1) ∧ VD g G ι x.2.2 q.2
theorem NKV.mono (e : Ext G ι G' ι') {xs : List (NestedKey × Addr × V)} {kvs : List (NestedKey × D)} (h : NKV g G ι xs kvs) : NKV g G' ι' xs kvs :=
  Paired.mapP h fun _ _ z => ⟨z.1, z.2.1.mono e, z.2.2.mono e⟩
def MRel (g : Ge) (G : Hp) (ι : Io) (H : Hp) (a : Addr) : MO → Prop
  | .lst ds => ∃ xs, H a = some (.lst xs) ∧ VDs g G ι xs ds ∧ xs.length ≤ sizeLine
  | .dk kvs => ∃ ys, H a = some (.dK ys) ∧ KVD g G ι ys kvs
  | .ins c fs => ∃ C dx ys, g.mg c = some (.ref C) ∧ H a = some (.ins C dx ys) ∧ H dx = some (.own a) ∧ KVD g G ι ys fs
  | .nk kvs => ∃ xs, H a = some (NkO g.w a xs) ∧ NKV g G ι xs kvs
  | .lk od ys kvs => H a = some (.frz od (.dK ys)) ∧ KVD g G ι ys kvs
theorem MRel.some_ {a : Addr} {o : MO} (h : MRel g G ι H a o) : ∃ u, H a = some u ∧ True := by
  cases o with
  | lst ds => obtain ⟨xs, e, _⟩ := h; exact ⟨_, e, trivial⟩
  | dk kvs => obtain ⟨xs, e, _⟩ := h; exact ⟨_, e, trivial⟩
  | ins c fs => obtain ⟨C, dx, ys, _, e, _⟩ := h; exact ⟨_, e, trivial⟩
  | nk kvs => obtain ⟨xs, e, _⟩ := h; exact ⟨_, e, trivial⟩
  | lk od ys kvs => exact ⟨_, h.1, trivial⟩
theorem MRel.noC {a : Addr} {o : MO} {u : HO} (h : MRel g G ι H a o) (hu : H a = some u) (q : Str) : u ≠ LamX.CodeO a q := fun z => by
  subst z
  cases o with
  | lst ds => obtain ⟨xs, e1, _⟩ := h; rw [hu] at e1; cases e1
  | dk kvs => obtain ⟨xs, e1, _⟩ := h; rw [hu] at e1; cases e1
  | ins c fs => obtain ⟨C, dx, ys, _, e1, _⟩ := h; rw [hu] at e1; cases e1
  | nk kvs => obtain ⟨xs, e1, _⟩ := h; rw [hu] at e1; exact nko_code (Option.some.inj e1).symm
  | lk od ys kvs => have e1 := h.1; rw [hu] at e1; cases e1
theorem MRel.mono {a : Addr} {o : MO} (e : Ext G ι G' ι') (s : ∀ b u, H b = some u → H' b = some u) (h : MRel g G ι H a o) : MRel g G' ι' H' a o := by
  cases o with
  | lst ds => obtain ⟨xs, q, r, z⟩ := h; exact ⟨xs, s _ _ q, r.mono e, z⟩
  | dk kvs => obtain ⟨xs, q, r⟩ := h; exact ⟨xs, s _ _ q, KVD.mono e r⟩
  | ins c fs => obtain ⟨C, dx, ys, m, q, w, r⟩ := h; exact ⟨C, dx, ys, m, s _ _ q, s _ _ w, KVD.mono e r⟩
  | nk kvs => obtain ⟨xs, q, r⟩ := h; exact ⟨xs, s _ _ q, NKV.mono e r⟩
  | lk od ys kvs => exact ⟨s _ _ h.1, KVD.mono e h.2⟩
/-- a tuple that might be a row of pairs bears no dict of its own -/
def tupOk : HO → Prop
  | .tup [] => False
  | .tup (.ref _ :: _) => False
  | .frz o (.tup _) => o.dict = none
  | _ => True
theorem upd_ok {G : Hp} {p : Addr} {o : HO} (h : ∀ a u, G a = some u → tupOk u) (ho : tupOk o) : ∀ a u, upd G p o a = some u → tupOk u := fun a u e => by
  by_cases z : a = p
  · rw [z, upd_same] at e; cases e; exact ho
  · rw [upd_ne z] at e; exact h a u e
/-- the tables stand, and nothing else tells of them -/
structure Tb (K : PySem.W.Frag) (F G H : Hp) : Prop where
  t : LamX.Tabs (lamT K) H
  f : ∀ a ps, F a ≠ some (.tbl ps)
  g : ∀ a ps, G a ≠ some (.tbl ps)
  n : ∀ a o, G a = some o → tupOk o
theorem Tb.ext {K : PySem.W.Frag} {F G H H' : Hp} (b : Tb K F G H) (e : ∀ a o, H a = some o → H' a = some o) : Tb K F G H' := ⟨b.t.ext e, b.f, b.g, b.n⟩
/-- a thing that is no table and no code object is written -/
theorem Tb.put {K : PySem.W.Frag} {F G H : Hp} {a : Addr} {u u' : HO} (b : Tb K F G H) (hu : H a = some u) (h1 : ∀ ps, u ≠ .tbl ps) (h2 : ∀ q, u ≠ LamX.CodeO a q) : Tb K F G (upd H a u') := by
  refine ⟨fun p hp => ?_, b.f, b.g, b.n⟩
  obtain ⟨ps, e1, e2, e3⟩ := b.t p hp
  have n1 : p.1 ≠ a := fun z => by rw [z, hu] at e1; exact h1 ps (Option.some.inj e1)
  refine ⟨ps, by rw [upd_ne n1]; exact e1, e2, fun pos cv hc => ?_⟩
  obtain ⟨c, e4, e5⟩ := e3 pos cv hc
  have n2 : c ≠ a := fun z => by subst z; rw [hu] at e5; exact h2 _ (Option.some.inj e5)
  exact ⟨c, e4, by rw [upd_ne n2]; exact e5⟩
theorem upd_tbl {G : Hp} {p : Addr} {o : HO} (h : ∀ a ps, G a ≠ some (.tbl ps)) (ho : ∀ ps, o ≠ .tbl ps) : ∀ a ps, upd G p o a ≠ some (.tbl ps) := fun a ps e => by
  by_cases z : a = p
  · rw [z, upd_same] at e; exact ho ps (Option.some.inj e)
  · rw [upd_ne z] at e; exact h a ps e
structure Rel (g : Ge) (F G : Hp) (ι : Io) (H : Hp) (μ : Mu) : Prop where
  fr : ∀ a o, F a = some o → H a = some o
  fg : ∀ a o, F a = some o → (∀ q, o ≠ LamX.CodeO a q) → G a = none
  same : ∀ a o, G a = some o → H a = some o
  cell : ∀ n o, μ n = some o → ∃ a, ι n = some a ∧ (G a = none ∧ F a = none) ∧ MRel g G ι H a o
  inj : ∀ n m a o o', μ n = some o → μ m = some o' → ι n = some a → ι m = some a → n = m
  fin : ∃ N, ∀ n, N ≤ n → ι n = none
  tb : Tb g.K F G H
/-- what is told of fewer cells -/
def Sub (μ' μ : Mu) : Prop := ∀ n o, μ' n = some o → μ n = some o
theorem Sub.refl {μ : Mu} : Sub μ μ := fun _ _ h => h
theorem sub_mset {μ : Mu} {n : Nat} {o : MO} (h : μ n = none) : Sub μ (mset μ n o) := fun m u e => by
  rw [mset_ne (fun z => by rw [z, h] at e; cases e)]; exact e
theorem Rel.forget {μ' : Mu} (r : Rel g F G ι H μ) (s : Sub μ' μ) : Rel g F G ι H μ' :=
  ⟨r.fr, r.fg, r.same, fun n o e => r.cell n o (s n o e), fun n m a o o' e1 e2 => r.inj n m a o o' (s n o e1) (s m o' e2), r.fin, r.tb⟩
/-- a new thing that stays as it is -/
theorem Rel.frozen {p : Addr} {o : HO} (r : Rel g F G ι H μ) (hp : H p = none) (ho : ∀ ps, o ≠ .tbl ps := by exact fun _ h => by cases h) (hn : tupOk o := by trivial) : Rel g F (upd G p o) ι (upd H p o) μ ∧ Ext G ι (upd G p o) ι := by
  have gp : G p = none := by
    cases q : G p with
    | none => rfl
    | some u => rw [r.same p u q] at hp; cases hp
  have eG : ∀ a u, G a = some u → upd G p o a = some u := fun a u q => by rw [upd_ne (ne_of_none q gp)]; exact q
  have eH : ∀ a u, H a = some u → upd H p o a = some u := fun a u q => by rw [upd_ne (ne_of_none q hp)]; exact q
  refine ⟨⟨fun a u q => eH a u (r.fr a u q), fun a u q => by rw [upd_ne (ne_of_none (r.fr a u q) hp)]; exact r.fg a u q, fun a u q => ?_, fun n u q => ?_, r.inj, r.fin, ⟨(r.tb.ext eH).t, r.tb.f, upd_tbl r.tb.g ho, upd_ok r.tb.n hn⟩⟩, eG, fun _ _ q => q⟩
  · by_cases h : a = p
    · subst h; rw [upd_same] at q ⊢; exact q
    · rw [upd_ne h] at q ⊢; exact r.same a u q
  · obtain ⟨a, h1, h2, h3⟩ := r.cell n u q
    obtain ⟨w, h4, _⟩ := h3.some_
    refine ⟨a, h1, ⟨?_, h2.2⟩, h3.mono ⟨eG, fun _ _ q => q⟩ eH⟩
    rw [upd_ne (ne_of_none h4 hp)]; exact h2.1
/-- a new tuple, known to its object -/
theorem Rel.newTup {p : Addr} {ob : Obj} {xs : List V} {ds : List D} (r : Rel g F G ι H μ) (hp : H p = none) (hd : ob.dict = none) (hv : VDs g G ι xs ds) (hz : xs.length ≤ sizeLine) :
    Rel g F (upd G p (.frz ob (.tup xs))) ι (upd H p (.frz ob (.tup xs))) μ ∧ Ext G ι (upd G p (.frz ob (.tup xs))) ι ∧ VD g (upd G p (.frz ob (.tup xs))) ι (.ref p) (.tup ds) := by
  obtain ⟨R2, e2⟩ := r.frozen (o := .frz ob (.tup xs)) hp (hn := hd)
  exact ⟨R2, e2, .tup (.inl (.inr ⟨ob, upd_same⟩)) (hv.mono e2) hz⟩
/-- a new thing that nothing tells of -/
theorem Rel.other {p : Addr} {o : HO} (r : Rel g F G ι H μ) (hp : H p = none) : Rel g F G ι (upd H p o) μ := by
  have eH : ∀ a u, H a = some u → upd H p o a = some u := fun a u q => by rw [upd_ne (ne_of_none q hp)]; exact q
  exact ⟨fun a u q => eH a u (r.fr a u q), r.fg, fun a u q => eH a u (r.same a u q), fun n u q => let ⟨a, h1, h2, h3⟩ := r.cell n u q; ⟨a, h1, h2, h3.mono .refl eH⟩, r.inj, r.fin, r.tb.ext eH⟩
def iset (ι : Io) (n : Nat) (a : Addr) : Io := fun m => if m = n then some a else ι m
theorem iset_same {n : Nat} {a : Addr} : iset ι n a n = some a := by unfold iset; rw [if_pos rfl]
theorem iset_ne {n m : Nat} {a : Addr} (h : m ≠ n) : iset ι n a m = ι m := by unfold iset; rw [if_neg h]
theorem Rel.new {p : Addr} {ds : List D} {xs : List V} (r : Rel g F G ι H μ) (hp : H p = none) (h : VDs g G ι xs ds) (hz : xs.length ≤ sizeLine) :
    ∃ n, μ n = none ∧ Ext G ι G (iset ι n p) ∧ Rel g F G (iset ι n p) (upd H p (.lst xs)) (mset μ n (.lst ds)) := by
  obtain ⟨N, hN⟩ := r.fin
  have hn : ι N = none := hN N (Nat.le_refl _)
  have hm : μ N = none := by
    cases q : μ N with
    | none => rfl
    | some o => obtain ⟨a, h1, _⟩ := r.cell N o q; rw [hn] at h1; cases h1
  have eI : ∀ n a, ι n = some a → iset ι N p n = some a := fun n a q => by
    rw [iset_ne (fun z => by rw [z, hn] at q; cases q)]; exact q
  have eX : Ext G ι G (iset ι N p) := ⟨fun _ _ q => q, eI⟩
  have eH : ∀ a u, H a = some u → upd H p (.lst xs) a = some u := fun a u q => by rw [upd_ne (ne_of_none q hp)]; exact q
  have gp : G p = none := by
    cases q : G p with
    | none => rfl
    | some u => rw [r.same p u q] at hp; cases hp
  have fp : F p = none := by
    cases q : F p with
    | none => rfl
    | some u => rw [r.fr p u q] at hp; cases hp
  have at_ : ∀ n o, μ n = some o → n ≠ N := fun n o q z => by rw [z, hm] at q; cases q
  refine ⟨N, hm, eX, ⟨fun a u q => eH a u (r.fr a u q), r.fg, fun a u q => eH a u (r.same a u q), fun n o q => ?_, fun n m a o o' h1 h2 h3 h4 => ?_, ⟨N + 1, fun n q => ?_⟩, r.tb.ext eH⟩⟩
  · by_cases z : n = N
    · subst z
      rw [mset_same] at q; cases q
      exact ⟨p, iset_same, ⟨gp, fp⟩, xs, upd_same, h.mono eX, hz⟩
    · rw [mset_ne z] at q
      obtain ⟨a, h1, h2, h3⟩ := r.cell n o q
      exact ⟨a, eI n a h1, h2, h3.mono eX eH⟩
  · have ap : ∀ n o, n ≠ N → mset μ N (.lst ds) n = some o → iset ι N p n = some a → a ≠ p := fun n o z q w e => by
      rw [mset_ne z] at q
      rw [iset_ne z] at w
      obtain ⟨b, k1, _, k3⟩ := r.cell n o q
      rw [w] at k1; cases k1
      obtain ⟨u, k4, _⟩ := k3.some_
      rw [e, hp] at k4; cases k4
    by_cases zn : n = N
    · by_cases zm : m = N
      · rw [zn, zm]
      · rw [zn, iset_same] at h3; cases h3
        exact absurd rfl (ap m o' zm h2 h4)
    · by_cases zm : m = N
      · rw [zm, iset_same] at h4; cases h4
        exact absurd rfl (ap n o zn h1 h3)
      · rw [mset_ne zn] at h1
        rw [mset_ne zm] at h2
        rw [iset_ne zn] at h3
        rw [iset_ne zm] at h4
        exact r.inj n m a o o' h1 h2 h3 h4
  · rw [iset_ne (by omega)]
    exact hN n (by omega)
/-- a cell is written -/
theorem Rel.writeG {n : Nat} {a : Addr} {o o' : MO} {u u' : HO} (r : Rel g F G ι H μ) (hn : μ n = some o) (ha : ι n = some a) (hu : H a = some u) (mo : ∀ x, u ≠ .own x) (mt : ∀ ps, u ≠ .tbl ps) (h : MRel g G ι (upd H a u') a o') : Rel g F G ι (upd H a u') (mset μ n o') := by
  obtain ⟨a', h1, h2, h3⟩ := r.cell n o hn
  rw [ha] at h1; cases h1
  have inj' : ∀ m v, m ≠ n → μ m = some v → ι m ≠ some a := fun m v z q e => z (r.inj m n a v o q hn e ha)
  refine ⟨fun b w q => ?_, r.fg, fun b w q => ?_, fun m v q => ?_, fun m k b v v' e1 e2 e3 e4 => ?_, r.fin, ?_⟩
  · rw [upd_ne (fun z => by rw [z, h2.2] at q; cases q)]; exact r.fr b w q
  · rw [upd_ne (fun z => by rw [z, h2.1] at q; cases q)]; exact r.same b w q
  · by_cases z : m = n
    · subst z
      rw [mset_same] at q; cases q
      exact ⟨a, ha, h2, h⟩
    · rw [mset_ne z] at q
      obtain ⟨b, k1, k2, k3⟩ := r.cell m v q
      have hb : b ≠ a := fun e => inj' m v z q (e ▸ k1)
      refine ⟨b, k1, k2, ?_⟩
      have kk : ∀ c w, H c = some w → c ≠ a → upd H a u' c = some w := fun c w e1 e2 => by rw [upd_ne e2]; exact e1
      cases v with
      | lst ds => obtain ⟨xs, e1, e2⟩ := k3; exact ⟨xs, kk _ _ e1 hb, e2⟩
      | dk kvs => obtain ⟨xs, e1, e2⟩ := k3; exact ⟨xs, kk _ _ e1 hb, e2⟩
      | nk kvs => obtain ⟨xs, e1, e2⟩ := k3; exact ⟨xs, kk _ _ e1 hb, e2⟩
      | lk od ys kvs => exact ⟨kk _ _ k3.1 hb, k3.2⟩
      | ins c fs =>
        obtain ⟨C, dx, ys, m1, e1, e2, e3⟩ := k3
        refine ⟨C, dx, ys, m1, kk _ _ e1 hb, kk _ _ e2 fun z => ?_, e3⟩
        rw [z, hu] at e2; exact mo _ (Option.some.inj e2)
  · have f : ∀ m v, mset μ n o' m = some v → ∃ w, μ m = some w := fun m v q => by
      by_cases z : m = n
      · rw [z]; exact ⟨o, hn⟩
      · rw [mset_ne z] at q; exact ⟨v, q⟩
    obtain ⟨w1, f1⟩ := f m v e1
    obtain ⟨w2, f2⟩ := f k v' e2
    exact r.inj m k b w1 w2 f1 f2 e3 e4
  · refine r.tb.put hu mt fun q z => ?_
    subst z
    cases o with
    | lst ds => obtain ⟨xs, e1, _⟩ := h3; rw [hu] at e1; cases e1
    | dk kvs => obtain ⟨xs, e1, _⟩ := h3; rw [hu] at e1; cases e1
    | ins c fs => obtain ⟨C, dx, ys, _, e1, _⟩ := h3; rw [hu] at e1; cases e1
    | nk kvs => obtain ⟨xs, e1, _⟩ := h3; rw [hu] at e1; exact nko_code (Option.some.inj e1).symm
    | lk od ys kvs => have e1 := h3.1; rw [hu] at e1; cases e1
theorem Rel.write {n : Nat} {a : Addr} {o o' : MO} {u u' : HO} (r : Rel g F G ι H μ) (hn : μ n = some o) (ha : ι n = some a) (hu : H a = some u) (mu : Mut (some u)) (h : MRel g G ι (upd H a u') a o') : Rel g F G ι (upd H a u') (mset μ n o') :=
  r.writeG hn ha hu (fun _ z => by rw [z] at mu; exact mu) (fun _ z => by rw [z] at mu; exact mu) h
end
end Y
namespace Y
open PySem PySem.Spec PyProof.Rows L2
abbrev QD := D → Mu → Prop
abbrev XQ := XD → Mu → Prop
abbrev TD := Rho → Mu → QD → XQ → Prop
abbrev TB := Rho → Mu → (Bool → Mu → Prop) → XQ → Prop
abbrev TL := Rho → Mu → (List D → Mu → Prop) → XQ → Prop
structure EndsD where
  nx : Rho → Mu → Prop
  rt : D → Mu → Prop
  bk : Rho → Mu → Prop
  ct : Rho → Mu → Prop
  ex : XD → Rho → Mu → Prop
abbrev SD := EndsD → Rho → Mu → Prop
def slot : Rho → Nat → Option D
  | [], _ => none
  | x :: _, 0 => x
  | _ :: r, n + 1 => slot r n
theorem slot_get : ∀ (ρ : Rho) (i : Nat), slot ρ i = ρ[i]?.join
  | [], i => by simp [slot]
  | x :: r, 0 => by simp [slot]
  | x :: r, i + 1 => by simp [slot, slot_get r i]
structure RhoRel (g : Ge) (G : Hp) (ι : Io) (σ : L2.St) (ρ : Rho) : Prop where
  len : σ.length = ρ.length
  at_ : ∀ i d, slot ρ i = some d → ∃ v, σ[i]? = some (some v) ∧ VD g G ι v d
theorem RhoRel.mono {g : Ge} {G G' : Hp} {ι ι' : Io} {σ : L2.St} {ρ : Rho} (r : RhoRel g G ι σ ρ) (e : Ext G ι G' ι') : RhoRel g G' ι' σ ρ :=
  ⟨r.len, fun i d h => let ⟨v, a, b⟩ := r.at_ i d h; ⟨v, a, b.mono e⟩⟩
theorem slot_set : ∀ (ρ : Rho) (i j : Nat) (d : Option D), slot (ρ.set i d) j = if i = j ∧ j < ρ.length then d else slot ρ j
  | [], i, j, d => by simp [slot]
  | x :: r, 0, 0, d => by simp [slot]
  | x :: r, 0, j + 1, d => by simp [slot]
  | x :: r, i + 1, 0, d => by simp [slot]
  | x :: r, i + 1, j + 1, d => by simp [slot, slot_set r i j d]
theorem RhoRel.set {g : Ge} {G : Hp} {ι : Io} {σ : L2.St} {ρ : Rho} {v : V} {d : D} (r : RhoRel g G ι σ ρ) (h : VD g G ι v d) (i : Nat) : RhoRel g G ι (σ.set i (some v)) (ρ.set i (some d)) := by
  refine ⟨by simpa using r.len, fun j e q => ?_⟩
  rw [slot_set] at q
  by_cases z : i = j ∧ j < ρ.length
  · rw [if_pos z] at q
    cases q
    obtain ⟨rfl, hl⟩ := z
    exact ⟨v, by rw [List.getElem?_set_self (by rw [r.len]; exact hl)], h⟩
  · rw [if_neg z] at q
    obtain ⟨w, a, b⟩ := r.at_ j e q
    refine ⟨w, ?_, b⟩
    by_cases hij : i = j
    · subst hij
      have : ¬ i < ρ.length := fun k => z ⟨rfl, k⟩
      have l : i < σ.length := (List.getElem?_eq_some_iff.mp a).1
      rw [r.len] at l
      exact absurd l this
    · rw [List.getElem?_set_ne hij]; exact a
theorem RhoRel.unset {g : Ge} {G : Hp} {ι : Io} {σ : L2.St} {ρ : Rho} (r : RhoRel g G ι σ ρ) (i : Nat) : RhoRel g G ι (σ.set i none) (ρ.set i none) := by
  refine ⟨by simpa using r.len, fun j e q => ?_⟩
  rw [slot_set] at q
  by_cases z : i = j ∧ j < ρ.length
  · rw [if_pos z] at q
    cases q
  · rw [if_neg z] at q
    obtain ⟨w, a, b⟩ := r.at_ j e q
    refine ⟨w, ?_, b⟩
    by_cases hij : i = j
    · subst hij
      have : ¬ i < ρ.length := fun k => z ⟨rfl, k⟩
      have l : i < σ.length := (List.getElem?_eq_some_iff.mp a).1
      rw [r.len] at l
      exact absurd l this
    · rw [List.getElem?_set_ne hij]; exact a
/-- the exception, its own dict at dx -/
def XRel (g : Ge) (G : Hp) (ι : Io) (H : Hp) (cls : Value) (dx : Option Addr) (x : XD) : Prop :=
  ∃ C d ys, cls = .ref C ∧ g.mg x.cls = some (.ref C) ∧ dx = some d ∧ H d = some (.xd ys) ∧ KVD g G ι ys x.fs
/-- what is wanted of exceptions is enough for the layer's own wish -/
def XLift (W : WX) (g : Ge) (F G : Hp) (ι : Io) (σ : L2.St) (E : XQ) : Prop :=
  ∀ G' ι' H' μ' cls dx x, Ext G ι G' ι' → Rel g F G' ι' H' μ' → XRel g G' ι' H' cls dx x → E x μ' → W cls dx σ H'
theorem XLift.mono {W : WX} {g : Ge} {F G G' : Hp} {ι ι' : Io} {σ : L2.St} {E : XQ} (h : XLift W g F G ι σ E) (e : Ext G ι G' ι') : XLift W g F G' ι' σ E :=
  fun G2 ι2 H2 μ2 cls dx x e2 => h G2 ι2 H2 μ2 cls dx x (e.trans e2)
def RdE (W : WX) (g : Ge) (t : TE) (T : TD) : Prop := ∀ F G ι σ H ρ μ Q E (P : VK), RhoRel g G ι σ ρ → Rel g F G ι H μ → XLift W g F G ι σ E → T ρ μ Q E →
  (∀ G' ι' μ' H' v d, Ext G ι G' ι' → Rel g F G' ι' H' μ' → VD g G' ι' v d → Q d μ' → P v H') → t σ H P
def RdB (W : WX) (g : Ge) (t : TT) (T : TB) : Prop := ∀ F G ι σ H ρ μ Q E (P : Bool → Hp → Prop), RhoRel g G ι σ ρ → Rel g F G ι H μ → XLift W g F G ι σ E → T ρ μ Q E →
  (∀ G' ι' μ' H' b, Ext G ι G' ι' → Rel g F G' ι' H' μ' → Q b μ' → P b H') → t σ H P
def RdL (W : WX) (g : Ge) (t : TA) (T : TL) : Prop := ∀ F G ι σ H ρ μ Q E (P : List V → Hp → Prop), RhoRel g G ι σ ρ → Rel g F G ι H μ → XLift W g F G ι σ E → T ρ μ Q E →
  (∀ G' ι' μ' H' vs ds, Ext G ι G' ι' → Rel g F G' ι' H' μ' → VDs g G' ι' vs ds → Q ds μ' → P vs H') → t σ H P
def DE (X : Cx) (W : WX) (g : Ge) (e : Expr) (T : TD) : Prop := ∃ t, PE X e t ∧ RdE W g t T
def DB (X : Cx) (W : WX) (g : Ge) (e : Expr) (T : TB) : Prop := ∃ t, PT X e t ∧ RdB W g t T
def DW (X : Cx) (W : WX) (g : Ge) (e : Expr) (T : TB) : Prop := ∃ t, PW X e t ∧ RdB W g t T
def DA (X : Cx) (W : WX) (g : Ge) (es : List Expr) (T : TL) : Prop := ∃ t, PA X es t ∧ RdL W g t T
/-- by a bool -/
def ifB : Bool → Prop → Prop → Prop
  | true, A, _ => A
  | false, _, B => B
/-- a new cell -/
def newQ (μ : Mu) (o : MO) (Q : QD) : Prop := ∀ n, μ n = none → Q (.ptr n) (mset μ n o)
def opQ {α : Type} : Option α → (α → Prop) → Prop
  | some z, Q => Q z
  | none, _ => False
theorem opQ_get {α : Type} {o : Option α} {Q : α → Prop} (h : opQ o Q) : ∃ z, o = some z ∧ Q z := by
  cases o with
  | none => exact h.elim
  | some z => exact ⟨z, rfl, h⟩
section
variable {X : Cx} {W : WX} {g : Ge}
def dVar (i : Nat) : TD := fun ρ μ Q _ => opQ (slot ρ i) fun d => Q d μ
def dC (d : D) : TD := fun _ μ Q _ => Q d μ
theorem rd_var (i : Nat) : RdE W g (tVar i) (dVar i) := fun F G ι σ H ρ μ Q E P r R L h k => by
  obtain ⟨d, e, q⟩ := opQ_get h
  obtain ⟨v, a, b⟩ := r.at_ i d e
  exact ⟨v, a, k G ι μ H v d .refl R b q⟩
theorem dv (i : Nat) {x : Str} {pos : Pos} (hN : X.N[i]? = some x := by rfl) (hv : Vis X.env.scope x := by first | exact Or.inl rfl | exact Or.inr (Or.inl rfl) | exact Or.inr (Or.inr rfl)) (hd : (x == ("__debug__" : Str)) = false := by decide)
    (hcd : (x == ("__classdict__" : Str)) = false := by decide) : DE X W g (.Name x pos) (dVar i) := ⟨_, pe_var hN hv hd hcd, rd_var i⟩
theorem rd_c {v : V} {d : D} (h : ∀ G ι, VD g G ι v d) : RdE W g (fun _ H Q => Q v H) (dC d) := fun F G ι σ H ρ μ Q E P r R L q k => k G ι μ H v d .refl R (h G ι) q
theorem de_int {n : Int} {j : Nat} {pos : Pos} : DE X W g (.Constant (.int n) j pos) (dC (.int n)) := ⟨_, pe_int, rd_c fun _ _ => .int n⟩
theorem de_str {n : Str} {j : Nat} {pos : Pos} : DE X W g (.Constant (.str n) j pos) (dC (.str n)) := ⟨_, pe_str, rd_c fun _ _ => .str n⟩
theorem de_bl {b : Bool} {j : Nat} {pos : Pos} : DE X W g (.Constant (.bool b) j pos) (dC (.bl b)) := ⟨_, pe_bl, rd_c fun _ _ => .bl b⟩
theorem de_non {j : Nat} {pos : Pos} : DE X W g (.Constant .none j pos) (dC .non) := ⟨_, pe_non, rd_c fun _ _ => .non⟩
def dNil : TL := fun _ μ Q _ => Q [] μ
def dCons (T : TD) (U : TL) : TL := fun ρ μ Q E => T ρ μ (fun x μ1 => U ρ μ1 (fun xs μ2 => Q (x :: xs) μ2) E) E
theorem rd_nil : RdL W g tNil dNil := fun F G ι σ H ρ μ Q E P r R L q k => k G ι μ H [] [] .refl R .nil q
theorem rd_cons {t : TE} {u : TA} {T : TD} {U : TL} (h1 : RdE W g t T) (h2 : RdL W g u U) : RdL W g (tCons t u) (dCons T U) := fun F G ι σ H ρ μ Q E P r R L q k =>
  h1 F G ι σ H ρ μ _ E _ r R L q fun G1 ι1 μ1 H1 v d e1 R1 v1 q1 => h2 F G1 ι1 σ H1 ρ μ1 _ E _ (r.mono e1) R1 (L.mono e1) q1 fun G2 ι2 μ2 H2 vs ds e2 R2 v2 q2 =>
    k G2 ι2 μ2 H2 (v :: vs) (d :: ds) (e1.trans e2) R2 (.cons (v1.mono e2) v2) q2
theorem da_nil : DA X W g [] dNil := ⟨_, pa_nil, rd_nil⟩
theorem da_cons {e : Expr} {es : List Expr} {T : TD} {U : TL} (h1 : DE X W g e T) (h2 : DA X W g es U) (hs : starEach (e :: es) X.env = (false, eval e X.env) :: starEach es X.env := by rfl) : DA X W g (e :: es) (dCons T U) := by
  obtain ⟨t, a, b⟩ := h1
  obtain ⟨u, c, d⟩ := h2
  exact ⟨_, pa_cons a c hs, rd_cons b d⟩
def dTup (U : TL) : TD := fun ρ μ Q E => U ρ μ (fun ds μ1 => ds.length ≤ sizeLine ∧ Q (.tup ds) μ1) E
/-- a list that is never changed; one that may be -/
def dLst (U : TL) : TD := fun ρ μ Q E => U ρ μ (fun ds μ1 => ds.length ≤ sizeLine ∧ Q (.lst ds) μ1) E
def dNew (U : TL) : TD := fun ρ μ Q E => U ρ μ (fun ds μ1 => ds.length ≤ sizeLine ∧ newQ μ1 (.lst ds) Q) E
def tTupN (t : TA) : TE := fun σ H Q => t σ H fun xs H1 => xs.length ≤ sizeLine ∧ newT H1 xs Q
theorem pe_tupN {es : List Expr} {t : TA} {k : Nat} {pos : Pos} (h : PA X es t) : PE X (.Tuple es k pos) (tTupN t) := by
  refine ⟨fun pins s σ H Q J hq => wpAny_Tuple_spliced (thn (h.run pos pins s σ H _ J hq) fun us s1 ⟨ys, G1, J1, r, z, q⟩ => ⟨by rw [← r.length]; exact z, ?_⟩)⟩
  exact new_tup J1 r z q
theorem rd_tup {u : TA} {U : TL} (h : RdL W g u U) : RdE W g (tTupN u) (dTup U) := fun F G ι σ H ρ μ Q E P r R L q k =>
  h F G ι σ H ρ μ _ E _ r R L q fun G1 ι1 μ1 H1 vs ds e1 R1 v1 q1 => ⟨by rw [v1.length]; exact q1.1, fun p ob hp hd => by
    obtain ⟨R2, e2, v2⟩ := R1.newTup hp hd v1 (by rw [v1.length]; exact q1.1)
    exact k _ _ μ1 _ (.ref p) (.tup ds) (e1.trans e2) R2 v2 q1.2⟩
theorem rd_lst {u : TA} {U : TL} (h : RdL W g u U) : RdE W g (tLst u) (dLst U) := fun F G ι σ H ρ μ Q E P r R L q k =>
  h F G ι σ H ρ μ _ E _ r R L q fun G1 ι1 μ1 H1 vs ds e1 R1 v1 q1 => ⟨by rw [v1.length]; exact q1.1, fun p hp => by
    obtain ⟨R2, e2⟩ := R1.frozen (o := .lst vs) hp
    exact k _ _ μ1 _ (.ref p) (.lst ds) (e1.trans e2) R2 (.lst upd_same (v1.mono e2) (by rw [v1.length]; exact q1.1)) q1.2⟩
theorem rd_new {u : TA} {U : TL} (h : RdL W g u U) : RdE W g (tLst u) (dNew U) := fun F G ι σ H ρ μ Q E P r R L q k =>
  h F G ι σ H ρ μ _ E _ r R L q fun G1 ι1 μ1 H1 vs ds e1 R1 v1 q1 => ⟨by rw [v1.length]; exact q1.1, fun p hp => by
    obtain ⟨n, hn, e2, R2⟩ := R1.new hp v1 (by rw [v1.length]; exact q1.1)
    exact k _ _ _ _ (.ref p) (.ptr n) (e1.trans e2) R2 (.ptr iset_same) (q1.2 n hn)⟩
theorem de_tup {es : List Expr} {U : TL} {k : Nat} {pos : Pos} (h : DA X W g es U) : DE X W g (.Tuple es k pos) (dTup U) := let ⟨_, a, b⟩ := h; ⟨_, pe_tupN a, rd_tup b⟩
theorem de_lst {es : List Expr} {U : TL} {pos : Pos} (h : DA X W g es U) : DE X W g (.List es pos) (dLst U) := let ⟨_, a, b⟩ := h; ⟨_, pe_lst a, rd_lst b⟩
theorem de_new {es : List Expr} {U : TL} {pos : Pos} (h : DA X W g es U) : DE X W g (.List es pos) (dNew U) := let ⟨_, a, b⟩ := h; ⟨_, pe_lst a, rd_new b⟩
def Prim2 (g : Ge) (r : R2) (f : Mu → D → D → Option D) : Prop := ∀ F G ι H μ x y d e z (P : VK), Rel g F G ι H μ → VD g G ι x d → VD g G ι y e → f μ d e = some z →
  (∀ G' H' v, Ext G ι G' ι → Rel g F G' ι H' μ → VD g G' ι v z → P v H') → r x y H P
def Prim1 (g : Ge) (r : V → Hp → VK → Prop) (f : Mu → D → Option D) : Prop := ∀ F G ι H μ x d z (P : VK), Rel g F G ι H μ → VD g G ι x d → f μ d = some z →
  (∀ G' H' v, Ext G ι G' ι → Rel g F G' ι H' μ → VD g G' ι v z → P v H') → r x H P
def PrimL (g : Ge) (r : List V → Hp → VK → Prop) (f : Mu → List D → Option D) : Prop := ∀ F G ι H μ xs ds z (P : VK), Rel g F G ι H μ → VDs g G ι xs ds → f μ ds = some z →
  (∀ G' H' v, Ext G ι G' ι → Rel g F G' ι H' μ → VD g G' ι v z → P v H') → r xs H P
def dOp (f : Mu → D → D → Option D) (Ta Tb : TD) : TD := fun ρ μ Q E => Ta ρ μ (fun x μ1 => Tb ρ μ1 (fun y μ2 => opQ (f μ2 x y) fun z => Q z μ2) E) E
def dUn (f : Mu → D → Option D) (Ta : TD) : TD := fun ρ μ Q E => Ta ρ μ (fun x μ1 => opQ (f μ1 x) fun z => Q z μ1) E
def dCal (f : Mu → List D → Option D) (U : TL) : TD := fun ρ μ Q E => U ρ μ (fun xs μ1 => opQ (f μ1 xs) fun z => Q z μ1) E
theorem rd_op {r : R2} {f : Mu → D → D → Option D} {ta tb : TE} {Ta Tb : TD} (p : Prim2 g r f) (ha : RdE W g ta Ta) (hb : RdE W g tb Tb) : RdE W g (tOp r ta tb) (dOp f Ta Tb) := fun F G ι σ H ρ μ Q E P r R L q k =>
  ha F G ι σ H ρ μ _ E _ r R L q fun G1 ι1 μ1 H1 v d e1 R1 v1 q1 => hb F G1 ι1 σ H1 ρ μ1 _ E _ (r.mono e1) R1 (L.mono e1) q1 fun G2 ι2 μ2 H2 w e e2 R2 v2 q2 => by
    obtain ⟨z, ez, qz⟩ := opQ_get q2
    exact p F G2 ι2 H2 μ2 v w d e z P R2 (v1.mono e2) v2 ez fun G3 H3 v3 e3 R3 k3 => k G3 ι2 μ2 H3 v3 z ((e1.trans e2).trans e3) R3 k3 qz
theorem rd_un {r : V → Hp → VK → Prop} {f : Mu → D → Option D} {ta : TE} {Ta : TD} (p : Prim1 g r f) (ha : RdE W g ta Ta) : RdE W g (tUn r ta) (dUn f Ta) := fun F G ι σ H ρ μ Q E P r R L q k =>
  ha F G ι σ H ρ μ _ E _ r R L q fun G1 ι1 μ1 H1 v d e1 R1 v1 q1 => by
    obtain ⟨z, ez, qz⟩ := opQ_get q1
    exact p F G1 ι1 H1 μ1 v d z P R1 v1 ez fun G3 H3 v3 e3 R3 k3 => k G3 ι1 μ1 H3 v3 z (e1.trans e3) R3 k3 qz
theorem rd_cb {r : List V → Hp → VK → Prop} {f : Mu → List D → Option D} {u : TA} {U : TL} (p : PrimL g r f) (h : RdL W g u U) : RdE W g (tCB r u) (dCal f U) := fun F G ι σ H ρ μ Q E P r R L q k =>
  h F G ι σ H ρ μ _ E _ r R L q fun G1 ι1 μ1 H1 v d e1 R1 v1 q1 => by
    obtain ⟨z, ez, qz⟩ := opQ_get q1
    exact p F G1 ι1 H1 μ1 v d z P R1 v1 ez fun G3 H3 v3 e3 R3 k3 => k G3 ι1 μ1 H3 v3 z (e1.trans e3) R3 k3 qz
theorem de_op {op : Operator} {r : R2} {f : Mu → D → D → Option D} {a b : Expr} {pos : Pos} {Ta Tb : TD} (ho : OpR X (binaryOp op) r) (p : Prim2 g r f) (ha : DE X W g a Ta) (hb : DE X W g b Tb) : DE X W g (.BinOp a op b pos) (dOp f Ta Tb) := by
  obtain ⟨t, h1, h2⟩ := ha
  obtain ⟨u, h3, h4⟩ := hb
  exact ⟨_, pe_op ho h1 h3, rd_op p h2 h4⟩
theorem de_un {op : UnaryOp} {r : V → Hp → VK → Prop} {f : Mu → D → Option D} {a : Expr} {pos : Pos} {Ta : TD} (ho : UnR X (unaryOp op) r) (p : Prim1 g r f) (ha : DE X W g a Ta) : DE X W g (.UnaryOp op a pos) (dUn f Ta) := by
  obtain ⟨t, h1, h2⟩ := ha
  exact ⟨_, pe_un ho h1, rd_un p h2⟩
theorem de_cmpR {op : CmpOp} {r : R2} {f : Mu → D → D → Option D} {a b : Expr} {pos : Pos} {Ta Tb : TD} (ho : OpR X (compareOp op) r) (p : Prim2 g r f) (ha : DE X W g a Ta) (hb : DE X W g b Tb) (hm : behindInMarks op b = false) : DE X W g (.Compare a [op] [b] pos) (dOp f Ta Tb) := by
  obtain ⟨t, h1, h2⟩ := ha
  obtain ⟨u, h3, h4⟩ := hb
  exact ⟨_, pe_cmpR ho h1 h3 hm, rd_op p h2 h4⟩
/-- the value of an expression as a test: a bool -/
def dTest (T : TD) : TB := fun ρ μ Q E => T ρ μ (fun x μ1 => match x with | .bl b => Q b μ1 | _ => False) E
theorem rd_test {t : TE} {T : TD} (h : RdE W g t T) : RdB W g (tTest t) (dTest T) := fun F G ι σ H ρ μ Q E P r R L q k =>
  h F G ι σ H ρ μ _ E _ r R L q fun G1 ι1 μ1 H1 v d e1 R1 v1 q1 => by
    cases v1 with
    | bl b => exact ⟨b, rfl, k G1 ι1 μ1 H1 b e1 R1 q1⟩
    | _ => exact q1.elim
theorem db_cmpR {op : CmpOp} {r : R2} {f : Mu → D → D → Option D} {a b : Expr} {pos : Pos} {Ta Tb : TD} (ho : OpR X (compareOp op) r) (p : Prim2 g r f) (ha : DE X W g a Ta) (hb : DE X W g b Tb) (hm : behindInMarks op b = false) : DB X W g (.Compare a [op] [b] pos) (dTest (dOp f Ta Tb)) := by
  obtain ⟨t, h1, h2⟩ := ha
  obtain ⟨u, h3, h4⟩ := hb
  exact ⟨_, pt_cmpR ho h1 h3 hm, rd_test (rd_op p h2 h4)⟩
/-- a chain -/
def dChain (f f' : Mu → D → D → Option D) (Ta Tb Tc : TD) : TD := fun ρ μ Q E => Ta ρ μ (fun x μ1 => Tb ρ μ1 (fun y μ2 => opQ (f μ2 x y) fun z => match z with
  | .bl k => ifB k (Tc ρ μ2 (fun w μ3 => opQ (f' μ3 y w) fun z => Q z μ3) E) (Q (.bl false) μ2)
  | _ => False) E) E
theorem rd_chain {r r' : R2} {f f' : Mu → D → D → Option D} {ta tb tc : TE} {Ta Tb Tc : TD} (p : Prim2 g r f) (p' : Prim2 g r' f') (ha : RdE W g ta Ta) (hb : RdE W g tb Tb) (hc : RdE W g tc Tc) : RdE W g (tChain r r' ta tb tc) (dChain f f' Ta Tb Tc) := fun F G ι σ H ρ μ Q E P r R L q k =>
  ha F G ι σ H ρ μ _ E _ r R L q fun G1 ι1 μ1 H1 v d e1 R1 v1 q1 => hb F G1 ι1 σ H1 ρ μ1 _ E _ (r.mono e1) R1 (L.mono e1) q1 fun G2 ι2 μ2 H2 w e e2 R2 v2 q2 => by
    obtain ⟨z, ez, qz⟩ := opQ_get q2
    refine p F G2 ι2 H2 μ2 v w d e z _ R2 (v1.mono e2) v2 ez fun G3 H3 v3 e3 R3 k3 => ?_
    have e13 : Ext G ι G3 ι2 := (e1.trans e2).trans e3
    cases k3 with
    | bl b =>
      refine ⟨b, rfl, ?_⟩
      cases b with
      | true =>
        have qz' : Tc ρ μ2 _ E := qz
        show tc σ H3 _
        refine hc F G3 ι2 σ H3 ρ μ2 _ E _ (r.mono e13) R3 (L.mono e13) qz' fun G4 ι4 μ4 H4 v4 d4 e4 R4 k4 q4 => ?_
        obtain ⟨z4, ez4, qz4⟩ := opQ_get q4
        exact p' F G4 ι4 H4 μ4 w v4 e d4 z4 P R4 ((v2.mono e3).mono e4) k4 ez4 fun G5 H5 v5 e5 R5 k5 => k G5 ι4 μ4 H5 v5 z4 ((e13.trans e4).trans e5) R5 k5 qz4
      | false =>
        have qz' : Q (.bl false) μ2 := qz
        show P (.bl false) H3
        exact k G3 ι2 μ2 H3 (.bl false) (.bl false) e13 R3 (.bl false) qz'
    | _ => exact qz.elim
theorem de_chain {op op' : CmpOp} {r r' : R2} {f f' : Mu → D → D → Option D} {a b c : Expr} {pos : Pos} {Ta Tb Tc : TD} (ho : OpR X (compareOp op) r) (p : Prim2 g r f) (ho' : OpR X (compareOp op') r') (p' : Prim2 g r' f')
    (ha : DE X W g a Ta) (hb : DE X W g b Tb) (hc : DE X W g c Tc) (hm : lastMarks [op, op'] [b, c] = false := by with_unfolding_all rfl) : DE X W g (.Compare a [op, op'] [b, c] pos) (dChain f f' Ta Tb Tc) := by
  obtain ⟨t, h1, h2⟩ := ha
  obtain ⟨u, h3, h4⟩ := hb
  obtain ⟨v, h5, h6⟩ := hc
  exact ⟨_, pe_chain ho ho' h1 h3 h5 hm, rd_chain p p' h2 h4 h6⟩
theorem db_chain {op op' : CmpOp} {r r' : R2} {f f' : Mu → D → D → Option D} {a b c : Expr} {pos : Pos} {Ta Tb Tc : TD} (ho : OpR X (compareOp op) r) (p : Prim2 g r f) (ho' : OpR X (compareOp op') r') (p' : Prim2 g r' f')
    (ha : DE X W g a Ta) (hb : DE X W g b Tb) (hc : DE X W g c Tc) (hm : lastMarks [op, op'] [b, c] = false := by with_unfolding_all rfl) : DB X W g (.Compare a [op, op'] [b, c] pos) (dTest (dChain f f' Ta Tb Tc)) := by
  obtain ⟨t, h1, h2⟩ := ha
  obtain ⟨u, h3, h4⟩ := hb
  obtain ⟨v, h5, h6⟩ := hc
  exact ⟨_, pt_chain ho ho' h1 h3 h5 hm, rd_test (rd_chain p p' h2 h4 h6)⟩
def dAnd (T U : TB) : TB := fun ρ μ Q E => T ρ μ (fun c μ1 => ifB c (U ρ μ1 Q E) (Q false μ1)) E
def dOr (T U : TB) : TB := fun ρ μ Q E => T ρ μ (fun c μ1 => ifB c (Q true μ1) (U ρ μ1 Q E)) E
def dNot (T : TB) : TB := fun ρ μ Q E => T ρ μ (fun c μ1 => Q (!c) μ1) E
theorem rd_and {t u : TT} {T U : TB} (h1 : RdB W g t T) (h2 : RdB W g u U) : RdB W g (tAnd t u) (dAnd T U) := fun F G ι σ H ρ μ Q E P r R L q k =>
  h1 F G ι σ H ρ μ _ E _ r R L q fun G1 ι1 μ1 H1 b e1 R1 q1 => by
    cases b with
    | true =>
      have q' : U ρ μ1 Q E := q1
      show u σ H1 P
      exact h2 F G1 ι1 σ H1 ρ μ1 Q E P (r.mono e1) R1 (L.mono e1) q' fun G2 ι2 μ2 H2 b e2 R2 q2 => k G2 ι2 μ2 H2 b (e1.trans e2) R2 q2
    | false =>
      have q' : Q false μ1 := q1
      show P false H1
      exact k G1 ι1 μ1 H1 false e1 R1 q'
theorem rd_or {t u : TT} {T U : TB} (h1 : RdB W g t T) (h2 : RdB W g u U) : RdB W g (tOr t u) (dOr T U) := fun F G ι σ H ρ μ Q E P r R L q k =>
  h1 F G ι σ H ρ μ _ E _ r R L q fun G1 ι1 μ1 H1 b e1 R1 q1 => by
    cases b with
    | false =>
      have q' : U ρ μ1 Q E := q1
      show u σ H1 P
      exact h2 F G1 ι1 σ H1 ρ μ1 Q E P (r.mono e1) R1 (L.mono e1) q' fun G2 ι2 μ2 H2 b e2 R2 q2 => k G2 ι2 μ2 H2 b (e1.trans e2) R2 q2
    | true =>
      have q' : Q true μ1 := q1
      show P true H1
      exact k G1 ι1 μ1 H1 true e1 R1 q'
theorem rd_not {t : TT} {T : TB} (h1 : RdB W g t T) : RdB W g (tNot t) (dNot T) := fun F G ι σ H ρ μ Q E P r R L q k =>
  h1 F G ι σ H ρ μ _ E _ r R L q fun G1 ι1 μ1 H1 b e1 R1 q1 => k G1 ι1 μ1 H1 (!b) e1 R1 q1
theorem dw_and1 {a : Expr} {pos : Pos} {T : TB} (h : DB X W g a T) : DW X W g (.BoolOp .And [a] pos) T := let ⟨_, p, q⟩ := h; ⟨_, pw_and1 p, q⟩
theorem dw_or1 {a : Expr} {pos : Pos} {T : TB} (h : DB X W g a T) : DW X W g (.BoolOp .Or [a] pos) T := let ⟨_, p, q⟩ := h; ⟨_, pw_or1 p, q⟩
theorem dw_and {a b : Expr} {rest : List Expr} {pos : Pos} {T U : TB} (h1 : DB X W g a T) (h2 : DW X W g (.BoolOp .And (b :: rest) pos) U) : DW X W g (.BoolOp .And (a :: b :: rest) pos) (dAnd T U) := by
  obtain ⟨t, p, q⟩ := h1
  obtain ⟨u, p2, q2⟩ := h2
  exact ⟨_, pw_and p p2, rd_and q q2⟩
theorem dw_or {a b : Expr} {rest : List Expr} {pos : Pos} {T U : TB} (h1 : DB X W g a T) (h2 : DW X W g (.BoolOp .Or (b :: rest) pos) U) : DW X W g (.BoolOp .Or (a :: b :: rest) pos) (dOr T U) := by
  obtain ⟨t, p, q⟩ := h1
  obtain ⟨u, p2, q2⟩ := h2
  exact ⟨_, pw_or p p2, rd_or q q2⟩
theorem DW.db {e : Expr} {T : TB} (h : DW X W g e T) : DB X W g e T := let ⟨_, p, q⟩ := h; ⟨_, p.pt, q⟩
theorem db_not {a : Expr} {pos : Pos} {T : TB} (h : DB X W g a T) : DB X W g (.UnaryOp .Not a pos) (dNot T) := let ⟨_, p, q⟩ := h; ⟨_, pt_not p, rd_not q⟩
/-- as values, all but the last a bool -/
def dAndV (T U : TD) : TD := fun ρ μ Q E => T ρ μ (fun x μ1 => match x with | .bl c => ifB c (U ρ μ1 Q E) (Q (.bl false) μ1) | _ => False) E
def dOrV (T U : TD) : TD := fun ρ μ Q E => T ρ μ (fun x μ1 => match x with | .bl c => ifB c (Q (.bl true) μ1) (U ρ μ1 Q E) | _ => False) E
def dNotV (T : TD) : TD := fun ρ μ Q E => T ρ μ (fun x μ1 => match x with | .bl c => Q (.bl (!c)) μ1 | _ => False) E
theorem rd_andV {t u : TE} {T U : TD} (h1 : RdE W g t T) (h2 : RdE W g u U) : RdE W g (tAndV t u) (dAndV T U) := fun F G ι σ H ρ μ Q E P r R L q k =>
  h1 F G ι σ H ρ μ _ E _ r R L q fun G1 ι1 μ1 H1 v d e1 R1 v1 q1 => by
    cases v1 with
    | bl b =>
      refine ⟨b, rfl, ?_⟩
      cases b with
      | true =>
        have q' : U ρ μ1 Q E := q1
        show u σ H1 P
        exact h2 F G1 ι1 σ H1 ρ μ1 Q E P (r.mono e1) R1 (L.mono e1) q' fun G2 ι2 μ2 H2 v d e2 R2 v2 q2 => k G2 ι2 μ2 H2 v d (e1.trans e2) R2 v2 q2
      | false =>
        have q' : Q (.bl false) μ1 := q1
        show P (.bl false) H1
        exact k G1 ι1 μ1 H1 _ _ e1 R1 (.bl false) q'
    | _ => exact q1.elim
theorem rd_notV {t : TE} {T : TD} (h1 : RdE W g t T) : RdE W g (tNotV t) (dNotV T) := fun F G ι σ H ρ μ Q E P r R L q k =>
  h1 F G ι σ H ρ μ _ E _ r R L q fun G1 ι1 μ1 H1 v d e1 R1 v1 q1 => by
    cases v1 with
    | bl b => exact ⟨b, rfl, k G1 ι1 μ1 H1 _ _ e1 R1 (.bl _) q1⟩
    | _ => exact q1.elim
theorem de_one {op : BoolOp} {a : Expr} {pos : Pos} {T : TD} (h : DE X W g a T) : DE X W g (.BoolOp op [a] pos) T := let ⟨_, p, q⟩ := h; ⟨_, pe_one p, q⟩
theorem de_and {a b : Expr} {rest : List Expr} {pos : Pos} {T U : TD} (h1 : DE X W g a T) (h2 : DE X W g (.BoolOp .And (b :: rest) pos) U) : DE X W g (.BoolOp .And (a :: b :: rest) pos) (dAndV T U) := by
  obtain ⟨t, p, q⟩ := h1
  obtain ⟨u, p2, q2⟩ := h2
  exact ⟨_, pe_and p p2, rd_andV q q2⟩
theorem de_not {a : Expr} {pos : Pos} {T : TD} (h : DE X W g a T) : DE X W g (.UnaryOp .Not a pos) (dNotV T) := let ⟨_, p, q⟩ := h; ⟨_, pe_not p, rd_notV q⟩
def dIf (C : TB) (T U : TD) : TD := fun ρ μ Q E => C ρ μ (fun c μ1 => ifB c (T ρ μ1 Q E) (U ρ μ1 Q E)) E
theorem rd_if {c : TT} {t u : TE} {C : TB} {T U : TD} (h0 : RdB W g c C) (h1 : RdE W g t T) (h2 : RdE W g u U) : RdE W g (tIf c t u) (dIf C T U) := fun F G ι σ H ρ μ Q E P r R L q k =>
  h0 F G ι σ H ρ μ _ E _ r R L q fun G1 ι1 μ1 H1 b e1 R1 q1 => by
    cases b with
    | true =>
      have q' : T ρ μ1 Q E := q1
      show t σ H1 P
      exact h1 F G1 ι1 σ H1 ρ μ1 Q E P (r.mono e1) R1 (L.mono e1) q' fun G2 ι2 μ2 H2 v d e2 R2 v2 q2 => k G2 ι2 μ2 H2 v d (e1.trans e2) R2 v2 q2
    | false =>
      have q' : U ρ μ1 Q E := q1
      show u σ H1 P
      exact h2 F G1 ι1 σ H1 ρ μ1 Q E P (r.mono e1) R1 (L.mono e1) q' fun G2 ι2 μ2 H2 v d e2 R2 v2 q2 => k G2 ι2 μ2 H2 v d (e1.trans e2) R2 v2 q2
theorem de_ifx {c a b : Expr} {pos : Pos} {C : TB} {T U : TD} (h0 : DB X W g c C) (h1 : DE X W g a T) (h2 : DE X W g b U) : DE X W g (.IfExp c a b pos) (dIf C T U) := by
  obtain ⟨t0, p0, q0⟩ := h0
  obtain ⟨t, p, q⟩ := h1
  obtain ⟨u, p2, q2⟩ := h2
  exact ⟨_, pe_ifExp p0 p p2, rd_if q0 q q2⟩
end
end Y
namespace Y
open PySem PySem.Spec PyProof.Rows L2
abbrev gx (X : Cx) : Ge := ⟨X.K, X.mg, X.w⟩
/-- the items of a list -/
def asL (μ : Mu) : D → Option (List D)
  | .lst ds => some ds
  | .ptr n => match μ n with | some (.lst ds) => some ds | _ => none
  | _ => none
/-- the items of a list, a tuple, the script -/
def asQ (μ : Mu) : D → Option (List D)
  | .lst ds => some ds
  | .tup ds => some ds
  | .scr ns => some (ns.map .int)
  | .ptr n => match μ n with | some (.lst ds) => some ds | _ => none
  | _ => none
section
variable {g : Ge} {F G H : Hp} {ι : Io} {μ : Mu}
theorem ptr_lst (R : Rel g F G ι H μ) {v : V} {n : Nat} {ds : List D} (h : VD g G ι v (.ptr n)) (e : μ n = some (.lst ds)) : ∃ a xs, v = .ref a ∧ ι n = some a ∧ H a = some (.lst xs) ∧ VDs g G ι xs ds ∧ xs.length ≤ sizeLine := by
  cases h with
  | ptr h =>
    obtain ⟨b, h1, h2, xs, h3, h4, h5⟩ := R.cell n _ e
    rw [h] at h1; cases h1
    exact ⟨_, xs, rfl, h, h3, h4, h5⟩
theorem asL_ok (R : Rel g F G ι H μ) {v : V} {d : D} {ds : List D} (h : VD g G ι v d) (e : asL μ d = some ds) : ∃ a xs, v = .ref a ∧ H a = some (.lst xs) ∧ VDs g G ι xs ds ∧ xs.length ≤ sizeLine := by
  cases h with
  | lst h r z => cases e; exact ⟨_, _, rfl, R.same _ _ h, r, z⟩
  | ptr h =>
    rename_i a n
    have e : (match μ n with | some (.lst ds) => some ds | _ => none) = some ds := e
    split at e <;> try cases e
    rename_i q
    obtain ⟨a', xs, h1, h2, h3, h4, h5⟩ := ptr_lst R (.ptr h) q
    exact ⟨a', xs, h1, h3, h4, h5⟩
  | _ => cases e
theorem asQ_ok (R : Rel g F G ι H μ) {v : V} {d : D} {ds : List D} (h : VD g G ι v d) (e : asQ μ d = some ds) : ∃ a xs, v = .ref a ∧ (SqL g.K H a xs ∨ SqT g.K H a xs) ∧ VDs g G ι xs ds := by
  cases h with
  | lst h r z => cases e; exact ⟨_, _, rfl, .inl (.of (R.same _ _ h)), r⟩
  | tup h r z => cases e; exact ⟨_, _, rfl, .inr (sqT_mono R.same h), r⟩
  | scr h z => cases e; exact ⟨_, _, rfl, .inl (sqL_mono R.same h), .ints _⟩
  | ptr h =>
    rename_i a n
    have e : (match μ n with | some (.lst ds) => some ds | _ => none) = some ds := e
    split at e <;> try cases e
    rename_i q
    obtain ⟨a', xs, h1, h2, h3, h4, _⟩ := ptr_lst R (.ptr h) q
    exact ⟨a', xs, h1, .inl (.of h3), h4⟩
  | _ => cases e
end
theorem OpR.or {X : Cx} {f : Value → Value → Sem Value} {r r' : R2} (h : OpR X f r) (h' : OpR X f r') : OpR X f (fun x y H Q => r x y H Q ∨ r' x y H Q) := by
  intro pins s σ H x y v u Q I rx ry q
  rcases q with q | q
  · exact h pins s σ H x y v u Q I rx ry q
  · exact h' pins s σ H x y v u Q I rx ry q
/-- at most a line's length -/
def fits (n : Nat) : Bool := Nat.ble n 16777216
theorem fits_le {n : Nat} : fits n = true ↔ n ≤ sizeLine := by
  unfold fits
  rw [Nat.ble_eq, sizeLine_eq]
/-- t + u -/
def rCatN (K : PySem.W.Frag) : R2 := fun x y H Q => ∃ a b xs ys, x = .ref a ∧ y = .ref b ∧ SqT K H a xs ∧ SqT K H b ys ∧ xs.length + ys.length ≤ sizeLine ∧
  (xs = [] → Q (.ref b) H) ∧ (xs ≠ [] → ys = [] → Q (.ref a) H) ∧ (xs ≠ [] → ys ≠ [] → newT H (xs ++ ys) Q)
theorem op_catN {X : Cx} : OpR X (binaryOp .Add) (rCatN X.K) := by
  rintro pins s σ H x y v u Q I rx ry ⟨a, b, xs, ys, rfl, rfl, ha, hb, hz, q0, q1, q2⟩
  by_cases hx : xs = []
  · exact op_catA pins s σ H _ _ v u Q I rx ry ⟨a, b, xs, ys, rfl, rfl, ha, hb, hz, q0, q1, fun z => absurd hx z⟩
  · cases rx
    cases ry
    obtain ⟨us, r1, t1, _⟩ := I.tuple ha
    obtain ⟨ws, r2, t2, _⟩ := I.tuple hb
    have n1 := r1.nil_iff
    have n2 := r2.nil_iff
    exact HT.cat_tup t1 t2 (fun z => hx (n1.mp z)) (fun z => ⟨.ref a, H, I, rfl, q1 hx (n2.mp z)⟩) (fun z => new_tup I (r1.append r2) (by rw [List.length_append]; exact hz) (q2 hx fun w => z (n2.mpr w))) (by rw [← r1.length, ← r2.length]; exact hz)
def addD (μ : Mu) (x y : D) : Option D := match x, y with
  | .int i, .int j => some (.int (i + j))
  | .str i, .str j => if fits (i.length + j.length) then some (.str (i ++ j)) else none
  | .tup a, .tup b => if fits (a.length + b.length) then some (.tup (a ++ b)) else none
  | x, y => match asL μ x, asL μ y with
    | some a, some b => if fits (a.length + b.length) then some (.lst (a ++ b)) else none
    | _, _ => none
abbrev rAdd (K : PySem.W.Frag) : R2 := fun x y H Q => (rI0 fun i j => .int (i + j)) x y H Q ∨ ((fun x y H Q => ∃ i j, x = .str i ∧ y = .str j ∧ i.length + j.length ≤ sizeLine ∧ Q (.str (i ++ j)) H) x y H Q ∨ (rCatN K x y H Q ∨ rCat x y H Q))
theorem op_addU {X : Cx} : OpR X (binaryOp .Add) (rAdd X.K) := op_add.or (op_add_str.or (op_catN.or op_cat))
section
variable {g : Ge}
theorem add_lists {F G H : Hp} {ι : Io} {μ : Mu} {x y : V} {d e z : D} {P : VK} (R : Rel g F G ι H μ) (hx : VD g G ι x d) (hy : VD g G ι y e) (h : (match asL μ d, asL μ e with
    | some a, some b => if fits (a.length + b.length) then some (D.lst (a ++ b)) else none
    | _, _ => none) = some z) (k : ∀ G' H' v, Ext G ι G' ι → Rel g F G' ι H' μ → VD g G' ι v z → P v H') : rCat x y H P := by
  split at h
  · rename_i a b ha hb
    split at h
    · rename_i hf
      cases h
      obtain ⟨p, xs, rfl, h1, h2, _⟩ := asL_ok R hx ha
      obtain ⟨q, ys, rfl, h3, h4, _⟩ := asL_ok R hy hb
      have hl : xs.length + ys.length ≤ sizeLine := by
        rw [h2.length, h4.length]
        exact fits_le.mp hf
      refine ⟨p, q, xs, ys, rfl, rfl, h1, h3, hl, fun t ht => ?_⟩
      obtain ⟨R2, e2⟩ := R.frozen (o := .lst (xs ++ ys)) ht
      exact k _ _ _ e2 R2 (.lst upd_same ((h2.append h4).mono e2) (by rw [List.length_append]; exact hl))
    · cases h
  · cases h
theorem prim_add : Prim2 g (rAdd g.K) addD := by
  intro F G ι H μ x y d e z P R hx hy h k
  unfold addD at h
  split at h
  · cases h; cases hx; cases hy
    exact .inl ⟨_, _, rfl, rfl, k _ _ _ .refl R (.int _)⟩
  · split at h
    · rename_i hf
      cases h; cases hx; cases hy
      exact .inr (.inl ⟨_, _, rfl, rfl, fits_le.mp hf, k _ _ _ .refl R (.str _)⟩)
    · cases h
  · split at h
    · rename_i hf
      cases h
      cases hx with
      | tup a1 a2 a3 =>
        cases hy with
        | tup b1 b2 b3 =>
          rename_i p xs q ys
          have hl : xs.length + ys.length ≤ sizeLine := by
            rw [a2.length, b2.length]
            exact fits_le.mp hf
          refine .inr (.inr (.inl ⟨p, q, xs, ys, rfl, rfl, sqT_mono R.same a1, sqT_mono R.same b1, hl, fun e => ?_, fun _ e => ?_, fun _ _ t ob ht hd => ?_⟩))
          · subst e
            cases a2
            exact k _ _ _ .refl R (.tup b1 b2 b3)
          · subst e
            cases b2
            rw [List.append_nil] at k
            exact k _ _ _ .refl R (.tup a1 a2 a3)
          · obtain ⟨R2, e2, v2⟩ := R.newTup ht hd (a2.append b2) (by rw [List.length_append]; exact hl)
            exact k _ _ _ e2 R2 v2
    · cases h
  · exact .inr (.inr (.inr (add_lists R hx hy h k)))
end
def subD (_ : Mu) : D → D → Option D
  | .int i, .int j => some (.int (i - j))
  | _, _ => none
def small64 (i : Int) : Bool := decide (-18446744073709551616 < i) && decide (i < 18446744073709551616)
/-- int * int; list * int; tuple * int -/
def mulD (μ : Mu) (x y : D) : Option D := match x, y with
  | .int i, .int j => if small64 i || small64 j then some (.int (i * j)) else none
  | _, _ => none
def fdivD (_ : Mu) : D → D → Option D
  | .int i, .int j => if decide (0 < j) && decide (j < 1073741824) then some (.int (i / j)) else none
  | _, _ => none
def modD (_ : Mu) : D → D → Option D
  | .int i, .int j => if decide (0 < j) then some (.int (i % j)) else none
  | _, _ => none
def powD (_ : Mu) : D → D → Option D
  | .int i, .int j => if decide (0 ≤ j) && decide (j ≤ 1000) && decide (i.natAbs < 18446744073709551616) then some (.int (i ^ j.toNat)) else none
  | _, _ => none
def negD (_ : Mu) : D → Option D
  | .int i => some (.int (-i))
  | _ => none
section
variable {g : Ge}
theorem prim_sub : Prim2 g (rI0 fun i j => .int (i - j)) subD := by
  intro F G ι H μ x y d e z P R hx hy h k
  unfold subD at h
  split at h
  · cases h; cases hx; cases hy
    exact ⟨_, _, rfl, rfl, k _ _ _ .refl R (.int _)⟩
  · cases h
theorem small64_ok {i : Int} (h : small64 i = true) : -(2 ^ 64) < i ∧ i < 2 ^ 64 := by
  unfold small64 at h
  simp only [Bool.and_eq_true, decide_eq_true_eq] at h
  exact ⟨by omega, by omega⟩
theorem prim_mul : Prim2 g (rI CMul fun i j => .int (i * j)) mulD := by
  intro F G ι H μ x y d e z P R hx hy h k
  unfold mulD at h
  split at h
  · split at h
    · rename_i hc
      cases h; cases hx; cases hy
      refine ⟨_, _, rfl, rfl, ?_, k _ _ _ .refl R (.int _)⟩
      rcases Bool.or_eq_true_iff.mp hc with z | z
      · exact .inl (small64_ok z)
      · exact .inr (small64_ok z)
    · cases h
  · cases h
theorem prim_fdiv : Prim2 g (rI CDiv fun i j => .int (i / j)) fdivD := by
  intro F G ι H μ x y d e z P R hx hy h k
  unfold fdivD at h
  split at h
  · split at h
    · rename_i hc
      simp only [Bool.and_eq_true, decide_eq_true_eq] at hc
      cases h; cases hx; cases hy
      exact ⟨_, _, rfl, rfl, hc, k _ _ _ .refl R (.int _)⟩
    · cases h
  · cases h
theorem prim_mod : Prim2 g (rI (fun _ j => 0 < j) fun i j => .int (i % j)) modD := by
  intro F G ι H μ x y d e z P R hx hy h k
  unfold modD at h
  split at h
  · split at h
    · rename_i hc
      cases h; cases hx; cases hy
      exact ⟨_, _, rfl, rfl, of_decide_eq_true hc, k _ _ _ .refl R (.int _)⟩
    · cases h
  · cases h
theorem prim_pow : Prim2 g (rI CPow fun i j => .int (i ^ j.toNat)) powD := by
  intro F G ι H μ x y d e z P R hx hy h k
  unfold powD at h
  split at h
  · split at h
    · rename_i hc
      simp only [Bool.and_eq_true, decide_eq_true_eq] at hc
      cases h; cases hx; cases hy
      exact ⟨_, _, rfl, rfl, ⟨hc.1.1, by omega, by omega⟩, k _ _ _ .refl R (.int _)⟩
    · cases h
  · cases h
theorem prim_neg : Prim1 g (rU fun i => .int (-i)) negD := by
  intro F G ι H μ x d z P R hx h k
  unfold negD at h
  split at h
  · cases h; cases hx
    exact ⟨_, rfl, k _ _ _ .refl R (.int _)⟩
  · cases h
end
def ltD (_ : Mu) : D → D → Option D
  | .int i, .int j => some (.bl (decide (i < j)))
  | _, _ => none
def leD (_ : Mu) : D → D → Option D
  | .int i, .int j => some (.bl (decide (i ≤ j)))
  | _, _ => none
def gtD (_ : Mu) : D → D → Option D
  | .int i, .int j => some (.bl (decide (i > j)))
  | _, _ => none
def geD (_ : Mu) : D → D → Option D
  | .int i, .int j => some (.bl (decide (i ≥ j)))
  | _, _ => none
section
variable {g : Ge}
theorem prim_lt : Prim2 g (rI0 fun i j => .bl (decide (i < j))) ltD := by
  intro F G ι H μ x y d e z P R hx hy h k
  unfold ltD at h
  split at h
  · cases h; cases hx; cases hy
    exact ⟨_, _, rfl, rfl, k _ _ _ .refl R (.bl _)⟩
  · cases h
theorem prim_le : Prim2 g (rI0 fun i j => .bl (decide (i ≤ j))) leD := by
  intro F G ι H μ x y d e z P R hx hy h k
  unfold leD at h
  split at h
  · cases h; cases hx; cases hy
    exact ⟨_, _, rfl, rfl, k _ _ _ .refl R (.bl _)⟩
  · cases h
theorem prim_gt : Prim2 g (rI0 fun i j => .bl (decide (i > j))) gtD := by
  intro F G ι H μ x y d e z P R hx hy h k
  unfold gtD at h
  split at h
  · cases h; cases hx; cases hy
    exact ⟨_, _, rfl, rfl, k _ _ _ .refl R (.bl _)⟩
  · cases h
theorem prim_ge : Prim2 g (rI0 fun i j => .bl (decide (i ≥ j))) geD := by
  intro F G ι H μ x y d e z P R hx hy h k
  unfold geD at h
  split at h
  · cases h; cases hx; cases hy
    exact ⟨_, _, rfl, rfl, k _ _ _ .refl R (.bl _)⟩
  · cases h
end
/-- data of a depth below k, changed lists as they stand -/
def sh (μ : Mu) : Nat → D → Bool
  | _, .non => true
  | _, .bl _ => true
  | _, .int _ => true
  | _, .str x => PyData.strOk x
  | k + 1, .tup ds => ds.all (sh μ k)
  | k + 1, .lst ds => ds.all (sh μ k)
  | k + 1, .ptr n => match μ n with | some (.lst ds) => ds.all (sh μ k) | _ => false
  | _, _ => false
def toP (μ : Mu) : Nat → D → PyData
  | _, .non => .none
  | _, .bl b => .bool b
  | _, .int i => .int i
  | _, .str x => .str x
  | k + 1, .tup ds => .tuple (ds.map (toP μ k))
  | k + 1, .lst ds => .list (ds.map (toP μ k))
  | k + 1, .ptr n => match μ n with | some (.lst ds) => .list (ds.map (toP μ k)) | _ => .none
  | _, _ => .none
theorem canLayAll_of {ps : List PyData} (h : ∀ p ∈ ps, p.canLay0 = true) : PyData.canLayAll0 ps = true := by
  induction ps with
  | nil => simp [PyData.canLayAll0]
  | cons p r ih => simp [PyData.canLayAll0, h p (by simp), ih fun q hq => h q (by simp [hq])]
theorem depthAll_of {ps : List PyData} {k : Nat} (h : ∀ p ∈ ps, p.depth ≤ k) : PyData.depthAll ps ≤ k := by
  induction ps with
  | nil => simp [PyData.depthAll]
  | cons p r ih =>
    have h1 := h p (by simp)
    have h2 := ih fun q hq => h q (by simp [hq])
    simp only [PyData.depthAll]
    omega
theorem sh_ok {μ : Mu} : ∀ (k : Nat) (d : D), sh μ k d = true → (toP μ k d).canLay0 = true ∧ (toP μ k d).depth ≤ k
  | k, .non, _ => by cases k <;> simp [toP, PyData.canLay0, PyData.depth]
  | k, .bl _, _ => by cases k <;> simp [toP, PyData.canLay0, PyData.depth]
  | k, .int _, _ => by cases k <;> simp [toP, PyData.canLay0, PyData.depth]
  | k, .str x, h => by cases k <;> (simp only [sh] at h; simp [toP, PyData.canLay0, PyData.depth, h])
  | 0, .tup ds, h => by simp [sh] at h
  | k + 1, .tup ds, h => by
    simp only [sh, List.all_eq_true] at h
    have ih := fun d hd => sh_ok k d (h d hd)
    have cl : PyData.canLayAll0 (ds.map (toP μ k)) = true := canLayAll_of fun p hp => by
      obtain ⟨d, hd, rfl⟩ := List.mem_map.mp hp
      exact (ih d hd).1
    refine ⟨by simp only [toP, PyData.canLay0]; exact cl, ?_⟩
    · have : PyData.depthAll (ds.map (toP μ k)) ≤ k := depthAll_of fun p hp => by
        obtain ⟨d, hd, rfl⟩ := List.mem_map.mp hp
        exact (ih d hd).2
      simp only [toP, PyData.depth]
      omega
  | 0, .lst ds, h => by simp [sh] at h
  | k + 1, .lst ds, h => by
    simp only [sh, List.all_eq_true] at h
    have ih := fun d hd => sh_ok k d (h d hd)
    have cl : PyData.canLayAll0 (ds.map (toP μ k)) = true := canLayAll_of fun p hp => by
      obtain ⟨d, hd, rfl⟩ := List.mem_map.mp hp
      exact (ih d hd).1
    refine ⟨by simp only [toP, PyData.canLay0]; exact cl, ?_⟩
    · have : PyData.depthAll (ds.map (toP μ k)) ≤ k := depthAll_of fun p hp => by
        obtain ⟨d, hd, rfl⟩ := List.mem_map.mp hp
        exact (ih d hd).2
      simp only [toP, PyData.depth]
      omega
  | 0, .ptr n, h => by simp [sh] at h
  | k + 1, .ptr n, h => by
    simp only [sh] at h
    split at h
    · rename_i ds e
      simp only [List.all_eq_true] at h
      have ih := fun d hd => sh_ok k d (h d hd)
      simp only [toP, e]
      have cl : PyData.canLayAll0 (ds.map (toP μ k)) = true := canLayAll_of fun p hp => by
        obtain ⟨d, hd, rfl⟩ := List.mem_map.mp hp
        exact (ih d hd).1
      refine ⟨by simp only [PyData.canLay0]; exact cl, ?_⟩
      · have : PyData.depthAll (ds.map (toP μ k)) ≤ k := depthAll_of fun p hp => by
          obtain ⟨d, hd, rfl⟩ := List.mem_map.mp hp
          exact (ih d hd).2
        simp only [PyData.depth]
        omega
    · cases h
  | k, .scr _, h => by cases k <;> simp [sh] at h
  | k, .glo _, h => by cases k <;> simp [sh] at h
  | k, .ty _, h => by cases k <;> simp [sh] at h
  | k, .fn _ _ _, h => by cases k <;> simp [sh] at h
theorem dpAll_of {K : PySem.W.Frag} {H : Hp} {g : Ge} {G : Hp} {ι : Io} {f : D → PyData} : ∀ {xs : List V} {ds : List D}, VDs g G ι xs ds → (∀ v d, d ∈ ds → VD g G ι v d → Dp K H v (f d)) → DpAll K H xs (ds.map f)
  | _, _, .nil, _ => .nil
  | _, _, .cons h r, k => .cons (k _ _ (by simp) h) (dpAll_of r fun v d hd => k v d (by simp [hd]))
theorem sh_dp {g : Ge} {F G H : Hp} {ι : Io} {μ : Mu} (R : Rel g F G ι H μ) : ∀ (k : Nat) (d : D) (v : V), sh μ k d = true → VD g G ι v d → Dp g.K H v (toP μ k d)
  | k, .non, _, _, h => by cases h; cases k <;> exact .non
  | k, .bl b, _, _, h => by cases h; cases k <;> exact .bl b
  | k, .int i, _, _, h => by cases h; cases k <;> exact .int i
  | k, .str x, _, _, h => by cases h; cases k <;> exact .str x
  | 0, .tup ds, _, h, _ => by simp [sh] at h
  | k + 1, .tup ds, _, h, v => by
    simp only [sh, List.all_eq_true] at h
    cases v with
    | tup h1 h2 h3 => exact .tup (sqT_mono R.same h1) (dpAll_of h2 fun v d hd q => sh_dp R k d v (h d hd) q)
  | 0, .lst ds, _, h, _ => by simp [sh] at h
  | k + 1, .lst ds, _, h, v => by
    simp only [sh, List.all_eq_true] at h
    cases v with
    | lst h1 h2 h3 => exact .lst (.of (R.same _ _ h1)) (dpAll_of h2 fun v d hd q => sh_dp R k d v (h d hd) q)
  | 0, .ptr n, _, h, _ => by simp [sh] at h
  | k + 1, .ptr n, _, h, v => by
    simp only [sh] at h
    split at h
    · rename_i ds e
      simp only [List.all_eq_true] at h
      obtain ⟨a, xs, rfl, _, h3, h4, _⟩ := ptr_lst R v e
      simp only [toP, e]
      exact .lst (.of h3) (dpAll_of h4 fun v d hd q => sh_dp R k d v (h d hd) q)
    · cases h
  | k, .scr _, _, h, _ => by cases k <;> simp [sh] at h
  | k, .glo _, _, h, _ => by cases k <;> simp [sh] at h
  | k, .ty _, _, h, _ => by cases k <;> simp [sh] at h
  | k, .fn _ _ _, _, h, _ => by cases k <;> simp [sh] at h
theorem sh_shaped {μ : Mu} {k : Nat} {d : D} (hk : k ≤ 64) (h : sh μ k d = true) : SeqAt.shaped (toP μ k d) = true := by
  obtain ⟨h1, h2⟩ := sh_ok k d h
  unfold SeqAt.shaped
  rw [h1, Bool.true_and]
  exact decide_eq_true (by omega)
/-- the answer of == -/
def eqB (μ : Mu) (x y : D) : Option Bool := match x, y with
  | .int i, .int j => some (decide (i = j))
  | .str i, .str j => some (decide (i = j))
  | .bl i, .bl j => some (decide (i = j))
  | .non, .non => some true
  | .non, .int _ => some false
  | .int _, .non => some false
  | .non, .str _ => some false
  | .str _, .non => some false
  | x, y => if sh μ 32 x && sh μ 32 y then some (PyData.eqv (toP μ 32 x) (toP μ 32 y)) else none
def eqD (μ : Mu) (x y : D) : Option D := (eqB μ x y).map .bl
def neD (μ : Mu) (x y : D) : Option D := (eqB μ x y).map fun b => .bl (!b)
abbrev rEqU (K : PySem.W.Frag) : R2 := fun x y H Q => rEq x y H Q ∨ rEqD K x y H Q
abbrev rNeU (K : PySem.W.Frag) : R2 := fun x y H Q => rNe x y H Q ∨ rNeD K x y H Q
theorem op_eqU {X : Cx} (hu : X.A.units + 64 < cLine) : OpR X (compareOp .Eq) (rEqU X.K) := op_eq.or (op_eqD hu)
theorem op_neU {X : Cx} (hu : X.A.units + 64 < cLine) : OpR X (compareOp .NotEq) (rNeU X.K) := op_ne.or (op_neD hu)
theorem dec_of {α : Type} [DecidableEq α] {f : α → V} (hf : ∀ a b, f a = f b → a = b) (a b : α) : decide (f a = f b) = decide (a = b) := by
  by_cases h : a = b
  · subst h; simp
  · rw [decide_eq_false h, decide_eq_false fun e => h (hf _ _ e)]
theorem eqB_ok {g : Ge} {F G H : Hp} {ι : Io} {μ : Mu} {x y : V} {d e : D} {b : Bool} (R : Rel g F G ι H μ) (hx : VD g G ι x d) (hy : VD g G ι y e) (h : eqB μ d e = some b) :
    (scal x y = true ∧ decide (x = y) = b) ∨ ∃ p q, Dp g.K H x p ∧ Dp g.K H y q ∧ SeqAt.shaped p = true ∧ SeqAt.shaped q = true ∧ PyData.eqv p q = b := by
  unfold eqB at h
  split at h
  · cases h; cases hx; cases hy
    exact .inl ⟨rfl, dec_of (fun _ _ e => V.int.inj e) _ _⟩
  · cases h; cases hx; cases hy
    exact .inl ⟨rfl, dec_of (fun _ _ e => V.str.inj e) _ _⟩
  · cases h; cases hx; cases hy
    exact .inl ⟨rfl, dec_of (fun _ _ e => V.bl.inj e) _ _⟩
  · cases h; cases hx; cases hy
    exact .inl ⟨rfl, rfl⟩
  · cases h; cases hx; cases hy
    exact .inl ⟨rfl, by simp⟩
  · cases h; cases hx; cases hy
    exact .inl ⟨rfl, by simp⟩
  · cases h; cases hx; cases hy
    exact .inl ⟨rfl, by simp⟩
  · cases h; cases hx; cases hy
    exact .inl ⟨rfl, by simp⟩
  · split at h
    · rename_i hs
      cases h
      obtain ⟨s1, s2⟩ := Bool.and_eq_true_iff.mp hs
      exact .inr ⟨_, _, sh_dp R 32 d x s1 hx, sh_dp R 32 e y s2 hy, sh_shaped (by decide) s1, sh_shaped (by decide) s2, rfl⟩
    · cases h
section
variable {g : Ge}
theorem prim_eq : Prim2 g (rEqU g.K) eqD := by
  intro F G ι H μ x y d e z P R hx hy h k
  unfold eqD at h
  obtain ⟨b, hb, rfl⟩ := Option.map_eq_some_iff.mp h
  rcases eqB_ok R hx hy hb with ⟨h1, h2⟩ | ⟨p, q, h1, h2, h3, h4, h5⟩
  · exact .inl ⟨h1, by rw [h2]; exact k _ _ _ .refl R (.bl b)⟩
  · exact .inr ⟨p, q, h1, h2, h3, h4, by rw [h5]; exact k _ _ _ .refl R (.bl b)⟩
theorem prim_ne : Prim2 g (rNeU g.K) neD := by
  intro F G ι H μ x y d e z P R hx hy h k
  unfold neD at h
  obtain ⟨b, hb, rfl⟩ := Option.map_eq_some_iff.mp h
  rcases eqB_ok R hx hy hb with ⟨h1, h2⟩ | ⟨p, q, h1, h2, h3, h4, h5⟩
  · exact .inl ⟨h1, by rw [h2]; exact k _ _ _ .refl R (.bl _)⟩
  · exact .inr ⟨p, q, h1, h2, h3, h4, by rw [h5]; exact k _ _ _ .refl R (.bl _)⟩
def isNon : D → Bool
  | .non => true
  | _ => false
def isND (_ : Mu) (x y : D) : Option D := match y with
  | .non => some (.bl (isNon x))
  | _ => none
def notND (_ : Mu) (x y : D) : Option D := match y with
  | .non => some (.bl (!isNon x))
  | _ => none
theorem non_dec {G : Hp} {ι : Io} {x : V} {d : D} (h : VD g G ι x d) : decide (x = .non) = isNon d := by
  cases h <;> simp [isNon]
theorem prim_isN : Prim2 g (fun x y H Q => y = .non ∧ Q (.bl (decide (x = .non))) H) isND := by
  intro F G ι H μ x y d e z P R hx hy h k
  unfold isND at h
  split at h
  · cases h; cases hy
    refine ⟨rfl, ?_⟩
    rw [non_dec hx]
    exact k _ _ _ .refl R (.bl _)
  · cases h
theorem prim_notN : Prim2 g (fun x y H Q => y = .non ∧ Q (.bl (!decide (x = .non))) H) notND := by
  intro F G ι H μ x y d e z P R hx hy h k
  unfold notND at h
  split at h
  · cases h; cases hy
    refine ⟨rfl, ?_⟩
    rw [non_dec hx]
    exact k _ _ _ .refl R (.bl _)
  · cases h
end
def flatD : D → Bool
  | .non => true
  | .bl _ => true
  | .int _ => true
  | .str _ => true
  | _ => false
def feq : D → D → Bool
  | .non, .non => true
  | .bl a, .bl b => a == b
  | .bl a, .int b => (if a then 1 else 0) == b
  | .int a, .bl b => a == (if b then 1 else 0)
  | .int a, .int b => a == b
  | .str a, .str b => a == b
  | _, _ => false
def inD (μ : Mu) (x y : D) : Option D := match asQ μ y with
  | some ds => if flatD x && ds.all flatD then some (.bl (ds.any fun z => feq z x)) else none
  | none => none
def notInD (μ : Mu) (x y : D) : Option D := match asQ μ y with
  | some ds => if flatD x && ds.all flatD then some (.bl (!ds.any fun z => feq z x)) else none
  | none => none
section
variable {g : Ge} {F G H : Hp} {ι : Io} {μ : Mu}
theorem flat_ok {x : V} {d : D} (h : VD g G ι x d) (f : flatD d = true) : flatV x = true := by
  cases h <;> first | rfl | (exfalso; revert f; simp [flatD])
theorem feq_ok {x y : V} {d e : D} (h : VD g G ι x d) (h' : VD g G ι y e) : eqV x y = feq d e := by
  cases h <;> cases h' <;> rfl
theorem flats_ok : ∀ {xs : List V} {ds : List D}, VDs g G ι xs ds → ds.all flatD = true → xs.all flatV = true
  | _, _, .nil, _ => rfl
  | _, _, .cons h r, f => by
    simp only [List.all_cons, Bool.and_eq_true] at f ⊢
    exact ⟨flat_ok h f.1, flats_ok r f.2⟩
theorem in_ok {x : V} {d : D} (h : VD g G ι x d) : ∀ {xs : List V} {ds : List D}, VDs g G ι xs ds → inV x xs = ds.any fun z => feq z d
  | _, _, .nil => rfl
  | _, _, .cons q r => by
    have ih := in_ok h r
    unfold inV at ih ⊢
    simp only [List.any_cons]
    rw [ih, feq_ok q h]
end
theorem prim_in {g : Ge} : Prim2 g (rIn g.K false) inD := by
  intro F G ι H μ x y d e z P R hx hy h k
  unfold inD at h
  split at h
  · rename_i ds ha
    split at h
    · rename_i hf
      cases h
      obtain ⟨f1, f2⟩ := Bool.and_eq_true_iff.mp hf
      obtain ⟨a, xs, rfl, h1, h2⟩ := asQ_ok R hy ha
      refine ⟨a, xs, rfl, h1, flat_ok hx f1, flats_ok h2 f2, ?_⟩
      show P (.bl (inV x xs)) H
      rw [in_ok hx h2]
      exact k _ _ _ .refl R (.bl _)
    · cases h
  · cases h
theorem prim_notIn {g : Ge} : Prim2 g (rIn g.K true) notInD := by
  intro F G ι H μ x y d e z P R hx hy h k
  unfold notInD at h
  split at h
  · rename_i ds ha
    split at h
    · rename_i hf
      cases h
      obtain ⟨f1, f2⟩ := Bool.and_eq_true_iff.mp hf
      obtain ⟨a, xs, rfl, h1, h2⟩ := asQ_ok R hy ha
      refine ⟨a, xs, rfl, h1, flat_ok hx f1, flats_ok h2 f2, ?_⟩
      show P (.bl (!inV x xs)) H
      rw [in_ok hx h2]
      exact k _ _ _ .refl R (.bl _)
    · cases h
  · cases h
def ixD (μ : Mu) (x y : D) : Option D := match y with
  | .int i => match x with
    | .str z => if fits z.length then (atI z.cps.toList i).map fun c => .str ⟨#[c]⟩ else none
    | _ => (asQ μ x).bind fun ds => atI ds i
  | _ => none
theorem atI_ok {g : Ge} {G : Hp} {ι : Io} {xs : List V} {ds : List D} {i : Int} {d : D} (h : VDs g G ι xs ds) (e : atI ds i = some d) : ∃ v, atI xs i = some v ∧ VD g G ι v d := by
  unfold atI at e ⊢
  rw [h.length]
  obtain ⟨j, h1, h2⟩ := Option.bind_eq_some_iff.mp e
  rw [h1]
  exact h.get h2
theorem prim_ix {g : Ge} : Prim2 g (rIx g.K) ixD := by
  intro F G ι H μ x y d e z P R hx hy h k
  unfold ixD at h
  split at h
  · rename_i i
    cases hy
    split at h
    · split at h
      · rename_i hf
        obtain ⟨c, h1, rfl⟩ := Option.map_eq_some_iff.mp h
        cases hx
        exact .inr (.inr ⟨_, _, c, rfl, rfl, fits_le.mp hf, h1, k _ _ _ .refl R (.str _)⟩)
      · cases h
    · obtain ⟨ds, h1, h2⟩ := Option.bind_eq_some_iff.mp h
      obtain ⟨a, xs, rfl, h3, h4⟩ := asQ_ok R hx h1
      obtain ⟨v, h5, h6⟩ := atI_ok h4 h2
      rcases h3 with h3 | h3
      · exact .inl ⟨a, xs, i, v, rfl, rfl, h3, h5, k _ _ _ .refl R h6⟩
      · exact .inr (.inl ⟨a, xs, i, v, rfl, rfl, h3, h5, k _ _ _ .refl R h6⟩)
  · cases h
theorem de_ix {X : Cx} {W : WX} {a b : Expr} {pos : Pos} {Ta Tb : TD} (ha : DE X W (gx X) a Ta) (hb : DE X W (gx X) b Tb) (hs : PlainIx b := by exact fun _ _ => rfl) : DE X W (gx X) (.Subscript a b pos) (dOp ixD Ta Tb) := by
  obtain ⟨t, h1, h2⟩ := ha
  obtain ⟨u, h3, h4⟩ := hb
  exact ⟨_, pe_ix ix_seq h1 h3 hs, rd_op prim_ix h2 h4⟩
/-- xs[lo:hi] -/
def cutD {α : Type} (xs : List α) (lo hi : Option Int) : List α := (xs.drop (HT.sIx xs.length 0 lo)).take (HT.sIx xs.length xs.length hi - HT.sIx xs.length 0 lo)
abbrev TOp := Rho → Mu → (Option Int → Mu → Prop) → XQ → Prop
def RdO (W : WX) (g : Ge) (t : TO) (T : TOp) : Prop := ∀ F G ι σ H ρ μ Q E (P : Option Int → Hp → Prop), RhoRel g G ι σ ρ → Rel g F G ι H μ → XLift W g F G ι σ E → T ρ μ Q E →
  (∀ G' ι' μ' H' o, Ext G ι G' ι' → Rel g F G' ι' H' μ' → Q o μ' → P o H') → t σ H P
def DO (X : Cx) (W : WX) (g : Ge) (e : Option Expr) (T : TOp) : Prop := ∃ t, PO X e t ∧ RdO W g t T
def dNoP : TOp := fun _ μ Q _ => Q none μ
def dPart (T : TD) : TOp := fun ρ μ Q E => T ρ μ (fun x μ1 => match x with | .int i => Q (some i) μ1 | _ => False) E
theorem do_none {X : Cx} {W : WX} {g : Ge} : DO X W g none dNoP := ⟨_, po_none, fun F G ι σ H ρ μ Q E P r R L q k => k G ι μ H none .refl R q⟩
theorem do_some {X : Cx} {W : WX} {g : Ge} {e : Expr} {T : TD} (h : DE X W g e T) : DO X W g (some e) (dPart T) := by
  obtain ⟨t, h1, h2⟩ := h
  refine ⟨_, po_some h1, fun F G ι σ H ρ μ Q E P r R L q k => ?_⟩
  refine h2 F G ι σ H ρ μ _ E _ r R L q fun G1 ι1 μ1 H1 v d e1 R1 v1 q1 => ?_
  cases v1 with
  | int i => exact ⟨i, rfl, k G1 ι1 μ1 H1 (some i) e1 R1 q1⟩
  | _ => exact q1.elim
def PrimS (g : Ge) (r : V → Option Int → Option Int → Hp → VK → Prop) (f : Mu → D → Option Int → Option Int → Option D) : Prop := ∀ F G ι H μ x d lo hi z (P : VK), Rel g F G ι H μ → VD g G ι x d → f μ d lo hi = some z →
  (∀ G' H' v, Ext G ι G' ι → Rel g F G' ι H' μ → VD g G' ι v z → P v H') → r x lo hi H P
/-- a slice: of a list a new list that stays, of a tuple, of a text -/
def slD (μ : Mu) (x : D) (lo hi : Option Int) : Option D := match x with
  | .str z => if fits z.length then some (.str (cutS z lo hi)) else none
  | .tup ds => some (.tup (cutD ds lo hi))
  | .scr ns => some (.lst ((cutD ns lo hi).map .int))
  | x => (asL μ x).map fun ds => .lst (cutD ds lo hi)
theorem SlR.or {X : Cx} {r r' : V → Option Int → Option Int → Hp → VK → Prop} (h : SlR X r) (h' : SlR X r') : SlR X (fun x lo hi H Q => r x lo hi H Q ∨ r' x lo hi H Q) := by
  intro pins s σ H x v vl vu lo hi sl Q I rx hs pl pu q
  rcases q with q | q
  · exact h pins s σ H x v vl vu lo hi sl Q I rx hs pl pu q
  · exact h' pins s σ H x v vl vu lo hi sl Q I rx hs pl pu q
/-- t[a:b] -/
def rSlN (K : PySem.W.Frag) : V → Option Int → Option Int → Hp → VK → Prop := fun x lo hi H Q => ∃ a xs, x = .ref a ∧ SqT K H a xs ∧
  (HT.sIx xs.length 0 lo = 0 ∧ HT.sIx xs.length xs.length hi = xs.length → Q (.ref a) H) ∧ (¬ (HT.sIx xs.length 0 lo = 0 ∧ HT.sIx xs.length xs.length hi = xs.length) → newT H (cutV xs lo hi) Q)
theorem sl_tupN {X : Cx} : SlR X (rSlN X.K) := by
  rintro pins s σ H x v vl vu lo hi sl Q I rx hs pl pu ⟨a, xs, rfl, hx, q1, q2⟩
  by_cases hw : HT.sIx xs.length 0 lo = 0 ∧ HT.sIx xs.length xs.length hi = xs.length
  · exact sl_tupA pins s σ H _ v vl vu lo hi sl Q I rx hs pl pu ⟨a, xs, rfl, hx, q1, fun z => absurd hw z⟩
  · cases rx
    obtain ⟨us, r, ht, hz⟩ := I.tuple hx
    have hl : us.toArray.size = xs.length := by rw [List.size_toArray]; exact r.length.symm
    refine ⟨"tuple", _, PyProof.Rows.slot_tuple_getitem.lookup, ht.typeIs, HT.getItem_tuple_cut ht hs pl pu (by rw [hl]; exact hw) ?_ (by rw [hl]; exact hz)⟩
    rw [hl]
    exact new_tup I ((r.drop _).take _) (Nat.le_trans (cutV_length xs lo hi) hz) (q2 hw)
abbrev rSlU (K : PySem.W.Frag) : V → Option Int → Option Int → Hp → VK → Prop := fun x lo hi H Q => rSlL K x lo hi H Q ∨ (rSlN K x lo hi H Q ∨ rSlS x lo hi H Q)
theorem sl_any {X : Cx} : SlR X (rSlU X.K) := SlR.or sl_list (SlR.or sl_tupN sl_str)
theorem cut_len {α : Type} (xs : List α) (lo hi : Option Int) : (cutD xs lo hi).length ≤ xs.length := by
  unfold cutD
  rw [List.length_take, List.length_drop]
  omega
theorem cutV_ok {g : Ge} {G : Hp} {ι : Io} {xs : List V} {ds : List D} (h : VDs g G ι xs ds) (lo hi : Option Int) : VDs g G ι (cutV xs lo hi) (cutD ds lo hi) := by
  unfold cutV cutD
  rw [h.length]
  exact (h.drop _).take _
theorem prim_sl {g : Ge} : PrimS g (rSlU g.K) slD := by
  intro F G ι H μ x d lo hi z P R hx h k
  unfold slD at h
  split at h
  · split at h
    · rename_i hf
      cases h; cases hx
      exact .inr (.inr ⟨_, rfl, fits_le.mp hf, k _ _ _ .refl R (.str _)⟩)
    · cases h
  · cases h
    cases hx with
    | tup h1 h2 h3 =>
      rename_i ds a xs
      refine .inr (.inl ⟨a, xs, rfl, sqT_mono R.same h1, fun e => ?_, fun e p ob hp hd => ?_⟩)
      · have e2 : cutD ds lo hi = ds := by
          unfold cutD
          rw [← h2.length, e.1, e.2]
          simp [h2.length]
        rw [e2] at k
        exact k _ _ _ .refl R (.tup h1 h2 h3)
      · obtain ⟨R2, e2, v2⟩ := R.newTup hp hd (cutV_ok h2 lo hi) (Nat.le_trans (cut_len xs lo hi) h3)
        exact k _ _ _ e2 R2 v2
  · cases h
    cases hx with
    | scr h1 h3 =>
      rename_i ns a
      refine .inl ⟨a, _, rfl, sqL_mono R.same h1, fun p hp => ?_⟩
      obtain ⟨R2, e2⟩ := R.frozen (o := .lst (cutV (ns.map V.int) lo hi)) hp
      have e3 : (cutD ns lo hi).map D.int = cutD (ns.map D.int) lo hi := by
        unfold cutD
        rw [List.map_take, List.map_drop, List.length_map]
      rw [e3] at k
      refine k _ _ _ e2 R2 (.lst upd_same ((cutV_ok (VDs.ints ns) lo hi).mono e2) (Nat.le_trans (cut_len _ lo hi) ?_))
      rw [List.length_map, sizeLine_eq]
      omega
  · obtain ⟨ds, h1, rfl⟩ := Option.map_eq_some_iff.mp h
    obtain ⟨a, xs, rfl, h3, h4, hz⟩ := asL_ok R hx h1
    refine .inl ⟨a, xs, rfl, .of h3, fun p hp => ?_⟩
    obtain ⟨R2, e2⟩ := R.frozen (o := .lst (cutV xs lo hi)) hp
    exact k _ _ _ e2 R2 (.lst upd_same ((cutV_ok h4 lo hi).mono e2) (Nat.le_trans (cut_len xs lo hi) hz))
end Y
namespace Y
open PySem PySem.Spec PyProof.Rows L2
structure LiftEnds (W : WX) (g : Ge) (F G : Hp) (ι : Io) (De : EndsD) (Dh : Ends) : Prop where
  nx : ∀ G' ι' σ' H' ρ' μ', Ext G ι G' ι' → RhoRel g G' ι' σ' ρ' → Rel g F G' ι' H' μ' → De.nx ρ' μ' → Dh.nx σ' H'
  rt : ∀ G' ι' H' μ' v d, Ext G ι G' ι' → Rel g F G' ι' H' μ' → VD g G' ι' v d → De.rt d μ' → Dh.rt v H'
  bk : ∀ G' ι' σ' H' ρ' μ', Ext G ι G' ι' → RhoRel g G' ι' σ' ρ' → Rel g F G' ι' H' μ' → De.bk ρ' μ' → Dh.bk σ' H'
  ct : ∀ G' ι' σ' H' ρ' μ', Ext G ι G' ι' → RhoRel g G' ι' σ' ρ' → Rel g F G' ι' H' μ' → De.ct ρ' μ' → Dh.ct σ' H'
  ex : ∀ G' ι' σ' H' ρ' μ' cls dx x, Ext G ι G' ι' → RhoRel g G' ι' σ' ρ' → Rel g F G' ι' H' μ' → XRel g G' ι' H' cls dx x → De.ex x ρ' μ' → W cls dx σ' H'
section
variable {W : WX} {g : Ge} {F G G' : Hp} {ι ι' : Io} {De : EndsD} {Dh : Ends}
theorem LiftEnds.mono (l : LiftEnds W g F G ι De Dh) (e : Ext G ι G' ι') : LiftEnds W g F G' ι' De Dh :=
  ⟨fun G2 ι2 σ H ρ μ e2 => l.nx G2 ι2 σ H ρ μ (e.trans e2), fun G2 ι2 H μ v d e2 => l.rt G2 ι2 H μ v d (e.trans e2), fun G2 ι2 σ H ρ μ e2 => l.bk G2 ι2 σ H ρ μ (e.trans e2), fun G2 ι2 σ H ρ μ e2 => l.ct G2 ι2 σ H ρ μ (e.trans e2),
    fun G2 ι2 σ H ρ μ cls dx x e2 => l.ex G2 ι2 σ H ρ μ cls dx x (e.trans e2)⟩
theorem LiftEnds.xl {σ : L2.St} {ρ : Rho} (l : LiftEnds W g F G ι De Dh) (r : RhoRel g G ι σ ρ) : XLift W g F G ι σ (fun x μ => De.ex x ρ μ) :=
  fun G' ι' H' μ' cls dx x e R xr q => l.ex G' ι' σ H' ρ μ' cls dx x e (r.mono e) R xr q
end
def RdS (W : WX) (g : Ge) (t : TS) (T : SD) : Prop := ∀ F G ι σ H ρ μ De Dh, RhoRel g G ι σ ρ → Rel g F G ι H μ → LiftEnds W g F G ι De Dh → T De ρ μ → t Dh σ H
def DS (X : Cx) (W : WX) (g : Ge) (st : Stmt) (T : SD) : Prop := ∃ t, PS X st t ∧ RdS W g t T
def DSs (X : Cx) (W : WX) (g : Ge) (sts : List Stmt) (T : SD) : Prop := ∃ t, PSs X sts t ∧ RdS W g t T
/-- an expression's wishes within a statement -/
abbrev exAt (De : EndsD) (ρ : Rho) : XQ := fun x μ => De.ex x ρ μ
section
variable {X : Cx} {W : WX} {g : Ge}
def sNext : SD := fun De ρ μ => De.nx ρ μ
def sBreak : SD := fun De ρ μ => De.bk ρ μ
def sCont : SD := fun De ρ μ => De.ct ρ μ
def sSeq (T U : SD) : SD := fun De ρ μ => T { De with nx := fun ρ' μ' => U De ρ' μ' } ρ μ
def sDrop (T : TD) : SD := fun De ρ μ => T ρ μ (fun _ μ1 => De.nx ρ μ1) (exAt De ρ)
def sRet (T : TD) : SD := fun De ρ μ => T ρ μ De.rt (exAt De ρ)
def sRetN : SD := fun De _ μ => De.rt .non μ
def sIf (C : TB) (T U : SD) : SD := fun De ρ μ => C ρ μ (fun c μ1 => ifB c (T De ρ μ1) (U De ρ μ1)) (exAt De ρ)
theorem rs_next : RdS W g tNext sNext := fun F G ι σ H ρ μ De Dh r R l h => l.nx G ι σ H ρ μ .refl r R h
theorem rs_seq {t u : TS} {T U : SD} (h1 : RdS W g t T) (h2 : RdS W g u U) : RdS W g (tSeq t u) (sSeq T U) := fun F G ι σ H ρ μ De Dh r R l h =>
  h1 F G ι σ H ρ μ { De with nx := fun ρ' μ' => U De ρ' μ' } { Dh with nx := u Dh } r R ⟨fun G' ι' σ' H' ρ' μ' e r' R' q => h2 F G' ι' σ' H' ρ' μ' De Dh r' R' (l.mono e) q, l.rt, l.bk, l.ct, l.ex⟩ h
theorem dss_nil : DSs X W g [] sNext := ⟨_, pss_nil, rs_next⟩
theorem dss_cons {st : Stmt} {rest : List Stmt} {T U : SD} (h1 : DS X W g st T) (h2 : DSs X W g rest U) : DSs X W g (st :: rest) (sSeq T U) := by
  obtain ⟨t, a, b⟩ := h1
  obtain ⟨u, c, d⟩ := h2
  exact ⟨_, pss_cons a c, rs_seq b d⟩
theorem dss_one {st : Stmt} {T : SD} (h1 : DS X W g st T) : DSs X W g [st] T := let ⟨_, a, b⟩ := h1; ⟨_, pss_one a, b⟩
theorem ds_expr {e : Expr} {pos : Pos} {T : TD} (h : DE X W g e T) (hs : swapsWith e none pos.line X.env = pure false := by rfl) : DS X W g (.Expr e pos) (sDrop T) := by
  obtain ⟨t, a, b⟩ := h
  exact ⟨_, ps_expr a hs, fun F G ι σ H ρ μ De Dh r R l h => b F G ι σ H ρ μ _ _ _ r R (l.xl r) h fun G' ι' μ' H' v d e R' v' q => l.nx G' ι' σ H' ρ μ' e (r.mono e) R' q⟩
theorem ds_ret {e : Expr} {pos : Pos} {T : TD} (h : DE X W g e T) : DS X W g (.Return (some e) pos) (sRet T) := by
  obtain ⟨t, a, b⟩ := h
  exact ⟨_, ps_ret a, fun F G ι σ H ρ μ De Dh r R l h => b F G ι σ H ρ μ _ _ _ r R (l.xl r) h fun G' ι' μ' H' v d e R' v' q => l.rt G' ι' H' μ' v d e R' v' q⟩
theorem ds_if {c : Expr} {a b : List Stmt} {pos : Pos} {C : TB} {T U : SD} (h0 : DB X W g c C) (h1 : DSs X W g a T) (h2 : DSs X W g b U) : DS X W g (.If c a b pos) (sIf C T U) := by
  obtain ⟨t0, p0, q0⟩ := h0
  obtain ⟨t, p, q⟩ := h1
  obtain ⟨u, p2, q2⟩ := h2
  refine ⟨_, ps_if p0 p p2, fun F G ι σ H ρ μ De Dh r R l h => q0 F G ι σ H ρ μ _ _ _ r R (l.xl r) h fun G1 ι1 μ1 H1 c e1 R1 q1 => ?_⟩
  cases c with
  | true =>
    have q' : T De ρ μ1 := q1
    show t Dh σ H1
    exact q F G1 ι1 σ H1 ρ μ1 De Dh (r.mono e1) R1 (l.mono e1) q'
  | false =>
    have q' : U De ρ μ1 := q1
    show u Dh σ H1
    exact q2 F G1 ι1 σ H1 ρ μ1 De Dh (r.mono e1) R1 (l.mono e1) q'
abbrev TGd := D → Rho → Mu → (Rho → Mu → Prop) → XQ → Prop
def Upto (ws : List Nat) (σ σ' : L2.St) : Prop := σ'.length = σ.length ∧ ∀ j, j ∉ ws → σ'[j]? = σ[j]?
theorem Upto.refl {ws : List Nat} {σ : L2.St} : Upto ws σ σ := ⟨rfl, fun _ _ => rfl⟩
theorem Upto.trans {ws vs : List Nat} {σ σ1 σ2 : L2.St} (a : Upto ws σ σ1) (b : Upto vs σ1 σ2) : Upto (ws ++ vs) σ σ2 :=
  ⟨b.1.trans a.1, fun j h => (b.2 j fun z => h (by simp [z])).trans (a.2 j fun z => h (by simp [z]))⟩
def RdG (W : WX) (g : Ge) (ws : List Nat) (t : TG) (T : TGd) : Prop := ∀ F G ι σ H ρ μ v d Q E (P : L2.St → Hp → Prop), RhoRel g G ι σ ρ → Rel g F G ι H μ → XLift W g F G ι σ E → VD g G ι v d → T d ρ μ Q E →
  (∀ G' ι' σ' H' ρ' μ', Ext G ι G' ι' → Upto ws σ σ' → RhoRel g G' ι' σ' ρ' → Rel g F G' ι' H' μ' → Q ρ' μ' → P σ' H') → t v σ H P
def DG (X : Cx) (W : WX) (g : Ge) (ws : List Nat) (tg : Expr) (T : TGd) : Prop := ∃ t, PG X tg t ∧ RdG W g ws t T
def gNm (i : Nat) : TGd := fun d ρ μ Q _ => Q (ρ.set i (some d)) μ
theorem rg_name (i : Nat) : RdG W g [i] (gName i) (gNm i) := fun F G ι σ H ρ μ v d Q E P r R L vd q k =>
  k G ι _ H _ μ .refl ⟨by simp, fun j h => by rw [List.getElem?_set_ne (fun z => h (by simp [z]))]⟩ (r.set vd i) R q
/-- names only: no wish is asked -/
structure DGs (X : Cx) (W : WX) (g : Ge) (ws : List Nat) (es : List Expr) (T : List D → Rho → Mu → (Rho → Mu → Prop) → Prop) : Prop where
  ex : ∃ t, PGs X es t ∧ ∀ F G ι σ H ρ μ vs ds Q (P : L2.St → Hp → Prop), RhoRel g G ι σ ρ → Rel g F G ι H μ → VDs g G ι vs ds → T ds ρ μ Q →
    (∀ G' ι' σ' H' ρ' μ', Ext G ι G' ι' → Upto ws σ σ' → RhoRel g G' ι' σ' ρ' → Rel g F G' ι' H' μ' → Q ρ' μ' → P σ' H') → t vs σ H P
/-- a target of names -/
structure DGn (X : Cx) (W : WX) (g : Ge) (ws : List Nat) (tg : Expr) (T : D → Rho → Mu → (Rho → Mu → Prop) → Prop) : Prop where
  ex : ∃ t, PG X tg t ∧ ∀ F G ι σ H ρ μ v d Q (P : L2.St → Hp → Prop), RhoRel g G ι σ ρ → Rel g F G ι H μ → VD g G ι v d → T d ρ μ Q →
    (∀ G' ι' σ' H' ρ' μ', Ext G ι G' ι' → Upto ws σ σ' → RhoRel g G' ι' σ' ρ' → Rel g F G' ι' H' μ' → Q ρ' μ' → P σ' H') → t v σ H P
def nNm (i : Nat) : D → Rho → Mu → (Rho → Mu → Prop) → Prop := fun d ρ μ Q => Q (ρ.set i (some d)) μ
def nNil : List D → Rho → Mu → (Rho → Mu → Prop) → Prop := fun ds ρ μ Q => match ds with | [] => Q ρ μ | _ => False
def nCons (T : D → Rho → Mu → (Rho → Mu → Prop) → Prop) (U : List D → Rho → Mu → (Rho → Mu → Prop) → Prop) : List D → Rho → Mu → (Rho → Mu → Prop) → Prop := fun ds ρ μ Q => match ds with
  | d :: r => T d ρ μ fun ρ' μ' => U r ρ' μ' Q
  | _ => False
def nTup (n : Nat) (U : List D → Rho → Mu → (Rho → Mu → Prop) → Prop) : D → Rho → Mu → (Rho → Mu → Prop) → Prop := fun d ρ μ Q => match d with
  | .tup ds => ds.length = n ∧ U ds ρ μ Q
  | _ => False
theorem dn_name {i : Nat} {x : Str} {pos : Pos} (hN : X.N.Nodup) (hi : X.N[i]? = some x := by rfl) (hx : Loc X.env.scope x := by first | exact Or.inl rfl | exact Or.inr rfl)
    (hf : X.fn x = true ∨ X.env.scope.names.lookup x = some .local := by first | exact .inl rfl | exact .inr rfl | assumption) : DGn X W g [i] (.Name x pos) (nNm i) :=
  ⟨_, pg_name hN hi hx hf, fun F G ι σ H ρ μ v d Q P r R vd q k => k G ι _ H _ μ .refl ⟨by simp, fun j h => by rw [List.getElem?_set_ne (fun z => h (by simp [z]))]⟩ (r.set vd i) R q⟩
theorem dns_nil : DGs X W g [] [] nNil := ⟨_, pgs_nil, fun F G ι σ H ρ μ vs ds Q P r R vd q k => by
  cases vd with
  | nil => exact ⟨rfl, k G ι σ H ρ μ .refl .refl r R q⟩
  | cons _ _ => exact q.elim⟩
theorem dns_cons {e : Expr} {es : List Expr} {ws vs : List Nat} {T : D → Rho → Mu → (Rho → Mu → Prop) → Prop} {U : List D → Rho → Mu → (Rho → Mu → Prop) → Prop} (h1 : DGn X W g ws e T) (h2 : DGs X W g vs es U)
    (hs : (assignEach (e :: es) X.env).map (·.2) = assign e X.env :: (assignEach es X.env).map (·.2) := by rfl) : DGs X W g (ws ++ vs) (e :: es) (nCons T U) := by
  obtain ⟨t, a, b⟩ := h1.ex
  obtain ⟨u, c, d⟩ := h2.ex
  refine ⟨_, pgs_cons a c hs, fun F G ι σ H ρ μ xs ds Q P r R vd q k => ?_⟩
  cases vd with
  | nil => exact q.elim
  | cons v1 vr =>
    refine ⟨_, _, rfl, b F G ι σ H ρ μ _ _ _ _ r R v1 q fun G1 ι1 σ1 H1 ρ1 μ1 e1 u1 r1 R1 q1 => ?_⟩
    exact d F G1 ι1 σ1 H1 ρ1 μ1 _ _ _ _ r1 R1 (vr.mono e1) q1 fun G2 ι2 σ2 H2 ρ2 μ2 e2 u2 r2 R2 q2 => k G2 ι2 σ2 H2 ρ2 μ2 (e1.trans e2) (u1.trans u2) r2 R2 q2
theorem dn_tup {es : List Expr} {k n : Nat} {pos : Pos} {ws : List Nat} {U : List D → Rho → Mu → (Rho → Mu → Prop) → Prop} (hc : X.calm = true) (h : DGs X W (gx X) ws es U)
    (hn : (assignEach es X.env).length = n := by rfl) (hst : (assignEach es X.env).findIdx? (·.1) = none := by rfl) : DGn X W (gx X) ws (.Tuple es k pos) (nTup n U) := by
  obtain ⟨t, a, b⟩ := h.ex
  refine ⟨_, pg_tup hc a hn hst, fun F G ι σ H ρ μ v d Q P r R vd q k => ?_⟩
  cases vd with
  | tup h1 h2 h3 => exact ⟨_, _, rfl, sqT_mono R.same h1, h2.length.trans q.1, b F G ι σ H ρ μ _ _ _ _ r R h2 q.2 k⟩
  | _ => exact q.elim
theorem DGn.dg {tg : Expr} {ws : List Nat} {T : D → Rho → Mu → (Rho → Mu → Prop) → Prop} (h : DGn X W g ws tg T) : DG X W g ws tg (fun d ρ μ Q _ => T d ρ μ Q) :=
  let ⟨t, a, b⟩ := h.ex; ⟨t, a, fun F G ι σ H ρ μ v d Q E P r R L vd q k => b F G ι σ H ρ μ v d Q P r R vd q k⟩
/-- target = e -/
def sAsg (T : TD) (g : TGd) : SD := fun De ρ μ => T ρ μ (fun d μ1 => g d ρ μ1 (fun ρ' μ' => De.nx ρ' μ') (exAt De ρ)) (exAt De ρ)
def sSet (i : Nat) (T : TD) : SD := fun De ρ μ => T ρ μ (fun d μ1 => De.nx (ρ.set i (some d)) μ1) (exAt De ρ)
def sUnp (T : TD) (n : D → Rho → Mu → (Rho → Mu → Prop) → Prop) : SD := fun De ρ μ => T ρ μ (fun d μ1 => n d ρ μ1 (fun ρ' μ' => De.nx ρ' μ')) (exAt De ρ)
theorem rs_asg {t : TE} {tg : TG} {ws : List Nat} {T : TD} {U : TGd} (h1 : RdE W g t T) (h2 : RdG W g ws tg U) : RdS W g (tAsg t tg) (sAsg T U) := fun F G ι σ H ρ μ De Dh r R l h =>
  h1 F G ι σ H ρ μ _ _ _ r R (l.xl r) h fun G1 ι1 μ1 H1 v d e1 R1 v1 q1 => h2 F G1 ι1 σ H1 ρ μ1 v d _ _ _ (r.mono e1) R1 ((l.mono e1).xl (r.mono e1)) v1 q1 fun G2 ι2 σ2 H2 ρ2 μ2 e2 u2 r2 R2 q2 =>
    l.nx G2 ι2 σ2 H2 ρ2 μ2 (e1.trans e2) r2 R2 q2
theorem ds_asg {tg e : Expr} {pos : Pos} {ws : List Nat} {T : TD} {U : TGd} (h1 : DE X W g e T) (h2 : DG X W g ws tg U) (hs : swapsWithSole [tg] e pos.line X.env = pure false := by rfl) (hw : swappedStores [tg] e X.env = pure none := by rfl)
    (h3 : (assignEach [tg] X.env).map (·.2) = [assign tg X.env] := by rfl) : DS X W g (.Assign [tg] e pos) (sAsg T U) := by
  obtain ⟨t, a, b⟩ := h1
  obtain ⟨u, c, d⟩ := h2
  exact ⟨_, ps_asg a c hs hw h3, rs_asg b d⟩
theorem ds_unp {tg e : Expr} {pos : Pos} {ws : List Nat} {T : TD} {U : D → Rho → Mu → (Rho → Mu → Prop) → Prop} (h1 : DE X W g e T) (h2 : DGn X W g ws tg U) (hs : swapsWithSole [tg] e pos.line X.env = pure false := by rfl) (hw : swappedStores [tg] e X.env = pure none := by rfl)
    (h3 : (assignEach [tg] X.env).map (·.2) = [assign tg X.env] := by rfl) : DS X W g (.Assign [tg] e pos) (sUnp T U) := ds_asg h1 h2.dg hs hw h3
theorem ds_set {i : Nat} {x : Str} {e : Expr} {pos pos' : Pos} {T : TD} (hN : X.N.Nodup) (h1 : DE X W g e T) (hi : X.N[i]? = some x := by rfl) (hx : Loc X.env.scope x := by first | exact Or.inl rfl | exact Or.inr rfl)
    (hs : swapsWith e (some (.Name x pos')) pos.line X.env = pure false := by rfl) (hf : X.fn x = true ∨ X.env.scope.names.lookup x = some .local := by first | exact .inl rfl | exact .inr rfl | assumption) : DS X W g (.Assign [.Name x pos'] e pos) (sSet i T) := by
  obtain ⟨t, a, b⟩ := h1
  exact ⟨_, ps_set hN hi hx a hs hf, rs_asg b (rg_name i)⟩
/-- a, b = x, y -/
def sPar (i j : Nat) (U : TL) : SD := fun De ρ μ => U ρ μ (fun ds μ1 => match ds with | [d, e] => De.nx ((ρ.set i (some d)).set j (some e)) μ1 | _ => False) (exAt De ρ)
theorem ds_par {i j : Nat} {x y : Str} {a b : Expr} {U : TL} {px py pt pt2 pos : Pos} {kt k2 : Nat} (hc : X.calm = true) (hN : X.N.Nodup) (ha : DA X W g [a, b] U) (hij : i ≠ j) (hi : X.N[i]? = some x := by rfl) (hj : X.N[j]? = some y := by rfl)
    (hx : X.env.scope.names.lookup x = some .local := by rfl) (hy : X.env.scope.names.lookup y = some .local := by rfl)
    (hw : swappedStores [.Tuple [.Name x px, .Name y py] kt pt] (.Tuple [a, b] k2 pt2) X.env = pure (some [x, y]) := by rfl)
    (hs : swapsWithSole [.Tuple [.Name x px, .Name y py] kt pt] (.Tuple [a, b] k2 pt2) pos.line X.env = pure false := by rfl) : DS X W g (.Assign [.Tuple [.Name x px, .Name y py] kt pt] (.Tuple [a, b] k2 pt2) pos) (sPar i j U) := by
  obtain ⟨t, h1, h2⟩ := ha
  refine ⟨_, ps_par hc hN hi hj hij hx hy h1 hw hs, fun F G ι σ H ρ μ De Dh r R l h => h2 F G ι σ H ρ μ _ _ _ r R (l.xl r) h fun G1 ι1 μ1 H1 vs ds e1 R1 v1 q1 => ?_⟩
  cases v1 with
  | nil => exact q1.elim
  | cons a1 r1 =>
    cases r1 with
    | nil => exact q1.elim
    | cons a2 r2 =>
      cases r2 with
      | nil => exact ⟨_, _, rfl, l.nx G1 ι1 _ H1 _ μ1 e1 (((r.mono e1).set a1 i).set a2 j) R1 q1⟩
      | cons _ _ => exact q1.elim
def gSubD (To Ti : TD) : TGd := fun d ρ μ Q E => To ρ μ (fun o μ1 => Ti ρ μ1 (fun i μ2 => match o, i with
  | .ptr n, .int k => (match μ2 n with
    | some (.lst ds) => opQ (ixN ds.length k) fun j => Q ρ (mset μ2 n (.lst (ds.set j d)))
    | _ => False)
  | _, _ => False) E) E
theorem rg_sub {to ti : TE} {To Ti : TD} (ho : RdE W g to To) (hi : RdE W g ti Ti) : RdG W g [] (gSub to ti rSetL) (gSubD To Ti) := fun F G ι σ H ρ μ v d Q E P r R L vd q k =>
  ho F G ι σ H ρ μ _ E _ r R L q fun G1 ι1 μ1 H1 o od e1 R1 v1 q1 => hi F G1 ι1 σ H1 ρ μ1 _ E _ (r.mono e1) R1 (L.mono e1) q1 fun G2 ι2 μ2 H2 i id e2 R2 v2 q2 => by
    split at q2
    · rename_i n m
      cases v2
      split at q2
      · rename_i ds em
        obtain ⟨j, ej, qj⟩ := opQ_get q2
        obtain ⟨a, xs, rfl, hn, ha, hv, hz⟩ := ptr_lst R2 (v1.mono e2) em
        refine ⟨a, xs, m, j, rfl, rfl, ha, by rw [hv.length]; exact ej, ?_⟩
        have vd2 : VD g G2 ι2 v d := vd.mono (e1.trans e2)
        have R3 := R2.write (o' := .lst (ds.set j d)) (u' := .lst (xs.set j v)) em hn ha trivial ⟨xs.set j v, upd_same, VDs.set vd2 j hv, by rw [List.length_set]; exact hz⟩
        exact k G2 ι2 σ _ ρ _ (e1.trans e2) .refl (r.mono (e1.trans e2)) R3 qj
      · exact q2.elim
    · exact q2.elim
theorem dg_sub {o i : Expr} {pos : Pos} {To Ti : TD} (ho : DE X W g o To) (hi : DE X W g i Ti)
    (ha : ∀ v, assign (.Subscript o i pos) X.env v = (do
      let ov ← PySem.holding [v] (eval o X.env)
      let iv ← PySem.holding [v, ov] (eval i X.env)
      standAt pos
      PySem.holding [v, ov, iv] (setItem ov iv v)
      release [v, ov, iv] []) := by intro _; rfl) : DG X W g [] (.Subscript o i pos) (gSubD To Ti) := by
  obtain ⟨t, a, b⟩ := ho
  obtain ⟨u, c, d⟩ := hi
  exact ⟨_, pg_sub a c set_list ha, rg_sub b d⟩
/-- it gives the items of ds, one a turn, while st stands -/
structure Items (g : Ge) (F G : Hp) (ι : Io) (J : It) (ds : List D) (st : Mu → Prop) : Prop where
  ex : ∃ (Gs : Hp → Prop) (Y : Nat → Hp → V → Hp → Prop), Walk J ds.length Gs Y ∧ (∀ F' G' ι' H μ, Ext G ι G' ι' → Rel g F' G' ι' H μ → st μ → Gs H) ∧
    ∀ F' G' ι' H μ i x H', Ext G ι G' ι' → Rel g F' G' ι' H μ → st μ → Y i H x H' → ∃ d G2, ds[i]? = some d ∧ Ext G' ι' G2 ι' ∧ Rel g F' G2 ι' H' μ ∧ VD g G2 ι' x d
abbrev TId := Rho → Mu → (List D → (Mu → Prop) → Mu → Prop) → XQ → Prop
def RdI (W : WX) (g : Ge) (w : TI) (T : TId) : Prop := ∀ F G ι σ H ρ μ Q E (P : It → Hp → Prop), RhoRel g G ι σ ρ → Rel g F G ι H μ → XLift W g F G ι σ E → T ρ μ Q E →
  (∀ G' ι' μ' H' J ds st, Ext G ι G' ι' → Rel g F G' ι' H' μ' → Items g F G' ι' J ds st → Q ds st μ' → P J H') → w σ H P
def DI (X : Cx) (W : WX) (g : Ge) (tg e : Expr) (T : TId) : Prop := ∃ w, PI X tg e w ∧ RdI W g w T
/-- a for: by the items left -/
def forD (st : Mu → Prop) (n : D → Rho → Mu → (Rho → Mu → Prop) → Prop) (b : SD) (De : EndsD) : List D → Rho → Mu → Prop
  | [], ρ, μ => st μ ∧ De.nx ρ μ
  | d :: ds, ρ, μ => st μ ∧ n d ρ μ fun ρ' μ' => b { De with nx := forD st n b De ds, ct := forD st n b De ds, bk := De.nx } ρ' μ'
theorem forD_st {st : Mu → Prop} {n : D → Rho → Mu → (Rho → Mu → Prop) → Prop} {b : SD} {De : EndsD} : ∀ {ds : List D} {ρ : Rho} {μ : Mu}, forD st n b De ds ρ μ → st μ
  | [], _, _, h => h.1
  | _ :: _, _, _, h => h.1
def sFor (I : TId) (n : D → Rho → Mu → (Rho → Mu → Prop) → Prop) (b : SD) : SD := fun De ρ μ => I ρ μ (fun ds st μ1 => forD st n b De ds ρ μ1) (exAt De ρ)
theorem ds_for {tg iter : Expr} {body : List Stmt} {pos : Pos} {ws : List Nat} {I : TId} {n : D → Rho → Mu → (Rho → Mu → Prop) → Prop} {b : SD} (hp : PassesOwn (model X.prog X.w) X.A X.env X.xe) (hc : X.calm = true) (h1 : DI X W g tg iter I) (h2 : DGn X W g ws tg n) (h3 : DSs X W g body b)
    (hs : ∀ x, foldedSetIterable iter X.env x = pure x := by intro _; rfl) : DS X W g (.For tg iter body [] pos) (sFor I n b) := by
  obtain ⟨w, p1, q1⟩ := h1
  obtain ⟨t, p2, q2⟩ := h2.ex
  obtain ⟨u, p3, q3⟩ := h3
  refine ⟨_, ps_for hp hc p1 p2 p3 hs, fun F G ι σ H ρ μ De Dh r R l h => q1 F G ι σ H ρ μ _ _ _ r R (l.xl r) h fun G1 ι1 μ1 H1 J ds st e1 R1 It q => ?_⟩
  obtain ⟨Gs, Y, wk, hG, hY⟩ := It.ex
  have stt : ∀ {i : Nat} {ρ' : Rho} {μ' : Mu}, forD st n b De (ds.drop i) ρ' μ' → st μ' := fun h => forD_st h
  refine for_it wk (fun i σ' H' => ∃ G' ι' ρ' μ', Ext G1 ι1 G' ι' ∧ RhoRel g G' ι' σ' ρ' ∧ Rel g F G' ι' H' μ' ∧ forD st n b De (ds.drop i) ρ' μ') ⟨G1, ι1, ρ, μ1, .refl, r.mono e1, R1, q⟩ ?_ ?_ ?_
  · rintro i σ' H' _ ⟨G', ι', ρ', μ', e, _, R', q'⟩
    exact hG F G' ι' H' μ' e R' (stt q')
  · rintro i x σ' H' H'' hi ⟨G', ι', ρ', μ', e, r', R', q'⟩ y
    obtain ⟨d, G2, hd, e2, R2, vd⟩ := hY F G' ι' H' μ' i x H'' e R' (stt q') y
    have dr : ds.drop i = d :: ds.drop (i + 1) := by
      rw [List.drop_eq_getElem_cons hi]
      congr 1
      rw [List.getElem?_eq_getElem hi] at hd
      exact Option.some.inj hd
    rw [dr] at q'
    obtain ⟨_, q'⟩ := q'
    refine q2 F G2 ι' σ' H'' ρ' μ' x d _ _ (r'.mono e2) R2 vd q' fun G3 ι3 σ3 H3 ρ3 μ3 e3 _ r3 R3 q3' => ?_
    have e4 : Ext G1 ι1 G3 ι3 := (e.trans e2).trans e3
    have l3 := (l.mono e1).mono e4
    refine q3 F G3 ι3 σ3 H3 ρ3 μ3 { De with nx := forD st n b De (ds.drop (i + 1)), ct := forD st n b De (ds.drop (i + 1)), bk := De.nx } _ r3 R3 ⟨fun G5 ι5 σ5 H5 ρ5 μ5 e5 r5 R5 q5 => ⟨G5, ι5, ρ5, μ5, e4.trans e5, r5, R5, q5⟩, l3.rt, fun G5 ι5 σ5 H5 ρ5 μ5 e5 r5 R5 q5 => l3.nx G5 ι5 σ5 H5 ρ5 μ5 e5 r5 R5 q5,
      fun G5 ι5 σ5 H5 ρ5 μ5 e5 r5 R5 q5 => ⟨G5, ι5, ρ5, μ5, e4.trans e5, r5, R5, q5⟩, l3.ex⟩ q3'
  · rintro σ' H' ⟨G', ι', ρ', μ', e, r', R', q'⟩
    rw [List.drop_length] at q'
    exact l.nx G' ι' σ' H' ρ' μ' (e1.trans e) r' R' q'.2
/-- a while: an invariant that goes down -/
def sWhile (C : TB) (b : SD) : SD := fun De ρ μ => ∃ I : Nat → Rho → Mu → Prop, (∃ m, I m ρ μ) ∧ ∀ m ρ μ, I m ρ μ →
  C ρ μ (fun c μ1 => ifB c (b { De with nx := fun ρ' μ' => ∃ m', m' < m ∧ I m' ρ' μ', ct := fun ρ' μ' => ∃ m', m' < m ∧ I m' ρ' μ', bk := De.nx } ρ μ1) (De.nx ρ μ1)) (exAt De ρ)
theorem ds_while {c : Expr} {body : List Stmt} {pos : Pos} {C : TB} {b : SD} (hp : PassesOwn (model X.prog X.w) X.A X.env X.xe) (h1 : DB X W g c C) (h2 : DSs X W g body b) : DS X W g (.While c body [] pos) (sWhile C b) := by
  obtain ⟨t, p1, q1⟩ := h1
  obtain ⟨u, p2, q2⟩ := h2
  refine ⟨_, ps_while hp p1 p2, fun F G ι σ H ρ μ De Dh r R l h => ?_⟩
  obtain ⟨I, ⟨m0, i0⟩, turn⟩ := h
  refine ⟨fun m σ' H' => ∃ G' ι' ρ' μ', Ext G ι G' ι' ∧ RhoRel g G' ι' σ' ρ' ∧ Rel g F G' ι' H' μ' ∧ I m ρ' μ', ⟨m0, G, ι, ρ, μ, .refl, r, R, i0⟩, ?_⟩
  rintro m σ' H' ⟨G', ι', ρ', μ', e, r', R', i'⟩
  have l' := l.mono e
  refine q1 F G' ι' σ' H' ρ' μ' _ _ _ r' R' (l'.xl r') (turn m ρ' μ' i') fun G1 ι1 μ1 H1 c e1 R1 qc => ?_
  cases c with
  | false =>
    have q' : De.nx ρ' μ1 := qc
    show Dh.nx σ' H1
    exact l'.nx G1 ι1 σ' H1 ρ' μ1 e1 (r'.mono e1) R1 q'
  | true =>
    have q' : b _ ρ' μ1 := qc
    show ∃ N : L2.St → Hp → Prop, _
    refine ⟨fun σ2 H2 => ∃ m', m' < m ∧ ∃ G2 ι2 ρ2 μ2, Ext G ι G2 ι2 ∧ RhoRel g G2 ι2 σ2 ρ2 ∧ Rel g F G2 ι2 H2 μ2 ∧ I m' ρ2 μ2, fun σ2 H2 h => h, ?_⟩
    have l1 := l'.mono e1
    have e01 := e.trans e1
    refine q2 F G1 ι1 σ' H1 ρ' μ1 { De with nx := fun ρ' μ' => ∃ m', m' < m ∧ I m' ρ' μ', ct := fun ρ' μ' => ∃ m', m' < m ∧ I m' ρ' μ', bk := De.nx } _ (r'.mono e1) R1 ⟨fun G5 ι5 σ5 H5 ρ5 μ5 e5 r5 R5 q5 => ?_, l1.rt, fun G5 ι5 σ5 H5 ρ5 μ5 e5 r5 R5 q5 => l1.nx G5 ι5 σ5 H5 ρ5 μ5 e5 r5 R5 q5, fun G5 ι5 σ5 H5 ρ5 μ5 e5 r5 R5 q5 => ?_, l1.ex⟩ q'
    · obtain ⟨m', hm, im⟩ := q5
      exact ⟨m', hm, G5, ι5, ρ5, μ5, e01.trans e5, r5, R5, im⟩
    · obtain ⟨m', hm, im⟩ := q5
      exact ⟨m', hm, G5, ι5, ρ5, μ5, e01.trans e5, r5, R5, im⟩
end
end Y
namespace Y
open PySem PySem.Spec PyProof.Rows L2
theorem PI.or {X : Cx} {tg e : Expr} {w w' : TI} (h : PI X tg e w) (h' : PI X tg e w') : PI X tg e (fun σ H R => w σ H R ∨ w' σ H R) := by
  refine ⟨fun pins s σ H R I q => ?_⟩
  rcases q with q | q
  · exact h.run pins s σ H R I q
  · exact h'.run pins s σ H R I q
/-- what stands still while the thing is walked -/
def stOf (μ : Mu) : D → Mu → Prop
  | .ptr n => fun μ' => μ' n = μ n
  | _ => fun _ => True
section
variable {X : Cx} {W : WX} {g : Ge} {F G H : Hp} {ι : Io} {μ : Mu}
theorem items_ptr {n : Nat} {a : Addr} {xs : List V} {ds : List D} (hn : ι n = some a) (em : μ n = some (.lst ds)) (hv : VDs g G ι xs ds) : Items g F G ι (Itl g.K a) ds (stOf μ (.ptr n)) := by
  refine ⟨fun H => ∃ xs, SqL g.K H a xs ∧ xs.length = ds.length, fun i H x H' => H' = H ∧ ∀ xs, SqL g.K H a xs → xs[i]? = some x, ⟨fun i H hi ⟨xs, h1, h2⟩ => ⟨xs, xs[i]'(by omega), h1, List.getElem?_eq_getElem (by omega)⟩, fun H ⟨xs, h1, h2⟩ => ⟨xs, h1, by omega⟩, fun i H x H' hi _ y => y⟩, ?_, ?_⟩
  · intro F' G' ι' H' μ' e R st
    obtain ⟨b, h1, h2, ys, h3, h4, _⟩ := R.cell n _ (st.trans em)
    rw [e.i n a hn] at h1; cases h1
    exact ⟨ys, .of h3, h4.length⟩
  · rintro F' G' ι' H' μ' i x H'' e R st ⟨rfl, y⟩
    obtain ⟨b, h1, h2, ys, h3, h4, _⟩ := R.cell n _ (st.trans em)
    rw [e.i n a hn] at h1; cases h1
    obtain ⟨d, hd, vd⟩ := h4.get' (y ys (.of h3))
    exact ⟨d, G', hd, .refl, R, vd⟩
theorem items_lst {a : Addr} {xs : List V} {ds : List D} (h : SqL g.K G a xs) (hv : VDs g G ι xs ds) {st : Mu → Prop} : Items g F G ι (Itl g.K a) ds st := by
  have w := walk_list (K := g.K) (a := a) (xs := xs)
  rw [hv.length] at w
  refine ⟨_, _, w, fun F' G' ι' H' μ' e R st => sqL_mono R.same (sqL_mono e.g h), ?_⟩
  rintro F' G' ι' H' μ' i x H'' e R st ⟨rfl, y⟩
  obtain ⟨d, hd, vd⟩ := hv.get' y
  exact ⟨d, G', hd, .refl, R, vd.mono e⟩
theorem items_tup {a : Addr} {xs : List V} {ds : List D} (h : SqT g.K G a xs) (hv : VDs g G ι xs ds) {st : Mu → Prop} : Items g F G ι (Itt g.K a) ds st := by
  have w := walk_tup (K := g.K) (a := a) (xs := xs)
  rw [hv.length] at w
  refine ⟨_, _, w, fun F' G' ι' H' μ' e R st => sqT_mono R.same (sqT_mono e.g h), ?_⟩
  rintro F' G' ι' H' μ' i x H'' e R st ⟨rfl, y⟩
  obtain ⟨d, hd, vd⟩ := hv.get' y
  exact ⟨d, G', hd, .refl, R, vd.mono e⟩
def rangeD (lo : Int) (n : Nat) : List D := (List.range n).map fun i => .int (lo + (i : Nat))
theorem items_range {lo : Int} {n : Nat} {st : Mu → Prop} : Items g F G ι (Itr lo n) (rangeD lo n) st := by
  have w := walk_range (lo := lo) (n := n)
  have hl : (rangeD lo n).length = n := by simp [rangeD]
  refine ⟨_, _, by rw [hl]; exact w.mono (G' := fun _ => True) (fun _ _ => trivial) (Y' := fun i H x H' => i < n ∧ H' = H ∧ x = .int (lo + i)) fun i H x H' hi _ y => ⟨hi, y.1, y.2⟩, fun F' G' ι' H' μ' e R st => trivial, ?_⟩
  rintro F' G' ι' H' μ' i x H'' e R st ⟨hi, rfl, rfl⟩
  exact ⟨.int (lo + i), G', by simp [rangeD, hi], .refl, R, .int _⟩
def signsD (z : Str) : List D := z.cps.toList.map fun c => .str ⟨#[c]⟩
theorem items_str {z : Str} {st : Mu → Prop} : Items g F G ι (Its z) (signsD z) st := by
  have w := walk_str (z := z)
  have hl : (signsD z).length = z.cps.size := by simp [signsD]
  refine ⟨_, _, by rw [hl]; exact w, fun F' G' ι' H' μ' e R st => trivial, ?_⟩
  rintro F' G' ι' H' μ' i x H'' e R st ⟨rfl, c, hc, rfl⟩
  refine ⟨.str ⟨#[c]⟩, G', ?_, .refl, R, .str _⟩
  simp only [signsD, List.getElem?_map]
  rw [Array.getElem?_toList, hc]
  rfl
/-- a list, a tuple, a text -/
def seqOf (μ : Mu) : D → Option (List D)
  | .str z => some (signsD z)
  | d => asQ μ d
def dSeq (T : TD) : TId := fun ρ μ Q E => T ρ μ (fun d μ1 => opQ (seqOf μ1 d) fun ds => Q ds (stOf μ1 d) μ1) E
theorem ri_seq {t : TE} {T : TD} (h : RdE W g t T) : RdI W g (fun σ H R => t σ H fun x H1 => (∃ a, x = .ref a ∧ (∃ xs, SqL g.K H1 a xs) ∧ R (Itl g.K a) H1) ∨ (∃ a, x = .ref a ∧ (∃ xs, SqT g.K H1 a xs) ∧ R (Itt g.K a) H1) ∨ ∃ z, x = .str z ∧ R (Its z) H1) (dSeq T) :=
  fun F G ι σ H ρ μ Q E P r R L q k => h F G ι σ H ρ μ _ E _ r R L q fun G1 ι1 μ1 H1 v d e1 R1 v1 q1 => by
    obtain ⟨ds, hd, q1⟩ := opQ_get q1
    cases v1 with
    | str z => cases hd; exact .inr (.inr ⟨z, rfl, k G1 ι1 μ1 H1 _ _ _ e1 R1 items_str q1⟩)
    | lst h1 h2 h3 =>
      cases hd
      exact .inl ⟨_, rfl, ⟨_, .of (R1.same _ _ h1)⟩, k G1 ι1 μ1 H1 _ _ _ e1 R1 (items_lst (.of h1) h2) q1⟩
    | tup h1 h2 h3 =>
      cases hd
      exact .inr (.inl ⟨_, rfl, ⟨_, sqT_mono R1.same h1⟩, k G1 ι1 μ1 H1 _ _ _ e1 R1 (items_tup h1 h2) q1⟩)
    | scr h1 h3 =>
      cases hd
      exact .inl ⟨_, rfl, ⟨_, sqL_mono R1.same h1⟩, k G1 ι1 μ1 H1 _ _ _ e1 R1 (items_lst h1 (.ints _)) q1⟩
    | @ptr a n h1 =>
      have hd : (match μ1 n with | some (.lst ds) => some ds | _ => none) = some ds := hd
      split at hd <;> try cases hd
      rename_i em
      obtain ⟨a', xs, ea, hn, h3, h4, _⟩ := ptr_lst R1 (.ptr h1) em
      cases ea
      exact .inl ⟨_, rfl, ⟨_, .of h3⟩, k G1 ι1 μ1 H1 _ _ _ e1 R1 (items_ptr hn em h4) q1⟩
    | _ => cases hd
/-- for over a list, a tuple, a text -/
theorem pi_seq {tg l : Expr} {tl : TE} (hl : PE X l tl) : PI X tg l (fun σ H R => tl σ H fun x H1 => (∃ a, x = .ref a ∧ (∃ xs, SqL X.K H1 a xs) ∧ R (Itl X.K a) H1) ∨ (∃ a, x = .ref a ∧ (∃ xs, SqT X.K H1 a xs) ∧ R (Itt X.K a) H1) ∨ ∃ z, x = .str z ∧ R (Its z) H1) := by
  refine ⟨fun pins s σ H R I h => ?_⟩
  refine thn (hl.run pins s σ H _ I h) fun v s1 ⟨x, H1, I1, r1, q1⟩ => ?_
  rcases q1 with q1 | q1 | q1
  · obtain ⟨a, e, ⟨xs, hq⟩, q⟩ := q1
    subst e
    cases r1
    obtain ⟨its, rv, p, hz⟩ := I1.list hq
    refine wpAny_pyIter_list p.isList ?_
    refine ⟨s1.heap.objs.size, [s1.heap.objs.size], _, _, H1, rfl, I1.kept (t' := s1.toks) fun b o e => Heap.get?_push_of_some _ e, turn_list a _, ⟨_, Heap.get?_push_size _ rfl, rfl, rfl⟩, fun b hb => ?_, q⟩
    have e : b = s1.heap.objs.size := by simpa using hb
    subst e
    exact I1.fpOk (Nat.le_refl _) (I1.hok.fresh (Nat.le_refl _))
  · obtain ⟨a, e, ⟨xs, hq⟩, q⟩ := q1
    subst e
    cases r1
    obtain ⟨its, rv, p, hz⟩ := I1.tuple hq
    refine wpAny_pyIter_tuple (show s1.heap.IsTuple a its.toArray from p) ?_
    refine ⟨s1.heap.objs.size, [s1.heap.objs.size], _, _, H1, rfl, I1.kept (t' := s1.toks) fun b o e => Heap.get?_push_of_some _ e, turn_tuple a _, ⟨_, Heap.get?_push_size _ rfl, rfl, rfl⟩, fun b hb => ?_, q⟩
    have e : b = s1.heap.objs.size := by simpa using hb
    subst e
    exact I1.fpOk (Nat.le_refl _) (I1.hok.fresh (Nat.le_refl _))
  · obtain ⟨z, e, q⟩ := q1
    subst e
    obtain ⟨t, rfl⟩ := r1
    cases ha : z.cps.all (· < 128)
    · exact wpAny_pyIter_wide ha (pi_one (tk := s1.toks) I1 _ (turn_str _ z t "str_iterator" (.inr rfl)) ⟨_, Heap.get?_push_size _ rfl, rfl, rfl⟩ q)
    · exact wpAny_pyIter_ascii ha (pi_one (tk := s1.toks) I1 _ (turn_str _ z t "str_ascii_iterator" (.inl rfl)) ⟨_, Heap.get?_push_size _ rfl, rfl, rfl⟩ q)
theorem di_seq {tg e : Expr} {T : TD} (h : DE X W (gx X) e T) : DI X W (gx X) tg e (dSeq T) := let ⟨_, a, b⟩ := h; ⟨_, pi_seq a, ri_seq b⟩
/-- range(n), range(a, b) -/
def b62 (i : Int) : Bool := decide (-4611686018427387904 ≤ i) && decide (i < 4611686018427387904)
theorem b62_ok {i : Int} (h : b62 i = true) : -(2 ^ 62) ≤ i ∧ i < 2 ^ 62 := by
  unfold b62 at h
  simp only [Bool.and_eq_true, decide_eq_true_eq] at h
  exact ⟨by omega, by omega⟩
def dRange1 (T : TD) : TId := fun ρ μ Q E => T ρ μ (fun d μ1 => match d with | .int n => b62 n = true ∧ Q (rangeD 0 n.toNat) (fun _ => True) μ1 | _ => False) E
def dRange2 (T U : TD) : TId := fun ρ μ Q E => T ρ μ (fun d μ1 => U ρ μ1 (fun e μ2 => match d, e with | .int a, .int b => (b62 a && b62 b) = true ∧ Q (rangeD a (b - a).toNat) (fun _ => True) μ2 | _, _ => False) E) E
theorem di_range1 {tg a : Expr} {p pos : Pos} {T : TD} (hg : Gl X "range") (hm : X.mg "range" = none) (h : DE X W g a T) (hs : starEach [a] X.env = [(false, eval a X.env)] := by rfl) : DI X W g tg (.Call (.Name "range" p) [a] [] pos) (dRange1 T) := by
  obtain ⟨t, h1, h2⟩ := h
  refine ⟨_, pi_range1 hg hm (pa_cons h1 pa_nil (by exact hs)) hs, fun F G ι σ H ρ μ Q E P r R L q k => h2 F G ι σ H ρ μ _ E _ r R L q fun G1 ι1 μ1 H1 v d e1 R1 v1 q1 => ?_⟩
  cases v1 with
  | int n => exact ⟨n, rfl, (b62_ok q1.1).1, (b62_ok q1.1).2, k G1 ι1 μ1 H1 _ _ _ e1 R1 items_range q1.2⟩
  | _ => exact q1.elim
theorem di_range2 {tg a b : Expr} {p pos : Pos} {T U : TD} (hg : Gl X "range") (hm : X.mg "range" = none) (ha : DE X W g a T) (hb : DE X W g b U) (hs : starEach [a, b] X.env = [(false, eval a X.env), (false, eval b X.env)] := by rfl) (hs2 : starEach [b] X.env = [(false, eval b X.env)] := by rfl) :
    DI X W g tg (.Call (.Name "range" p) [a, b] [] pos) (dRange2 T U) := by
  obtain ⟨t, h1, h2⟩ := ha
  obtain ⟨u, h3, h4⟩ := hb
  refine ⟨_, pi_range2 hg hm (pa_cons h1 (pa_cons h3 pa_nil (by exact hs2)) (by rw [hs, hs2])) hs hs2, fun F G ι σ H ρ μ Q E P r R L q k => h2 F G ι σ H ρ μ _ E _ r R L q fun G1 ι1 μ1 H1 v d e1 R1 v1 q1 => h4 F G1 ι1 σ H1 ρ μ1 _ E _ (r.mono e1) R1 (L.mono e1) q1 fun G2 ι2 μ2 H2 w e e2 R2 v2 q2 => ?_⟩
  split at q2
  · cases v1; cases v2
    obtain ⟨hb, q2⟩ := q2
    obtain ⟨b1, b2⟩ := Bool.and_eq_true_iff.mp hb
    exact ⟨_, _, rfl, ⟨(b62_ok b1).1, (b62_ok b1).2, (b62_ok b2).1, (b62_ok b2).2⟩, k G2 ι2 μ2 H2 _ _ _ (e1.trans e2) R2 items_range q2⟩
  · exact q2.elim
def wipeD (ρ : Rho) : List Nat → Rho
  | [] => ρ
  | v :: vs => (wipeD ρ vs).set v none
theorem RhoRel.wipe {σ : L2.St} {ρ : Rho} (r : RhoRel g G ι σ ρ) : ∀ vs : List Nat, RhoRel g G ι (wipe σ vs) (wipeD ρ vs)
  | [] => r
  | v :: vs => (RhoRel.wipe r vs).unset v
theorem wipe_get (σ : L2.St) (j : Nat) : ∀ vs : List Nat, j ∉ vs → (wipe σ vs)[j]? = σ[j]?
  | [], _ => rfl
  | v :: vs, h => by
    show ((wipe σ vs).set v none)[j]? = _
    rw [List.getElem?_set_ne (fun z => h (by simp [z]))]
    exact wipe_get σ j vs fun z => h (by simp [z])
theorem wipe_at (σ : L2.St) (j : Nat) : ∀ vs : List Nat, j ∈ vs → (wipe σ vs)[j]? = if j < σ.length then some none else none
  | v :: vs, h => by
    show ((wipe σ vs).set v none)[j]? = _
    by_cases e : v = j
    · subst e
      rw [List.getElem?_set]
      simp [wipe_length]
    · rw [List.getElem?_set_ne e]
      exact wipe_at σ j vs (by simpa [Ne.symm e] using h)
theorem wipe_upto {vs ws : List Nat} {σ σ' : L2.St} (u : Upto ws (wipe σ vs) σ') (h : ∀ j ∈ ws, j ∈ vs) : wipe σ' vs = wipe σ vs := by
  have hl : σ'.length = σ.length := u.1.trans (wipe_length σ vs)
  apply List.ext_getElem?
  intro j
  by_cases hj : j ∈ vs
  · rw [wipe_at σ' j vs hj, wipe_at σ j vs hj, hl]
  · rw [wipe_get σ' j vs hj, u.2 j fun z => hj (h j z)]
/-- the items left, what is made so far -/
def lcD (st : Mu → Prop) (n : D → Rho → Mu → (Rho → Mu → Prop) → Prop) (C : TB) (T : TD) (ρ : Rho) (Q : List D → Mu → Prop) : List D → List D → Mu → Prop
  | [], acc, μ => st μ ∧ Q acc μ
  | d :: ds, acc, μ => st μ ∧ n d ρ μ fun ρ' μ1 => C ρ' μ1 (fun b μ2 => ifB b (T ρ' μ2 (fun y μ3 => lcD st n C T ρ Q ds (acc ++ [y]) μ3) (fun _ _ => False)) (lcD st n C T ρ Q ds acc μ2)) (fun _ _ => False)
theorem lcD_st {st : Mu → Prop} {n : D → Rho → Mu → (Rho → Mu → Prop) → Prop} {C : TB} {T : TD} {ρ : Rho} {Q : List D → Mu → Prop} : ∀ {ds acc : List D} {μ : Mu}, lcD st n C T ρ Q ds acc μ → st μ
  | [], _, _, h => h.1
  | _ :: _, _, _, h => h.1
def dYes : TB := fun _ μ Q _ => Q true μ
def dLc (I : TId) (n : D → Rho → Mu → (Rho → Mu → Prop) → Prop) (C : TB) (T : TD) (vs : List Nat) : TD := fun ρ μ Q E => I ρ μ (fun ds st μ1 => ds.length ≤ sizeLine ∧ lcD st n C T (wipeD ρ vs) (fun acc μ2 => Q (.lst acc) μ2) ds [] μ1) E
def dLcN (I : TId) (n : D → Rho → Mu → (Rho → Mu → Prop) → Prop) (C : TB) (T : TD) (vs : List Nat) : TD := fun ρ μ Q E => I ρ μ (fun ds st μ1 => ds.length ≤ sizeLine ∧ lcD st n C T (wipeD ρ vs) (fun acc μ2 => newQ μ2 (.lst acc) Q) ds [] μ1) E
end
theorem Rel.unframe {g : Ge} {F G H : Hp} {ι : Io} {μ : Mu} {D : Addr} {o : HO} (R : Rel g (upd F D o) G ι H μ) (h : F D = none) : Rel g F G ι H μ := by
  have up : ∀ a u, F a = some u → upd F D o a = some u := fun a u e => by rw [upd_ne (ne_of_none e h)]; exact e
  refine ⟨fun a u e => R.fr a u (up a u e), fun a u e => R.fg a u (up a u e), R.same, fun n u e => ?_, R.inj, R.fin, ⟨R.tb.t, fun a ps e => R.tb.f a ps (up a _ e), R.tb.g, R.tb.n⟩⟩
  obtain ⟨a, h1, h2, h3⟩ := R.cell n u e
  refine ⟨a, h1, ⟨h2.1, ?_⟩, h3⟩
  by_cases z : a = D
  · subst z; exact h
  · have := h2.2
    rw [upd_ne z] at this
    exact this
/-- what is framed is written (it is told of nowhere else) -/
theorem Rel.reframe {g : Ge} {F G H : Hp} {ι : Io} {μ : Mu} {D : Addr} {o o' : HO} (R : Rel g (upd F D o) G ι H μ) (mu : Mut (some o)) (hx : ∀ f, o ≠ .ext f := by exact fun _ h => by cases h) (ho' : ∀ ps, o' ≠ .tbl ps := by exact fun _ h => by cases h) : Rel g (upd F D o') G ι (upd H D o') μ := by
  have hD : H D = some o := R.fr D o upd_same
  have hG : G D = none := R.fg D o upd_same fun q => hx _
  refine ⟨fun a u e => ?_, fun a u e => ?_, fun a u e => ?_, fun n u e => ?_, R.inj, R.fin, ⟨(R.tb.put hD (fun ps z => by rw [z] at mu; exact mu) (fun q => hx _)).t, fun a ps e => ?_, R.tb.g, R.tb.n⟩⟩
  rotate_left 4
  · by_cases z : a = D
    · rw [z, upd_same] at e; exact ho' ps (Option.some.inj e)
    · rw [upd_ne z] at e; exact R.tb.f a ps (by rw [upd_ne z]; exact e)
  · by_cases z : a = D
    · subst z; rw [upd_same] at e ⊢; exact e
    · rw [upd_ne z] at e ⊢
      exact R.fr a u (by rw [upd_ne z]; exact e)
  · by_cases z : a = D
    · subst z; exact fun _ => hG
    · rw [upd_ne z] at e
      exact R.fg a u (by rw [upd_ne z]; exact e)
  · rw [upd_ne (ne_of_none e hG)]; exact R.same a u e
  · obtain ⟨a, h1, h2, h3⟩ := R.cell n u e
    have za : a ≠ D := fun z => by
      have := h2.2
      rw [z, upd_same] at this
      cases this
    have keep : ∀ b w, H b = some w → b ≠ D → upd H D o' b = some w := fun b w e z => by rw [upd_ne z]; exact e
    refine ⟨a, h1, ⟨h2.1, ?_⟩, ?_⟩
    · rw [upd_ne za]
      have := h2.2
      rw [upd_ne za] at this
      exact this
    · cases u with
      | lst ds => obtain ⟨xs, e1, e2, e3⟩ := h3; exact ⟨xs, keep _ _ e1 za, e2, e3⟩
      | dk kvs => obtain ⟨xs, e1, e2⟩ := h3; exact ⟨xs, keep _ _ e1 za, e2⟩
      | nk kvs => obtain ⟨xs, e1, e2⟩ := h3; exact ⟨xs, keep _ _ e1 za, e2⟩
      | lk od ys kvs => exact ⟨keep _ _ h3.1 za, h3.2⟩
      | ins c fs =>
        obtain ⟨C, dx, ys, m1, e1, e2, e3⟩ := h3
        refine ⟨C, dx, ys, m1, keep _ _ e1 za, keep _ _ e2 fun z => ?_, e3⟩
        rw [z, hD] at e2
        cases e2
        exact mu
section
variable {X : Cx} {W : WX} {g : Ge}
/-- the body of a comprehension's reading -/
theorem lc_run {g : Ge} {F G1 : Hp} {ι1 : Io} {J : It} {ds : List D} {st : Mu → Prop} {H1 : Hp} {μ1 : Mu} {σ : L2.St} {ρ : Rho} {vs ws : List Nat} {tg : TG} {tt : TT} {te : TE} {n : D → Rho → Mu → (Rho → Mu → Prop) → Prop} {C : TB} {T : TD} {Dd : Addr} {Qd : Hp → Prop} {Q : List D → Mu → Prop}
    (It : Items g F G1 ι1 J ds st) (hl : ds.length ≤ sizeLine) (r : RhoRel g G1 ι1 σ ρ) (R : Rel g F G1 ι1 H1 μ1) (hD : H1 Dd = none) (hv : ∀ j ∈ ws, j ∈ vs)
    (q2 : ∀ F G ι σ H ρ μ v d Q (P : L2.St → Hp → Prop), RhoRel g G ι σ ρ → Rel g F G ι H μ → VD g G ι v d → n d ρ μ Q →
      (∀ G' ι' σ' H' ρ' μ', Ext G ι G' ι' → Upto ws σ σ' → RhoRel g G' ι' σ' ρ' → Rel g F G' ι' H' μ' → Q ρ' μ' → P σ' H') → tg v σ H P)
    (q3 : RdB (fun _ _ _ _ => False) g tt C) (q4 : RdE (fun _ _ _ _ => False) g te T)
    (h : lcD st n C T (wipeD ρ vs) Q ds [] μ1)
    (hd : ∀ G' ι' H' μ' xs acc, Ext G1 ι1 G' ι' → Rel g (upd F Dd (.lst xs)) G' ι' H' μ' → VDs g G' ι' xs acc → xs.length ≤ sizeLine → Q acc μ' → Qd H') :
    ∃ W : Nat → Nat → Hp → Prop, (∃ m, W 0 m (upd H1 Dd (.lst []))) ∧ ∀ i m H, W i m H →
      (J.stop i H ∧ Qd H) ∨ (J.go i H ∧ ∃ Nx : Hp → Prop, (∀ H', Nx H' → ∃ m', m' < m ∧ W (i + 1) m' H') ∧ ∀ x H', J.yld i H x H' → tg x (wipe σ vs) H' fun σ2 H2 => wipe σ2 vs = wipe σ vs ∧ tt σ2 H2 fun b H3 =>
        if b = true then te σ2 H3 fun y H4 => ∃ acc, H4 Dd = some (.lst acc) ∧ acc.length < sizeLine ∧ Nx (upd H4 Dd (.lst (acc ++ [y]))) else Nx H3) := by
  obtain ⟨Gs, Y, wk, hG, hY⟩ := It.ex
  have fD : F Dd = none := by
    cases e : F Dd with
    | none => rfl
    | some u => rw [R.fr Dd u e] at hD; cases hD
  have gD : G1 Dd = none := by
    cases e : G1 Dd with
    | none => rfl
    | some u => rw [R.same Dd u e] at hD; cases hD
  have R0 : Rel g (upd F Dd (.lst [])) G1 ι1 (upd H1 Dd (.lst [])) μ1 := by
    have R' := R.other (o := .lst []) hD
    refine ⟨fun a u e => ?_, fun a u e => ?_, R'.same, fun n u e => ?_, R'.inj, R'.fin, ⟨R'.tb.t, upd_tbl R.tb.f (fun _ h => by cases h), R.tb.g, R.tb.n⟩⟩
    · by_cases z : a = Dd
      · subst z; rw [upd_same] at e ⊢; exact e
      · rw [upd_ne z] at e; exact R'.fr a u e
    · by_cases z : a = Dd
      · subst z; exact fun _ => gD
      · rw [upd_ne z] at e; exact R.fg a u e
    · obtain ⟨a, h1, h2, h3⟩ := R.cell n u e
      obtain ⟨w, h4, _⟩ := h3.some_
      obtain ⟨a', h1', h2', h3'⟩ := R'.cell n u e
      rw [h1] at h1'; cases h1'
      exact ⟨a, h1, ⟨h2.1, by rw [upd_ne (ne_of_none h4 hD)]; exact h2.2⟩, h3'⟩
  refine lc_it wk (fun i H => ∃ G' ι' μ' xs acc, Ext G1 ι1 G' ι' ∧ Rel g (upd F Dd (.lst xs)) G' ι' H μ' ∧ VDs g G' ι' xs acc ∧ xs.length ≤ i ∧ lcD st n C T (wipeD ρ vs) Q (ds.drop i) acc μ')
    ⟨G1, ι1, μ1, [], [], .refl, R0, .nil, Nat.le_refl _, h⟩ ?_ ?_ ?_
  · rintro i H _ ⟨G', ι', μ', xs, acc, e, R', _, _, q⟩
    exact hG _ G' ι' H μ' e R' (lcD_st q)
  · rintro i x H H' hi ⟨G', ι', μ', xs, acc, e, R', va, hlen, q⟩ y
    obtain ⟨d, G2, hd, e2, R2, vd⟩ := hY _ G' ι' H μ' i x H' e R' (lcD_st q) y
    have dr : ds.drop i = d :: ds.drop (i + 1) := by
      rw [List.drop_eq_getElem_cons hi]
      congr 1
      rw [List.getElem?_eq_getElem hi] at hd
      exact Option.some.inj hd
    rw [dr] at q
    obtain ⟨_, q⟩ := q
    have rw_ : RhoRel g G2 ι' (wipe σ vs) (wipeD ρ vs) := ((r.mono e).mono e2).wipe vs
    refine q2 _ G2 ι' _ H' _ μ' x d _ _ rw_ R2 vd q fun G3 ι3 σ3 H3 ρ3 μ3 e3 u3 r3 R3 q3' => ⟨wipe_upto u3 hv, ?_⟩
    refine q3 _ G3 ι3 σ3 H3 ρ3 μ3 _ _ _ r3 R3 (fun _ _ _ _ _ _ _ _ _ _ z => z) q3' fun G4 ι4 μ4 H4 b e4 R4 q4' => ?_
    have eAll : Ext G' ι' G4 ι4 := (e2.trans e3).trans e4
    cases b with
    | true =>
      have q5 : T ρ3 μ4 _ _ := q4'
      show te σ3 H4 _
      refine q4 _ G4 ι4 σ3 H4 ρ3 μ4 _ _ _ (r3.mono e4) R4 (fun _ _ _ _ _ _ _ _ _ _ z => z) q5 fun G5 ι5 μ5 H5 v dd e5 R5 v5 q6 => ?_
      have e05 := eAll.trans e5
      refine ⟨xs, R5.fr Dd _ upd_same, by omega, G5, ι5, μ5, xs ++ [v], acc ++ [dd], e.trans e05, ?_, (va.mono e05).append (.cons v5 .nil), by rw [List.length_append]; exact Nat.succ_le_succ hlen, q6⟩
      have := R5.reframe (o' := .lst (xs ++ [v])) trivial
      exact this
    | false =>
      have q5 : lcD st n C T (wipeD ρ vs) Q (ds.drop (i + 1)) acc μ4 := q4'
      exact ⟨G4, ι4, μ4, xs, acc, e.trans eAll, R4, va.mono eAll, by omega, q5⟩
  · rintro H ⟨G', ι', μ', xs, acc, e, R', va, hlen, q⟩
    rw [List.drop_length] at q
    exact hd G' ι' H μ' xs acc e R' va (Nat.le_trans hlen hl) q.2
/-- a framed list is one that stays; one that may be changed -/
theorem Rel.toFrozen {g : Ge} {F G H : Hp} {ι : Io} {μ : Mu} {a : Addr} {xs : List V} (R : Rel g (upd F a (.lst xs)) G ι H μ) (h : F a = none) : Rel g F (upd G a (.lst xs)) ι H μ ∧ Ext G ι (upd G a (.lst xs)) ι := by
  have hG : G a = none := R.fg a _ upd_same fun _ h => by cases h
  have eG : ∀ b u, G b = some u → upd G a (.lst xs) b = some u := fun b u e => by rw [upd_ne (ne_of_none e hG)]; exact e
  have R' := R.unframe h
  refine ⟨⟨R'.fr, fun b u e => ?_, fun b u e => ?_, fun n u e => ?_, R.inj, R.fin, ⟨R.tb.t, R'.tb.f, upd_tbl R.tb.g (fun _ h => by cases h), upd_ok R.tb.n trivial⟩⟩, eG, fun _ _ e => e⟩
  · rw [upd_ne (ne_of_none e h)]; exact R'.fg b u e
  · by_cases z : b = a
    · subst z; rw [upd_same] at e; rw [← e]; exact R.fr b _ upd_same
    · rw [upd_ne z] at e; exact R.same b u e
  · obtain ⟨b, h1, h2, h3⟩ := R.cell n u e
    have zb : b ≠ a := fun z => by
      have := h2.2
      rw [z, upd_same] at this
      cases this
    refine ⟨b, h1, ⟨by rw [upd_ne zb]; exact h2.1, ?_⟩, h3.mono ⟨eG, fun _ _ e => e⟩ fun _ _ e => e⟩
    have := h2.2
    rw [upd_ne zb] at this
    exact this
theorem Rel.toCell {g : Ge} {F G H : Hp} {ι : Io} {μ : Mu} {a : Addr} {xs : List V} {ds : List D} (R : Rel g (upd F a (.lst xs)) G ι H μ) (h : F a = none) (v : VDs g G ι xs ds) (hz : xs.length ≤ sizeLine) :
    ∃ n, μ n = none ∧ Ext G ι G (iset ι n a) ∧ Rel g F G (iset ι n a) H (mset μ n (.lst ds)) := by
  obtain ⟨N, hN⟩ := R.fin
  have R' := R.unframe h
  have hn : ι N = none := hN N (Nat.le_refl _)
  have hm : μ N = none := by
    cases q : μ N with
    | none => rfl
    | some o => obtain ⟨b, h1, _⟩ := R.cell N o q; rw [hn] at h1; cases h1
  have eI : ∀ n b, ι n = some b → iset ι N a n = some b := fun n b q => by
    rw [iset_ne (fun z => by rw [z, hn] at q; cases q)]; exact q
  have eX : Ext G ι G (iset ι N a) := ⟨fun _ _ q => q, eI⟩
  have ap : ∀ n o b, μ n = some o → ι n = some b → b ≠ a := fun n o b q w z => by
    obtain ⟨c, k1, k2, _⟩ := R.cell n o q
    rw [w] at k1; cases k1
    have := k2.2
    rw [z, upd_same] at this
    cases this
  refine ⟨N, hm, eX, ⟨R'.fr, R'.fg, R'.same, fun n o q => ?_, fun n m b o o' h1 h2 h3 h4 => ?_, ⟨N + 1, fun n q => ?_⟩, R'.tb⟩⟩
  · by_cases z : n = N
    · subst z
      rw [mset_same] at q; cases q
      exact ⟨a, iset_same, ⟨R.fg a _ upd_same (fun _ h => by cases h), h⟩, xs, R.fr a _ upd_same, v.mono eX, hz⟩
    · rw [mset_ne z] at q
      obtain ⟨b, h1, h2, h3⟩ := R'.cell n o q
      exact ⟨b, eI n b h1, h2, h3.mono eX fun _ _ e => e⟩
  · by_cases zn : n = N
    · by_cases zm : m = N
      · rw [zn, zm]
      · rw [zn, iset_same] at h3; cases h3
        rw [mset_ne zm] at h2
        rw [iset_ne zm] at h4
        exact absurd rfl (ap m o' a h2 h4)
    · by_cases zm : m = N
      · rw [zm, iset_same] at h4; cases h4
        rw [mset_ne zn] at h1
        rw [iset_ne zn] at h3
        exact absurd rfl (ap n o a h1 h3)
      · rw [mset_ne zn] at h1
        rw [mset_ne zm] at h2
        rw [iset_ne zn] at h3
        rw [iset_ne zm] at h4
        exact R.inj n m b o o' h1 h2 h3 h4
  · rw [iset_ne (by omega)]
    exact hN n (by omega)
theorem frame_none {g : Ge} {F G H : Hp} {ι : Io} {μ : Mu} (R : Rel g F G ι H μ) {a : Addr} (h : H a = none) : F a = none := by
  cases e : F a with
  | none => rfl
  | some u => rw [R.fr a u e] at h; cases h
/-- the block's context -/
abbrev Blk (X : Cx) (scope : Scope) (Z : Cx → Prop) : Prop := ∀ (s : Shared) (H : Hp) (C : Addr) (cl : List (Str × Addr)) (fp : List Addr), Z (X.blk s H scope (compEnvC scope cl C X.env) fp)
abbrev noW : WX := fun _ _ _ _ => False
/-- readings that do not hang on the block's state -/
structure DBlk (X : Cx) (g : Ge) (scope : Scope) (ws : List Nat) (tg : Expr) (ifs : List Expr) (elt : Expr) (n : D → Rho → Mu → (Rho → Mu → Prop) → Prop) (C : TB) (T : TD) : Prop where
  ex : ∃ (t1 : TG) (t2 : TT) (t3 : TE), (Blk X scope fun X' => PG X' tg t1) ∧ (Blk X scope fun X' => PTs X' ifs t2) ∧ (Blk X scope fun X' => PE X' elt t3) ∧
    (∀ F G ι σ H ρ μ v d Q (P : L2.St → Hp → Prop), RhoRel g G ι σ ρ → Rel g F G ι H μ → VD g G ι v d → n d ρ μ Q →
      (∀ G' ι' σ' H' ρ' μ', Ext G ι G' ι' → Upto ws σ σ' → RhoRel g G' ι' σ' ρ' → Rel g F G' ι' H' μ' → Q ρ' μ' → P σ' H') → t1 v σ H P) ∧ RdB noW g t2 C ∧ RdE noW g t3 T
theorem de_lc {elt tg iter : Expr} {ifs : List Expr} {scope : Scope} {own : List (Str × Nat)} {ws : List Nat} {pos : Pos} {I : TId} {n : D → Rho → Mu → (Rho → Mu → Prop) → Prop} {C : TB} {T : TD} (hc : X.calm = true) (hN : X.N.Nodup) (hi : DI X W g tg iter I) (ok : BlkOk X.N X.env.scope scope own)
    (hb : DBlk X g scope ws tg ifs elt n C T) (hv : ∀ j ∈ ws, j ∈ own.map (·.2)) (hs : ∀ x, foldedSetIterable iter X.env x = pure x := by intro _; rfl) :
    DE X W g (.ListComp elt [⟨tg, iter, ifs, 0⟩] scope pos) (dLc I n C T (own.map (·.2))) ∧ DE X W g (.ListComp elt [⟨tg, iter, ifs, 0⟩] scope pos) (dLcN I n C T (own.map (·.2))) := by
  obtain ⟨w, p1, q1⟩ := hi
  obtain ⟨t1, t2, t3, b1, b2, b3, q2, q3, q4⟩ := hb.ex
  have P := pe_lc (pos := pos) hc hN p1 ok b1 b2 b3 hs
  refine ⟨⟨_, P, fun F G ι σ H ρ μ Q E P r R L q k => ?_⟩, ⟨_, P, fun F G ι σ H ρ μ Q E P r R L q k => ?_⟩⟩
  · refine q1 F G ι σ H ρ μ _ _ _ r R L q fun G1 ι1 μ1 H1 J ds st e1 R1 It q => fun Dd hD => ?_
    refine lc_run It q.1 (r.mono e1) R1 hD hv q2 q3 q4 q.2 fun G' ι' H' μ' xs acc e R' va hz qa => ?_
    obtain ⟨R2, e2⟩ := R'.toFrozen (frame_none R1 hD)
    exact k _ _ μ' H' _ _ ((e1.trans e).trans e2) R2 (.lst upd_same (va.mono e2) hz) qa
  · refine q1 F G ι σ H ρ μ _ _ _ r R L q fun G1 ι1 μ1 H1 J ds st e1 R1 It q => fun Dd hD => ?_
    refine lc_run It q.1 (r.mono e1) R1 hD hv q2 q3 q4 q.2 fun G' ι' H' μ' xs acc e R' va hz qa => ?_
    obtain ⟨n, hn, e2, R2⟩ := R'.toCell (frame_none R1 hD) va hz
    exact k _ _ _ H' _ _ ((e1.trans e).trans e2) R2 (.ptr iset_same) (qa n hn)
/-- y = [..] -/
theorem ds_setLc {i : Nat} {y : Str} {py spos : Pos} {elt tg iter : Expr} {ifs : List Expr} {scope : Scope} {own : List (Str × Nat)} {ws : List Nat} {pos : Pos} {I : TId} {n : D → Rho → Mu → (Rho → Mu → Prop) → Prop} {C : TB} {T : TD} (hc : X.calm = true) (hN : X.N.Nodup) (hy : X.N[i]? = some y) (hyl : X.env.scope.names.lookup y = some .local)
    (hsw : swapsWith (.ListComp elt [⟨tg, iter, ifs, 0⟩] scope pos) (some (.Name y py)) spos.line X.env = pure true) (hi : DI X W g tg iter I) (ok : BlkOk X.N X.env.scope scope own)
    (hb : DBlk X g scope ws tg ifs elt n C T) (hv : ∀ j ∈ ws, j ∈ own.map (·.2)) (hs : ∀ x, foldedSetIterable iter X.env x = pure x := by intro _; rfl) :
    DS X W g (.Assign [.Name y py] (.ListComp elt [⟨tg, iter, ifs, 0⟩] scope pos) spos) (sSet i (dLc I n C T (own.map (·.2)))) ∧ DS X W g (.Assign [.Name y py] (.ListComp elt [⟨tg, iter, ifs, 0⟩] scope pos) spos) (sSet i (dLcN I n C T (own.map (·.2)))) := by
  obtain ⟨⟨_, _, _⟩, _⟩ := de_lc (pos := pos) hc hN hi ok hb hv hs
  obtain ⟨w, p1, q1⟩ := hi
  obtain ⟨t1, t2, t3, b1, b2, b3, q2, q3, q4⟩ := hb.ex
  have P := ps_setLc (pos := pos) hc hN hy hyl hsw p1 ok b1 b2 b3 hs
  refine ⟨⟨_, P, rs_asg (fun F G ι σ H ρ μ Q E P r R L q k => ?_) (rg_name i)⟩, ⟨_, P, rs_asg (fun F G ι σ H ρ μ Q E P r R L q k => ?_) (rg_name i)⟩⟩
  · refine q1 F G ι σ H ρ μ _ _ _ r R L q fun G1 ι1 μ1 H1 J ds st e1 R1 It q => fun Dd hD => ?_
    refine lc_run It q.1 (r.mono e1) R1 hD hv q2 q3 q4 q.2 fun G' ι' H' μ' xs acc e R' va hz qa => ?_
    obtain ⟨R2, e2⟩ := R'.toFrozen (frame_none R1 hD)
    exact k _ _ μ' H' _ _ ((e1.trans e).trans e2) R2 (.lst upd_same (va.mono e2) hz) qa
  · refine q1 F G ι σ H ρ μ _ _ _ r R L q fun G1 ι1 μ1 H1 J ds st e1 R1 It q => fun Dd hD => ?_
    refine lc_run It q.1 (r.mono e1) R1 hD hv q2 q3 q4 q.2 fun G' ι' H' μ' xs acc e R' va hz qa => ?_
    obtain ⟨n, hn, e2, R2⟩ := R'.toCell (frame_none R1 hD) va hz
    exact k _ _ _ H' _ _ ((e1.trans e).trans e2) R2 (.ptr iset_same) (qa n hn)
theorem de_lc1 {elt tg iter : Expr} {ifs : List Expr} {scope : Scope} {own : List (Str × Nat)} {ws vs : List Nat} {pos : Pos} {I : TId} {n : D → Rho → Mu → (Rho → Mu → Prop) → Prop} {C : TB} {T : TD} (hc : X.calm = true) (hN : X.N.Nodup) (hi : DI X W g tg iter I) (ok : BlkOk X.N X.env.scope scope own)
    (hb : DBlk X g scope ws tg ifs elt n C T) (hvs : own.map (·.2) = vs) (hv : ∀ j ∈ ws, j ∈ vs) (hs : ∀ x, foldedSetIterable iter X.env x = pure x := by intro _; rfl) :
    DE X W g (.ListComp elt [⟨tg, iter, ifs, 0⟩] scope pos) (dLc I n C T vs) := by
  subst hvs
  exact (de_lc hc hN hi ok hb hv hs).1
theorem de_lcN {elt tg iter : Expr} {ifs : List Expr} {scope : Scope} {own : List (Str × Nat)} {ws vs : List Nat} {pos : Pos} {I : TId} {n : D → Rho → Mu → (Rho → Mu → Prop) → Prop} {C : TB} {T : TD} (hc : X.calm = true) (hN : X.N.Nodup) (hi : DI X W g tg iter I) (ok : BlkOk X.N X.env.scope scope own)
    (hb : DBlk X g scope ws tg ifs elt n C T) (hvs : own.map (·.2) = vs) (hv : ∀ j ∈ ws, j ∈ vs) (hs : ∀ x, foldedSetIterable iter X.env x = pure x := by intro _; rfl) :
    DE X W g (.ListComp elt [⟨tg, iter, ifs, 0⟩] scope pos) (dLcN I n C T vs) := by
  subst hvs
  exact (de_lc hc hN hi ok hb hv hs).2
theorem ds_setLc1 {i : Nat} {y : Str} {py spos : Pos} {elt tg iter : Expr} {ifs : List Expr} {scope : Scope} {own : List (Str × Nat)} {ws vs : List Nat} {pos : Pos} {I : TId} {n : D → Rho → Mu → (Rho → Mu → Prop) → Prop} {C : TB} {T : TD} (hc : X.calm = true) (hN : X.N.Nodup) (hy : X.N[i]? = some y) (hyl : X.env.scope.names.lookup y = some .local)
    (hsw : swapsWith (.ListComp elt [⟨tg, iter, ifs, 0⟩] scope pos) (some (.Name y py)) spos.line X.env = pure true) (hi : DI X W g tg iter I) (ok : BlkOk X.N X.env.scope scope own)
    (hb : DBlk X g scope ws tg ifs elt n C T) (hvs : own.map (·.2) = vs) (hv : ∀ j ∈ ws, j ∈ vs) (hs : ∀ x, foldedSetIterable iter X.env x = pure x := by intro _; rfl) :
    DS X W g (.Assign [.Name y py] (.ListComp elt [⟨tg, iter, ifs, 0⟩] scope pos) spos) (sSet i (dLc I n C T vs)) := by
  subst hvs
  exact (ds_setLc hc hN hy hyl hsw hi ok hb hv hs).1
theorem ds_setLcN {i : Nat} {y : Str} {py spos : Pos} {elt tg iter : Expr} {ifs : List Expr} {scope : Scope} {own : List (Str × Nat)} {ws vs : List Nat} {pos : Pos} {I : TId} {n : D → Rho → Mu → (Rho → Mu → Prop) → Prop} {C : TB} {T : TD} (hc : X.calm = true) (hN : X.N.Nodup) (hy : X.N[i]? = some y) (hyl : X.env.scope.names.lookup y = some .local)
    (hsw : swapsWith (.ListComp elt [⟨tg, iter, ifs, 0⟩] scope pos) (some (.Name y py)) spos.line X.env = pure true) (hi : DI X W g tg iter I) (ok : BlkOk X.N X.env.scope scope own)
    (hb : DBlk X g scope ws tg ifs elt n C T) (hvs : own.map (·.2) = vs) (hv : ∀ j ∈ ws, j ∈ vs) (hs : ∀ x, foldedSetIterable iter X.env x = pure x := by intro _; rfl) :
    DS X W g (.Assign [.Name y py] (.ListComp elt [⟨tg, iter, ifs, 0⟩] scope pos) spos) (sSet i (dLcN I n C T vs)) := by
  subst hvs
  exact (ds_setLc hc hN hy hyl hsw hi ok hb hv hs).2
end
end Y
namespace Y
open PySem PySem.Spec PyProof.Rows L2
def HotV (K : PySem.W.Frag) (c : Value) : Prop := ∃ n ∈ hotN, c = .ref (He.ga K n)
abbrev hotW (K : PySem.W.Frag) (W : WX) : WX := fun c d σ H => HotV K c ∧ W c d σ H
abbrev hotE (K : PySem.W.Frag) (E : XK) : XK := fun c d H => HotV K c ∧ E c d H
/-- an exception in our air -/
def XE (X : Cx) (W : WX) (u : Value) (s' : Shared) : Prop := L2N.XE X W u s' ∨ L2.XE X (hotW X.K W) u s'
def Takes (X : Cx) (W : WX) : Prop := ∀ u s', XE X W u s' → X.xe u s'
/-- behind a call that let one out -/
def CX (K : PySem.W.Frag) (P : Program) (w : World) : CXT := fun outer H s E u s' => L2N.CX P w outer H s E u s' ∨ L2.CX P w outer H s (hotE K E) u s'
section
variable {X : Cx} {W W' : WX} {E : XK} {pins : List (Addr × Obj)} {σ : L2.St} {H : Hp} {s s' : Shared} {u : Value}
theorem fly_weak {h B : Heap} {l : List Env} {a : Addr} {Z Z' : Obj → Prop} (z : ∀ o, Z o → Z' o) (x : HandSPX.FlyingZ B l a Z h) : HandSPX.FlyingZ B l a Z' h := by
  obtain ⟨x1, x2, x3, oe, vs, T, oT, ts, he, hz, r⟩ := x
  exact ⟨x1, x2, x3, oe, vs, T, oT, ts, he, z _ hz, r⟩
theorem sky_weak {h B : Heap} {l : List Env} {a L : Addr} {Z Z' : Obj → Prop} (z : ∀ o, Z o → Z' o) (x : Sky B l a Z L h) : Sky B l a Z' L h := by
  rcases x with ⟨q1, q2, q3, oe, vs, q4, q5, q6⟩ | x | ⟨q1, q2, q3, oe, vs, T, oT, ts, q4, q5, q6⟩
  · exact .inl ⟨q1, q2, q3, oe, vs, q4, z _ q5, q6⟩
  · exact .inr (.inl (fly_weak z x))
  · exact .inr (.inr ⟨q1, q2, q3, oe, vs, T, oT, ts, q4, z _ q5, q6⟩)
theorem cold_weak (x : L2N.XE X W u s') : L2.XE X W u s' := by
  obtain ⟨a, B, sI, pins, σ, H, cls, d, e, I, nb, up, sky, na, os, ag, w⟩ := x
  exact ⟨a, B, sI, pins, σ, H, cls, d, e, I, nb, up, sky_weak (fun o z => z.zc) sky, na, os, ag, w⟩
theorem XE.weak (x : XE X W u s') : L2.XE X W u s' := by
  rcases x with x | ⟨a, B, sI, pins, σ, H, cls, d, e, I, nb, up, sky, na, os, ag, w⟩
  · exact cold_weak x
  · exact ⟨a, B, sI, pins, σ, H, cls, d, e, I, nb, up, sky, na, os, ag, w.2⟩
/-- who takes all takes these -/
theorem Takes.all (t : L2.Takes X W) : Takes X W := fun u s' x => t u s' x.weak
theorem Takes.cold (t : Takes X W) : L2N.Takes X W := fun u s' x => t u s' (.inl x)
theorem Takes.hot (t : Takes X W) : L2.Takes X (hotW X.K W) := fun u s' x => t u s' (.inr x)
theorem XE.of_call (I : Inv X pins σ H s) (hW : ∀ cls d H', E cls d H' → W cls d σ H') (c : CX X.K X.prog X.w X.stack H s E u s') : XE X W u s' := c.elim
  (fun c => .inl (L2N.XE.of_call I hW c)) fun c => .inr (L2.XE.of_call I (fun cls d H' z => ⟨z.1, hW cls d H' z.2⟩) c)
theorem passAt (tk : Takes X W) (σ : L2.St) : PassesAt (CX X.K X.prog X.w) X σ (fun cls d H => W cls d σ H) := fun _ _ _ e s' I c => tk e s' (XE.of_call I (fun _ _ _ h => h) c)
theorem passes_call (tk : Takes X W) (hW : ∀ cls d σ H, E cls d H → W cls d σ H) : Passes (CX X.K X.prog X.w) X E := fun _ σ _ _ e s' I c => tk e s' (XE.of_call I (fun cls d H' h => hW cls d σ H' h) c)
theorem takes_of (hs : X.stack = X.env :: X.outer) (hf : X.env.frame = some X.env.locals) (hex : X.ex = []) {E₁ : Value → Shared → Prop}
    (hx : X.xe = fun e s' => wpAny (model X.prog X.w) X.A (leaving X.env e) (fun _ s'' => CX X.K X.prog X.w X.outer X.H_0 X.s_0 E e s'') E₁ s') : Takes X (fun cls d _ H => E cls d H) := fun u s' x => by
  rw [hx]
  rcases x with x | x
  · exact wpAny_mono (L2N.XE.leave (W := fun cls d _ H => E cls d H) (E := E) hs hf hex (fun _ _ _ _ h => h) x) (fun _ _ q => .inl q) fun _ _ q => q
  · exact wpAny_mono (L2.XE.leave (W := fun cls d _ H => hotE X.K E cls d H) (E := hotE X.K E) hs hf hex (fun _ _ _ _ h => h) x) (fun _ _ q => .inr q) fun _ _ q => q
theorem mk_endN {σ : L2.St} {H1 H2 : Hp} {Q : XK} {hp hp2 h2 : Heap} {g1 g2 : Array GenState} {d1 d2 : Drawn} {t1 t2 : Nat} {os1 os2 : OsState} {a C d : Addr} {fs : List (Str × V)} (T : Raises X (.ref C)) (I1 : Inv X pins σ H1 ⟨hp, g1, d1, t1, os1⟩) (ha : hp.objs.size ≤ a) (k : ∀ b o, hp.get? b = some o → hp2.get? b = some o)
    (un : Un (frs X.stack) [] (upd H1 a (exo a C none)) H2 hp2 h2) (hok : HOk X.prog X.w H2 h2) (ho : os2 = os1) (hb : AllBare g2) (ea : H2 a = some (exo a C (some d))) (ed : H2 d = some (exd d fs)) (hd1 : H1 d = none) (q : Q (.ref C) (some d) (upd (del H2 a) d (.xd fs))) : L2N.MkP X pins σ Q (.ref a) ⟨h2, g2, d2, t2, os2⟩ := by
  obtain ⟨t0, G, J, kG, ge, hoe, na⟩ := mk_end0 (d2 := d2) (t2 := t2) I1 ha k un hok ho hb ea ed hd1
  refine ⟨a, _, _, ⟨G, g2, d2, t2, os2⟩, _, .ref C, some d, rfl, J, kG, ge, hoe, ⟨rfl, rfl, fun vs z => ?_⟩, rfl, rfl, na, rfl, hb, T, q⟩
  cases z
  rfl
abbrev PMk (X : Cx) (e : Expr) (t : L2.St → Hp → XK → Prop) : Prop := L2N.PMk X e t
theorem ps_raise {e : Expr} {t : L2.St → Hp → XK → Prop} {pos : Pos} (hc : X.calm = true) (tk : Takes X W) (he : PMk X e t) : PS X (.Raise (some e) none pos) (fun _ σ H => t σ H fun cls d H' => W cls d σ H') := L2N.ps_raise hc tk.cold he
end
end Y
namespace Y
open PySem PySem.Spec PyProof.Rows L2
def cE (W : WX) (g : Ge) (T : TD) : TE := fun σ H P => ∃ F G ι ρ μ Q E, RhoRel g G ι σ ρ ∧ Rel g F G ι H μ ∧ XLift W g F G ι σ E ∧ T ρ μ Q E ∧
  ∀ G' ι' μ' H' v d, Ext G ι G' ι' → Rel g F G' ι' H' μ' → VD g G' ι' v d → Q d μ' → P v H'
def cB (W : WX) (g : Ge) (T : TB) : TT := fun σ H P => ∃ F G ι ρ μ Q E, RhoRel g G ι σ ρ ∧ Rel g F G ι H μ ∧ XLift W g F G ι σ E ∧ T ρ μ Q E ∧
  ∀ G' ι' μ' H' b, Ext G ι G' ι' → Rel g F G' ι' H' μ' → Q b μ' → P b H'
def cN (g : Ge) (ws : List Nat) (n : D → Rho → Mu → (Rho → Mu → Prop) → Prop) : TG := fun v σ H P => ∃ F G ι ρ μ d Q, RhoRel g G ι σ ρ ∧ Rel g F G ι H μ ∧ VD g G ι v d ∧ n d ρ μ Q ∧
  ∀ G' ι' σ' H' ρ' μ', Ext G ι G' ι' → Upto ws σ σ' → RhoRel g G' ι' σ' ρ' → Rel g F G' ι' H' μ' → Q ρ' μ' → P σ' H'
section
variable {X : Cx} {W : WX} {g : Ge}
theorem DE.can {e : Expr} {T : TD} (h : DE X W g e T) : PE X e (cE W g T) := by
  obtain ⟨t, a, b⟩ := h
  exact ⟨fun pins s σ H P I ⟨F, G, ι, ρ, μ, Q, E, r, R, L, q, k⟩ => a.run pins s σ H P I (b F G ι σ H ρ μ Q E P r R L q k)⟩
theorem rd_can {T : TD} : RdE W g (cE W g T) T := fun F G ι σ H ρ μ Q E P r R L q k => ⟨F, G, ι, ρ, μ, Q, E, r, R, L, q, k⟩
theorem DB.can {e : Expr} {T : TB} (h : DB X W g e T) : PT X e (cB W g T) := by
  obtain ⟨t, a, b⟩ := h
  exact ⟨fun pins s σ H P I ⟨F, G, ι, ρ, μ, Q, E, r, R, L, q, k⟩ => a.run pins s σ H P I (b F G ι σ H ρ μ Q E P r R L q k)⟩
theorem rb_can {T : TB} : RdB W g (cB W g T) T := fun F G ι σ H ρ μ Q E P r R L q k => ⟨F, G, ι, ρ, μ, Q, E, r, R, L, q, k⟩
theorem DGn.can {ws : List Nat} {tg : Expr} {n : D → Rho → Mu → (Rho → Mu → Prop) → Prop} (h : DGn X W g ws tg n) : PG X tg (cN g ws n) := by
  obtain ⟨t, a, b⟩ := h.ex
  exact ⟨fun pins s σ H v u P I rv ⟨F, G, ι, ρ, μ, d, Q, r, R, vd, q, k⟩ => a.run pins s σ H v u P I rv (b F G ι σ H ρ μ v d Q P r R vd q k)⟩
theorem blk0 {scope : Scope} {ws : List Nat} {tg elt : Expr} {n : D → Rho → Mu → (Rho → Mu → Prop) → Prop} {T : TD} (h1 : Blk X scope fun X' => DGn X' noW g ws tg n) (h3 : Blk X scope fun X' => DE X' noW g elt T) : DBlk X g scope ws tg [] elt n dYes T :=
  ⟨cN g ws n, tYes, cE noW g T, fun s H C cl fp => (h1 s H C cl fp).can, fun _ _ _ _ _ => pts_nil, fun s H C cl fp => (h3 s H C cl fp).can,
    fun F G ι σ H ρ μ v d Q P r R vd q k => ⟨F, G, ι, ρ, μ, d, Q, r, R, vd, q, k⟩, fun F G ι σ H ρ μ Q E P r R L q k => k G ι μ H true .refl R q, rd_can⟩
theorem blk1 {scope : Scope} {ws : List Nat} {tg c elt : Expr} {n : D → Rho → Mu → (Rho → Mu → Prop) → Prop} {C : TB} {T : TD} (h1 : Blk X scope fun X' => DGn X' noW g ws tg n) (h2 : Blk X scope fun X' => DB X' noW g c C) (h3 : Blk X scope fun X' => DE X' noW g elt T) : DBlk X g scope ws tg [c] elt n C T :=
  ⟨cN g ws n, cB noW g C, cE noW g T, fun s H C cl fp => (h1 s H C cl fp).can, fun s H C cl fp => pts_one (h2 s H C cl fp).can, fun s H C cl fp => (h3 s H C cl fp).can,
    fun F G ι σ H ρ μ v d Q P r R vd q k => ⟨F, G, ι, ρ, μ, d, Q, r, R, vd, q, k⟩, rb_can, rd_can⟩
end
abbrev DSp := List D → Mu → QD → XQ → Prop
/-- the layer's promise of a promise over data -/
def lift (g : Ge) (sp : DSp) : Sp := fun vs H Q E => ∃ F G ι μ ds Qd Ed, Rel g F G ι H μ ∧ VDs g G ι vs ds ∧ sp ds μ Qd Ed ∧
  (∀ G' ι' H' μ' v d, Ext G ι G' ι' → Rel g F G' ι' H' μ' → VD g G' ι' v d → Qd d μ' → Q v H') ∧
  ∀ G' ι' H' μ' cls dx x, Ext G ι G' ι' → Rel g F G' ι' H' μ' → XRel g G' ι' H' cls dx x → Ed x μ' → E cls dx H'
def startD (N : List Str) (ds : List D) : Rho := ds.map some ++ List.replicate (N.length - ds.length) none
theorem start_rel {g : Ge} {G : Hp} {ι : Io} {N : List Str} {vs : List V} {ds : List D} (h : VDs g G ι vs ds) : RhoRel g G ι (L2.start N vs) (startD N ds) := by
  refine ⟨by simp [L2.start, startD, h.length], fun i d e => ?_⟩
  rw [slot_get] at e
  unfold startD at e
  by_cases hi : i < ds.length
  · rw [List.getElem?_append_left (by simpa using hi), List.getElem?_map, List.getElem?_eq_getElem hi] at e
    have e : some ds[i] = some d := e
    cases e
    obtain ⟨v, hv, vd⟩ := h.get (List.getElem?_eq_getElem hi)
    refine ⟨v, ?_, vd⟩
    unfold L2.start
    rw [List.getElem?_append_left (by rw [List.length_map, h.length]; exact hi), List.getElem?_map, hv]
    rfl
  · rw [List.getElem?_append_right (by simpa using hi), List.getElem?_replicate] at e
    split at e <;> cases e
/-- what is wanted of a body: its end may tell of fewer cells -/
def bodyEnds (Q : QD) (E : XQ) : EndsD where
  nx := fun _ μ => ∃ μ', Sub μ' μ ∧ Q .non μ'
  rt := fun d μ => ∃ μ', Sub μ' μ ∧ Q d μ'
  bk := fun _ _ => False
  ct := fun _ _ => False
  ex := fun x _ μ => ∃ μ', Sub μ' μ ∧ E x μ'
/-- a promise holds of a body -/
def Keeps (N ps : List Str) (T : SD) (sp : DSp) : Prop := ∀ ds μ Q E, sp ds μ Q E → ds.length = ps.length ∧ T (bodyEnds Q E) (startD N ds) μ
/-- the exceptions' wish of a def -/
abbrev wE (E : XK) : WX := fun cls d _ H => E cls d H
section
variable {P : Program} {w : World} {K : PySem.W.Frag} {mg : Str → Option Value} {base : Heap}
theorem fn_data {f : Addr} {name qual : Str} {params : Arguments} {body : List Stmt} {scope : Scope} {dV kV doc pm cdv ct oc : Value} {an od : Option Addr} {osl : Array (Option Value)} {N ps : List Str} {k : Nat} {T : SD} {sp : DSp}
    (lk : K.lookup f = some ⟨oc, od, .func (PySem.W.fnOf name qual params body scope dV kV doc pm an cdv ct), osl⟩) (hcd : PySem.W.codeIn K cdv qual = true) (S : FnScope N ps scope)
    (hk : Keeps N ps T sp)
    (hb : ∀ (A : Around) (outer : List Env) (s : Shared) (H : Hp) (E : XK), Room k (A.deeper (envOfC qual scope s.heap.objs.size f cdv)) →
      DSs (cxOf (CX K P w) P w K mg base N qual scope f cdv A outer s H E) (wE E) ⟨K, mg, w⟩ body T) :
    FnOk P w K mg base (CX K P w) (k + 1) f (PySem.W.fnOf name qual params body scope dV kV doc pm an cdv ct) ps (lift ⟨K, mg, w⟩ sp) := by
  refine fn_of lk hcd S (fun vs H Q E ⟨F, G, ι, μ, ds, Qd, Ed, R, vd, h, _⟩ => vd.length.trans (hk ds μ Qd Ed h).1) fun A outer s H vs Q E hr hsp => ?_
  obtain ⟨F, G, ι, μ, ds, Qd, Ed, R, vd, h, hq, he⟩ := hsp
  obtain ⟨t, h1, h2⟩ := hb A outer s H E hr
  refine ⟨t, h1, h2 F G ι (L2.start N vs) H (startD N ds) μ (bodyEnds Qd Ed) _ (start_rel vd) R ⟨?_, ?_, ?_, ?_, ?_⟩ (hk ds μ Qd Ed h).2⟩
  · rintro G' ι' σ' H' ρ' μ' e r' R' ⟨μ2, s2, q⟩
    exact hq G' ι' H' μ2 .non .non e (R'.forget s2) .non q
  · rintro G' ι' H' μ' v d e R' v' ⟨μ2, s2, q⟩
    exact hq G' ι' H' μ2 v d e (R'.forget s2) v' q
  · exact fun _ _ _ _ _ _ _ _ _ z => z
  · exact fun _ _ _ _ _ _ _ _ _ z => z
  · rintro G' ι' σ' H' ρ' μ' cls dx x e r' R' xr ⟨μ2, s2, q⟩
    exact he G' ι' H' μ2 cls dx x e (R'.forget s2) xr q
end
section
variable {X : Cx} {W : WX}
/-- within a block nothing is raised -/
theorem takes_no (h : X.xe = fun _ _ => False) : Takes X noW := fun u s' x => by
  obtain ⟨a, B, sI, pins, σ, H, cls, d, _, _, _, _, _, _, _, _, z⟩ := x.weak
  exact z.elim
def dCall (sp : DSp) (dvs : List D) (U : TL) : TD := fun ρ μ Q E => U ρ μ (fun ds μ1 => sp (ds ++ dvs) μ1 Q E) E
theorem rd_call {g : Ge} {sp : DSp} {dvs : List V} {dds : List D} {u : TA} {U : TL} (hd : ∀ G ι, VDs g G ι dvs dds) (h : RdL W g u U) : RdE W g (tCallSD (lift g sp) dvs (fun σ cls d H => W cls d σ H) u) (dCall sp dds U) := fun F G ι σ H ρ μ Q E P r R L q k =>
  h F G ι σ H ρ μ _ E _ r R L q fun G1 ι1 μ1 H1 vs ds e1 R1 v1 q1 => ⟨F, G1, ι1, μ1, ds ++ dds, Q, E, R1, v1.append (hd G1 ι1), q1,
    fun G2 ι2 H2 μ2 v d e2 R2 v2 q2 => k G2 ι2 μ2 H2 v d (e1.trans e2) R2 v2 q2, fun G2 ι2 H2 μ2 cls dx x e2 R2 xr q2 => L G2 ι2 H2 μ2 cls dx x (e1.trans e2) R2 xr q2⟩
/-- a def that may be called by its name, with these defaults -/
structure CalD (P : Program) (w : World) (K : PySem.W.Frag) (mg : Str → Option Value) (base : Heap) (k : Nat) (x : Str) (sp : DSp) (dds : List D) : Prop where
  ex : ∃ (f : Addr) (fd : FuncData) (ps : List Str) (ds : List Value) (dvs : List V), FnOk P w K mg base (CX K P w) k f fd ps (lift ⟨K, mg, w⟩ sp) ∧ mg x = some (.ref f) ∧ PySem.W.keepIn K (.ref f) = true ∧ Binds K fd ps ds ∧ Vals dvs ds ∧ ∀ G ι, VDs ⟨K, mg, w⟩ G ι dvs dds
theorem de_call {k j : Nat} {x : Str} {sp : DSp} {dds : List D} {p pos : Pos} {e : Expr} {es : List Expr} {U : TL} (c : CalD X.prog X.w X.K X.mg X.base k x sp dds) (hr : Room j X.A) (tk : Takes X W) (ha : DA X W (gx X) (e :: es) U) (hk : k ≤ j := by decide) (hg : Gl X x := by rfl)
    (hdb : (x == ("__debug__" : Str)) = false := by decide) (he : starEach (e :: es) X.env = (false, eval e X.env) :: starEach es X.env := by rfl) (hpl : (backTo pos (starEach es X.env)).any (·.1) = false := by rfl) :
    DE X W (gx X) (.Call (.Name x p) (e :: es) [] pos) (dCall sp dds U) := by
  obtain ⟨f, fd, ps, ds, dvs, F, hm, kp, b, d, vd⟩ := c.ex
  obtain ⟨u, h1, h2⟩ := ha
  exact ⟨_, pe_callSD (E := fun σ cls d H => W cls d σ H) F (hr.mono hk) hg hm kp b d (fun σ => passAt tk σ) h1 hdb he hpl, rd_call vd h2⟩
end
end Y
namespace Y
open PySem PySem.Spec PyProof.Rows L2
section
variable {X : Cx} {W : WX} {g : Ge}
/-- f(e, ..), f a built-in function; a built-in type -/
theorem de_blt {x : Str} {id : String} {r : List V → Hp → VK → Prop} {f : Mu → List D → Option D} {p pos : Pos} {e : Expr} {es : List Expr} {U : TL} (hc : CallR X (.builtin id) r) (pr : PrimL g r f) (hm : X.mg x = none) (hv : bootBuiltins x = some (.builtin id)) (ha : DA X W g (e :: es) U) (hg : Gl X x := by rfl)
    (hn : x ≠ "__name__" := by decide) (hdb : (x == ("__debug__" : Str)) = false := by decide) (he : starEach (e :: es) X.env = (false, eval e X.env) :: starEach es X.env := by rfl) (hpl : (backTo pos (starEach es X.env)).any (·.1) = false := by rfl) :
    DE X W g (.Call (.Name x p) (e :: es) [] pos) (dCal f U) := by
  obtain ⟨u, h1, h2⟩ := ha
  exact ⟨_, pe_callB hc hg hm hv h1 hn hdb he hpl, rd_cb pr h2⟩
theorem de_tyc {x : Str} {T : String} {r : List V → Hp → VK → Prop} {f : Mu → List D → Option D} {p pos : Pos} {e : Expr} {es : List Expr} {U : TL} (hc : CallR X (.type T) r) (pr : PrimL g r f) (hm : X.mg x = none) (hv : bootBuiltins x = some (.type T)) (ha : DA X W g (e :: es) U) (hg : Gl X x := by rfl)
    (hn : x ≠ "__name__" := by decide) (hdb : (x == ("__debug__" : Str)) = false := by decide) (he : starEach (e :: es) X.env = (false, eval e X.env) :: starEach es X.env := by rfl) (hpl : (backTo pos (starEach es X.env)).any (·.1) = false := by rfl) :
    DE X W g (.Call (.Name x p) (e :: es) [] pos) (dCal f U) := by
  obtain ⟨u, h1, h2⟩ := ha
  exact ⟨_, pe_callTy hc hg hm hv h1 hn hdb he hpl, rd_cb pr h2⟩
/-- a built-in type as a value -/
theorem de_ty {x : Str} {T : String} {pos : Pos} (hm : X.mg x = none) (hv : bootBuiltins x = some (.type T)) (hg : Gl X x := by rfl) (hn : x ≠ "__name__" := by decide) (hd : (x == ("__debug__" : Str)) = false := by decide) : DE X W g (.Name x pos) (dC (.ty T)) :=
  ⟨_, pe_bltn (v := .ty T) hg hm hv rfl hn hd, rd_c fun _ _ => .ty T⟩
end
theorem CallR.or {X : Cx} {f : Value} {r r' : List V → Hp → VK → Prop} (h : CallR X f r) (h' : CallR X f r') : CallR X f (fun xs H Q => r xs H Q ∨ r' xs H Q) := by
  intro pins s σ H xs us Q I rx q
  rcases q with q | q
  · exact h pins s σ H xs us Q I rx q
  · exact h' pins s σ H xs us Q I rx q
section
variable {g : Ge}
theorem vds1 {G : Hp} {ι : Io} {xs : List V} {d : D} (h : VDs g G ι xs [d]) : ∃ x, xs = [x] ∧ VD g G ι x d := by
  cases h with
  | cons a r => cases r; exact ⟨_, rfl, a⟩
theorem vds2 {G : Hp} {ι : Io} {xs : List V} {d e : D} (h : VDs g G ι xs [d, e]) : ∃ x y, xs = [x, y] ∧ VD g G ι x d ∧ VD g G ι y e := by
  cases h with
  | cons a r =>
    obtain ⟨y, rfl, b⟩ := vds1 r
    exact ⟨_, _, rfl, a, b⟩
def lenD (μ : Mu) : List D → Option D
  | [.str z] => if fits z.length then some (.int (z.length : Nat)) else none
  | [d] => (asQ μ d).map fun ds => .int (ds.length : Nat)
  | _ => none
theorem prim_len : PrimL g (fun xs H Q => ∃ x n, xs = [x] ∧ LenV g.K x H n ∧ Q (.int n) H) lenD := by
  intro F G ι H μ xs ds z P R hx h k
  unfold lenD at h
  split at h
  · split at h
    · rename_i hf
      cases h
      obtain ⟨x, rfl, hx'⟩ := vds1 hx
      cases hx'
      exact ⟨_, _, rfl, ⟨fits_le.mp hf, rfl⟩, k _ _ _ .refl R (.int _)⟩
    · cases h
  · rename_i d _
    obtain ⟨ds, h1, rfl⟩ := Option.map_eq_some_iff.mp h
    obtain ⟨x, rfl, hx'⟩ := vds1 hx
    obtain ⟨a, ys, rfl, h3, h4⟩ := asQ_ok R hx' h1
    refine ⟨_, ys.length, rfl, ?_, ?_⟩
    · rcases h3 with h3 | h3
      · exact .inl ⟨ys, h3, rfl⟩
      · exact .inr ⟨ys, h3, rfl⟩
    · rw [h4.length]
      exact k _ _ _ .refl R (.int _)
  · cases h
def boolsD : List D → Option (List Bool)
  | [] => some []
  | .bl b :: r => (boolsD r).map (b :: ·)
  | _ => none
def intsD : List D → Option (List Int)
  | [] => some []
  | .int i :: r => (intsD r).map (i :: ·)
  | _ => none
theorem bools_ok {G : Hp} {ι : Io} : ∀ {xs : List V} {ds : List D} {bs : List Bool}, VDs g G ι xs ds → boolsD ds = some bs → xs = bs.map V.bl
  | _, _, _, .nil, e => by cases e; rfl
  | _, _, _, .cons h r, e => by
    cases h <;> try cases e
    obtain ⟨bs, h1, rfl⟩ := Option.map_eq_some_iff.mp e
    rw [bools_ok r h1]
    rfl
theorem ints_ok {G : Hp} {ι : Io} : ∀ {xs : List V} {ds : List D} {bs : List Int}, VDs g G ι xs ds → intsD ds = some bs → xs = bs.map V.int
  | _, _, _, .nil, e => by cases e; rfl
  | _, _, _, .cons h r, e => by
    cases h <;> try cases e
    obtain ⟨bs, h1, rfl⟩ := Option.map_eq_some_iff.mp e
    rw [ints_ok r h1]
    rfl
def allD (μ : Mu) : List D → Option D
  | [d] => (asL μ d).bind fun ds => (boolsD ds).map fun bs => .bl (bs.all id)
  | _ => none
def anyD (μ : Mu) : List D → Option D
  | [d] => (asL μ d).bind fun ds => (boolsD ds).map fun bs => .bl (bs.any id)
  | _ => none
def sumD (μ : Mu) : List D → Option D
  | [d] => (asL μ d).bind fun ds => (intsD ds).map fun ns => .int ns.sum
  | _ => none
theorem prim_all : PrimL g (rAll g.K) allD := by
  intro F G ι H μ xs ds z P R hx h k
  unfold allD at h
  split at h
  · obtain ⟨ds, h1, h2⟩ := Option.bind_eq_some_iff.mp h
    obtain ⟨bs, h3, rfl⟩ := Option.map_eq_some_iff.mp h2
    obtain ⟨x, rfl, hx'⟩ := vds1 hx
    obtain ⟨a, ys, rfl, h4, h5, _⟩ := asL_ok R hx' h1
    have e := bools_ok h5 h3
    subst e
    exact ⟨a, bs, rfl, .of h4, k _ _ _ .refl R (.bl _)⟩
  · cases h
theorem prim_any : PrimL g (rAny g.K) anyD := by
  intro F G ι H μ xs ds z P R hx h k
  unfold anyD at h
  split at h
  · obtain ⟨ds, h1, h2⟩ := Option.bind_eq_some_iff.mp h
    obtain ⟨bs, h3, rfl⟩ := Option.map_eq_some_iff.mp h2
    obtain ⟨x, rfl, hx'⟩ := vds1 hx
    obtain ⟨a, ys, rfl, h4, h5, _⟩ := asL_ok R hx' h1
    have e := bools_ok h5 h3
    subst e
    exact ⟨a, bs, rfl, .of h4, k _ _ _ .refl R (.bl _)⟩
  · cases h
theorem prim_sum : PrimL g (rSum g.K) sumD := by
  intro F G ι H μ xs ds z P R hx h k
  unfold sumD at h
  split at h
  · obtain ⟨ds, h1, h2⟩ := Option.bind_eq_some_iff.mp h
    obtain ⟨bs, h3, rfl⟩ := Option.map_eq_some_iff.mp h2
    obtain ⟨x, rfl, hx'⟩ := vds1 hx
    obtain ⟨a, ys, rfl, h4, h5, _⟩ := asL_ok R hx' h1
    have e := ints_ok h5 h3
    subst e
    exact ⟨a, bs, rfl, .of h4, k _ _ _ .refl R (.int _)⟩
  · cases h
def tupleD (μ : Mu) : List D → Option D
  | [d] => (asQ μ d).bind fun ds => if fits ds.length then some (.tup ds) else none
  | _ => none
def listD (μ : Mu) : List D → Option D
  | [d] => (asQ μ d).bind fun ds => if fits ds.length then some (.lst ds) else none
  | _ => none
theorem call_tupN {X : Cx} : CallR X (.type "tuple") (fun xs H Q => ∃ p ys, xs = [.ref p] ∧ ((SqL X.K H p ys ∧ newT H ys Q) ∨ (SqT X.K H p ys ∧ Q (.ref p) H))) := by
  rintro pins s σ H xs us Q I r ⟨p, ys, rfl, ⟨hq, q⟩ | ⟨hq, q⟩⟩
  · obtain ⟨u, rfl, rx⟩ := vals1 r
    cases rx
    obtain ⟨ws, rw_, pl, hz⟩ := I.list hq
    have hl := rw_.length
    refine call_tuple_list pl.isList (fun h' kp => ?_) (by simp only [List.size_toArray] <;> omega)
    exact new_tup (s := { s with heap := h' }) (I.kept (t' := s.toks) kp) rw_ hz q
  · exact call_tuple_of pins s σ H _ us Q I r ⟨p, ys, rfl, .inr ⟨hq, q⟩⟩
theorem prim_tuple : PrimL g (fun xs H Q => ∃ p ys, xs = [.ref p] ∧ ((SqL g.K H p ys ∧ newT H ys Q) ∨ (SqT g.K H p ys ∧ Q (.ref p) H))) tupleD := by
  intro F G ι H μ xs ds z P R hx h k
  unfold tupleD at h
  split at h
  · rename_i d
    obtain ⟨ds, h1, h2⟩ := Option.bind_eq_some_iff.mp h
    split at h2
    · rename_i hf
      cases h2
      obtain ⟨x, rfl, hx'⟩ := vds1 hx
      have hf := fits_le.mp hf
      cases hx' with
      | tup a1 a2 a3 =>
        cases h1
        exact ⟨_, _, rfl, .inr ⟨sqT_mono R.same a1, k _ _ _ .refl R (.tup a1 a2 a3)⟩⟩
      | lst a1 a2 a3 =>
        cases h1
        refine ⟨_, _, rfl, .inl ⟨.of (R.same _ _ a1), fun l ob hl hd => ?_⟩⟩
        obtain ⟨R2, e2, v2⟩ := R.newTup hl hd a2 a3
        exact k _ _ _ e2 R2 v2
      | scr a1 a3 =>
        cases h1
        refine ⟨_, _, rfl, .inl ⟨sqL_mono R.same a1, fun l ob hl hd => ?_⟩⟩
        obtain ⟨R2, e2, v2⟩ := R.newTup hl hd (.ints _) (by simpa using hf)
        exact k _ _ _ e2 R2 v2
      | @ptr a n hp =>
        have h1 : (match μ n with | some (.lst ds) => some ds | _ => none) = some ds := h1
        split at h1 <;> try cases h1
        rename_i em
        obtain ⟨a', ys, ea, hn, h3, h4, h5⟩ := ptr_lst R (.ptr hp) em
        cases ea
        refine ⟨_, _, rfl, .inl ⟨.of h3, fun l ob hl hd => ?_⟩⟩
        obtain ⟨R2, e2, v2⟩ := R.newTup hl hd h4 h5
        exact k _ _ _ e2 R2 v2
      | _ => cases h1
    · cases h2
  · cases h
abbrev rList (K : PySem.W.Frag) : List V → Hp → VK → Prop := fun xs H Q => ∃ p ys, xs = [.ref p] ∧ (SqL K H p ys ∨ SqT K H p ys) ∧ ∀ l, H l = none → Q (.ref l) (upd H l (.lst ys))
theorem prim_list : PrimL g (rList g.K) listD := by
  intro F G ι H μ xs ds z P R hx h k
  unfold listD at h
  split at h
  · obtain ⟨ds, h1, h2⟩ := Option.bind_eq_some_iff.mp h
    split at h2
    · rename_i hf
      cases h2
      obtain ⟨x, rfl, hx'⟩ := vds1 hx
      obtain ⟨a, ys, rfl, h3, h4⟩ := asQ_ok R hx' h1
      refine ⟨a, ys, rfl, h3, fun l hl => ?_⟩
      obtain ⟨R2, e2⟩ := R.frozen (o := .lst ys) hl
      exact k _ _ _ e2 R2 (.lst upd_same (h4.mono e2) (by rw [h4.length]; exact fits_le.mp hf))
    · cases h2
  · cases h
/-- list(x), to be changed -/
def dListN (U : TL) : TD := fun ρ μ Q E => U ρ μ (fun xs μ1 => match xs with | [d] => opQ (asQ μ1 d) fun ds => fits ds.length = true ∧ newQ μ1 (.lst ds) Q | _ => False) E
inductive Ty where
  | none | bool | int | str | tuple | list | dict
  deriving DecidableEq
def tyD (μ : Mu) : D → Option Ty
  | .non => some .none
  | .bl _ => some .bool
  | .int _ => some .int
  | .str _ => some .str
  | .tup _ => some .tuple
  | .lst _ => some .list
  | .ptr n => match μ n with | some (.lst _) => some .list | some (.dk _) => some .dict | _ => none
  | _ => none
def Ty.nm : Ty → String
  | .none => "NoneType" | .bool => "bool" | .int => "int" | .str => "str" | .tuple => "tuple" | .list => "list" | .dict => "dict"
def clsTy (n : String) : Option Ty := if n = "int" then some .int else if n = "bool" then some .bool else if n = "str" then some .str else if n = "tuple" then some .tuple else if n = "list" then some .list else if n = "dict" then some .dict else none
def isiT : Ty → Ty → Bool
  | .bool, .int => true
  | a, b => decide (a = b)
theorem clsTy_nm {n : String} {t : Ty} (h : clsTy n = some t) : n = t.nm := by
  unfold clsTy at h
  repeat' split at h
  all_goals first | (cases h; assumption) | cases h
theorem kit_tab (a b : Ty) (h : b ≠ .none) : kitB a.nm b.nm = some (isiT a b) := by
  revert h
  cases a <;> cases b <;> first | (intro h; exact absurd rfl h) | (intro _; decide +kernel)
def isiD (μ : Mu) : List D → Option D
  | [d, .ty n] => (tyD μ d).bind fun a => (clsTy n).bind fun b => if b = .none then none else some (.bl (isiT a b))
  | _ => none
theorem ty_ok {F G H : Hp} {ι : Io} {μ : Mu} (R : Rel g F G ι H μ) {x : V} {d : D} {t : Ty} (hx : VD g G ι x d) (h : tyD μ d = some t) : TyX g.K H x (.type t.nm) := by
  cases hx with
  | non => cases h; exact .base .non
  | bl b => cases h; exact .base (.bl b)
  | int i => cases h; exact .base (.int i)
  | str z => cases h; exact .base (.str z)
  | tup a1 a2 a3 =>
    cases h
    rcases sqT_mono R.same a1 with (e | ⟨o, e⟩) | ⟨o, its, n, e, c, _⟩
    · exact .base (.tup e)
    · exact .fTuple e
    · exact .kTuple e c
  | lst a1 a2 a3 => cases h; exact .base (.lst (R.same _ _ a1))
  | @ptr a n hp =>
    have h : (match μ n with | some (.lst _) => some Ty.list | some (.dk _) => some .dict | _ => none) = some t := h
    split at h
    · rename_i em
      cases h
      obtain ⟨a', xs, ea, hn, h3, _⟩ := ptr_lst R (.ptr hp) em
      cases ea
      exact .base (.lst h3)
    · rename_i kvs em
      cases h
      obtain ⟨b, h1, h2, ys, h3, h4⟩ := R.cell n _ em
      rw [hp] at h1; cases h1
      exact .base (.dK h3)
    · cases h
  | _ => cases h
theorem prim_isi : PrimL g (rIsi g.K) isiD := by
  intro F G ι H μ xs ds z P R hx h k
  unfold isiD at h
  split at h
  · obtain ⟨a, h1, h2⟩ := Option.bind_eq_some_iff.mp h
    obtain ⟨b, h3, h4⟩ := Option.bind_eq_some_iff.mp h2
    split at h4
    · cases h4
    · rename_i hb
      cases h4
      obtain ⟨x, y, rfl, hx', hy⟩ := vds2 hx
      cases hy
      have en := clsTy_nm h3
      subst en
      exact ⟨x, _, _, _, _, rfl, .ty _, ty_ok R hx' h1, kit_ty (kit_tab a b hb), k _ _ _ .refl R (.bl _)⟩
  · cases h
end
def dAppend (To : TD) (U : TL) : TD := fun ρ μ Q E => To ρ μ (fun o μ1 => match o with
  | .ptr n => (∃ ds, μ1 n = some (.lst ds)) ∧ U ρ μ1 (fun xs μ2 => match xs, μ2 n with
    | [d], some (.lst ds) => fits (ds.length + 1) = true ∧ Q .non (mset μ2 n (.lst (ds ++ [d])))
    | _, _ => False) E
  | _ => False) E
theorem de_append {X : Cx} {W : WX} {o e : Expr} {apos cpos : Pos} {To : TD} {U : TL} (ho : DE X W (gx X) o To) (ha : DA X W (gx X) [e] U)
    (hbase : attributeBase o "append" X.env (eval o X.env) = eval o X.env := by rfl)
    (hfew : ((backTo cpos (starEach [e] X.env)).all (fun x => !x.1) && (backToKw cpos (keywordEach [] X.env)).all (fun x => x.1.isSome)
      && decide ([e].length + ([] : List Keyword).length + (if ([] : List Keyword).isEmpty then 0 else 1) < 30)) = true := by rfl)
    (hline : (apos.endLine == cpos.line) = true := by rfl) (hs : starEach [e] X.env = (false, eval e X.env) :: starEach [] X.env := by rfl) (hplain : (backTo cpos (starEach [] X.env)).any (·.1) = false := by rfl) :
    DE X W (gx X) (.Call (.Attribute o "append" apos) [e] [] cpos) (dAppend To U) := by
  obtain ⟨t, h1, h2⟩ := ho
  obtain ⟨u, h3, h4⟩ := ha
  refine ⟨_, pe_bm PySem.F.plainAttrs_list PySem.F.slot_list_append PySem.F.type_list_append mt_append h1 h3 hbase hfew hline hs hplain, fun F G ι σ H ρ μ Q E P r R L q k => ?_⟩
  refine h2 F G ι σ H ρ μ _ E _ r R L q fun G1 ι1 μ1 H1 v d e1 R1 v1 q1 => ?_
  cases v1 with
  | @ptr a n hp =>
    obtain ⟨⟨ds, em⟩, q1⟩ := q1
    obtain ⟨a', xs, ea, hn, h5, h6, _⟩ := ptr_lst R1 (.ptr hp) em
    cases ea
    refine ⟨.inl ⟨rfl, xs, .of h5⟩, h4 F G1 ι1 σ H1 ρ μ1 _ E _ (r.mono e1) R1 (L.mono e1) q1 fun G2 ι2 μ2 H2 vs es e2 R2 v2 q2 => ?_⟩
    split at q2
    · rename_i d' ds' em2
      obtain ⟨x, rfl, vx⟩ := vds1 v2
      obtain ⟨a', ys, ea, hn2, h7, h8, h9⟩ := ptr_lst R2 (.ptr (e2.i n a hp)) em2
      cases ea
      have hz : ys.length + 1 ≤ sizeLine := by
        rw [h8.length]
        exact fits_le.mp q2.1
      refine ⟨_, ys, x, rfl, rfl, h7, hz, ?_⟩
      have R3 := R2.write (o' := .lst (ds' ++ [d'])) (u' := .lst (ys ++ [x])) em2 hn2 h7 trivial ⟨ys ++ [x], upd_same, h8.append (.cons vx .nil), by rw [List.length_append]; exact hz⟩
      exact k G2 ι2 _ _ .non .non (e1.trans e2) R3 .non q2.2
    · exact q2.elim
  | _ => exact q1.elim
end Y
namespace Y
open PySem PySem.Spec PyProof.Rows L2
def truD (μ : Mu) : D → Option Bool
  | .non => some false
  | .bl b => some b
  | .int i => some (i != 0)
  | .str z => if fits z.length then some ((z.length : Int) != 0) else none
  | .ptr n => match μ n with | some (.lst ds) => some (!ds.isEmpty) | some (.dk kvs) => some (!kvs.isEmpty) | _ => none
  | d => (asQ μ d).map fun ds => !ds.isEmpty
def dTru (T : TD) : TB := fun ρ μ Q E => T ρ μ (fun x μ1 => opQ (truD μ1 x) fun b => Q b μ1) E
theorem isEmpty_vds {g : Ge} {G : Hp} {ι : Io} {xs : List V} {ds : List D} (h : VDs g G ι xs ds) : xs.isEmpty = ds.isEmpty := by
  cases h <;> rfl
theorem tru_ok {g : Ge} {F G H : Hp} {ι : Io} {μ : Mu} (R : Rel g F G ι H μ) {x : V} {d : D} {b : Bool} (hx : VD g G ι x d) (h : truD μ d = some b) : TruV g.K x H b := by
  cases hx with
  | non => cases h; rfl
  | bl b => cases h; rfl
  | int i => cases h; rfl
  | str z =>
    have h : (if fits z.length then some ((z.length : Int) != 0) else none) = some b := h
    split at h
    · rename_i hf
      cases h
      exact ⟨fits_le.mp hf, rfl⟩
    · cases h
  | tup a1 a2 a3 =>
    cases h
    exact .inr (.inl ⟨_, sqT_mono R.same a1, by rw [isEmpty_vds a2]⟩)
  | lst a1 a2 a3 =>
    cases h
    exact .inl ⟨_, .of (R.same _ _ a1), by rw [isEmpty_vds a2]⟩
  | scr a1 a3 =>
    cases h
    exact .inl ⟨_, sqL_mono R.same a1, by rw [isEmpty_vds (g := g) (G := G) (ι := ι) (.ints _)]⟩
  | @ptr a n hp =>
    have h : (match μ n with | some (.lst ds) => some (!ds.isEmpty) | some (.dk kvs) => some (!kvs.isEmpty) | _ => none) = some b := h
    split at h
    · rename_i ds em
      cases h
      obtain ⟨a', xs, ea, hn, h3, h4, _⟩ := ptr_lst R (.ptr hp) em
      cases ea
      exact .inl ⟨xs, .of h3, by rw [isEmpty_vds h4]⟩
    · rename_i kvs em
      cases h
      obtain ⟨b, h1, h2, ys, h3, h4⟩ := R.cell n _ em
      rw [hp] at h1; cases h1
      refine .inr (.inr ⟨ys, h3, ?_⟩)
      cases h4 <;> rfl
    · cases h
  | _ => cases h
theorem db_tru {X : Cx} {W : WX} {e : Expr} {T : TD} (h : DE X W (gx X) e T) (he : ∀ whole, isTrue e X.env whole = (do let v ← whole; standAt e.pos; PySem.holding [v] (truthy v)) := by intro _; rfl) : DB X W (gx X) e (dTru T) := by
  obtain ⟨t, h1, h2⟩ := h
  refine ⟨_, pt_truth h1 he, fun F G ι σ H ρ μ Q E P r R L q k => h2 F G ι σ H ρ μ _ E _ r R L q fun G1 ι1 μ1 H1 v d e1 R1 v1 q1 => ?_⟩
  obtain ⟨b, hb, q1⟩ := opQ_get q1
  exact ⟨b, tru_ok R1 v1 hb, k G1 ι1 μ1 H1 b e1 R1 q1⟩
def dSl (T : TD) (L U : TOp) : TD := fun ρ μ Q E => T ρ μ (fun x μ1 => L ρ μ1 (fun lo μ2 => U ρ μ2 (fun hi μ3 => opQ (slD μ3 x lo hi) fun z => Q z μ3) E) E) E
theorem de_slice {X : Cx} {W : WX} {e : Expr} {lo hi : Option Expr} {p2 pos : Pos} {T : TD} {L U : TOp} (h1 : DE X W (gx X) e T) (h2 : DO X W (gx X) lo L) (h3 : DO X W (gx X) hi U) : DE X W (gx X) (.Subscript e (.Slice lo hi none p2) pos) (dSl T L U) := by
  obtain ⟨t, a, b⟩ := h1
  obtain ⟨u, c, d⟩ := h2
  obtain ⟨v, i, j⟩ := h3
  refine ⟨_, pe_slice sl_any a c i, fun F G ι σ H ρ μ Q E P r R L q k => b F G ι σ H ρ μ _ E _ r R L q fun G1 ι1 μ1 H1 v d' e1 R1 v1 q1 => d F G1 ι1 σ H1 ρ μ1 _ E _ (r.mono e1) R1 (L.mono e1) q1 fun G2 ι2 μ2 H2 lo e2 R2 q2 =>
    j F G2 ι2 σ H2 ρ μ2 _ E _ (r.mono (e1.trans e2)) R2 (L.mono (e1.trans e2)) q2 fun G3 ι3 μ3 H3 hi e3 R3 q3 => ?_⟩
  obtain ⟨z, hz, qz⟩ := opQ_get q3
  exact prim_sl F G3 ι3 H3 μ3 v d' lo hi z P R3 ((v1.mono e2).mono e3) hz fun G4 H4 v4 e4 R4 k4 => k G4 ι3 μ3 H4 v4 z (((e1.trans e2).trans e3).trans e4) R4 k4 qz
theorem de_glob {X : Cx} {W : WX} {g : Ge} {x : Str} {i : Int} {t : Tok} {pos : Pos} (hm : X.mg x = some (.int i t)) (hg : Gl X x := by rfl) (hd : (x == ("__debug__" : Str)) = false := by decide) : DE X W g (.Name x pos) (dC (.int i)) :=
  ⟨_, ⟨fun _ _ _ H _ I h => ld_glob I hg hm ⟨.int i, H, I, ⟨_, rfl⟩, h⟩ hd⟩, rd_c fun _ _ => .int i⟩
theorem fn_law {P : Program} {w : World} {K : PySem.W.Frag} {mg : Str → Option Value} {base : Heap} {k : Nat} {f : Addr} {fd : FuncData} {ps : List Str} {sp : DSp} (F : FnOk P w K mg base (CX K P w) k f fd ps (lift ⟨K, mg, w⟩ sp)) :
    FnOk P w K mg base CX0 k f fd ps (fun vs H Q _ => lift ⟨K, mg, w⟩ sp vs H Q fun _ _ _ => False) := by
  refine ⟨fun vs H Q _ h => F.len vs H Q _ h, fun A outer s H args us vs Q E hr e0 hb hv hs => ?_⟩
  refine codeAny_mono (F.run A outer s H args us vs Q (fun _ _ _ => False) hr e0 hb hv hs) fun r s' hq => ?_
  cases r with
  | ok fl => cases fl <;> exact hq
  | error e =>
    rcases hq with ⟨a, B, H', cls, d, _, _, _, _, _, _, _, z⟩ | ⟨a, B, H', cls, d, _, _, _, _, _, _, _, _, z⟩ <;> exact z.elim
/-- all but tables and tuples -/
def keepB : HO → Bool
  | .tbl _ => false
  | .tup _ => false
  | .frz _ (.tup _) => false
  | _ => true
def noT (H : Hp) : Hp := fun a => match H a with | some o => if keepB o then some o else none | none => none
theorem noT_some {H : Hp} {a : Addr} {o : HO} (h : noT H a = some o) : H a = some o ∧ (∀ ps, o ≠ .tbl ps) ∧ tupOk o := by
  unfold noT at h
  split at h
  · rename_i u q
    split at h
    · rename_i hk
      cases h
      have n1 : ∀ ps, o ≠ .tbl ps := fun ps z => by rw [z] at hk; cases hk
      refine ⟨q, n1, ?_⟩
      cases o with
      | tup xs => cases hk
      | frz ob u =>
        cases u with
        | tup xs => cases hk
        | _ => trivial
      | _ => trivial
    · cases h
  · cases h
theorem noT_of {H : Hp} {a : Addr} {o : HO} (h : H a = some o) (ho : keepB o = true) : noT H a = some o := by
  unfold noT
  rw [h]
  exact if_pos ho
theorem noT_sq {K : PySem.W.Frag} {H : Hp} {a : Addr} {xs : List V} (h : SqL K H a xs) : SqL K (noT H) a xs := by
  rcases h with h | h
  · rcases h with h | ⟨o, h⟩
    · exact .inl (.inl (noT_of h rfl))
    · exact .inl (.inr ⟨o, noT_of h rfl⟩)
  · exact .inr h
/-- the script at the start -/
theorem law_start {K : PySem.W.Frag} {mg : Str → Option Value} {sp : DSp} {H : Hp} {a : Addr} {ns : List Int} (hl : ns.length ≤ 1000) (h : SqL K H a (ns.map V.int)) (ht : LamX.Tabs (lamT K) H) (hs : sp [.scr ns] (fun _ => none) (fun d _ => d = .bl true) (fun _ _ => False)) :
    lift ⟨K, mg, w⟩ sp [.ref a] H (fun v _ => v = .bl true) (fun _ _ _ => False) := by
  have R : Rel ⟨K, mg, w⟩ (fun _ => none) (noT H) (fun _ => none) H (fun _ => none) := ⟨fun _ _ e => (by cases e), fun _ _ e => (by cases e), fun _ _ e => (noT_some e).1, fun _ _ e => (by cases e), fun _ _ _ _ _ e => (by cases e), ⟨0, fun _ _ => rfl⟩, ⟨ht, fun _ _ e => (by cases e), fun _ ps e => (noT_some e).2.1 ps rfl, fun _ _ e => (noT_some e).2.2⟩⟩
  refine ⟨fun _ => none, noT H, fun _ => none, fun _ => none, [.scr ns], _, _, R, .cons (.scr (noT_sq h) hl) .nil, hs, fun G' ι' H' μ' v d e R' v' q => ?_, fun _ _ _ _ _ _ _ _ _ _ z => z⟩
  subst q
  cases v'
  rfl
end Y
namespace Y
open PySem PySem.Spec PyProof.Rows L2
section
variable {P : Program} {w : World} {K : PySem.W.Frag} {mg : Str → Option Value} {base : Heap} {N : List Str} {qual : Str} {scope : Scope} {f : Addr} {cdv : Value} {A : Around} {outer : List Env} {s : Shared} {H : Hp} {E : XK}
theorem tk_of : Takes (cxOf (CX K P w) P w K mg base N qual scope f cdv A outer s H E) (wE E) := takes_of rfl rfl rfl rfl
theorem hp_of : PassesOwn (model P w) (cxOf (CX K P w) P w K mg base N qual scope f cdv A outer s H E).A (cxOf (CX K P w) P w K mg base N qual scope f cdv A outer s H E).env (cxOf (CX K P w) P w K mg base N qual scope f cdv A outer s H E).xe :=
  passes_of (X := cxOf (CX K P w) P w K mg base N qual scope f cdv A outer s H E) rfl
end
end Y
namespace Y
open PySem PySem.Spec PyProof.Rows L2
def onBl : D → (Bool → Prop) → Prop
  | .bl b, K => K b
  | _, _ => False
def onInt : D → (Int → Prop) → Prop
  | .int i, K => K i
  | _, _ => False
def onPtr : D → (Nat → Prop) → Prop
  | .ptr n, K => K n
  | _, _ => False
def onTup : D → (List D → Prop) → Prop
  | .tup ds, K => K ds
  | _, _ => False
def on1 : List D → (D → Prop) → Prop
  | [d], K => K d
  | _, _ => False
def on2 : List D → (D → D → Prop) → Prop
  | [d, e], K => K d e
  | _, _ => False
def cellL : Option MO → Option (List D)
  | some (.lst ds) => some ds
  | _ => none
theorem y_cell {ds : List D} : cellL (some (.lst ds)) = some ds := rfl
theorem ifD {p : Prop} [Decidable p] {A B : Prop} (h1 : p → A) (h2 : ¬ p → B) : ifB (decide p) A B := by
  by_cases h : p
  · rw [decide_eq_true h]; exact h1 h
  · rw [decide_eq_false h]; exact h2 h
theorem y_var {ρ : Rho} {μ : Mu} {Q : QD} {E : XQ} {i : Nat} : dVar i ρ μ Q E = opQ (slot ρ i) fun d => Q d μ := rfl
theorem y_c {ρ : Rho} {μ : Mu} {Q : QD} {E : XQ} {d : D} : dC d ρ μ Q E = Q d μ := rfl
theorem y_nil {ρ : Rho} {μ : Mu} {Q : List D → Mu → Prop} {E : XQ} : dNil ρ μ Q E = Q [] μ := rfl
theorem y_cons {ρ : Rho} {μ : Mu} {Q : List D → Mu → Prop} {E : XQ} {T : TD} {U : TL} : dCons T U ρ μ Q E = T ρ μ (fun x μ1 => U ρ μ1 (fun xs μ2 => Q (x :: xs) μ2) E) E := rfl
theorem y_tup {ρ : Rho} {μ : Mu} {Q : QD} {E : XQ} {U : TL} : dTup U ρ μ Q E = U ρ μ (fun ds μ1 => ds.length ≤ sizeLine ∧ Q (.tup ds) μ1) E := rfl
theorem y_lst {ρ : Rho} {μ : Mu} {Q : QD} {E : XQ} {U : TL} : dLst U ρ μ Q E = U ρ μ (fun ds μ1 => ds.length ≤ sizeLine ∧ Q (.lst ds) μ1) E := rfl
theorem y_new {ρ : Rho} {μ : Mu} {Q : QD} {E : XQ} {U : TL} : dNew U ρ μ Q E = U ρ μ (fun ds μ1 => ds.length ≤ sizeLine ∧ newQ μ1 (.lst ds) Q) E := rfl
theorem y_op {ρ : Rho} {μ : Mu} {Q : QD} {E : XQ} {f : Mu → D → D → Option D} {Ta Tb : TD} : dOp f Ta Tb ρ μ Q E = Ta ρ μ (fun x μ1 => Tb ρ μ1 (fun y μ2 => opQ (f μ2 x y) fun z => Q z μ2) E) E := rfl
theorem y_un {ρ : Rho} {μ : Mu} {Q : QD} {E : XQ} {f : Mu → D → Option D} {Ta : TD} : dUn f Ta ρ μ Q E = Ta ρ μ (fun x μ1 => opQ (f μ1 x) fun z => Q z μ1) E := rfl
theorem y_cal {ρ : Rho} {μ : Mu} {Q : QD} {E : XQ} {f : Mu → List D → Option D} {U : TL} : dCal f U ρ μ Q E = U ρ μ (fun xs μ1 => opQ (f μ1 xs) fun z => Q z μ1) E := rfl
theorem y_call {ρ : Rho} {μ : Mu} {Q : QD} {E : XQ} {sp : DSp} {dvs : List D} {U : TL} : dCall sp dvs U ρ μ Q E = U ρ μ (fun ds μ1 => sp (ds ++ dvs) μ1 Q E) E := rfl
theorem y_test {ρ : Rho} {μ : Mu} {Q : Bool → Mu → Prop} {E : XQ} {T : TD} : dTest T ρ μ Q E = T ρ μ (fun x μ1 => onBl x fun b => Q b μ1) E := by
  unfold dTest
  congr 1
  funext x μ1
  cases x <;> rfl
theorem y_tru {ρ : Rho} {μ : Mu} {Q : Bool → Mu → Prop} {E : XQ} {T : TD} : dTru T ρ μ Q E = T ρ μ (fun x μ1 => opQ (truD μ1 x) fun b => Q b μ1) E := rfl
theorem y_chain {ρ : Rho} {μ : Mu} {Q : QD} {E : XQ} {f f' : Mu → D → D → Option D} {Ta Tb Tc : TD} : dChain f f' Ta Tb Tc ρ μ Q E = Ta ρ μ (fun x μ1 => Tb ρ μ1 (fun y μ2 => opQ (f μ2 x y) fun z => onBl z fun k => ifB k (Tc ρ μ2 (fun w μ3 => opQ (f' μ3 y w) fun z => Q z μ3) E) (Q (.bl false) μ2)) E) E := by
  unfold dChain
  congr 1
  funext x μ1
  congr 1
  funext y μ2
  congr 1
  funext z
  cases z <;> rfl
theorem y_and {ρ : Rho} {μ : Mu} {Q : Bool → Mu → Prop} {E : XQ} {T U : TB} : dAnd T U ρ μ Q E = T ρ μ (fun c μ1 => ifB c (U ρ μ1 Q E) (Q false μ1)) E := rfl
theorem y_or {ρ : Rho} {μ : Mu} {Q : Bool → Mu → Prop} {E : XQ} {T U : TB} : dOr T U ρ μ Q E = T ρ μ (fun c μ1 => ifB c (Q true μ1) (U ρ μ1 Q E)) E := rfl
theorem y_not {ρ : Rho} {μ : Mu} {Q : Bool → Mu → Prop} {E : XQ} {T : TB} : dNot T ρ μ Q E = T ρ μ (fun c μ1 => Q (!c) μ1) E := rfl
theorem y_andV {ρ : Rho} {μ : Mu} {Q : QD} {E : XQ} {T U : TD} : dAndV T U ρ μ Q E = T ρ μ (fun x μ1 => onBl x fun c => ifB c (U ρ μ1 Q E) (Q (.bl false) μ1)) E := by
  unfold dAndV
  congr 1
  funext x μ1
  cases x <;> rfl
theorem y_orV {ρ : Rho} {μ : Mu} {Q : QD} {E : XQ} {T U : TD} : dOrV T U ρ μ Q E = T ρ μ (fun x μ1 => onBl x fun c => ifB c (Q (.bl true) μ1) (U ρ μ1 Q E)) E := by
  unfold dOrV
  congr 1
  funext x μ1
  cases x <;> rfl
theorem y_notV {ρ : Rho} {μ : Mu} {Q : QD} {E : XQ} {T : TD} : dNotV T ρ μ Q E = T ρ μ (fun x μ1 => onBl x fun c => Q (.bl (!c)) μ1) E := by
  unfold dNotV
  congr 1
  funext x μ1
  cases x <;> rfl
theorem y_ife {ρ : Rho} {μ : Mu} {Q : QD} {E : XQ} {C : TB} {T U : TD} : dIf C T U ρ μ Q E = C ρ μ (fun c μ1 => ifB c (T ρ μ1 Q E) (U ρ μ1 Q E)) E := rfl
theorem y_sl {ρ : Rho} {μ : Mu} {Q : QD} {E : XQ} {T : TD} {L U : TOp} : dSl T L U ρ μ Q E = T ρ μ (fun x μ1 => L ρ μ1 (fun lo μ2 => U ρ μ2 (fun hi μ3 => opQ (slD μ3 x lo hi) fun z => Q z μ3) E) E) E := rfl
theorem y_noP {ρ : Rho} {μ : Mu} {Q : Option Int → Mu → Prop} {E : XQ} : dNoP ρ μ Q E = Q none μ := rfl
theorem y_part {ρ : Rho} {μ : Mu} {Q : Option Int → Mu → Prop} {E : XQ} {T : TD} : dPart T ρ μ Q E = T ρ μ (fun x μ1 => onInt x fun i => Q (some i) μ1) E := by
  unfold dPart
  congr 1
  funext x μ1
  cases x <;> rfl
theorem y_seq {ρ : Rho} {μ : Mu} {Q : List D → (Mu → Prop) → Mu → Prop} {E : XQ} {T : TD} : dSeq T ρ μ Q E = T ρ μ (fun d μ1 => opQ (seqOf μ1 d) fun ds => Q ds (stOf μ1 d) μ1) E := rfl
theorem y_range1 {ρ : Rho} {μ : Mu} {Q : List D → (Mu → Prop) → Mu → Prop} {E : XQ} {T : TD} : dRange1 T ρ μ Q E = T ρ μ (fun d μ1 => onInt d fun n => b62 n = true ∧ Q (rangeD 0 n.toNat) (fun _ => True) μ1) E := by
  unfold dRange1
  congr 1
  funext x μ1
  cases x <;> rfl
theorem y_range2 {ρ : Rho} {μ : Mu} {Q : List D → (Mu → Prop) → Mu → Prop} {E : XQ} {T U : TD} : dRange2 T U ρ μ Q E = T ρ μ (fun d μ1 => U ρ μ1 (fun e μ2 => onInt d fun a => onInt e fun b => (b62 a && b62 b) = true ∧ Q (rangeD a (b - a).toNat) (fun _ => True) μ2) E) E := by
  unfold dRange2
  congr 1
  funext x μ1
  congr 1
  funext y μ2
  cases x <;> cases y <;> rfl
theorem y_listN {ρ : Rho} {μ : Mu} {Q : QD} {E : XQ} {U : TL} : dListN U ρ μ Q E = U ρ μ (fun xs μ1 => on1 xs fun d => opQ (asQ μ1 d) fun ds => fits ds.length = true ∧ newQ μ1 (.lst ds) Q) E := by
  unfold dListN
  congr 1
  funext x μ1
  rcases x with _ | ⟨a, _ | ⟨b, r⟩⟩ <;> rfl
theorem y_lc {ρ : Rho} {μ : Mu} {Q : QD} {E : XQ} {I : TId} {n : D → Rho → Mu → (Rho → Mu → Prop) → Prop} {C : TB} {T : TD} {vs : List Nat} : dLc I n C T vs ρ μ Q E = I ρ μ (fun ds st μ1 => ds.length ≤ sizeLine ∧ lcD st n C T (wipeD ρ vs) (fun acc μ2 => Q (.lst acc) μ2) ds [] μ1) E := rfl
theorem y_lcN {ρ : Rho} {μ : Mu} {Q : QD} {E : XQ} {I : TId} {n : D → Rho → Mu → (Rho → Mu → Prop) → Prop} {C : TB} {T : TD} {vs : List Nat} : dLcN I n C T vs ρ μ Q E = I ρ μ (fun ds st μ1 => ds.length ≤ sizeLine ∧ lcD st n C T (wipeD ρ vs) (fun acc μ2 => newQ μ2 (.lst acc) Q) ds [] μ1) E := rfl
theorem y_yes {ρ : Rho} {μ : Mu} {Q : Bool → Mu → Prop} {E : XQ} : dYes ρ μ Q E = Q true μ := rfl
theorem y_sSeq {De : EndsD} {ρ : Rho} {μ : Mu} {T U : SD} : sSeq T U De ρ μ = T { De with nx := fun ρ' μ' => U De ρ' μ' } ρ μ := rfl
theorem y_sNext {De : EndsD} {ρ : Rho} {μ : Mu} : sNext De ρ μ = De.nx ρ μ := rfl
theorem y_sBreak {De : EndsD} {ρ : Rho} {μ : Mu} : sBreak De ρ μ = De.bk ρ μ := rfl
theorem y_sCont {De : EndsD} {ρ : Rho} {μ : Mu} : sCont De ρ μ = De.ct ρ μ := rfl
theorem y_sDrop {De : EndsD} {ρ : Rho} {μ : Mu} {T : TD} : sDrop T De ρ μ = T ρ μ (fun _ μ1 => De.nx ρ μ1) (exAt De ρ) := rfl
theorem y_sRet {De : EndsD} {ρ : Rho} {μ : Mu} {T : TD} : sRet T De ρ μ = T ρ μ De.rt (exAt De ρ) := rfl
theorem y_sRetN {De : EndsD} {ρ : Rho} {μ : Mu} : sRetN De ρ μ = De.rt .non μ := rfl
theorem y_sIf {De : EndsD} {ρ : Rho} {μ : Mu} {C : TB} {T U : SD} : sIf C T U De ρ μ = C ρ μ (fun c μ1 => ifB c (T De ρ μ1) (U De ρ μ1)) (exAt De ρ) := rfl
theorem y_sSet {De : EndsD} {ρ : Rho} {μ : Mu} {i : Nat} {T : TD} : sSet i T De ρ μ = T ρ μ (fun d μ1 => De.nx (ρ.set i (some d)) μ1) (exAt De ρ) := rfl
theorem y_sAsg {De : EndsD} {ρ : Rho} {μ : Mu} {T : TD} {g : TGd} : sAsg T g De ρ μ = T ρ μ (fun d μ1 => g d ρ μ1 (fun ρ' μ' => De.nx ρ' μ') (exAt De ρ)) (exAt De ρ) := rfl
theorem y_sUnp {De : EndsD} {ρ : Rho} {μ : Mu} {T : TD} {n : D → Rho → Mu → (Rho → Mu → Prop) → Prop} : sUnp T n De ρ μ = T ρ μ (fun d μ1 => n d ρ μ1 (fun ρ' μ' => De.nx ρ' μ')) (exAt De ρ) := rfl
theorem y_sPar {De : EndsD} {ρ : Rho} {μ : Mu} {i j : Nat} {U : TL} : sPar i j U De ρ μ = U ρ μ (fun ds μ1 => on2 ds fun d e => De.nx ((ρ.set i (some d)).set j (some e)) μ1) (exAt De ρ) := by
  unfold sPar
  congr 1
  funext x μ1
  rcases x with _ | ⟨a, _ | ⟨b, _ | ⟨c, r⟩⟩⟩ <;> rfl
theorem y_sFor {De : EndsD} {ρ : Rho} {μ : Mu} {I : TId} {n : D → Rho → Mu → (Rho → Mu → Prop) → Prop} {b : SD} : sFor I n b De ρ μ = I ρ μ (fun ds st μ1 => forD st n b De ds ρ μ1) (exAt De ρ) := rfl
theorem y_gSub {d : D} {ρ : Rho} {μ : Mu} {Q : Rho → Mu → Prop} {E : XQ} {To Ti : TD} : gSubD To Ti d ρ μ Q E = To ρ μ (fun o μ1 => Ti ρ μ1 (fun i μ2 => onPtr o fun n => onInt i fun k => opQ (cellL (μ2 n)) fun ds => opQ (ixN ds.length k) fun j => Q ρ (mset μ2 n (.lst (ds.set j d)))) E) E := by
  unfold gSubD
  congr 1
  funext o μ1
  congr 1
  funext i μ2
  cases o <;> cases i <;> try rfl
  rename_i n k
  show (match μ2 n with | some (.lst ds) => opQ (ixN ds.length k) fun j => Q ρ (mset μ2 n (.lst (ds.set j d))) | _ => False) = opQ (cellL (μ2 n)) _
  rcases μ2 n with _ | ⟨_ | _ | _⟩ <;> rfl
theorem y_nNm {d : D} {ρ : Rho} {μ : Mu} {Q : Rho → Mu → Prop} {i : Nat} : nNm i d ρ μ Q = Q (ρ.set i (some d)) μ := rfl
theorem y_nTup {d : D} {ρ : Rho} {μ : Mu} {Q : Rho → Mu → Prop} {n : Nat} {U : List D → Rho → Mu → (Rho → Mu → Prop) → Prop} : nTup n U d ρ μ Q = onTup d fun ds => ds.length = n ∧ U ds ρ μ Q := by
  cases d <;> rfl
theorem y_nNil {ρ : Rho} {μ : Mu} {Q : Rho → Mu → Prop} : nNil [] ρ μ Q = Q ρ μ := rfl
theorem y_nCons {d : D} {ρ : Rho} {μ : Mu} {Q : Rho → Mu → Prop} {ds : List D} {T : D → Rho → Mu → (Rho → Mu → Prop) → Prop} {U : List D → Rho → Mu → (Rho → Mu → Prop) → Prop} : nCons T U (d :: ds) ρ μ Q = T d ρ μ fun ρ' μ' => U ds ρ' μ' Q := rfl
theorem y_forNil {De : EndsD} {ρ : Rho} {μ : Mu} {st : Mu → Prop} {n : D → Rho → Mu → (Rho → Mu → Prop) → Prop} {b : SD} : forD st n b De [] ρ μ = (st μ ∧ De.nx ρ μ) := rfl
theorem y_append {ρ : Rho} {μ : Mu} {Q : QD} {E : XQ} {To : TD} {U : TL} : dAppend To U ρ μ Q E = To ρ μ (fun o μ1 => onPtr o fun n => opQ (cellL (μ1 n)) fun _ => U ρ μ1 (fun xs μ2 => on1 xs fun d => opQ (cellL (μ2 n)) fun ds => fits (ds.length + 1) = true ∧ Q .non (mset μ2 n (.lst (ds ++ [d])))) E) E := by
  unfold dAppend
  congr 1
  funext o μ1
  cases o <;> try rfl
  rename_i n
  have eU : (fun (xs : List D) (μ2 : Mu) => (match xs, μ2 n with | [d], some (.lst ds) => fits (ds.length + 1) = true ∧ Q .non (mset μ2 n (.lst (ds ++ [d]))) | _, _ => False)) = (fun xs μ2 => on1 xs fun d => opQ (cellL (μ2 n)) fun ds => fits (ds.length + 1) = true ∧ Q .non (mset μ2 n (.lst (ds ++ [d])))) := by
    funext xs μ2
    rcases xs with _ | ⟨a, _ | ⟨b, r⟩⟩
    · rfl
    · show _ = opQ (cellL (μ2 n)) _
      generalize μ2 n = o
      rcases o with _ | ⟨_ | _ | _ | _ | _⟩ <;> rfl
    · rfl
  show ((∃ ds, μ1 n = some (.lst ds)) ∧ U ρ μ1 (fun (xs : List D) (μ2 : Mu) => (match xs, μ2 n with | [d], some (.lst ds) => fits (ds.length + 1) = true ∧ Q .non (mset μ2 n (.lst (ds ++ [d]))) | _, _ => False)) E) = opQ (cellL (μ1 n)) _
  rw [eU]
  apply propext
  rcases h : μ1 n with _ | ⟨_ | _ | _ | _ | _⟩
  · exact ⟨fun ⟨⟨_, z⟩, _⟩ => (by cases z), fun z => (show False from z).elim⟩
  · exact ⟨fun z => z.2, fun z => ⟨⟨_, rfl⟩, z⟩⟩
  · exact ⟨fun ⟨⟨_, z⟩, _⟩ => (by cases z), fun z => (show False from z).elim⟩
  · exact ⟨fun ⟨⟨_, z⟩, _⟩ => (by cases z), fun z => (show False from z).elim⟩
  · exact ⟨fun ⟨⟨_, z⟩, _⟩ => (by cases z), fun z => (show False from z).elim⟩
  · exact ⟨fun ⟨⟨_, z⟩, _⟩ => (by cases z), fun z => (show False from z).elim⟩
theorem y_ixP {μ : Mu} {n : Nat} {i : Int} : ixD μ (.ptr n) (.int i) = (cellL (μ n)).bind fun ds => atI ds i := by
  show (match μ n with | some (.lst ds) => some ds | _ => none).bind _ = _
  rcases μ n with _ | ⟨_ | _ | _⟩ <;> rfl
theorem y_ixT {μ : Mu} {ds : List D} {i : Int} : ixD μ (.tup ds) (.int i) = atI ds i := rfl
theorem y_ixL {μ : Mu} {ds : List D} {i : Int} : ixD μ (.lst ds) (.int i) = atI ds i := rfl
theorem y_asQP {μ : Mu} {n : Nat} : asQ μ (.ptr n) = cellL (μ n) := by
  show (match μ n with | some (.lst ds) => some ds | _ => none) = _
  rcases μ n with _ | ⟨_ | _ | _⟩ <;> rfl
theorem y_seqP {μ : Mu} {n : Nat} : seqOf μ (.ptr n) = cellL (μ n) := y_asQP
theorem y_lenP {μ : Mu} {n : Nat} : lenD μ [.ptr n] = (cellL (μ n)).map fun ds => .int (ds.length : Nat) := by
  show (asQ μ (.ptr n)).map _ = _
  rw [y_asQP]
/-- a product by a written number; by anything below 2^64 -/
theorem y_mulR {μ : Mu} {i j : Int} (h : small64 j = true) : mulD μ (.int i) (.int j) = some (.int (i * j)) := by
  show (if small64 i || small64 j then some (D.int (i * j)) else none) = _
  rw [h, Bool.or_true]; rfl
theorem y_mulL {μ : Mu} {i j : Int} (h : small64 i = true) : mulD μ (.int i) (.int j) = some (.int (i * j)) := by
  show (if small64 i || small64 j then some (D.int (i * j)) else none) = _
  rw [h, Bool.true_or]; rfl
theorem y_mod {μ : Mu} {i j : Int} (h : 0 < j) : modD μ (.int i) (.int j) = some (.int (i % j)) := by
  show (if decide (0 < j) then some (D.int (i % j)) else none) = _
  rw [decide_eq_true h]; rfl
theorem y_fdiv {μ : Mu} {i j : Int} (h : 0 < j) (h2 : j < 1073741824) : fdivD μ (.int i) (.int j) = some (.int (i / j)) := by
  show (if decide (0 < j) && decide (j < 1073741824) then some (D.int (i / j)) else none) = _
  rw [decide_eq_true h, decide_eq_true h2]; rfl
theorem s_var {ρ : Rho} {μ : Mu} {Q : QD} {E : XQ} {i : Nat} (h : opQ (slot ρ i) fun d => Q d μ) : dVar i ρ μ Q E := by rw [y_var]; exact h
theorem s_c {ρ : Rho} {μ : Mu} {Q : QD} {E : XQ} {d : D} (h : Q d μ) : dC d ρ μ Q E := by rw [y_c]; exact h
theorem s_nil {ρ : Rho} {μ : Mu} {Q : List D → Mu → Prop} {E : XQ} (h : Q [] μ) : dNil ρ μ Q E := by rw [y_nil]; exact h
theorem s_cons {ρ : Rho} {μ : Mu} {Q : List D → Mu → Prop} {E : XQ} {T : TD} {U : TL} (h : T ρ μ (fun x μ1 => U ρ μ1 (fun xs μ2 => Q (x :: xs) μ2) E) E) : dCons T U ρ μ Q E := by rw [y_cons]; exact h
theorem s_tup {ρ : Rho} {μ : Mu} {Q : QD} {E : XQ} {U : TL} (h : U ρ μ (fun ds μ1 => ds.length ≤ sizeLine ∧ Q (.tup ds) μ1) E) : dTup U ρ μ Q E := by rw [y_tup]; exact h
theorem s_lst {ρ : Rho} {μ : Mu} {Q : QD} {E : XQ} {U : TL} (h : U ρ μ (fun ds μ1 => ds.length ≤ sizeLine ∧ Q (.lst ds) μ1) E) : dLst U ρ μ Q E := by rw [y_lst]; exact h
theorem s_new {ρ : Rho} {μ : Mu} {Q : QD} {E : XQ} {U : TL} (h : U ρ μ (fun ds μ1 => ds.length ≤ sizeLine ∧ newQ μ1 (.lst ds) Q) E) : dNew U ρ μ Q E := by rw [y_new]; exact h
theorem s_op {ρ : Rho} {μ : Mu} {Q : QD} {E : XQ} {f : Mu → D → D → Option D} {Ta Tb : TD} (h : Ta ρ μ (fun x μ1 => Tb ρ μ1 (fun y μ2 => opQ (f μ2 x y) fun z => Q z μ2) E) E) : dOp f Ta Tb ρ μ Q E := by rw [y_op]; exact h
theorem s_un {ρ : Rho} {μ : Mu} {Q : QD} {E : XQ} {f : Mu → D → Option D} {Ta : TD} (h : Ta ρ μ (fun x μ1 => opQ (f μ1 x) fun z => Q z μ1) E) : dUn f Ta ρ μ Q E := by rw [y_un]; exact h
theorem s_cal {ρ : Rho} {μ : Mu} {Q : QD} {E : XQ} {f : Mu → List D → Option D} {U : TL} (h : U ρ μ (fun xs μ1 => opQ (f μ1 xs) fun z => Q z μ1) E) : dCal f U ρ μ Q E := by rw [y_cal]; exact h
theorem s_call {ρ : Rho} {μ : Mu} {Q : QD} {E : XQ} {sp : DSp} {dvs : List D} {U : TL} (h : U ρ μ (fun ds μ1 => sp (ds ++ dvs) μ1 Q E) E) : dCall sp dvs U ρ μ Q E := by rw [y_call]; exact h
theorem s_test {ρ : Rho} {μ : Mu} {Q : Bool → Mu → Prop} {E : XQ} {T : TD} (h : T ρ μ (fun x μ1 => onBl x fun b => Q b μ1) E) : dTest T ρ μ Q E := by rw [y_test]; exact h
theorem s_tru {ρ : Rho} {μ : Mu} {Q : Bool → Mu → Prop} {E : XQ} {T : TD} (h : T ρ μ (fun x μ1 => opQ (truD μ1 x) fun b => Q b μ1) E) : dTru T ρ μ Q E := by rw [y_tru]; exact h
theorem s_chain {ρ : Rho} {μ : Mu} {Q : QD} {E : XQ} {f f' : Mu → D → D → Option D} {Ta Tb Tc : TD} (h : Ta ρ μ (fun x μ1 => Tb ρ μ1 (fun y μ2 => opQ (f μ2 x y) fun z => onBl z fun k => ifB k (Tc ρ μ2 (fun w μ3 => opQ (f' μ3 y w) fun z => Q z μ3) E) (Q (.bl false) μ2)) E) E) : dChain f f' Ta Tb Tc ρ μ Q E := by rw [y_chain]; exact h
theorem s_and {ρ : Rho} {μ : Mu} {Q : Bool → Mu → Prop} {E : XQ} {T U : TB} (h : T ρ μ (fun c μ1 => ifB c (U ρ μ1 Q E) (Q false μ1)) E) : dAnd T U ρ μ Q E := by rw [y_and]; exact h
theorem s_or {ρ : Rho} {μ : Mu} {Q : Bool → Mu → Prop} {E : XQ} {T U : TB} (h : T ρ μ (fun c μ1 => ifB c (Q true μ1) (U ρ μ1 Q E)) E) : dOr T U ρ μ Q E := by rw [y_or]; exact h
theorem s_not {ρ : Rho} {μ : Mu} {Q : Bool → Mu → Prop} {E : XQ} {T : TB} (h : T ρ μ (fun c μ1 => Q (!c) μ1) E) : dNot T ρ μ Q E := by rw [y_not]; exact h
theorem s_andV {ρ : Rho} {μ : Mu} {Q : QD} {E : XQ} {T U : TD} (h : T ρ μ (fun x μ1 => onBl x fun c => ifB c (U ρ μ1 Q E) (Q (.bl false) μ1)) E) : dAndV T U ρ μ Q E := by rw [y_andV]; exact h
theorem s_orV {ρ : Rho} {μ : Mu} {Q : QD} {E : XQ} {T U : TD} (h : T ρ μ (fun x μ1 => onBl x fun c => ifB c (Q (.bl true) μ1) (U ρ μ1 Q E)) E) : dOrV T U ρ μ Q E := by rw [y_orV]; exact h
theorem s_notV {ρ : Rho} {μ : Mu} {Q : QD} {E : XQ} {T : TD} (h : T ρ μ (fun x μ1 => onBl x fun c => Q (.bl (!c)) μ1) E) : dNotV T ρ μ Q E := by rw [y_notV]; exact h
theorem s_ife {ρ : Rho} {μ : Mu} {Q : QD} {E : XQ} {C : TB} {T U : TD} (h : C ρ μ (fun c μ1 => ifB c (T ρ μ1 Q E) (U ρ μ1 Q E)) E) : dIf C T U ρ μ Q E := by rw [y_ife]; exact h
theorem s_sl {ρ : Rho} {μ : Mu} {Q : QD} {E : XQ} {T : TD} {L U : TOp} (h : T ρ μ (fun x μ1 => L ρ μ1 (fun lo μ2 => U ρ μ2 (fun hi μ3 => opQ (slD μ3 x lo hi) fun z => Q z μ3) E) E) E) : dSl T L U ρ μ Q E := by rw [y_sl]; exact h
theorem s_noP {ρ : Rho} {μ : Mu} {Q : Option Int → Mu → Prop} {E : XQ} (h : Q none μ) : dNoP ρ μ Q E := by rw [y_noP]; exact h
theorem s_part {ρ : Rho} {μ : Mu} {Q : Option Int → Mu → Prop} {E : XQ} {T : TD} (h : T ρ μ (fun x μ1 => onInt x fun i => Q (some i) μ1) E) : dPart T ρ μ Q E := by rw [y_part]; exact h
theorem s_seq {ρ : Rho} {μ : Mu} {Q : List D → (Mu → Prop) → Mu → Prop} {E : XQ} {T : TD} (h : T ρ μ (fun d μ1 => opQ (seqOf μ1 d) fun ds => Q ds (stOf μ1 d) μ1) E) : dSeq T ρ μ Q E := by rw [y_seq]; exact h
theorem s_range1 {ρ : Rho} {μ : Mu} {Q : List D → (Mu → Prop) → Mu → Prop} {E : XQ} {T : TD} (h : T ρ μ (fun d μ1 => onInt d fun n => b62 n = true ∧ Q (rangeD 0 n.toNat) (fun _ => True) μ1) E) : dRange1 T ρ μ Q E := by rw [y_range1]; exact h
theorem s_range2 {ρ : Rho} {μ : Mu} {Q : List D → (Mu → Prop) → Mu → Prop} {E : XQ} {T U : TD} (h : T ρ μ (fun d μ1 => U ρ μ1 (fun e μ2 => onInt d fun a => onInt e fun b => (b62 a && b62 b) = true ∧ Q (rangeD a (b - a).toNat) (fun _ => True) μ2) E) E) : dRange2 T U ρ μ Q E := by rw [y_range2]; exact h
theorem s_listN {ρ : Rho} {μ : Mu} {Q : QD} {E : XQ} {U : TL} (h : U ρ μ (fun xs μ1 => on1 xs fun d => opQ (asQ μ1 d) fun ds => fits ds.length = true ∧ newQ μ1 (.lst ds) Q) E) : dListN U ρ μ Q E := by rw [y_listN]; exact h
theorem s_lc {ρ : Rho} {μ : Mu} {Q : QD} {E : XQ} {I : TId} {n : D → Rho → Mu → (Rho → Mu → Prop) → Prop} {C : TB} {T : TD} {vs : List Nat} (h : I ρ μ (fun ds st μ1 => ds.length ≤ sizeLine ∧ lcD st n C T (wipeD ρ vs) (fun acc μ2 => Q (.lst acc) μ2) ds [] μ1) E) : dLc I n C T vs ρ μ Q E := by rw [y_lc]; exact h
theorem s_lcN {ρ : Rho} {μ : Mu} {Q : QD} {E : XQ} {I : TId} {n : D → Rho → Mu → (Rho → Mu → Prop) → Prop} {C : TB} {T : TD} {vs : List Nat} (h : I ρ μ (fun ds st μ1 => ds.length ≤ sizeLine ∧ lcD st n C T (wipeD ρ vs) (fun acc μ2 => newQ μ2 (.lst acc) Q) ds [] μ1) E) : dLcN I n C T vs ρ μ Q E := by rw [y_lcN]; exact h
theorem s_yes {ρ : Rho} {μ : Mu} {Q : Bool → Mu → Prop} {E : XQ} (h : Q true μ) : dYes ρ μ Q E := by rw [y_yes]; exact h
theorem s_sSeq {De : EndsD} {ρ : Rho} {μ : Mu} {T U : SD} (h : T { De with nx := fun ρ' μ' => U De ρ' μ' } ρ μ) : sSeq T U De ρ μ := by rw [y_sSeq]; exact h
theorem s_sNext {De : EndsD} {ρ : Rho} {μ : Mu} (h : De.nx ρ μ) : sNext De ρ μ := by rw [y_sNext]; exact h
theorem s_sBreak {De : EndsD} {ρ : Rho} {μ : Mu} (h : De.bk ρ μ) : sBreak De ρ μ := by rw [y_sBreak]; exact h
theorem s_sCont {De : EndsD} {ρ : Rho} {μ : Mu} (h : De.ct ρ μ) : sCont De ρ μ := by rw [y_sCont]; exact h
theorem s_sDrop {De : EndsD} {ρ : Rho} {μ : Mu} {T : TD} (h : T ρ μ (fun _ μ1 => De.nx ρ μ1) (exAt De ρ)) : sDrop T De ρ μ := by rw [y_sDrop]; exact h
theorem s_sRet {De : EndsD} {ρ : Rho} {μ : Mu} {T : TD} (h : T ρ μ De.rt (exAt De ρ)) : sRet T De ρ μ := by rw [y_sRet]; exact h
theorem s_sRetN {De : EndsD} {ρ : Rho} {μ : Mu} (h : De.rt .non μ) : sRetN De ρ μ := by rw [y_sRetN]; exact h
theorem s_sIf {De : EndsD} {ρ : Rho} {μ : Mu} {C : TB} {T U : SD} (h : C ρ μ (fun c μ1 => ifB c (T De ρ μ1) (U De ρ μ1)) (exAt De ρ)) : sIf C T U De ρ μ := by rw [y_sIf]; exact h
theorem s_sSet {De : EndsD} {ρ : Rho} {μ : Mu} {i : Nat} {T : TD} (h : T ρ μ (fun d μ1 => De.nx (ρ.set i (some d)) μ1) (exAt De ρ)) : sSet i T De ρ μ := by rw [y_sSet]; exact h
theorem s_sAsg {De : EndsD} {ρ : Rho} {μ : Mu} {T : TD} {g : TGd} (h : T ρ μ (fun d μ1 => g d ρ μ1 (fun ρ' μ' => De.nx ρ' μ') (exAt De ρ)) (exAt De ρ)) : sAsg T g De ρ μ := by rw [y_sAsg]; exact h
theorem s_sUnp {De : EndsD} {ρ : Rho} {μ : Mu} {T : TD} {n : D → Rho → Mu → (Rho → Mu → Prop) → Prop} (h : T ρ μ (fun d μ1 => n d ρ μ1 (fun ρ' μ' => De.nx ρ' μ')) (exAt De ρ)) : sUnp T n De ρ μ := by rw [y_sUnp]; exact h
theorem s_sPar {De : EndsD} {ρ : Rho} {μ : Mu} {i j : Nat} {U : TL} (h : U ρ μ (fun ds μ1 => on2 ds fun d e => De.nx ((ρ.set i (some d)).set j (some e)) μ1) (exAt De ρ)) : sPar i j U De ρ μ := by rw [y_sPar]; exact h
theorem s_sFor {De : EndsD} {ρ : Rho} {μ : Mu} {I : TId} {n : D → Rho → Mu → (Rho → Mu → Prop) → Prop} {b : SD} (h : I ρ μ (fun ds st μ1 => forD st n b De ds ρ μ1) (exAt De ρ)) : sFor I n b De ρ μ := by rw [y_sFor]; exact h
theorem s_gSub {d : D} {ρ : Rho} {μ : Mu} {Q : Rho → Mu → Prop} {E : XQ} {To Ti : TD} (h : To ρ μ (fun o μ1 => Ti ρ μ1 (fun i μ2 => onPtr o fun n => onInt i fun k => opQ (cellL (μ2 n)) fun ds => opQ (ixN ds.length k) fun j => Q ρ (mset μ2 n (.lst (ds.set j d)))) E) E) : gSubD To Ti d ρ μ Q E := by rw [y_gSub]; exact h
theorem s_nNm {d : D} {ρ : Rho} {μ : Mu} {Q : Rho → Mu → Prop} {i : Nat} (h : Q (ρ.set i (some d)) μ) : nNm i d ρ μ Q := by rw [y_nNm]; exact h
theorem s_nTup {d : D} {ρ : Rho} {μ : Mu} {Q : Rho → Mu → Prop} {n : Nat} {U : List D → Rho → Mu → (Rho → Mu → Prop) → Prop} (h : onTup d fun ds => ds.length = n ∧ U ds ρ μ Q) : nTup n U d ρ μ Q := by rw [y_nTup]; exact h
theorem s_nNil {ρ : Rho} {μ : Mu} {Q : Rho → Mu → Prop} (h : Q ρ μ) : nNil [] ρ μ Q := by rw [y_nNil]; exact h
theorem s_nCons {d : D} {ρ : Rho} {μ : Mu} {Q : Rho → Mu → Prop} {ds : List D} {T : D → Rho → Mu → (Rho → Mu → Prop) → Prop} {U : List D → Rho → Mu → (Rho → Mu → Prop) → Prop} (h : T d ρ μ fun ρ' μ' => U ds ρ' μ' Q) : nCons T U (d :: ds) ρ μ Q := by rw [y_nCons]; exact h
theorem s_forNil {De : EndsD} {ρ : Rho} {μ : Mu} {st : Mu → Prop} {n : D → Rho → Mu → (Rho → Mu → Prop) → Prop} {b : SD} (h : (st μ ∧ De.nx ρ μ)) : forD st n b De [] ρ μ := by rw [y_forNil]; exact h
theorem s_append {ρ : Rho} {μ : Mu} {Q : QD} {E : XQ} {To : TD} {U : TL} (h : To ρ μ (fun o μ1 => onPtr o fun n => opQ (cellL (μ1 n)) fun _ => U ρ μ1 (fun xs μ2 => on1 xs fun d => opQ (cellL (μ2 n)) fun ds => fits (ds.length + 1) = true ∧ Q .non (mset μ2 n (.lst (ds ++ [d])))) E) E) : dAppend To U ρ μ Q E := by rw [y_append]; exact h
theorem s_bl {b : Bool} {K : Bool → Prop} (h : K b) : onBl (.bl b) K := h
theorem s_onInt {b : Int} {K : Int → Prop} (h : K b) : onInt (.int b) K := h
theorem s_ptr {b : Nat} {K : Nat → Prop} (h : K b) : onPtr (.ptr b) K := h
theorem s_onTup {b : List D} {K : List D → Prop} (h : K b) : onTup (.tup b) K := h
theorem s_on1 {d : D} {K : D → Prop} (h : K d) : on1 [d] K := h
theorem s_on2 {d e : D} {K : D → D → Prop} (h : K d e) : on2 [d, e] K := h
theorem s_ifT {A B : Prop} (h : A) : ifB true A B := h
theorem s_ifF {A B : Prop} (h : B) : ifB false A B := h
theorem s_opq {α : Type} {o : Option α} {z : α} {K : α → Prop} (e : o = some z) (h : K z) : opQ o K := by rw [e]; exact h
theorem s_some {α : Type} {z : α} {K : α → Prop} (h : K z) : opQ (some z) K := h
theorem s_cell {o : Option MO} {ds : List D} {K : List D → Prop} (e : o = some (.lst ds)) (h : K ds) : opQ (cellL o) K := by rw [e]; exact h
theorem s_ixP {μ : Mu} {n : Nat} {i : Int} {ds : List D} {z : D} {K : D → Prop} (e : μ n = some (.lst ds)) (a : atI ds i = some z) (h : K z) : opQ (ixD μ (.ptr n) (.int i)) K := by rw [y_ixP, e, y_cell, Option.bind_some, a]; exact h
theorem s_ixT {μ : Mu} {ds : List D} {i : Int} {z : D} {K : D → Prop} (a : atI ds i = some z) (h : K z) : opQ (ixD μ (.tup ds) (.int i)) K := by rw [y_ixT, a]; exact h
theorem s_ixL {μ : Mu} {ds : List D} {i : Int} {z : D} {K : D → Prop} (a : atI ds i = some z) (h : K z) : opQ (ixD μ (.lst ds) (.int i)) K := by rw [y_ixL, a]; exact h
theorem s_lenP {μ : Mu} {n : Nat} {ds : List D} {K : D → Prop} (e : μ n = some (.lst ds)) (h : K (.int (ds.length : Nat))) : opQ (lenD μ [.ptr n]) K := by rw [y_lenP, e]; exact h
theorem s_lenT {μ : Mu} {ds : List D} {K : D → Prop} (h : K (.int (ds.length : Nat))) : opQ (lenD μ [.tup ds]) K := h
theorem s_lenL {μ : Mu} {ds : List D} {K : D → Prop} (h : K (.int (ds.length : Nat))) : opQ (lenD μ [.lst ds]) K := h
theorem s_add {μ : Mu} {i j : Int} {K : D → Prop} (h : K (.int (i + j))) : opQ (addD μ (.int i) (.int j)) K := h
theorem s_sub {μ : Mu} {i j : Int} {K : D → Prop} (h : K (.int (i - j))) : opQ (subD μ (.int i) (.int j)) K := h
theorem s_neg {μ : Mu} {i : Int} {K : D → Prop} (h : K (.int (-i))) : opQ (negD μ (.int i)) K := h
theorem s_lt {μ : Mu} {i j : Int} {K : D → Prop} (h : K (.bl (decide (i < j)))) : opQ (ltD μ (.int i) (.int j)) K := h
theorem s_le {μ : Mu} {i j : Int} {K : D → Prop} (h : K (.bl (decide (i ≤ j)))) : opQ (leD μ (.int i) (.int j)) K := h
theorem s_gt {μ : Mu} {i j : Int} {K : D → Prop} (h : K (.bl (decide (i > j)))) : opQ (gtD μ (.int i) (.int j)) K := h
theorem s_ge {μ : Mu} {i j : Int} {K : D → Prop} (h : K (.bl (decide (i ≥ j)))) : opQ (geD μ (.int i) (.int j)) K := h
theorem s_eqI {μ : Mu} {i j : Int} {K : D → Prop} (h : K (.bl (decide (i = j)))) : opQ (eqD μ (.int i) (.int j)) K := h
theorem s_neI {μ : Mu} {i j : Int} {K : D → Prop} (h : K (.bl (!decide (i = j)))) : opQ (neD μ (.int i) (.int j)) K := h
theorem s_eqS {μ : Mu} {i j : Str} {K : D → Prop} (h : K (.bl (decide (i = j)))) : opQ (eqD μ (.str i) (.str j)) K := h
theorem s_neS {μ : Mu} {i j : Str} {K : D → Prop} (h : K (.bl (!decide (i = j)))) : opQ (neD μ (.str i) (.str j)) K := h
theorem s_eqB {μ : Mu} {i j : Bool} {K : D → Prop} (h : K (.bl (decide (i = j)))) : opQ (eqD μ (.bl i) (.bl j)) K := h
theorem s_neB {μ : Mu} {i j : Bool} {K : D → Prop} (h : K (.bl (!decide (i = j)))) : opQ (neD μ (.bl i) (.bl j)) K := h
theorem s_isN {μ : Mu} {d : D} {K : D → Prop} (h : K (.bl (isNon d))) : opQ (isND μ d .non) K := h
theorem s_notN {μ : Mu} {d : D} {K : D → Prop} (h : K (.bl (!isNon d))) : opQ (notND μ d .non) K := h
theorem small64_of {i : Int} (h : -18446744073709551616 < i ∧ i < 18446744073709551616) : small64 i = true := by
  unfold small64
  rw [decide_eq_true h.1, decide_eq_true h.2]
  rfl
theorem s_mulR {μ : Mu} {i j : Int} {K : D → Prop} (b : -18446744073709551616 < j ∧ j < 18446744073709551616) (h : K (.int (i * j))) : opQ (mulD μ (.int i) (.int j)) K := by rw [y_mulR (small64_of b)]; exact h
theorem s_mulL {μ : Mu} {i j : Int} {K : D → Prop} (b : -18446744073709551616 < i ∧ i < 18446744073709551616) (h : K (.int (i * j))) : opQ (mulD μ (.int i) (.int j)) K := by rw [y_mulL (small64_of b)]; exact h
theorem s_pow {μ : Mu} {i j : Int} {K : D → Prop} (b : (0 ≤ j ∧ j ≤ 1000) ∧ i.natAbs < 18446744073709551616) (h : K (.int (i ^ j.toNat))) : opQ (powD μ (.int i) (.int j)) K := by
  have e : powD μ (.int i) (.int j) = some (.int (i ^ j.toNat)) := by
    show (if decide (0 ≤ j) && decide (j ≤ 1000) && decide (i.natAbs < 18446744073709551616) then some (D.int (i ^ j.toNat)) else none) = _
    rw [decide_eq_true b.1.1, decide_eq_true b.1.2, decide_eq_true b.2]
    rfl
  rw [e]; exact h
theorem s_mod {μ : Mu} {i j : Int} {K : D → Prop} (b : 0 < j) (h : K (.int (i % j))) : opQ (modD μ (.int i) (.int j)) K := by rw [y_mod b]; exact h
theorem s_fdiv {μ : Mu} {i j : Int} {K : D → Prop} (b : 0 < j) (c : j < 1073741824) (h : K (.int (i / j))) : opQ (fdivD μ (.int i) (.int j)) K := by rw [y_fdiv b c]; exact h
theorem s_truB {μ : Mu} {b : Bool} {K : Bool → Prop} (h : K b) : opQ (truD μ (.bl b)) K := h
theorem s_truI {μ : Mu} {i : Int} {K : Bool → Prop} (h : K (i != 0)) : opQ (truD μ (.int i)) K := h
theorem s_truN {μ : Mu} {K : Bool → Prop} (h : K false) : opQ (truD μ .non) K := h
theorem s_truT {μ : Mu} {ds : List D} {K : Bool → Prop} (h : K (!ds.isEmpty)) : opQ (truD μ (.tup ds)) K := h
theorem s_truL {μ : Mu} {ds : List D} {K : Bool → Prop} (h : K (!ds.isEmpty)) : opQ (truD μ (.lst ds)) K := h
theorem s_seqL {μ : Mu} {ds : List D} {K : List D → Prop} (h : K ds) : opQ (seqOf μ (.lst ds)) K := h
theorem s_seqT {μ : Mu} {ds : List D} {K : List D → Prop} (h : K ds) : opQ (seqOf μ (.tup ds)) K := h
theorem s_seqP {μ : Mu} {n : Nat} {ds : List D} {K : List D → Prop} (e : μ n = some (.lst ds)) (h : K ds) : opQ (seqOf μ (.ptr n)) K := by rw [y_seqP, e]; exact h
theorem s_asQL {μ : Mu} {ds : List D} {K : List D → Prop} (h : K ds) : opQ (asQ μ (.lst ds)) K := h
theorem s_asQT {μ : Mu} {ds : List D} {K : List D → Prop} (h : K ds) : opQ (asQ μ (.tup ds)) K := h
theorem s_ixN {n : Nat} {k : Int} {j : Nat} {K : Nat → Prop} (e : ixN n k = some j) (h : K j) : opQ (ixN n k) K := by rw [e]; exact h
theorem s_len {α : Type} {ds : List α} {n : Nat} {A : Prop} (b : Nat.ble ds.length n = true) (h : A) : ds.length ≤ n ∧ A := ⟨Nat.le_of_ble_eq_true b, h⟩
theorem e_rt {Q : QD} {E : XQ} {d : D} {μ : Mu} (h : ∃ μ', Sub μ' μ ∧ Q d μ') : (bodyEnds Q E).rt d μ := h
theorem e_nx {Q : QD} {E : XQ} {ρ : Rho} {μ : Mu} (h : ∃ μ', Sub μ' μ ∧ Q .non μ') : (bodyEnds Q E).nx ρ μ := h
theorem e_ex {Q : QD} {E : XQ} {x : XD} {ρ : Rho} {μ : Mu} (h : ∃ μ', Sub μ' μ ∧ E x μ') : (bodyEnds Q E).ex x ρ μ := h
end Y
namespace PySem
open Sem (wp)
set_option maxHeartbeats 1000000 in
theorem y_meets_enumerate_newB {v : Value} {o : Obj} {H : Heap → Prop} (B : Begins v o H) :
    Meets (Builtin.«enumerate.__new__» ⟨[.type "enumerate", v], []⟩) (fun _ R s => H s.heap ∧
      R (.ok (.ret (.ref (s.heap.push o).objs.size))) { s with heap := (s.heap.push o).push { cls := .type "enumerate", data := .fields #[.none, .bool false, .ref s.heap.objs.size, rawInt 0, .none, .none] } }) :=
  .of_wp fun prog w A R s h => by
    obtain ⟨hp, g, d, tk, os⟩ := s; obtain ⟨h1, h⟩ := h
    have hsub := sub_enumerate
    have q1 : ∀ {A' : Around} {E : Value → Shared → Prop} {Q : Value → Shared → Prop}, Q (.ref hp.objs.size) ⟨hp.push o, g, d, tk, os⟩ → wpAny (model prog w) A' (pyIter v) Q E ⟨hp, g, d, tk, os⟩ :=
      fun q => B.iter prog w _ _ ⟨hp, g, d, tk, os⟩ _ h1 q
    wp_walk using q1
    refine wpAny_stack_any fun st => wpAny_pure ?_
    split
    · rename_i c _ _ _ _ _
      cases (c == Value.type "enumerate")
      · wp_walk using q1
        exact ⟨_, rfl, h⟩
      · wp_walk using q1
        exact ⟨_, rfl, h⟩
    · wp_walk using q1
      exact ⟨_, rfl, h⟩
theorem y_enum_begins {prog : Program} {w : World} {A : Around} {E : Value → Shared → Prop} {s : Shared} {v : Value} {o : Obj} {H : Heap → Prop} {Q : Value → Shared → Prop} (B : Begins v o H) (h1 : H s.heap)
    (h : ∀ h', IsEnum h' (s.heap.objs.size + 1) s.heap.objs.size 0 .none → h'.get? s.heap.objs.size = some o → h'.objs.size = s.heap.objs.size + 2 →
      (∀ b o, s.heap.get? b = some o → h'.get? b = some o) → Q (.ref (s.heap.objs.size + 1)) { s with heap := h' }) :
    wpAny (model prog w) A (call (.type "enumerate") [v]) Q E s := by
  refine callType_new F.called_enumerate (by decide) (F.typeCall_enumerate_1 _) (F.newCall_enumerate_1 _) (fun obj => F.args_object_init_2 obj _) F.entry_enumerate_new
    (y_meets_enumerate_newB B) ⟨h1, ?_⟩
  have hz : (s.heap.push o).objs.size = s.heap.objs.size + 1 := Heap.size_push ..
  show _ ∧ _
  rw [hz]
  have he : IsEnum ((s.heap.push o).push { cls := .type "enumerate", data := .fields #[.none, .bool false, .ref s.heap.objs.size, rawInt 0, .none, .none] }) (s.heap.objs.size + 1) s.heap.objs.size 0 .none := by
    have := Heap.get?_push_size (s.heap.push o) (o := { cls := .type "enumerate", data := .fields #[.none, .bool false, .ref s.heap.objs.size, rawInt 0, .none, .none] }) rfl
    rw [hz] at this; exact this
  refine ⟨⟨_, he, rfl⟩, h _ he (Heap.get?_push_of_some _ (Heap.get?_push_size _ B.free)) (by rw [Heap.size_push, hz]) fun b o x => Heap.get?_push_of_some _ (Heap.get?_push_of_some _ x)⟩
end PySem
namespace Y
open PySem PySem.Spec PyProof.Rows L2
/-- the tuple at a, each item in a new pair -/
def IteT (K : PySem.W.Frag) (a : Addr) : It :=
  ⟨fun i H => ∃ (xs : List V) (x : V), SqT K H a xs ∧ xs[i]? = some x, fun i H v H' => ∃ T x, v = .ref T ∧ H T = none ∧ H' = upd H T (.tup [.int (i : Nat), x]) ∧ ∀ xs, SqT K H a xs → xs[i]? = some x, fun i H => ∃ xs : List V, SqT K H a xs ∧ xs.length = i⟩
theorem turn_enumT {P : Program} {w : World} {K : PySem.W.Frag} {elts : List Expr} {kk : Nat} {tpos : Pos} (a e it : Addr) (hai : a ≠ it) (hae : a ≠ e) :
    Turn P w K (.Tuple elts kk tpos) (IteT K a) [e, it] e (fun i h => (∃ old, IsEnum h e it ((i : Nat) : Int) old) ∧ h.IsTupleIter it a i ∧ e ≠ it) where
  mem := by simp
  obj := fun i h st b hb => by
    obtain ⟨⟨old, he⟩, ⟨o, ho, hc, hd⟩, _⟩ := st
    have e' : b = e ∨ b = it := by simpa using hb
    rcases e' with z | z
    · rw [z]; exact ⟨_, he, fun v q => nomatch q⟩
    · rw [z]; exact ⟨o, ho, fun v q => by rw [hd] at q; cases q⟩
  keep := fun i h h' st k => let ⟨⟨old, he⟩, hi, hne⟩ := st; ⟨⟨old, k e (by simp) _ he⟩, hi.at fun o q => k it (by simp) o q, hne⟩
  item := by
    intro X hP hw hK hc i pins s σ H E I hf st hg
    subst hP hw hK
    obtain ⟨⟨old, he⟩, hit, hne⟩ := st
    obtain ⟨xs, x, hq, hx⟩ := hg
    obtain ⟨its, rv, p, hz⟩ := I.tuple hq
    obtain ⟨u, hu, ru⟩ := rv.get hx
    have hel : e < s.heap.objs.size := Heap.lt_size he
    have hil : it < s.heap.objs.size := by obtain ⟨_, q, _⟩ := hit; exact Heap.lt_size q
    have hi : i < its.toArray.size := by
      have := (List.getElem?_eq_some_iff.mp hu).1
      simpa using this
    refine wpAny_pyNext_enum_itemC (Draws.tuple (A := X.A.in1) (by exact I.ok.hd hc) it a hai its.toArray) he ⟨hit, p⟩ hi hne (by simp [hne, Ne.symm hae]) fun x' h' tk hP' ho hst' hT hsz hk => ?_
    have ex : x' = u := by
      have h1 : its.toArray[i]? = some x' := hP'
      have h2 : its.toArray[i]? = some u := by simpa using hu
      rw [h1] at h2
      exact Option.some.inj h2
    subst ex
    refine ⟨_, rfl, wpAny_letOwnedTupleGo_enum (s := { s with heap := h', toks := tk + 1 }) ho fun h'' he' sb => ?_⟩
    have hT2 : h''.get? s.heap.objs.size = some { cls := .type "tuple", data := .seq #[.int i tk, x'] } := (sb.2 _ (Nat.ne_of_gt hel)).trans hT
    have new : ObjOk X.prog X.w (upd H s.heap.objs.size (.tup [.int (i : Nat), x])) h'' s.heap.objs.size (.tup [.int (i : Nat), x]) :=
      ⟨by show 2 ≤ sizeLine; decide, [.int i tk, x'], .cons ⟨_, rfl⟩ (.cons ru .nil), ⟨_, hT2, rfl, _, rfl⟩⟩
    have I1 : Inv X pins σ (upd H s.heap.objs.size (.tup [.int (i : Nat), x])) { s with heap := h'', toks := tk + 1 } :=
      I.turnedNew (ch := [e, it]) (fun b ob hb q => (sb.2 b (fun z => hb (by simp [z]))).trans (hk b ob (fun z => hb (by simp [z])) (fun z => hb (by simp [z])) q)) hf (Nat.le_refl _) new
    refine ⟨.ref s.heap.objs.size, _, I1, rfl, ⟨_, x, rfl, I.hok.fresh (Nat.le_refl _), rfl, fun ys hy => by rw [I.tuple_inj hy hq]; exact hx⟩, ⟨⟨x', ?_⟩, hst'.1.at fun o q => (sb.2 it (Ne.symm hne)).trans q, hne⟩, fun b hb => ?_⟩
    · have e1 : ((i + 1 : Nat) : Int) = (i : Int) + 1 := by omega
      rw [e1]; exact he'
    · have hb' : b < s.heap.objs.size := by
        have e' : b = e ∨ b = it := by simpa using hb
        rcases e' with z | z
        · rw [z]; exact hel
        · rw [z]; exact hil
      rw [upd_ne (Nat.ne_of_lt hb')]
      exact (hf b hb).1
  done := by
    intro X hP hw hK hc i pins s σ H E I hf st hg
    subst hP hw hK
    obtain ⟨⟨old, he⟩, hit, hne⟩ := st
    obtain ⟨xs, hq, hx⟩ := hg
    obtain ⟨its, rv, p, hz⟩ := I.tuple hq
    obtain ⟨f0, f1, f2, f3, f4, f5⟩ := hf it (by simp)
    have hl : its.toArray.size = i := by
      rw [List.size_toArray, ← rv.length]; exact hx
    exact wpAny_pyNext_enum_endD (Draws.tuple (A := X.A.in1) (by exact I.ok.hd hc) it a hai its.toArray) he (by rw [hl]; exact ⟨hit, p⟩) fun h' eb => ⟨rfl, I.turned (t' := s.toks) (fun b o hb q => eb b o hb q) f0 f1 f3 f4 f5⟩
  self := fun A i s Q E st h => let ⟨⟨_, he⟩, _⟩ := st; wpAny_pyIter_enum he h
def iEnumU (K : PySem.W.Frag) (ta : TA) : TI := fun σ H R => ta σ H fun vs H1 => ∃ a xs, vs = [.ref a] ∧ ((SqL K H1 a xs ∧ R (Ite K a) H1) ∨ (SqT K H1 a xs ∧ R (IteT K a) H1))
theorem pi_enumU {X : Cx} {e : Expr} {ta : TA} {p pos tpos : Pos} {elts : List Expr} {kk : Nat} (hg : Gl X "enumerate") (hm : X.mg "enumerate" = none) (ha : PA X [e] ta) (hs : starEach [e] X.env = [(false, eval e X.env)] := by rfl) :
    PI X (.Tuple elts kk tpos) (.Call (.Name "enumerate" p) [e] [] pos) (iEnumU X.K ta) := by
  refine ⟨fun pins s σ H R I h => ?_⟩
  refine Call_ (ld_blt I hg hm boot_enumerate (PyProof.Rows.callWith_type1 (thn (ha.run pos pins s σ H _ I h) fun us s1 ⟨vs, H1, I1, r1, q1⟩ => ?_) hs rfl))
  obtain ⟨a, xs, ex, q1⟩ := q1
  subst ex
  cases r1 with
  | cons r rr =>
    cases rr
    cases r
    have fresh2 : ∀ b, b ∈ [s1.heap.objs.size + 1, s1.heap.objs.size] → FpOk X pins H1 b := fun b hb => by
      have e' : b = s1.heap.objs.size + 1 ∨ b = s1.heap.objs.size := by simpa using hb
      have hle : s1.heap.objs.size ≤ b := by
        rcases e' with z | z
        · rw [z]; exact Nat.le_add_right _ _
        · rw [z]; exact Nat.le_refl _
      exact I1.fpOk hle (I1.hok.fresh hle)
    rcases q1 with ⟨hq, q⟩ | ⟨hq, q⟩
    · obtain ⟨its, rv, p', hz⟩ := I1.list hq
      refine call_enumerate_list p'.isList fun h' he hit hsz hk => wpAny_pyIter_enum he ?_
      have I2 : Inv X pins σ H1 { s1 with heap := h' } := I1.kept (t' := s1.toks) hk
      exact ⟨s1.heap.objs.size + 1, [s1.heap.objs.size + 1, s1.heap.objs.size], _, _, H1, rfl, I2, turn_enum a (s1.heap.objs.size + 1) s1.heap.objs.size, ⟨⟨.none, he⟩, hit, Nat.succ_ne_self _⟩, fresh2, q⟩
    · obtain ⟨its, rv, p', hz⟩ := I1.tuple hq
      have la : a < s1.heap.objs.size := p'.lt
      refine y_enum_begins (begins_tuple a its.toArray) (show s1.heap.IsTuple a its.toArray from p') fun h' he hit hsz hk => wpAny_pyIter_enum he ?_
      have I2 : Inv X pins σ H1 { s1 with heap := h' } := I1.kept (t' := s1.toks) hk
      exact ⟨s1.heap.objs.size + 1, [s1.heap.objs.size + 1, s1.heap.objs.size], _, _, H1, rfl, I2, turn_enumT a (s1.heap.objs.size + 1) s1.heap.objs.size (Nat.ne_of_lt la) (Nat.ne_of_lt (Nat.lt_succ_of_lt la)), ⟨⟨.none, he⟩, ⟨_, hit, rfl, rfl⟩, Nat.succ_ne_self _⟩, fresh2, q⟩
/-- the items with their numbers -/
def enumD (lo : Nat) : List D → List D
  | [] => []
  | d :: r => .tup [.int (lo : Nat), d] :: enumD (lo + 1) r
theorem enumD_len : ∀ (ds : List D) (lo : Nat), (enumD lo ds).length = ds.length
  | [], _ => rfl
  | _ :: r, lo => congrArg (· + 1) (enumD_len r (lo + 1))
theorem enumD_get : ∀ (ds : List D) (lo i : Nat), (enumD lo ds)[i]? = ds[i]?.map fun d => D.tup [.int ((lo + i : Nat) : Int), d]
  | [], _, _ => by simp [enumD]
  | d :: r, lo, 0 => by simp [enumD]
  | d :: r, lo, i + 1 => by
    have := enumD_get r (lo + 1) i
    simp only [enumD, List.getElem?_cons_succ]
    rw [this]
    congr 1
    funext d
    rw [show lo + 1 + i = lo + (i + 1) by omega]
section
variable {X : Cx} {W : WX} {g : Ge} {F G H : Hp} {ι : Io} {μ : Mu}
theorem items_pair {J : It} {n : Nat} {Gs : Hp → Prop} {xs : Nat → Option V} {ds : List D} {st : Mu → Prop} (w : Walk J n Gs (YPair (fun i => some (.int (i : Nat))) xs)) (hn : n = ds.length)
    (hG : ∀ F' G' ι' H μ, Ext G ι G' ι' → Rel g F' G' ι' H μ → st μ → Gs H)
    (hx : ∀ F' G' ι' H μ i x, Ext G ι G' ι' → Rel g F' G' ι' H μ → st μ → xs i = some x → ∃ d, ds[i]? = some d ∧ VD g G' ι' x d) : Items g F G ι J (enumD 0 ds) st := by
  subst hn
  refine ⟨Gs, _, by rw [enumD_len]; exact w, hG, ?_⟩
  rintro F' G' ι' H μ i x H' e R s ⟨T, y, z, rfl, hT, rfl, hy, hz⟩
  cases hy
  obtain ⟨d, hd, vd⟩ := hx F' G' ι' H μ i z e R s hz
  obtain ⟨R2, e2⟩ := R.frozen (o := .tup [.int (i : Nat), z]) hT
  refine ⟨.tup [.int (i : Nat), d], _, ?_, e2, R2, .tup (.of upd_same) (.cons (.int _) (.cons (vd.mono e2) .nil)) (by show 2 ≤ sizeLine; decide)⟩
  rw [enumD_get, hd]
  simp
theorem walk_enumT {K : PySem.W.Frag} {a : Addr} {xs : List V} : Walk (IteT K a) xs.length (fun H => SqT K H a xs) (YPair (fun i => some (.int (i : Nat))) (fun i => xs[i]?)) := by
  refine ⟨fun i _ hi q => ⟨xs, xs[i], q, by simp [hi]⟩, fun _ q => ⟨xs, q, rfl⟩, fun i H v H' _ q y => ?_⟩
  obtain ⟨T, x, h1, h2, h3, h4⟩ := y
  exact ⟨T, .int (i : Nat), x, h1, h2, h3, rfl, h4 xs q⟩
def dEnum (T : TD) : TId := fun ρ μ Q E => T ρ μ (fun d μ1 => opQ (asQ μ1 d) fun ds => Q (enumD 0 ds) (stOf μ1 d) μ1) E
theorem di_enum {e : Expr} {p pos tpos : Pos} {elts : List Expr} {kk : Nat} {T : TD} (hg : Gl X "enumerate") (hm : X.mg "enumerate" = none) (h : DE X W (gx X) e T) (hs : starEach [e] X.env = [(false, eval e X.env)] := by rfl) :
    DI X W (gx X) (.Tuple elts kk tpos) (.Call (.Name "enumerate" p) [e] [] pos) (dEnum T) := by
  obtain ⟨t, h1, h2⟩ := h
  refine ⟨_, pi_enumU hg hm (pa_cons h1 pa_nil (by exact hs)) hs, fun F G ι σ H ρ μ Q E P r R L q k => h2 F G ι σ H ρ μ _ E _ r R L q fun G1 ι1 μ1 H1 v d e1 R1 v1 q1 => ?_⟩
  obtain ⟨ds, hd, q1⟩ := opQ_get q1
  show ∃ a xs, [v] = [.ref a] ∧ _
  cases v1 with
  | lst a1 a2 a3 =>
    cases hd
    refine ⟨_, _, rfl, .inl ⟨.of (R1.same _ _ a1), k G1 ι1 μ1 H1 _ _ _ e1 R1 (items_pair (walk_enum (K := X.K)) a2.length (fun F' G' ι' H μ e R _ => .of (R.same _ _ (e.g _ _ a1))) fun F' G' ι' H μ i x e R _ hx => ?_) q1⟩⟩
    obtain ⟨d, hd, vd⟩ := a2.get' hx
    exact ⟨d, hd, vd.mono e⟩
  | tup a1 a2 a3 =>
    cases hd
    refine ⟨_, _, rfl, .inr ⟨sqT_mono R1.same a1, k G1 ι1 μ1 H1 _ _ _ e1 R1 (items_pair (walk_enumT (K := X.K)) a2.length (fun F' G' ι' H μ e R _ => sqT_mono R.same (sqT_mono e.g a1)) fun F' G' ι' H μ i x e R _ hx => ?_) q1⟩⟩
    obtain ⟨d, hd, vd⟩ := a2.get' hx
    exact ⟨d, hd, vd.mono e⟩
  | scr a1 a3 =>
    cases hd
    refine ⟨_, _, rfl, .inl ⟨sqL_mono R1.same a1, k G1 ι1 μ1 H1 _ _ _ e1 R1 (items_pair (walk_enum (K := X.K)) (by simp) (fun F' G' ι' H μ e R _ => sqL_mono R.same (sqL_mono e.g a1)) fun F' G' ι' H μ i x e R _ hx => ?_) q1⟩⟩
    obtain ⟨d, hd, vd⟩ := (VDs.ints (g := gx X) (G := G') (ι := ι') _).get' hx
    exact ⟨d, hd, vd⟩
  | @ptr a n hp =>
    have hd : (match μ1 n with | some (.lst ds) => some ds | _ => none) = some ds := hd
    split at hd <;> try cases hd
    rename_i em
    obtain ⟨a', xs, ea, hn, h3, h4, _⟩ := ptr_lst R1 (.ptr hp) em
    cases ea
    have cellAt : ∀ F' G' ι' H μ, Ext G1 ι1 G' ι' → Rel (gx X) F' G' ι' H μ → stOf μ1 (.ptr n) μ → ∃ ys, H a = some (.lst ys) ∧ VDs (gx X) G' ι' ys ds := fun F' G' ι' H μ e R st => by
      obtain ⟨b, k1, k2, ys, k3, k4, _⟩ := R.cell n _ (st.trans em)
      rw [e.i n a hn] at k1; cases k1
      exact ⟨ys, k3, k4⟩
    refine ⟨_, _, rfl, .inl ⟨.of h3, k G1 ι1 μ1 H1 _ _ _ e1 R1 ?_ q1⟩⟩
    refine ⟨fun H => ∃ ys, SqL X.K H a ys ∧ ys.length = ds.length, fun i H v H' => ∃ T x, v = .ref T ∧ H T = none ∧ H' = upd H T (.tup [.int (i : Nat), x]) ∧ ∀ xs, SqL X.K H a xs → xs[i]? = some x, ?_, ?_, ?_⟩
    · rw [enumD_len]
      exact ⟨fun i H hi ⟨ys, g1, g2⟩ => ⟨ys, ys[i]'(by omega), g1, List.getElem?_eq_getElem (by omega)⟩, fun H ⟨ys, g1, g2⟩ => ⟨ys, g1, by omega⟩, fun i H x H' hi _ y => y⟩
    · intro F' G' ι' H μ e R st
      obtain ⟨ys, g1, g2⟩ := cellAt F' G' ι' H μ e R st
      exact ⟨ys, .of g1, g2.length⟩
    · rintro F' G' ι' H μ i x H' e R st ⟨T, z, rfl, hT, rfl, hz⟩
      obtain ⟨ys, g1, g2⟩ := cellAt F' G' ι' H μ e R st
      obtain ⟨d, hd, vd⟩ := g2.get' (hz ys (.of g1))
      obtain ⟨R2, e2⟩ := R.frozen (o := .tup [.int (i : Nat), z]) hT
      refine ⟨.tup [.int (i : Nat), d], _, ?_, e2, R2, .tup (.of upd_same) (.cons (.int _) (.cons (vd.mono e2) .nil)) (by show 2 ≤ sizeLine; decide)⟩
      rw [enumD_get, hd]
      simp
  | _ => cases hd
end
end Y
namespace PySem
open Sem (wp)
end PySem
namespace PySem
open Sem (wp)
end PySem
namespace Y
open PySem PySem.Spec PyProof.Rows L2
def ItAt (b : Bool) (h : Heap) (it a : Addr) (i : Nat) : Prop := match b with | true => h.IsListIter it a i | false => h.IsTupleIter it a i
def SeqAt (b : Bool) (h : Heap) (a : Addr) (xs : Array Value) : Prop := match b with | true => h.IsList a xs | false => h.IsTuple a xs
theorem ItAt.at {b : Bool} {h h' : Heap} {it a : Addr} {i : Nat} (x : ItAt b h it a i) (k : ∀ o, h.get? it = some o → h'.get? it = some o) : ItAt b h' it a i := match b, x with | true, x => Heap.IsListIter.at x k | false, x => Heap.IsTupleIter.at x k
theorem ItAt.obj {b : Bool} {h : Heap} {it a : Addr} {i : Nat} (x : ItAt b h it a i) : ∃ o, h.get? it = some o ∧ ∀ v, o.data ≠ .cell v := by
  cases b
  · obtain ⟨o, e, _, d⟩ := x
    exact ⟨o, e, fun v q => by rw [d] at q; cases q⟩
  · obtain ⟨o, e, _, d⟩ := x
    exact ⟨o, e, fun v q => by rw [d] at q; cases q⟩
end Y
namespace Y
open PySem PySem.Spec PyProof.Rows L2
/-- pairs of two lists' items -/
def zipD : List D → List D → List D
  | x :: xs, y :: ys => .tup [x, y] :: zipD xs ys
  | _, _ => []
section
variable {X : Cx} {W : WX} {g : Ge} {F G H : Hp} {ι : Io} {μ : Mu}
def dEZ (T : TL) : TId := fun ρ μ Q E => T ρ μ (fun dd μ1 => match dd with | [d, e] => (opQ (asQ μ1 d) fun ds => opQ (asQ μ1 e) fun es => Q (enumD 0 (zipD ds es)) (fun μ' => stOf μ1 d μ' ∧ stOf μ1 e μ') μ1) | _ => False) E
end
end Y
namespace Y
open PySem PySem.Spec PyProof.Rows L2
end Y
namespace Y
open PySem PySem.Spec PyProof.Rows L2
section
variable {X : Cx} {W : WX} {g : Ge}
def DK (X : Cx) (W : WX) (g : Ge) (kws : List Keyword) (T : TL) : Prop := ∃ t, PK X kws t ∧ RdL W g t T
theorem dk_nil : DK X W g [] dNil := ⟨_, pk_nil, rd_nil⟩
theorem dk_cons {e : Expr} {kws : List Keyword} {nm : Option Str} {kpos : Pos} {T : TD} {U : TL} (h1 : DE X W g e T) (h2 : DK X W g kws U) : DK X W g (⟨nm, e, kpos⟩ :: kws) (dCons T U) := by
  obtain ⟨t, a, b⟩ := h1
  obtain ⟨u, c, d⟩ := h2
  exact ⟨_, pk_cons a c, rd_cons b d⟩
/-- a def that may be called by its name with n values and the keywords ks -/
structure CalK (P : Program) (w : World) (K : PySem.W.Frag) (mg : Str → Option Value) (base : Heap) (k : Nat) (x : Str) (sp : DSp) (n : Nat) (ks : List Str) (gD : List D → List D → List D) : Prop where
  ex : ∃ (f : Addr) (fd : FuncData) (ps : List Str) (go : List Value → List Value → List Value) (gV : List V → List V → List V), FnOk P w K mg base (CX K P w) k f fd ps (lift ⟨K, mg, w⟩ sp) ∧ mg x = some (.ref f) ∧ PySem.W.keepIn K (.ref f) = true ∧ KBn K fd ps n ks go gV ∧
    ∀ G ι vs ds zs es, VDs ⟨K, mg, w⟩ G ι vs ds → VDs ⟨K, mg, w⟩ G ι zs es → VDs ⟨K, mg, w⟩ G ι (gV vs zs) (gD ds es)
def dCallK (sp : DSp) (n m : Nat) (gD : List D → List D → List D) (U UK : TL) : TD := fun ρ μ Q E => U ρ μ (fun ds μ1 => UK ρ μ1 (fun es μ2 => ds.length = n ∧ es.length = m ∧ sp (gD ds es) μ2 Q E) E) E
def tCallNS (n m : Nat) (sp : Sp) (gV : List V → List V → List V) (E : L2.St → XK) (t tk : TA) : TE := fun σ H Q => t σ H fun vs H1 => tk σ H1 fun zs H2 => vs.length = n ∧ zs.length = m ∧ sp (gV vs zs) H2 Q (E σ)
theorem run_fnNS {CX : CXT} {k n : Nat} {f : Addr} {fd : FuncData} {ps ks : List Str} {sp : Sp} {E : XK} {go : List Value → List Value → List Value} {gV : List V → List V → List V} {pins : List (Addr × Obj)} {σ : L2.St} {H : Hp} {s : Shared} {Q : VK} {us ws : List Value} {vs zs : List V}
    (F : FnOk X.prog X.w X.K X.mg X.base CX k f fd ps sp) (hr : Room k X.A) (hb : KBn X.K fd ps n ks go gV) (hx : PassesAt CX X σ E) (I : Inv X pins σ H s) (r : Vals vs us) (rz : Vals zs ws) (l1 : vs.length = n) (l2 : zs.length = ks.length) (h : sp (gV vs zs) H Q E) :
    wpAny (model X.prog X.w) X.A (call (.ref f) us (ks.zip ws)) (EP X pins σ Q) X.xe s := by
  have b := hb.to s us ws I.kIn (r.length.symm.trans l1) (rz.length.symm.trans l2)
  refine wpAny_call (codeAny_mono (F.run X.A X.stack s H ⟨us, ks.zip ws⟩ _ _ Q E hr I.env0 b (hb.rel r rz) h) fun fin s' hq => ?_)
  match fin, hq with
  | .error e, hq => exact hx pins H s e s' I hq
  | .ok (.ret u), hq => exact I.after hq
  | .ok .next, hq => exact hq.elim
  | .ok .brk, hq => exact hq.elim
  | .ok .cont, hq => exact hq.elim
theorem rd_callK {n m : Nat} {sp : DSp} {gV : List V → List V → List V} {gD : List D → List D → List D} {t tk : TA} {U UK : TL} (hd : ∀ G ι vs ds zs es, VDs g G ι vs ds → VDs g G ι zs es → VDs g G ι (gV vs zs) (gD ds es)) (h : RdL W g t U) (h' : RdL W g tk UK) :
    RdE W g (tCallNS n m (lift g sp) gV (fun σ cls d H => W cls d σ H) t tk) (dCallK sp n m gD U UK) := fun F G ι σ H ρ μ Q E P r R L q k =>
  h F G ι σ H ρ μ _ E _ r R L q fun G1 ι1 μ1 H1 vs ds e1 R1 v1 q1 => h' F G1 ι1 σ H1 ρ μ1 _ E _ (r.mono e1) R1 (L.mono e1) q1 fun G2 ι2 μ2 H2 zs es e2 R2 v2 q2 =>
    ⟨(v1.length).trans q2.1, (v2.length).trans q2.2.1, F, G2, ι2, μ2, _, Q, E, R2, hd G2 ι2 _ _ _ _ (v1.mono e2) v2, q2.2.2,
      fun G3 ι3 H3 μ3 v d e3 R3 v3 q3 => k G3 ι3 μ3 H3 v d ((e1.trans e2).trans e3) R3 v3 q3, fun G3 ι3 H3 μ3 cls dx x e3 R3 xr q3 => L G3 ι3 H3 μ3 cls dx x ((e1.trans e2).trans e3) R3 xr q3⟩
theorem de_callK {k j n : Nat} {ks : List Str} {x : Str} {sp : DSp} {gD : List D → List D → List D} {p pos : Pos} {e : Expr} {es : List Expr} {kws : List Keyword} {U UK : TL} (c : CalK X.prog X.w X.K X.mg X.base k x sp n ks gD) (hr : Room j X.A) (tk : Takes X W) (ha : DA X W (gx X) (e :: es) U) (hkw : DK X W (gx X) kws UK)
    (hk : k ≤ j := by decide) (hg : Gl X x := by rfl) (hall : (backToKw pos (keywordEach kws X.env)).all (·.1.isSome) = true := by rfl) (hks : (backToKw pos (keywordEach kws X.env)).filterMap (·.1) = ks := by rfl)
    (hdb : (x == ("__debug__" : Str)) = false := by decide) (he : starEach (e :: es) X.env = (false, eval e X.env) :: starEach es X.env := by rfl)
    (hpl : ((backTo pos (starEach (e :: es) X.env)).any (·.1) || (backToKw pos (keywordEach kws X.env)).any (·.1.isNone)) = false := by rfl) :
    DE X W (gx X) (.Call (.Name x p) (e :: es) kws pos) (dCallK sp n ks.length gD U UK) := by
  obtain ⟨f, fd, ps, go, gV, F, hm, kp, b, vd⟩ := c.ex
  obtain ⟨t, h1, h2⟩ := ha
  obtain ⟨tk', h3, h4⟩ := hkw
  refine ⟨_, ⟨fun pins s σ H Q I h => ?_⟩, rd_callK vd h2 h4⟩
  refine wpAny_Call_Name_kw (ld_glob I hg hm ?_ hdb)
  refine PySem.W.callWith_KW (h₀ := X.base) I.ok.mod.kin kp hall (thn (h1.run pos pins s σ H _ I h) fun us s1 ⟨vs, H1, I1, r, q⟩ => thn (h3.run pos pins s1 σ H1 _ I1 q) fun ws s2 ⟨zs, H2, I2, rz, l1, l2, q2⟩ => ⟨I2.kIn, ?_⟩) hpl he
  rw [hks]
  exact run_fnNS F (hr.mono hk) b (passAt tk σ) I2 r rz l1 l2 q2
end
end Y
namespace Y
open PySem PySem.Spec PyProof.Rows L2
section
variable {P : Program} {w : World} {K : PySem.W.Frag} {mg : Str → Option Value} {base : Heap} {x qual : Str} {params : Arguments} {body : List Stmt} {scope : Scope} {dvs : List V} {kws : List (Str × V)} {f : Addr} {fd : FuncData} {N ps : List Str} {j : Nat} {T : SD} {sp : DSp}
/-- the body's derivation at every place where the def may run -/
abbrev BodyOk (P : Program) (w : World) (K : PySem.W.Frag) (mg : Str → Option Value) (base : Heap) (N : List Str) (qual : Str) (scope : Scope) (body : List Stmt) (f : Addr) (j : Nat) (T : SD) : Prop :=
  ∀ (cdv : Value) (A : Around) (outer : List Env) (s : Shared) (H : Hp) (E : XK), Room j (A.deeper (envOfC qual scope s.heap.objs.size f cdv)) → DSs (cxOf (CX K P w) P w K mg base N qual scope f cdv A outer s H E) (wE E) ⟨K, mg, w⟩ body T
theorem ok_of (F : FunD K x qual params body scope dvs kws f fd) (S : FnScope N ps scope) (hk : Keeps N ps T sp) (hb : BodyOk P w K mg base N qual scope body f j T) : FnOk P w K mg base (CX K P w) (j + 1) f fd ps (lift ⟨K, mg, w⟩ sp) := by
  obtain ⟨oc, od, dV, kV, doc, pm, an, cdv, ct, osl, rfl, lk, hcd, _, _⟩ := F.ex
  exact fn_data lk hcd S hk fun A outer s H E hr => hb cdv A outer s H E hr
theorem vds_nil {g : Ge} (G : Hp) (ι : Io) : VDs g G ι [] [] := .nil
/-- every parameter is written -/
theorem cal_of {k : Nat} (F : FunD K x qual params body scope [] kws f fd) (hm : mg x = some (.ref f)) (ok : FnOk P w K mg base (CX K P w) k f fd ps (lift ⟨K, mg, w⟩ sp))
    (h : ∀ (kV doc pm : Value) (an : Option Addr) (cdv ct : Value) (us : List Value), us.length = ps.length → bindArgs (PySem.W.fnOf x qual params body scope .none kV doc pm an cdv ct) ⟨us, []⟩ = pure (ps.zip us)) : CalD P w K mg base k x sp [] :=
  ⟨f, fd, ps, [], [], ok, hm, F.kp, F.bindsN h, .nil, vds_nil⟩
/-- a promise of nothing -/
abbrev spNo : DSp := fun _ _ _ _ => False
end
end Y
namespace Y
open PySem PySem.Spec PyProof.Rows L2
theorem ok_noK {P : Program} {w : World} {K : PySem.W.Frag} {mg : Str → Option Value} {base : Heap} {f : Addr} {fd : FuncData} {ps : List Str} (k : Nat) : FnOk P w K mg base (CX K P w) k f fd ps (lift ⟨K, mg, w⟩ spNo) :=
  ⟨fun _ _ _ _ ⟨_, _, _, _, _, _, _, _, _, z, _⟩ => z.elim, fun _ _ _ _ _ _ _ _ _ _ _ _ _ ⟨_, _, _, _, _, _, _, _, _, z, _⟩ => z.elim⟩
end Y
namespace Y
open PySem PySem.Spec PyProof.Rows L2
theorem for_ind {st : Mu → Prop} {n : D → Rho → Mu → (Rho → Mu → Prop) → Prop} {b : SD} {De : EndsD} (Iv : List D → Rho → Mu → Prop) (hst : ∀ ds ρ μ, Iv ds ρ μ → st μ)
    (hs : ∀ (d : D) (ds : List D) (ρ : Rho) (μ : Mu) (N : Rho → Mu → Prop), (∀ ρ μ, Iv ds ρ μ → N ρ μ) → Iv (d :: ds) ρ μ → n d ρ μ fun ρ' μ' => b { De with nx := N, ct := N, bk := De.nx } ρ' μ') (hd : ∀ ρ μ, Iv [] ρ μ → De.nx ρ μ) :
    ∀ (ds : List D) (ρ : Rho) (μ : Mu), Iv ds ρ μ → forD st n b De ds ρ μ
  | [], ρ, μ, h => ⟨hst _ _ _ h, hd _ _ h⟩
  | d :: ds, ρ, μ, h => ⟨hst _ _ _ h, hs d ds ρ μ _ (fun ρ μ q => for_ind Iv hst hs hd ds ρ μ q) h⟩
theorem lc_ind {st : Mu → Prop} {n : D → Rho → Mu → (Rho → Mu → Prop) → Prop} {C : TB} {T : TD} {ρ : Rho} {Q : List D → Mu → Prop} (Iv : List D → List D → Mu → Prop) (hst : ∀ ds acc μ, Iv ds acc μ → st μ)
    (hs : ∀ (d : D) (ds acc : List D) (μ : Mu) (N : List D → Mu → Prop), (∀ acc μ, Iv ds acc μ → N acc μ) → Iv (d :: ds) acc μ → n d ρ μ fun ρ' μ1 => C ρ' μ1 (fun b μ2 => ifB b (T ρ' μ2 (fun y μ3 => N (acc ++ [y]) μ3) (fun _ _ => False)) (N acc μ2)) (fun _ _ => False))
    (hd : ∀ acc μ, Iv [] acc μ → Q acc μ) : ∀ (ds acc : List D) (μ : Mu), Iv ds acc μ → lcD st n C T ρ Q ds acc μ
  | [], acc, μ, h => ⟨hst _ _ _ h, hd _ _ h⟩
  | d :: ds, acc, μ, h => ⟨hst _ _ _ h, hs d ds acc μ _ (fun acc μ q => lc_ind Iv hst hs hd ds acc μ q) h⟩
/-- nothing is changed: the items that pass, each by f -/
theorem lc_pure {st : Mu → Prop} {n : D → Rho → Mu → (Rho → Mu → Prop) → Prop} {C : TB} {T : TD} {ρ : Rho} {Q : List D → Mu → Prop} {μ : Mu} {ds : List D} (p : D → Bool) (f : D → D) (h0 : st μ)
    (hs : ∀ d ∈ ds, ∀ (M : QD) (N : Mu → Prop), (p d = true → M (f d) μ) → (p d = false → N μ) → n d ρ μ fun ρ' μ1 => C ρ' μ1 (fun b μ2 => ifB b (T ρ' μ2 M (fun _ _ => False)) (N μ2)) (fun _ _ => False)) (hd : Q ((ds.filter p).map f) μ) : lcD st n C T ρ Q ds [] μ := by
  refine lc_ind (fun r acc μ' => μ' = μ ∧ (∀ d ∈ r, d ∈ ds) ∧ acc ++ (r.filter p).map f = (ds.filter p).map f) (fun _ _ _ h => h.1 ▸ h0) ?_ ?_ ds [] μ ⟨rfl, fun _ h => h, rfl⟩
  · rintro d r acc μ' N hN ⟨rfl, hm, e⟩
    refine hs d (hm d (by simp)) _ _ (fun q => hN _ _ ⟨rfl, fun x hx => hm x (by simp [hx]), ?_⟩) (fun q => hN _ _ ⟨rfl, fun x hx => hm x (by simp [hx]), ?_⟩)
    · rw [← e, List.filter_cons_of_pos q]; simp
    · rw [← e, List.filter_cons_of_neg (by simp [q])]
  · rintro acc μ' ⟨rfl, _, e⟩
    have e : acc = (ds.filter p).map f := by simpa using e
    rw [e]
    exact hd
/-- .. all pass -/
theorem lc_map {st : Mu → Prop} {n : D → Rho → Mu → (Rho → Mu → Prop) → Prop} {T : TD} {ρ : Rho} {Q : List D → Mu → Prop} {μ : Mu} {ds : List D} (f : D → D) (h0 : st μ)
    (hs : ∀ d ∈ ds, ∀ (M : QD), M (f d) μ → n d ρ μ fun ρ' μ1 => T ρ' μ1 M (fun _ _ => False)) (hd : Q (ds.map f) μ) : lcD st n dYes T ρ Q ds [] μ := by
  refine lc_pure (fun _ => true) f h0 (fun d hd M N h1 _ => hs d hd M (h1 rfl)) ?_
  rw [List.filter_eq_self.mpr fun _ _ => rfl]
  exact hd
section
variable {ρ : Rho} {μ : Mu} {Q : QD} {E : XQ}
theorem s_enum {T : TD} {R : List D → (Mu → Prop) → Mu → Prop} (h : T ρ μ (fun d μ1 => opQ (asQ μ1 d) fun ds => R (enumD 0 ds) (stOf μ1 d) μ1) E) : dEnum T ρ μ R E := h
theorem s_ez {T U : TD} {R : List D → (Mu → Prop) → Mu → Prop} (h : T ρ μ (fun d μ1 => U ρ μ1 (fun e μ2 => opQ (asQ μ2 d) fun ds => opQ (asQ μ2 e) fun es => R (enumD 0 (zipD ds es)) (fun μ' => stOf μ2 d μ' ∧ stOf μ2 e μ') μ2) E) E) : dEZ (dCons T (dCons U dNil)) ρ μ R E := h
theorem s_callK {sp : DSp} {n m : Nat} {gD : List D → List D → List D} {U UK : TL} (h : U ρ μ (fun ds μ1 => UK ρ μ1 (fun es μ2 => ds.length = n ∧ es.length = m ∧ sp (gD ds es) μ2 Q E) E) E) : dCallK sp n m gD U UK ρ μ Q E := h
theorem s_lenE {α : Type} {ds : List α} {n : Nat} {A : Prop} (b : ds.length = n) (h : A) : ds.length = n ∧ A := ⟨b, h⟩
end
end Y
namespace Y
open PySem PySem.Spec PyProof.Rows L2
section
variable {μ : Mu}
theorem isi_int {d : D} {t : Ty} (h : tyD μ d = some t) : isiD μ [d, .ty "int"] = some (.bl (isiT t .int)) := by simp [isiD, h, clsTy]
theorem isi_bool {d : D} {t : Ty} (h : tyD μ d = some t) : isiD μ [d, .ty "bool"] = some (.bl (isiT t .bool)) := by simp [isiD, h, clsTy]
theorem isi_str {d : D} {t : Ty} (h : tyD μ d = some t) : isiD μ [d, .ty "str"] = some (.bl (isiT t .str)) := by simp [isiD, h, clsTy]
theorem isi_tuple {d : D} {t : Ty} (h : tyD μ d = some t) : isiD μ [d, .ty "tuple"] = some (.bl (isiT t .tuple)) := by simp [isiD, h, clsTy]
theorem isi_list {d : D} {t : Ty} (h : tyD μ d = some t) : isiD μ [d, .ty "list"] = some (.bl (isiT t .list)) := by simp [isiD, h, clsTy]
theorem s_isi {d : D} {n : String} {t u : Ty} {b : Bool} {K : D → Prop} (h : tyD μ d = some t) (e : isiD μ [d, .ty n] = some (.bl (isiT t u))) (hb : isiT t u = b) (k : K (.bl b)) : opQ (isiD μ [d, .ty n]) K := by
  rw [e, hb]; exact k
theorem ty_ptr {n : Nat} {ds : List D} (h : μ n = some (.lst ds)) : tyD μ (.ptr n) = some .list := by
  show (match μ n with | some (.lst _) => some Ty.list | some (.dk _) => some .dict | _ => none) = _
  rw [h]
theorem as_ptr {n : Nat} {ds : List D} (h : μ n = some (.lst ds)) : asQ μ (.ptr n) = some ds := by
  show (match μ n with | some (.lst ds) => some ds | _ => none) = _
  rw [h]
theorem as_len {d : D} {ds : List D} (h : asQ μ d = some ds) : lenD μ [d] = some (.int (ds.length : Nat)) := by
  cases d <;> first | (cases h; done) | (cases h; rfl) | (show (asQ μ (.ptr _)).map _ = _; rw [h]; rfl)
theorem at_nat {α : Type} {xs : List α} {i : Nat} {x : α} (h : xs[i]? = some x) : atI xs (i : Int) = some x := by
  have hl := (List.getElem?_eq_some_iff.mp h).1
  unfold atI ixN
  rw [if_pos (Int.natCast_nonneg _), if_pos (by omega)]
  exact h
theorem as_ix {d : D} {ds : List D} {i : Nat} {x : D} (h : asQ μ d = some ds) (hx : ds[i]? = some x) : ixD μ d (.int (i : Nat)) = some x := by
  cases d <;> first | (cases h; done) | (cases h; exact at_nat hx) | (show (asQ μ (.ptr _)).bind _ = _; rw [h]; exact at_nat hx)
theorem bools_true : ∀ (ds : List D), (∀ d ∈ ds, d = .bl true) → ∃ bs, boolsD ds = some bs ∧ bs.all id = true
  | [], _ => ⟨[], rfl, rfl⟩
  | d :: r, h => by
    obtain ⟨bs, h1, h2⟩ := bools_true r fun d q => h d (by simp [q])
    rw [h d (by simp)]
    refine ⟨true :: bs, ?_, by simpa using h2⟩
    show (boolsD r).map (true :: ·) = _
    rw [h1]; rfl
theorem all_true {ds : List D} (h : ∀ d ∈ ds, d = .bl true) : allD μ [.lst ds] = some (.bl true) := by
  obtain ⟨bs, h1, h2⟩ := bools_true ds h
  show (boolsD ds).map _ = _
  rw [h1]
  show some (D.bl (bs.all id)) = _
  rw [h2]
theorem range_get {lo : Int} {n : Nat} {d : D} (h : d ∈ rangeD lo n) : ∃ i : Nat, i < n ∧ d = .int (lo + (i : Nat)) := by
  unfold rangeD at h
  obtain ⟨i, hi, e⟩ := List.mem_map.mp h
  exact ⟨i, List.mem_range.mp hi, e.symm⟩
theorem range_len {lo : Int} {n : Nat} : (rangeD lo n).length = n := by simp [rangeD]
theorem b62_nat {n : Nat} (h : n ≤ sizeLine) : b62 (n : Int) = true := by
  unfold b62
  rw [sizeLine_eq] at h
  rw [decide_eq_true (by omega), decide_eq_true (by omega)]
  rfl
theorem list_of {d : D} {ds : List D} (h : asQ μ d = some ds) (hl : ds.length ≤ sizeLine) : listD μ [d] = some (.lst ds) := by
  show (asQ μ d).bind _ = _
  rw [h]
  show (if fits ds.length then some (D.lst ds) else none) = _
  rw [if_pos (fits_le.mpr hl)]
theorem tuple_of {d : D} {ds : List D} (h : asQ μ d = some ds) (hl : ds.length ≤ sizeLine) : tupleD μ [d] = some (.tup ds) := by
  show (asQ μ d).bind _ = _
  rw [h]
  show (if fits ds.length then some (D.tup ds) else none) = _
  rw [if_pos (fits_le.mpr hl)]
end
end Y
namespace Y
open PySem PySem.Spec PyProof.Rows L2
theorem s_nonF {d : D} {A B : Prop} (e : isNon d = false) (h : B) : ifB (isNon d) A B := by rw [e]; exact h
theorem s_nonT {d : D} {A B : Prop} (e : isNon d = true) (h : A) : ifB (isNon d) A B := by rw [e]; exact h
theorem s_notNonF {d : D} {A B : Prop} (e : isNon d = false) (h : A) : ifB (!isNon d) A B := by rw [e]; exact h
theorem s_notNonT {d : D} {A B : Prop} (e : isNon d = true) (h : B) : ifB (!isNon d) A B := by rw [e]; exact h
theorem s_nnT {A B : Prop} (h : B) : ifB (!true) A B := h
theorem s_nnF {A B : Prop} (h : A) : ifB (!false) A B := h
end Y
namespace Y
theorem s_selfN {α : Type} {a : α} [Decidable (a = a)] {A B : Prop} (h : B) : ifB (!decide (a = a)) A B := by rw [decide_eq_true rfl]; exact h
theorem s_self {α : Type} {a : α} [Decidable (a = a)] {A B : Prop} (h : A) : ifB (decide (a = a)) A B := by rw [decide_eq_true rfl]; exact h
theorem s_tfN {A B : Prop} (h : A) : ifB (!decide (true = false)) A B := h
theorem s_ftN {A B : Prop} (h : A) : ifB (!decide (false = true)) A B := h
theorem s_tf {A B : Prop} (h : B) : ifB (decide (true = false)) A B := h
theorem s_ft {A B : Prop} (h : B) : ifB (decide (false = true)) A B := h
end Y
namespace Y
open PySem PySem.Spec PyProof.Rows L2
/-- a tree without bools -/
def nb (μ : Mu) : Nat → D → Bool
  | _, .non => true
  | _, .int _ => true
  | _, .str x => PyData.strOk x
  | k + 1, .tup ds => ds.all (nb μ k)
  | k + 1, .lst ds => ds.all (nb μ k)
  | k + 1, .ptr n => match μ n with | some (.lst ds) => ds.all (nb μ k) | _ => false
  | _, _ => false
/-- the tree for which it stands -/
def der (μ : Mu) : Nat → D → D
  | k + 1, .tup ds => .tup (ds.map (der μ k))
  | k + 1, .lst ds => .lst (ds.map (der μ k))
  | k + 1, .ptr n => match μ n with | some (.lst ds) => .lst (ds.map (der μ k)) | _ => .non
  | _, d => d
section
variable {μ : Mu}
theorem nb_sh : ∀ (k : Nat) (d : D), nb μ k d = true → sh μ k d = true := by
  intro k
  induction k with
  | zero => intro d h; cases d <;> first | rfl | exact h | cases h
  | succ k ih =>
    intro d h
    have al : ∀ ds : List D, ds.all (nb μ k) = true → ds.all (sh μ k) = true := fun ds h => List.all_eq_true.mpr fun x hx => ih x (List.all_eq_true.mp h x hx)
    cases d with
    | tup ds => exact al ds h
    | lst ds => exact al ds h
    | ptr n =>
      have h : (match μ n with | some (.lst ds) => ds.all (nb μ k) | _ => false) = true := h
      show (match μ n with | some (.lst ds) => ds.all (sh μ k) | _ => false) = true
      split at h
      · exact al _ h
      · cases h
    | _ => first | rfl | exact h | cases h
/-- d is a tree at floor k, by its deref'd form t -/
theorem eqv_all {f : D → PyData} {e : D → D} : ∀ (xs ys : List D), (∀ x ∈ xs, ∀ y ∈ ys, (PyData.eqv (f x) (f y) = true ↔ e x = e y)) → (PyData.eqvAll (xs.map f) (ys.map f) = true ↔ xs.map e = ys.map e)
  | [], [], _ => by simp [PyData.eqvAll]
  | [], _ :: _, _ => by simp [PyData.eqvAll]
  | _ :: _, [], _ => by simp [PyData.eqvAll]
  | x :: xs, y :: ys, h => by
    have h1 := h x (by simp) y (by simp)
    have h2 := eqv_all xs ys fun a ha b hb => h a (by simp [ha]) b (by simp [hb])
    simp only [List.map_cons, PyData.eqvAll, Bool.and_eq_true, List.cons.injEq]
    rw [h1, h2]
/-- the form at the top alone -/
inductive Fm (μ : Mu) (k : Nat) : D → PyData → D → Prop
  | non : Fm μ k .non .none .non
  | int (i : Int) : Fm μ k (.int i) (.int i) (.int i)
  | str (x : Str) : Fm μ k (.str x) (.str x) (.str x)
  | tup {d : D} (ds : List D) : ds.all (nb μ k) = true → Fm μ k d (.tuple (ds.map (toP μ k))) (.tup (ds.map (der μ k)))
  | lst {d : D} (ds : List D) : ds.all (nb μ k) = true → Fm μ k d (.list (ds.map (toP μ k))) (.lst (ds.map (der μ k)))
theorem fm_of {k : Nat} {d : D} (h : nb μ (k + 1) d = true) : Fm μ k d (toP μ (k + 1) d) (der μ (k + 1) d) := by
  cases d with
  | non => exact .non
  | int i => exact .int i
  | str x => exact .str x
  | tup ds => exact .tup ds h
  | lst ds => exact .lst ds h
  | ptr n =>
    have h : (match μ n with | some (.lst ds) => ds.all (nb μ k) | _ => false) = true := h
    show Fm μ k (.ptr n) (match μ n with | some (.lst ds) => .list (ds.map (toP μ k)) | _ => .none) (match μ n with | some (.lst ds) => .lst (ds.map (der μ k)) | _ => .non)
    split at h
    · exact .lst _ h
    · cases h
  | _ => cases h
theorem eqv_nb : ∀ (k : Nat) (x y : D), nb μ k x = true → nb μ k y = true → (PyData.eqv (toP μ k x) (toP μ k y) = true ↔ der μ k x = der μ k y) := by
  intro k
  induction k with
  | zero =>
    intro x y hx hy
    cases x <;> first | (cases hx; done) | skip
    all_goals cases y <;> first | (cases hy; done) | simp [toP, der, PyData.eqv]
  | succ k ih =>
    intro x y hx hy
    have al : ∀ xs ys : List D, xs.all (nb μ k) = true → ys.all (nb μ k) = true → (PyData.eqvAll (xs.map (toP μ k)) (ys.map (toP μ k)) = true ↔ xs.map (der μ k) = ys.map (der μ k)) := fun xs ys h1 h2 =>
      eqv_all xs ys fun a ha b hb => ih a b (List.all_eq_true.mp h1 a ha) (List.all_eq_true.mp h2 b hb)
    have f1 := fm_of hx
    have f2 := fm_of hy
    generalize toP μ (k + 1) x = px at f1 ⊢
    generalize der μ (k + 1) x = qx at f1 ⊢
    generalize toP μ (k + 1) y = py at f2 ⊢
    generalize der μ (k + 1) y = qy at f2 ⊢
    cases f1 with
    | tup xs h1 =>
      cases f2 with
      | tup ys h2 => simp only [PyData.eqv]; rw [al xs ys h1 h2]; simp
      | _ => simp [PyData.eqv]
    | lst xs h1 =>
      cases f2 with
      | lst ys h2 => simp only [PyData.eqv]; rw [al xs ys h1 h2]; simp
      | _ => simp [PyData.eqv]
    | _ => cases f2 <;> simp [PyData.eqv]
theorem eqB_nb {x y : D} (hx : nb μ 32 x = true) (hy : nb μ 32 y = true) : ∃ b, eqB μ x y = some b ∧ (b = true ↔ der μ 32 x = der μ 32 y) := by
  have gen : (if sh μ 32 x && sh μ 32 y then some (PyData.eqv (toP μ 32 x) (toP μ 32 y)) else none) = some (PyData.eqv (toP μ 32 x) (toP μ 32 y)) := by
    rw [nb_sh _ _ hx, nb_sh _ _ hy]; rfl
  unfold eqB
  split
  · exact ⟨_, rfl, by simp [der]⟩
  · exact ⟨_, rfl, by simp [der]⟩
  · cases hx
  · exact ⟨_, rfl, by simp [der]⟩
  · exact ⟨_, rfl, by simp [der]⟩
  · exact ⟨_, rfl, by simp [der]⟩
  · exact ⟨_, rfl, by simp [der]⟩
  · exact ⟨_, rfl, by simp [der]⟩
  · exact ⟨_, gen, eqv_nb _ _ _ hx hy⟩
theorem s_eqT {x y : D} {K : D → Prop} (hx : nb μ 32 x = true) (hy : nb μ 32 y = true) (h : ∀ b : Bool, (b = true ↔ der μ 32 x = der μ 32 y) → K (.bl b)) : opQ (eqD μ x y) K := by
  obtain ⟨b, e, hb⟩ := eqB_nb hx hy
  unfold eqD
  rw [e]
  exact h b hb
theorem s_neT {x y : D} {K : D → Prop} (hx : nb μ 32 x = true) (hy : nb μ 32 y = true) (h : ∀ b : Bool, (b = true ↔ der μ 32 x = der μ 32 y) → K (.bl (!b))) : opQ (neD μ x y) K := by
  obtain ⟨b, e, hb⟩ := eqB_nb hx hy
  unfold neD
  rw [e]
  exact h b hb
end
end Y
namespace Y
open PySem PySem.Spec PyProof.Rows L2
section
variable {X : Cx} {W : WX} {g : Ge}
def tCh3 (r r' r'' : R2) (ta tb tc td : TE) : TT := fun σ H Q => ta σ H fun x H1 => tb σ H1 fun y H2 => r x y H2 fun z H3 => ∃ k, z = .bl k ∧
  (if k = true then tc σ H3 fun v H4 => r' y v H4 fun z' H5 => ∃ k', z' = .bl k' ∧ (if k' = true then td σ H5 fun u H6 => r'' v u H6 fun z'' H7 => ∃ k'', z'' = .bl k'' ∧ Q k'' H7 else Q false H5) else Q false H3)
theorem pt_ch3 {a b c d : Expr} {pos : Pos} {op op' op'' : CmpOp} {r r' r'' : R2} {ta tb tc td : TE} (ho : OpR X (compareOp op) r) (ho' : OpR X (compareOp op') r') (ho'' : OpR X (compareOp op'') r'') (ha : PE X a ta) (hb : PE X b tb) (hc : PE X c tc) (hd : PE X d td)
    (hm : lastMarks [op, op', op''] [b, c, d] = false := by with_unfolding_all rfl) : PT X (.Compare a [op, op', op''] [b, c, d] pos) (tCh3 r r' r'' ta tb tc td) := by
  refine ⟨fun pins s σ H Q I h => isTrue_chain (thn (ha.run pins s σ H _ I h) fun v s1 ⟨x, H1, I1, r1, q1⟩ => test_link (thn (hb.run pins s1 σ H1 _ I1 q1) fun u s2 ⟨y, H2, I2, r2, q2⟩ =>
    thn (ho pins s2 σ H2 x y v u _ I2 r1 r2 q2) fun e s3 ⟨z, H3, I3, r3, k, ek, q3⟩ => ?_)) hm⟩
  subst ek
  cases r3
  refine wpAny_truthy_bool ?_
  cases k with
  | false => exact ite_ff ⟨H3, I3, q3⟩
  | true =>
    refine ite_tt (test_link (thn (hc.run pins s3 σ H3 _ I3 q3) fun v4 s4 ⟨x4, H4, I4, r4, q4⟩ => thn (ho' pins s4 σ H4 y x4 u v4 _ I4 r2 r4 q4) fun e s5 ⟨z5, H5, I5, r5, k5, e5, q5⟩ => ?_))
    subst e5
    cases r5
    refine wpAny_truthy_bool ?_
    cases k5 with
    | false => exact ite_ff ⟨H5, I5, q5⟩
    | true =>
      refine ite_tt (test_last (thn (hd.run pins s5 σ H5 _ I5 q5) fun v6 s6 ⟨x6, H6, I6, r6, q6⟩ => thn (ho'' pins s6 σ H6 x4 x6 v4 v6 _ I6 r4 r6 q6) fun e s7 ⟨z7, H7, I7, r7, k7, e7, q7⟩ => ?_))
      subst e7
      cases r7
      exact wpAny_truthy_bool ⟨H7, I7, q7⟩
def dCh3 (f f' f'' : Mu → D → D → Option D) (Ta Tb Tc Td : TD) : TB := fun ρ μ Q E => Ta ρ μ (fun x μ1 => Tb ρ μ1 (fun y μ2 => opQ (f μ2 x y) fun z => onBl z fun k => ifB k
  (Tc ρ μ2 (fun v μ3 => opQ (f' μ3 y v) fun z' => onBl z' fun k' => ifB k' (Td ρ μ3 (fun u μ4 => opQ (f'' μ4 v u) fun z'' => onBl z'' fun k'' => Q k'' μ4) E) (Q false μ3)) E) (Q false μ2)) E) E
theorem db_ch3 {a b c d : Expr} {pos : Pos} {op op' op'' : CmpOp} {r r' r'' : R2} {f f' f'' : Mu → D → D → Option D} {Ta Tb Tc Td : TD} (ho : OpR X (compareOp op) r) (p : Prim2 g r f) (ho' : OpR X (compareOp op') r') (p' : Prim2 g r' f') (ho'' : OpR X (compareOp op'') r'') (p'' : Prim2 g r'' f'')
    (ha : DE X W g a Ta) (hb : DE X W g b Tb) (hc : DE X W g c Tc) (hd : DE X W g d Td) (hm : lastMarks [op, op', op''] [b, c, d] = false := by with_unfolding_all rfl) : DB X W g (.Compare a [op, op', op''] [b, c, d] pos) (dCh3 f f' f'' Ta Tb Tc Td) := by
  obtain ⟨ta, h1, h2⟩ := ha
  obtain ⟨tb, h3, h4⟩ := hb
  obtain ⟨tc, h5, h6⟩ := hc
  obtain ⟨td, h7, h8⟩ := hd
  refine ⟨_, pt_ch3 ho ho' ho'' h1 h3 h5 h7 hm, fun F G ι σ H ρ μ Q E P r R L q k => h2 F G ι σ H ρ μ _ E _ r R L q fun G1 ι1 μ1 H1 v x e1 R1 v1 q1 => h4 F G1 ι1 σ H1 ρ μ1 _ E _ (r.mono e1) R1 (L.mono e1) q1 fun G2 ι2 μ2 H2 u y e2 R2 v2 q2 => ?_⟩
  obtain ⟨z, ez, qz⟩ := opQ_get q2
  refine p F G2 ι2 H2 μ2 v u x y z _ R2 (v1.mono e2) v2 ez fun G3 H3 v3 e3 R3 k3 => ?_
  have e13 : Ext G ι G3 ι2 := (e1.trans e2).trans e3
  cases k3 with
  | bl b =>
    refine ⟨b, rfl, ?_⟩
    cases b with
    | false => exact k G3 ι2 μ2 H3 false e13 R3 qz
    | true =>
      show tc σ H3 _
      refine h6 F G3 ι2 σ H3 ρ μ2 _ E _ (r.mono e13) R3 (L.mono e13) qz fun G4 ι4 μ4 H4 v4 d4 e4 R4 k4 q4 => ?_
      obtain ⟨z4, ez4, qz4⟩ := opQ_get q4
      refine p' F G4 ι4 H4 μ4 u v4 y d4 z4 _ R4 ((v2.mono e3).mono e4) k4 ez4 fun G5 H5 v5 e5 R5 k5 => ?_
      have e15 : Ext G ι G5 ι4 := (e13.trans e4).trans e5
      cases k5 with
      | bl b =>
        refine ⟨b, rfl, ?_⟩
        cases b with
        | false => exact k G5 ι4 μ4 H5 false e15 R5 qz4
        | true =>
          show td σ H5 _
          refine h8 F G5 ι4 σ H5 ρ μ4 _ E _ (r.mono e15) R5 (L.mono e15) qz4 fun G6 ι6 μ6 H6 v6 d6 e6 R6 k6 q6 => ?_
          obtain ⟨z6, ez6, qz6⟩ := opQ_get q6
          refine p'' F G6 ι6 H6 μ6 v4 v6 d4 d6 z6 _ R6 ((k4.mono e5).mono e6) k6 ez6 fun G7 H7 v7 e7 R7 k7 => ?_
          cases k7 with
          | bl b => exact ⟨b, rfl, k G7 ι6 μ6 H7 b ((e15.trans e6).trans e7) R7 qz6⟩
          | _ => exact qz6.elim
      | _ => exact qz4.elim
  | _ => exact qz.elim
def min2D (_ : Mu) : List D → Option D
  | [.int i, .int j] => some (.int (if j < i then j else i))
  | _ => none
def max2D (_ : Mu) : List D → Option D
  | [.int i, .int j] => some (.int (if i < j then j else i))
  | _ => none
theorem prim_min2 : PrimL g (fun xs H Q => ∃ i j, xs = [.int i, .int j] ∧ Q (.int (if j < i then j else i)) H) min2D := by
  intro F G ι H μ xs ds z P R hx h k
  unfold min2D at h
  split at h
  · cases h
    cases hx with
    | cons a r =>
      cases r with
      | cons b r =>
        cases r
        cases a
        cases b
        exact ⟨_, _, rfl, k G H _ .refl R (.int _)⟩
  · cases h
def sNo : SD := fun _ _ _ => False
theorem ds_no {st : Stmt} : DS X W g st sNo := ⟨fun _ _ _ => False, ⟨fun _ _ _ _ _ _ h => h.elim⟩, fun _ _ _ _ _ _ _ _ _ _ _ _ q => q.elim⟩
end
def pick {α : Type} : List Nat → List α → List α
  | [], _ => []
  | i :: is, l => match l[i]? with
    | some x => x :: pick is l
    | none => pick is l
theorem Vals.at {vs : List V} {us : List Value} (h : Vals vs us) (i : Nat) : (vs[i]? = none ∧ us[i]? = none) ∨ ∃ v u, vs[i]? = some v ∧ us[i]? = some u ∧ RelV v u := by
  have hl := h.length
  cases e : vs[i]? with
  | none => exact .inl ⟨rfl, by rw [List.getElem?_eq_none_iff] at e ⊢; omega⟩
  | some v =>
    obtain ⟨u, h1, h2⟩ := h.get e
    exact .inr ⟨v, u, rfl, h1, h2⟩
theorem pick_vals {vs : List V} {us : List Value} (h : Vals vs us) : ∀ is : List Nat, Vals (pick is vs) (pick is us)
  | [] => .nil
  | i :: is => by
    unfold pick
    rcases Vals.at h i with ⟨e1, e2⟩ | ⟨v, u, e1, e2, r⟩
    · rw [e1, e2]; exact pick_vals h is
    · rw [e1, e2]; exact .cons r (pick_vals h is)
theorem pick_vds {g : Ge} {G : Hp} {ι : Io} {vs : List V} {ds : List D} (h : VDs g G ι vs ds) : ∀ is : List Nat, VDs g G ι (pick is vs) (pick is ds)
  | [] => .nil
  | i :: is => by
    have hl := h.length
    unfold pick
    cases e : vs[i]? with
    | none =>
      have e2 : ds[i]? = none := by rw [List.getElem?_eq_none_iff] at e ⊢; omega
      rw [e2]; exact pick_vds h is
    | some v =>
      obtain ⟨d, h1, h2⟩ := h.get' e
      rw [h1]; exact .cons h2 (pick_vds h is)
section
variable {ρ : Rho} {μ : Mu} {Q : QD} {E : XQ}
theorem s_ch3 {f f' f'' : Mu → D → D → Option D} {Ta Tb Tc Td : TD} {Q : Bool → Mu → Prop} (h : Ta ρ μ (fun x μ1 => Tb ρ μ1 (fun y μ2 => opQ (f μ2 x y) fun z => onBl z fun k => ifB k
  (Tc ρ μ2 (fun v μ3 => opQ (f' μ3 y v) fun z' => onBl z' fun k' => ifB k' (Td ρ μ3 (fun u μ4 => opQ (f'' μ4 v u) fun z'' => onBl z'' fun k'' => Q k'' μ4) E) (Q false μ3)) E) (Q false μ2)) E) E) : dCh3 f f' f'' Ta Tb Tc Td ρ μ Q E := h
theorem s_min2 {i j : Int} {K : D → Prop} (h : K (.int (if j < i then j else i))) : opQ (min2D μ [.int i, .int j]) K := h
theorem s_max2 {i j : Int} {K : D → Prop} (h : K (.int (if i < j then j else i))) : opQ (max2D μ [.int i, .int j]) K := h
end
end Y
namespace Y
open PySem PySem.Spec PyProof.Rows L2
section
variable {μ : Mu} {st : Mu → Prop} {n : D → Rho → Mu → (Rho → Mu → Prop) → Prop} {C : TB} {T : TD} {ρ : Rho} {Q : List D → Mu → Prop}
theorem lc_mapT {α : Type} (enc : α → D) (xs : List α) (f : α → D) (h0 : st μ) (hs : ∀ x ∈ xs, ∀ (M : QD), M (f x) μ → n (enc x) ρ μ fun ρ' μ1 => T ρ' μ1 M (fun _ _ => False)) (hd : Q (xs.map f) μ) : lcD st n dYes T ρ Q (xs.map enc) [] μ := by
  refine lc_ind (fun r acc μ' => μ' = μ ∧ ∃ ys, (∀ y ∈ ys, y ∈ xs) ∧ r = ys.map enc ∧ acc ++ ys.map f = xs.map f) (fun _ _ _ h => h.1 ▸ h0) ?_ ?_ _ _ _ ⟨rfl, xs, fun _ h => h, rfl, rfl⟩
  · rintro d r acc μ' N hN ⟨rfl, ys, hm, e, ha⟩
    cases ys with
    | nil => cases e
    | cons y ys =>
      cases e
      refine hs y (hm y (by simp)) _ (hN _ _ ⟨rfl, ys, fun z hz => hm z (by simp [hz]), rfl, ?_⟩)
      rw [← ha]; simp
  · rintro acc μ' ⟨rfl, ys, _, e, ha⟩
    cases ys with
    | nil =>
      have ha : acc = xs.map f := by simpa using ha
      rw [ha]; exact hd
    | cons y ys => cases e
theorem lc_filtT {α : Type} (enc : α → D) (xs : List α) (p : α → Bool) (f : α → D) (h0 : st μ)
    (hs : ∀ x ∈ xs, ∀ (M : QD) (N : Mu → Prop), (p x = true → M (f x) μ) → (p x = false → N μ) → n (enc x) ρ μ fun ρ' μ1 => C ρ' μ1 (fun b μ2 => ifB b (T ρ' μ2 M (fun _ _ => False)) (N μ2)) (fun _ _ => False))
    (hd : Q ((xs.filter p).map f) μ) : lcD st n C T ρ Q (xs.map enc) [] μ := by
  refine lc_ind (fun r acc μ' => μ' = μ ∧ ∃ ys, (∀ y ∈ ys, y ∈ xs) ∧ r = ys.map enc ∧ acc ++ (ys.filter p).map f = (xs.filter p).map f) (fun _ _ _ h => h.1 ▸ h0) ?_ ?_ _ _ _ ⟨rfl, xs, fun _ h => h, rfl, rfl⟩
  · rintro d r acc μ' N hN ⟨rfl, ys, hm, e, ha⟩
    cases ys with
    | nil => cases e
    | cons y ys =>
      cases e
      refine hs y (hm y (by simp)) _ _ (fun q => hN _ _ ⟨rfl, ys, fun z hz => hm z (by simp [hz]), rfl, ?_⟩) (fun q => hN _ _ ⟨rfl, ys, fun z hz => hm z (by simp [hz]), rfl, ?_⟩)
      · rw [← ha, List.filter_cons_of_pos q]; simp
      · rw [← ha, List.filter_cons_of_neg (by simp [q])]
  · rintro acc μ' ⟨rfl, ys, _, e, ha⟩
    cases ys with
    | nil =>
      have ha : acc = (xs.filter p).map f := by simpa using ha
      rw [ha]; exact hd
    | cons y ys => cases e
end
section
variable {μ : Mu}
/-- range as a coded list -/
def iota (lo : Int) (n : Nat) : List Int := (List.range n).map fun i => lo + (i : Nat)
theorem range_ints (lo : Int) (n : Nat) : rangeD lo n = (iota lo n).map .int := by
  unfold rangeD iota
  rw [List.map_map]; rfl
theorem ints_len (lo : Int) (n : Nat) : (iota lo n).length = n := by simp [iota]
theorem mem_ints {lo x : Int} {n : Nat} : x ∈ iota lo n ↔ lo ≤ x ∧ x < lo + n := by
  unfold iota
  rw [List.mem_map]
  constructor
  · rintro ⟨i, hi, rfl⟩
    have := List.mem_range.mp hi
    omega
  · rintro ⟨h1, h2⟩
    exact ⟨(x - lo).toNat, List.mem_range.mpr (by omega), by omega⟩
theorem ints_cons {lo : Int} {n : Nat} : iota lo (n + 1) = lo :: iota (lo + 1) n := by
  unfold iota
  rw [List.range_succ_eq_map, List.map_cons, List.map_map]
  refine congr (congrArg List.cons ?_) (List.map_congr_left fun i _ => ?_)
  · simp
  · show lo + ((i + 1 : Nat) : Int) = lo + 1 + (i : Int)
    omega
theorem boolsD_map : ∀ bs : List Bool, boolsD (bs.map .bl) = some bs
  | [] => rfl
  | b :: r => by
    show (boolsD (r.map .bl)).map (b :: ·) = _
    rw [boolsD_map r]; rfl
theorem all_bools (bs : List Bool) : allD μ [.lst (bs.map .bl)] = some (.bl (bs.all id)) := by
  show (boolsD (bs.map .bl)).map _ = _
  rw [boolsD_map]; rfl
theorem any_bools (bs : List Bool) : anyD μ [.lst (bs.map .bl)] = some (.bl (bs.any id)) := by
  show (boolsD (bs.map .bl)).map _ = _
  rw [boolsD_map]; rfl
theorem s_all {α : Type} {xs : List α} {p : α → Bool} {K : D → Prop} (h : K (.bl (xs.all p))) : opQ (allD μ [.lst (xs.map fun x => .bl (p x))]) K := by
  have e : xs.map (fun x => D.bl (p x)) = (xs.map p).map .bl := by rw [List.map_map]; rfl
  rw [e, all_bools, List.all_map]; exact h
theorem s_any {α : Type} {xs : List α} {p : α → Bool} {K : D → Prop} (h : K (.bl (xs.any p))) : opQ (anyD μ [.lst (xs.map fun x => .bl (p x))]) K := by
  have e : xs.map (fun x => D.bl (p x)) = (xs.map p).map .bl := by rw [List.map_map]; rfl
  rw [e, any_bools, List.any_map]; exact h
theorem flat_ints : ∀ ns : List Int, (ns.map D.int).all flatD = true
  | [] => rfl
  | _ :: r => flat_ints r
theorem any_ints (i : Int) : ∀ ns : List Int, ((ns.map D.int).any fun z => feq z (.int i)) = decide (i ∈ ns)
  | [] => rfl
  | n :: r => by
    have ih := any_ints i r
    rw [List.map_cons, List.any_cons, ih]
    show ((n == i) || decide (i ∈ r)) = _
    by_cases h : n = i
    · subst h; simp
    · have : ¬ i = n := fun e => h e.symm
      simp [h, this]
theorem s_inI {d : D} {i : Int} {ns : List Int} {K : D → Prop} (e : asQ μ d = some (ns.map .int)) (h : K (.bl (decide (i ∈ ns)))) : opQ (inD μ (.int i) d) K := by
  have z : inD μ (.int i) d = some (.bl (decide (i ∈ ns))) := by
    unfold inD
    rw [e]
    show (if (true && (ns.map D.int).all flatD) then _ else _) = _
    rw [flat_ints, any_ints]; rfl
  rw [z]; exact h
theorem s_notInI {d : D} {i : Int} {ns : List Int} {K : D → Prop} (e : asQ μ d = some (ns.map .int)) (h : K (.bl (!decide (i ∈ ns)))) : opQ (notInD μ (.int i) d) K := by
  have z : notInD μ (.int i) d = some (.bl (!decide (i ∈ ns))) := by
    unfold notInD
    rw [e]
    show (if (true && (ns.map D.int).all flatD) then _ else _) = _
    rw [flat_ints, any_ints]; rfl
  rw [z]; exact h
theorem s_ixA {d : D} {ds : List D} {i : Int} {x : D} {K : D → Prop} (e : asQ μ d = some ds) (h0 : 0 ≤ i) (hx : ds[i.toNat]? = some x) (h : K x) : opQ (ixD μ d (.int i)) K := by
  have e2 : i = ((i.toNat : Nat) : Int) := by omega
  rw [e2, as_ix e hx]; exact h
theorem s_lenA {d : D} {ds : List D} {K : D → Prop} (e : asQ μ d = some ds) (h : K (.int (ds.length : Nat))) : opQ (lenD μ [d]) K := by
  rw [as_len e]; exact h
theorem cut_to {α : Type} (xs : List α) {k : Int} (h : 0 ≤ k) : cutD xs none (some k) = xs.take k.toNat := by
  unfold cutD
  have e : HT.sIx xs.length xs.length (some k) = min k.toNat xs.length := by
    obtain ⟨j, rfl⟩ : ∃ j : Nat, k = (j : Int) := ⟨k.toNat, by omega⟩
    rw [HT.sIx_nat, Int.toNat_natCast]
  rw [e]
  show (xs.drop 0).take (min k.toNat xs.length - 0) = _
  rw [List.drop_zero, Nat.sub_zero]
  by_cases hk : k.toNat ≤ xs.length
  · rw [Nat.min_eq_left hk]
  · rw [Nat.min_eq_right (by omega), List.take_of_length_le (Nat.le_refl _), List.take_of_length_le (by omega)]
theorem ifN {A B : Prop} {p : Prop} [Decidable p] (h1 : ¬ p → A) (h2 : p → B) : ifB (!decide p) A B := by
  by_cases h : p
  · rw [decide_eq_true h]; exact h2 h
  · rw [decide_eq_false h]; exact h1 h
theorem if_true' {A B : Prop} {b : Bool} (h : b = true) (a : A) : ifB b A B := by rw [h]; exact a
theorem if_false' {A B : Prop} {b : Bool} (h : b = false) (a : B) : ifB b A B := by rw [h]; exact a
theorem if_both {A B : Prop} {b : Bool} (h1 : b = true → A) (h2 : b = false → B) : ifB b A B := by
  cases b
  · exact h2 rfl
  · exact h1 rfl
end
end Y
namespace Y
open PySem PySem.Spec PyProof.Rows L2
theorem calKD_of {P : Program} {w : World} {K : PySem.W.Frag} {mg : Str → Option Value} {base : Heap} {x qual : Str} {params : Arguments} {body : List Stmt} {scope : Scope} {kws : List (Str × V)} {f : Addr} {fd : FuncData} {ps : List Str} {sp : DSp} {k n : Nat} {ks : List Str} (is : List Nat) (ms : List (Str × V)) (dd : List D)
    (F : FunD K x qual params body scope [] kws f fd) (hm : mg x = some (.ref f)) (ok : FnOk P w K mg base (CX K P w) k f fd ps (lift ⟨K, mg, w⟩ sp)) (hk : kws ≠ []) (hms : ∀ q ∈ ms, q ∈ kws) (hd : ∀ G ι, VDs ⟨K, mg, w⟩ G ι (ms.map (·.2)) dd)
    (h : ∀ (D : Addr) (doc pm : Value) (an : Option Addr) (cdv ct : Value) (us mv ws : List Value), us.length = n → mv.length = ms.length → ws.length = ks.length →
      KwChain D ((ms.map (·.1)).zip mv) (bindArgs (PySem.W.fnOf x qual params body scope .none (.ref D) doc pm an cdv ct) ⟨us, ks.zip ws⟩) (ps.zip (pick is (us ++ ws ++ mv)))) :
    CalK P w K mg base k x sp n ks (fun ds es => pick is (ds ++ es ++ dd)) := by
  obtain ⟨mv, B⟩ := F.kbinds0 n ks ms (fun us mv ws => pick is (us ++ ws ++ mv)) hk hms (fun r1 r2 r3 => pick_vals ((r1.append r3).append r2) is) h
  exact ⟨f, fd, ps, _, _, ok, hm, F.kp, B, fun G ι vs ds zs es v1 v2 => pick_vds ((v1.append v2).append (hd G ι)) is⟩
def dSlN (T : TD) (L U : TOp) : TD := fun ρ μ Q E => T ρ μ (fun x μ1 => L ρ μ1 (fun lo μ2 => U ρ μ2 (fun hi μ3 => opQ (asL μ3 x) fun ds => newQ μ3 (.lst (cutD ds lo hi)) Q) E) E) E
section
variable {ρ : Rho} {μ : Mu} {Q : QD} {E : XQ}
theorem s_slN {T : TD} {L U : TOp} (h : T ρ μ (fun x μ1 => L ρ μ1 (fun lo μ2 => U ρ μ2 (fun hi μ3 => opQ (asL μ3 x) fun ds => newQ μ3 (.lst (cutD ds lo hi)) Q) E) E) E) : dSlN T L U ρ μ Q E := h
end
theorem intsD_map : ∀ ns : List Int, intsD (ns.map .int) = some ns
  | [] => rfl
  | n :: r => by
    show (intsD (r.map .int)).map (n :: ·) = _
    rw [intsD_map r]; rfl
theorem s_catL {μ : Mu} {a b : List D} {K : D → Prop} (h : a.length + b.length ≤ 1000000) (k : K (.lst (a ++ b))) : opQ (addD μ (.lst a) (.lst b)) K := by
  have e : addD μ (.lst a) (.lst b) = some (.lst (a ++ b)) := by
    show (if fits (a.length + b.length) then some (D.lst (a ++ b)) else none) = _
    rw [if_pos (fits_le.mpr (by rw [sizeLine_eq]; omega))]
  rw [e]; exact k
end Y
namespace Y
open PySem PySem.Spec PyProof.Rows L2
def sJoin (T U : SD) : SD := fun De ρ μ => ∃ I : Rho → Mu → Prop, T { De with nx := I } ρ μ ∧ ∀ ρ' μ', I ρ' μ' → U De ρ' μ'
theorem dss_join {X : Cx} {W : WX} {g : Ge} {st : Stmt} {rest : List Stmt} {T U : SD} (h1 : DS X W g st T) (h2 : DSs X W g rest U) : DSs X W g (st :: rest) (sJoin T U) := by
  obtain ⟨t, a, b⟩ := h1
  obtain ⟨u, c, d⟩ := h2
  refine ⟨_, pss_cons a c, fun F G ι σ H ρ μ De Dh r R l h => ?_⟩
  obtain ⟨I, h3, h4⟩ := h
  exact b F G ι σ H ρ μ { De with nx := I } { Dh with nx := u Dh } r R ⟨fun G' ι' σ' H' ρ' μ' e r' R' q => d F G' ι' σ' H' ρ' μ' De Dh r' R' (l.mono e) (h4 ρ' μ' q), l.rt, l.bk, l.ct, l.ex⟩ h3
theorem s_join {T U : SD} {De : EndsD} {ρ : Rho} {μ : Mu} (I : Rho → Mu → Prop) (h1 : T { De with nx := I } ρ μ) (h2 : ∀ ρ' μ', I ρ' μ' → U De ρ' μ') : sJoin T U De ρ μ := ⟨I, h1, h2⟩
end Y
namespace Y
open PySem PySem.Spec PyProof.Rows L2
theorem alike_ints (ns : List Int) : PySem.W.AlikeAll (ns.map PyData.int) := by
  refine ⟨fun x hx y hy => ?_, fun x hx e => ?_⟩
  · obtain ⟨i, _, rfl⟩ := List.mem_map.mp hx
    obtain ⟨j, _, rfl⟩ := List.mem_map.mp hy
    simp only [PySem.W.alike]
  · obtain ⟨i, _, rfl⟩ := List.mem_map.mp hx
    cases e
theorem depth_ints : ∀ ns : List Int, PyData.depthAll (ns.map PyData.int) = 0
  | [] => rfl
  | n :: r => by
    rw [List.map_cons]
    simp only [PyData.depthAll, PyData.depth, depth_ints r]
    rfl
/-- the greatest, the least of a list of numbers; what is told for none -/
def rMaxF (K : PySem.W.Frag) : List V → List V → Hp → VK → Prop := fun vs zs H Q => ∃ (a : Addr) (ns : List Int) (x : V), vs = [V.ref a] ∧ zs = [x] ∧ SqL K H a (ns.map V.int) ∧ (ns = [] → Q x H) ∧ ∀ n r, ns = n :: r → Q (.int (r.foldl max n)) H
theorem vals_one {zs : List V} {ws : List Value} {x : V} (h : Vals zs ws) (e : zs = [x]) : ∃ u, ws = [u] ∧ RelV x u := by
  subst e
  cases h with
  | cons a b => cases b; exact ⟨_, rfl, a⟩
theorem cr_maxF {X : Cx} (hc : X.calm = true) (hu : X.A.units + 64 < cLine) : CallRK X (.builtin "max") [Str.ofString "default"] (rMaxF X.K) := by
  intro pins s σ H vs zs us ws Q I r rz h
  obtain ⟨a, ns, x, rfl, ez, hs, q0, q1⟩ := h
  obtain rfl := Vals.ref1 r
  obtain ⟨u, rfl, ru⟩ := vals_one rz ez
  obtain ⟨its, rv, hl, _⟩ := I.list hs
  have hi := rv.ints
  refine PySem.W.max_list_default (I.ok.hd hc) hl.isList (PyProof.Rows.ints_readAll s.heap hi) (alike_ints ns) (by rw [depth_ints]; omega) (fun e h' tk hk => ?_) (fun y ys i v h' tk bs e _ rd hk => ?_)
  · exact ⟨x, H, I.kept hk, ru, q0 (by cases ns with | nil => rfl | cons _ _ => cases e)⟩
  · cases ns with
    | nil => cases e
    | cons n r =>
      rw [List.map_cons] at e
      cases e
      rw [PySem.W.maxD_ints] at rd
      cases rd
      exact ⟨.int _, H, I.kept hk, ⟨_, rfl⟩, q1 n r rfl⟩
def mostF (μ : Mu) (d e : D) : Option D := (asL μ d).bind fun ds => (intsD ds).bind fun ns => match ns with
  | [] => some e
  | n :: r => some (.int (r.foldl max n))
def leastF (μ : Mu) (d e : D) : Option D := (asL μ d).bind fun ds => (intsD ds).bind fun ns => match ns with
  | [] => some e
  | n :: r => some (.int (r.foldl min n))
def dMostF (T U : TL) : TD := fun ρ μ Q E => T ρ μ (fun xs μ1 => U ρ μ1 (fun ys μ2 => match xs, ys with | [d], [e] => opQ (mostF μ2 d e) fun z => Q z μ2 | _, _ => False) E) E
def dLeastF (T U : TL) : TD := fun ρ μ Q E => T ρ μ (fun xs μ1 => U ρ μ1 (fun ys μ2 => match xs, ys with | [d], [e] => opQ (leastF μ2 d e) fun z => Q z μ2 | _, _ => False) E) E
theorem de_maxF {X : Cx} {W : WX} {p pos kpos : Pos} {e e2 : Expr} {T U : TL} (hc : X.calm = true) (hu : X.A.units + 64 < cLine) (hg : Gl X "max") (hm : X.mg "max" = none) (ha : DA X W (gx X) [e] T) (hk : DK X W (gx X) [⟨some "default", e2, kpos⟩] U)
    (he : backTo pos (starEach [e] X.env) = (false, eval e X.env) :: backTo pos (starEach [] X.env) := by rfl) (hpl : (backTo pos (starEach [e] X.env)).any (·.1) = false := by rfl) : DE X W (gx X) (.Call (.Name "max" p) [e] [⟨some "default", e2, kpos⟩] pos) (dMostF T U) := by
  obtain ⟨t, h1, h2⟩ := ha
  obtain ⟨u, h3, h4⟩ := hk
  refine ⟨_, pe_callBK (cr_maxF hc hu) hg hm PyProof.Rows.boot_max h1 h3 (he := he) (hpl := hpl), fun F G ι σ H ρ μ Q E P r R L q k => ?_⟩
  refine h2 F G ι σ H ρ μ _ E _ r R L q fun G1 ι1 μ1 H1 vs ds e1 R1 v1 q1 => h4 F G1 ι1 σ H1 ρ μ1 _ E _ (r.mono e1) R1 (L.mono e1) q1 fun G2 ι2 μ2 H2 ws es e2 R2 v2 q2 => ?_
  split at q2
  · rename_i d e
    obtain ⟨z, ez, qz⟩ := opQ_get q2
    obtain ⟨x, rfl, hx⟩ := vds1 (v1.mono e2)
    obtain ⟨y, rfl, hy⟩ := vds1 v2
    unfold mostF at ez
    obtain ⟨ds, h5, h6⟩ := Option.bind_eq_some_iff.mp ez
    obtain ⟨ns, h7, h8⟩ := Option.bind_eq_some_iff.mp h6
    obtain ⟨a, ys, rfl, h9, h10, _⟩ := asL_ok R2 hx h5
    have en := ints_ok h10 h7
    subst en
    refine ⟨a, ns, y, rfl, rfl, .of h9, fun en => ?_, fun n r en => ?_⟩
    · subst en
      cases h8
      exact k G2 ι2 μ2 H2 y _ (e1.trans e2) R2 hy qz
    · subst en
      cases h8
      exact k G2 ι2 μ2 H2 _ _ (e1.trans e2) R2 (.int _) qz
  · exact q2.elim
/-- a comprehension within another one's block -/
theorem blkOk_in {X : Cx} {s : Shared} {H : Hp} {S scope : Scope} {cl : List (Str × Addr)} {C : Addr} {fp : List Addr} {own : List (Str × Nat)} {N : List Str} {sc : Scope} (hN : X.N = N) (hs : X.env.scope = sc) (h : blkC N (relS S sc) scope own = true) :
    BlkOk (X.blk s H S (compEnvC S cl C X.env) fp).N (X.blk s H S (compEnvC S cl C X.env) fp).env.scope scope own := by
  subst hN hs
  exact blkOk_by h
section
variable {ρ : Rho} {μ : Mu} {Q : QD} {E : XQ}
theorem s_mostF {T U : TD} (h : T ρ μ (fun d μ1 => U ρ μ1 (fun e μ2 => opQ (mostF μ2 d e) fun z => Q z μ2) E) E) : dMostF (dCons T dNil) (dCons U dNil) ρ μ Q E := h
theorem s_leastF {T U : TD} (h : T ρ μ (fun d μ1 => U ρ μ1 (fun e μ2 => opQ (leastF μ2 d e) fun z => Q z μ2) E) E) : dLeastF (dCons T dNil) (dCons U dNil) ρ μ Q E := h
def maxI : List Int → Option Int
  | [] => none
  | n :: r => some (r.foldl max n)
theorem s_mostI {ns : List Int} {e : D} {K : D → Prop} (h0 : ns = [] → K e) (h : ∀ m, maxI ns = some m → K (.int m)) : opQ (mostF μ (.lst (ns.map .int)) e) K := by
  unfold mostF
  show opQ ((intsD (ns.map .int)).bind _) K
  rw [intsD_map]
  cases ns with
  | nil => exact h0 rfl
  | cons n r => exact h _ rfl
theorem s_sumI {ns : List Int} {K : D → Prop} (h : K (.int ns.sum)) : opQ (sumD μ [.lst (ns.map .int)]) K := by
  unfold sumD
  show opQ ((intsD (ns.map .int)).map _) K
  rw [intsD_map]
  exact h
end
end Y
namespace Y
open PySem PySem.Spec PyProof.Rows L2
section
variable {st : Mu → Prop} {n : D → Rho → Mu → (Rho → Mu → Prop) → Prop} {b : SD} {De : EndsD} {C : TB} {T : TD} {ρ : Rho} {μ : Mu} {Q : List D → Mu → Prop} {α : Type} {enc : α → D} {xs : List α}
theorem for_at {ds : List D} (e : Nat → D) (len : Nat) (hl : ds.length = len) (he : ∀ i, i < len → ds[i]? = some (e i)) (Iv : Nat → Rho → Mu → Prop) (hst : ∀ i ρ μ, Iv i ρ μ → st μ)
    (hs : ∀ (i : Nat) (ρ : Rho) (μ : Mu) (N : Rho → Mu → Prop), i < len → (∀ ρ μ, Iv (i + 1) ρ μ → N ρ μ) → Iv i ρ μ → n (e i) ρ μ fun ρ' μ' => b { De with nx := N, ct := N, bk := De.nx } ρ' μ') (hd : ∀ ρ μ, Iv len ρ μ → De.nx ρ μ) (h : Iv 0 ρ μ) : forD st n b De ds ρ μ := by
  refine for_ind (fun r ρ μ => ∃ i, r = ds.drop i ∧ i ≤ len ∧ Iv i ρ μ) (fun _ _ _ ⟨i, _, _, q⟩ => hst i _ _ q) ?_ ?_ ds ρ μ ⟨0, rfl, Nat.zero_le _, h⟩
  · rintro d r ρ μ N hN ⟨i, er, hi, q⟩
    have hlt : i < ds.length := by
      apply Classical.byContradiction
      intro hc
      rw [List.drop_eq_nil_of_le (by omega)] at er
      cases er
    rw [List.drop_eq_getElem_cons hlt] at er
    have h1 := (List.cons.inj er).1
    have h2 := (List.cons.inj er).2
    have h3 := he i (by omega)
    rw [List.getElem?_eq_getElem hlt, ← h1] at h3
    rw [Option.some.inj h3]
    exact hs i ρ μ N (by omega) (fun ρ μ z => hN ρ μ ⟨i + 1, h2, by omega, z⟩) q
  · rintro ρ μ ⟨i, er, hi, q⟩
    have : i = len := by
      have := congrArg List.length er
      rw [List.length_drop, hl] at this
      simp at this
      omega
    subst this
    exact hd ρ μ q
theorem lc_at {ds : List D} (e : Nat → D) (len : Nat) (hl : ds.length = len) (he : ∀ i, i < len → ds[i]? = some (e i)) (Iv : Nat → List D → Mu → Prop) (hst : ∀ i acc μ, Iv i acc μ → st μ)
    (hs : ∀ (i : Nat) (acc : List D) (μ : Mu) (N : List D → Mu → Prop), i < len → (∀ acc μ, Iv (i + 1) acc μ → N acc μ) → Iv i acc μ → n (e i) ρ μ fun ρ' μ1 => C ρ' μ1 (fun b μ2 => ifB b (T ρ' μ2 (fun y μ3 => N (acc ++ [y]) μ3) (fun _ _ => False)) (N acc μ2)) (fun _ _ => False))
    (hd : ∀ acc μ, Iv len acc μ → Q acc μ) (h : Iv 0 [] μ) : lcD st n C T ρ Q ds [] μ := by
  refine lc_ind (fun r acc μ => ∃ i, r = ds.drop i ∧ i ≤ len ∧ Iv i acc μ) (fun _ _ _ ⟨i, _, _, q⟩ => hst i _ _ q) ?_ ?_ ds [] μ ⟨0, rfl, Nat.zero_le _, h⟩
  · rintro d r acc μ N hN ⟨i, er, hi, q⟩
    have hlt : i < ds.length := by
      apply Classical.byContradiction
      intro hc
      rw [List.drop_eq_nil_of_le (by omega)] at er
      cases er
    rw [List.drop_eq_getElem_cons hlt] at er
    have h1 := (List.cons.inj er).1
    have h2 := (List.cons.inj er).2
    have h3 := he i (by omega)
    rw [List.getElem?_eq_getElem hlt, ← h1] at h3
    rw [Option.some.inj h3]
    exact hs i acc μ N (by omega) (fun acc μ z => hN acc μ ⟨i + 1, h2, by omega, z⟩) q
  · rintro acc μ ⟨i, er, hi, q⟩
    have : i = len := by
      have := congrArg List.length er
      rw [List.length_drop, hl] at this
      simp at this
      omega
    subst this
    exact hd acc μ q
theorem range_at {lo : Int} {k i : Nat} (h : i < k) : (rangeD lo k)[i]? = some (.int (lo + (i : Nat))) := by
  unfold rangeD
  rw [List.getElem?_map, List.getElem?_range h]; rfl
theorem range_at0 {k i : Nat} (h : i < k) : (rangeD 0 k)[i]? = some (.int ((i : Nat) : Int)) := by
  rw [range_at h, Int.zero_add]
/-- for x in range(k) -/
theorem for_rng {k : Nat} (Iv : Nat → Rho → Mu → Prop) (hst : ∀ i ρ μ, Iv i ρ μ → st μ)
    (hs : ∀ (i : Nat) (ρ : Rho) (μ : Mu) (N : Rho → Mu → Prop), i < k → (∀ ρ μ, Iv (i + 1) ρ μ → N ρ μ) → Iv i ρ μ → n (.int (i : Nat)) ρ μ fun ρ' μ' => b { De with nx := N, ct := N, bk := De.nx } ρ' μ') (hd : ∀ ρ μ, Iv k ρ μ → De.nx ρ μ) (h : Iv 0 ρ μ) : forD st n b De (rangeD 0 k) ρ μ :=
  for_at (fun i => .int (i : Nat)) k range_len (fun _ h => range_at0 h) Iv hst hs hd h
theorem enum_at {ds : List D} {i : Nat} {d : D} (h : ds[i]? = some d) : (enumD 0 ds)[i]? = some (.tup [.int (i : Nat), d]) := by
  rw [enumD_get, h, Nat.zero_add]; rfl
/-- for i, x in enumerate(xs) -/
theorem for_enum (Iv : Nat → Rho → Mu → Prop) (hst : ∀ i ρ μ, Iv i ρ μ → st μ)
    (hs : ∀ (i : Nat) (x : α) (ρ : Rho) (μ : Mu) (N : Rho → Mu → Prop), xs[i]? = some x → (∀ ρ μ, Iv (i + 1) ρ μ → N ρ μ) → Iv i ρ μ → n (.tup [.int (i : Nat), enc x]) ρ μ fun ρ' μ' => b { De with nx := N, ct := N, bk := De.nx } ρ' μ') (hd : ∀ ρ μ, Iv xs.length ρ μ → De.nx ρ μ) (h : Iv 0 ρ μ) :
    forD st n b De (enumD 0 (xs.map enc)) ρ μ := by
  refine for_at (fun i => ((enumD 0 (xs.map enc))[i]?).getD .non) xs.length (by rw [enumD_len, List.length_map]) (fun i hi => ?_) Iv hst (fun i ρ μ N hi hN q => ?_) hd h
  · rw [List.getElem?_eq_getElem (by rw [enumD_len, List.length_map]; exact hi)]; rfl
  · have hx := List.getElem?_eq_getElem hi
    have e : (enumD 0 (xs.map enc))[i]? = some (.tup [.int (i : Nat), enc xs[i]]) := enum_at (by rw [List.getElem?_map, hx]; rfl)
    rw [e]
    exact hs i _ ρ μ N hx hN q
theorem lc_rng {k : Nat} (Iv : Nat → List D → Mu → Prop) (hst : ∀ i acc μ, Iv i acc μ → st μ)
    (hs : ∀ (i : Nat) (acc : List D) (μ : Mu) (N : List D → Mu → Prop), i < k → (∀ acc μ, Iv (i + 1) acc μ → N acc μ) → Iv i acc μ → n (.int (i : Nat)) ρ μ fun ρ' μ1 => C ρ' μ1 (fun b μ2 => ifB b (T ρ' μ2 (fun y μ3 => N (acc ++ [y]) μ3) (fun _ _ => False)) (N acc μ2)) (fun _ _ => False))
    (hd : ∀ acc μ, Iv k acc μ → Q acc μ) (h : Iv 0 [] μ) : lcD st n C T ρ Q (rangeD 0 k) [] μ :=
  lc_at (fun i => .int (i : Nat)) k range_len (fun _ h => range_at0 h) Iv hst hs hd h
end
end Y
namespace Y
open PySem PySem.Spec PyProof.Rows L2
/-- x.extend(y): both lists -/
def dExtend (To : TD) (U : TL) : TD := fun ρ μ Q E => To ρ μ (fun o μ1 => match o with
  | .ptr n => (∃ ds, μ1 n = some (.lst ds)) ∧ U ρ μ1 (fun xs μ2 => match xs, μ2 n with | [d], some (.lst ds) => opQ (asL μ2 d) fun es => fits (ds.length + es.length) = true ∧ Q .non (mset μ2 n (.lst (ds ++ es))) | _, _ => False) E
  | _ => False) E
theorem s_extend {ρ : Rho} {μ : Mu} {Q : QD} {E : XQ} {To U : TD} (h : To ρ μ (fun o μ1 => onPtr o fun n => (∃ ds, μ1 n = some (.lst ds)) ∧ U ρ μ1 (fun d μ2 => ∃ ds es, μ2 n = some (.lst ds) ∧ asL μ2 d = some es ∧ fits (ds.length + es.length) = true ∧ Q .non (mset μ2 n (.lst (ds ++ es)))) E) E) : dExtend To (dCons U dNil) ρ μ Q E := by
  have e : (fun (o : D) (μ1 : Mu) => onPtr o fun n => (∃ ds, μ1 n = some (.lst ds)) ∧ U ρ μ1 (fun d μ2 => ∃ ds es, μ2 n = some (.lst ds) ∧ asL μ2 d = some es ∧ fits (ds.length + es.length) = true ∧ Q .non (mset μ2 n (.lst (ds ++ es)))) E) =
    (fun o μ1 => match o with
      | .ptr n => (∃ ds, μ1 n = some (.lst ds)) ∧ dCons U dNil ρ μ1 (fun xs μ2 => match xs, μ2 n with | [d], some (.lst ds) => opQ (asL μ2 d) fun es => fits (ds.length + es.length) = true ∧ Q .non (mset μ2 n (.lst (ds ++ es))) | _, _ => False) E
      | _ => False) := by
    funext o μ1
    cases o <;> try rfl
    rename_i n
    show (_ ∧ U ρ μ1 _ E) = (_ ∧ U ρ μ1 _ E)
    congr 2
    funext d μ2
    apply propext
    constructor
    · rintro ⟨ds, es, h1, h2, h3⟩
      show (match [d], μ2 n with | [d], some (.lst ds) => opQ (asL μ2 d) fun es => fits (ds.length + es.length) = true ∧ Q .non (mset μ2 n (.lst (ds ++ es))) | _, _ => False)
      rw [h1]
      show opQ (asL μ2 d) _
      rw [h2]
      exact h3
    · intro hh
      have hh : (match [d], μ2 n with | [d], some (.lst ds) => opQ (asL μ2 d) fun es => fits (ds.length + es.length) = true ∧ Q .non (mset μ2 n (.lst (ds ++ es))) | _, _ => False) := hh
      split at hh
      · rename_i q1 q2
        cases q1
        obtain ⟨es, h2, h3⟩ := opQ_get hh
        exact ⟨_, es, q2, h2, h3⟩
      · exact hh.elim
  unfold dExtend
  rw [← e]
  exact h
end Y
namespace Y
open PySem PySem.Spec PyProof.Rows L2
section
variable {X : Cx} {W : WX}
def dOrT (T U : TD) : TD := fun ρ μ Q E => T ρ μ (fun x μ1 => opQ (truD μ1 x) fun b => ifB b (Q x μ1) (U ρ μ1 Q E)) E
def dAndT (T U : TD) : TD := fun ρ μ Q E => T ρ μ (fun x μ1 => opQ (truD μ1 x) fun b => ifB b (U ρ μ1 Q E) (Q x μ1)) E
theorem s_orT {ρ : Rho} {μ : Mu} {Q : QD} {E : XQ} {T U : TD} (h : T ρ μ (fun x μ1 => opQ (truD μ1 x) fun b => ifB b (Q x μ1) (U ρ μ1 Q E)) E) : dOrT T U ρ μ Q E := h
theorem s_andT {ρ : Rho} {μ : Mu} {Q : QD} {E : XQ} {T U : TD} (h : T ρ μ (fun x μ1 => opQ (truD μ1 x) fun b => ifB b (U ρ μ1 Q E) (Q x μ1)) E) : dAndT T U ρ μ Q E := h
end
end Y
namespace Y
open PySem PySem.Spec PyProof.Rows L2 LamX
theorem walk_ofTE {l : PySem.W.OpenLaw} {n k : Nat} {q : Program} {loose : List Str} {XP : (Str → Option Value) → Heap → Prop} {YP : World → Heap → Prop} {d : DefRec} {CX : CXT} {x : Str} (hn : l.most = some n) (hn2 : n ≤ sizeLine) (hdf : d.params.defaults = []) (hr : Room k callerA)
    (F : ∀ (w : World) (mg : Str → Option Value) (fa : Addr) (h : Heap), YP w h → h.Ns mainGlobals mg → mg d.name = some (.ref fa) → ∃ K : PySem.W.Frag, K.In h ∧ LawAtS l w K CX k n x mg fa h)
    (hCX : ∀ (H : Hp) (s : Shared) (e : Value) (s' : Shared), CX [] H s (fun _ _ _ => False) e s' → False) : PySem.W.WalkO q loose XP YP l.row.toRowW d [] (fun f vs => PySem.call f vs) := by
  refine Att.attach_callB hn hdf fun w s₀ s₁ mg mb fa o pm cd doc a vs ns G Yp ho hd hcd hmg hobj hints hlen hbits hg => ?_
  obtain ⟨K, KX, fd, cs, sp, hT, nT, C, hb, hsp, hF⟩ := F w mg fa _ Yp G.T.g hmg
  exact law_callTs KX G.T.g G.T.b G.T.builtins G.T.nolimit hg hT nT C G.T.bmain hobj hints (Nat.le_trans hlen hn2) hr hF hb (fun H hH hS => hsp H a ns hlen hbits hH hS) fun H e s' => hCX H s₁ e s'
theorem tabs_start {K : PySem.W.Frag} {tf : List He.Defn} {H : Hp} (h : tabsOk K tf = true) (hH : ∀ p ∈ tf.map (He.cT K), H p.2 = some (.tbl #[])) : Tabs (lamT K) H := by
  have e : lamT K = tf.map fun p => ((He.cT K p).2, p.1 ++ ".<locals>." ++ "<lambda>") := of_decide_eq_true h
  rw [e]
  intro p hp
  obtain ⟨q, hq, rfl⟩ := List.mem_map.mp hp
  exact TabS.nil (hH (He.cT K q) (List.mem_map.mpr ⟨q, hq, rfl⟩))
/-- the law's promise from what the head tells -/
theorem law_at {l : PySem.W.OpenLaw} {w : World} {K : PySem.W.Frag} {k n : Nat} {x : Str} {mg : Str → Option Value} {fa : Addr} {h : Heap} {fd : FuncData} {sp : DSp} {tf : List He.Defn} (KX : K.In h) (hd : ∀ p ∈ tf, PySem.W.codeHdIn K (He.cT K p).1 (He.cT K p).2 = true) (out : ∀ p ∈ tf, K.lookup (He.cT K p).2 = none)
    (empty : ∀ p ∈ tf, h.get? (He.cT K p).2 = some { cls := .none, data := .fields #[] }) (ht : tabsOk K tf = true) (hb : ∀ (s : Shared) (u : Value), BindsTo s fd ⟨[u], []⟩ [(x, u)]) (hn : n ≤ 1000) (hs : ∀ ns : List Int, sp [.scr ns] (fun _ => none) (fun d _ => d = .bl true) (fun _ _ => False))
    (hF : ∀ base : Heap, K.In base → base.Ns mainGlobals mg → (∀ p ∈ tf, TabB base mg (He.cT K p).1 (He.cT K p).2) → FnOk l.prog w K mg base CX0 k fa fd [x] (fun vs H Q _ => lift ⟨K, mg, w⟩ sp vs H Q fun _ _ _ => False)) : LawAtS l w K CX0 k n x mg fa h := by
  refine ⟨fd, tf.map (He.cT K), fun vs H Q _ => lift ⟨K, mg, w⟩ sp vs H Q fun _ _ _ => False, fun p hp => ?_, fun p hp => ?_, fun p hp => ?_, hb, fun H a ns hl _ hH hS => law_start (Nat.le_trans hl hn) hS (tabs_start ht hH) (hs ns), fun base h1 h2 h3 => hF base h1 h2 fun p hp => h3 _ (List.mem_map.mpr ⟨p, hp, rfl⟩)⟩
  · obtain ⟨q, hq, rfl⟩ := List.mem_map.mp hp
    exact empty q hq
  · obtain ⟨q, hq, rfl⟩ := List.mem_map.mp hp
    exact out q hq
  · obtain ⟨q, hq, rfl⟩ := List.mem_map.mp hp
    exact PySem.W.codeHd_of_K KX (hd q hq)
section
variable {P : Program} {w : World} {K : PySem.W.Frag} {mg : Str → Option Value} {base : Heap} {x qual : Str} {params : Arguments} {body : List Stmt} {scope : Scope} {dvs : List V} {kws : List (Str × V)} {fd : FuncData} {N ps : List Str} {j : Nat} {T : SD} {sp : DSp}
/-- the body's derivation, the def's own code object told -/
abbrev BodyOkC (P : Program) (w : World) (K : PySem.W.Frag) (mg : Str → Option Value) (base : Heap) (N : List Str) (qual : Str) (scope : Scope) (body : List Stmt) (f c : Addr) (j : Nat) (T : SD) : Prop :=
  ∀ (A : Around) (outer : List Env) (s : Shared) (H : Hp) (E : XK), Room j (A.deeper (envOfC qual scope s.heap.objs.size f (.ref c))) → DSs (cxOf (CX K P w) P w K mg base N qual scope f (.ref c) A outer s H E) (wE E) ⟨K, mg, w⟩ body T
theorem ok_ofC (F : FunD K x qual params body scope dvs kws (He.fAd K (x, none)) fd) (S : FnScope N ps scope) (hk : Keeps N ps T sp) (hb : BodyOkC P w K mg base N qual scope body (He.fAd K (x, none)) (He.cT K (x, none)).1 j T) : FnOk P w K mg base (CX K P w) (j + 1) (He.fAd K (x, none)) fd ps (lift ⟨K, mg, w⟩ sp) := by
  obtain ⟨oc, od, dV, kV, doc, pm, an, cdv, ct, osl, rfl, lk, hcd, _, _⟩ := F.ex
  obtain ⟨c, rfl⟩ := He.codeIn_ref hcd
  have e : He.codeOf K (x, none) = c := He.codeOf_eq lk rfl
  refine fn_data lk hcd S hk fun A outer s H E hr => ?_
  have hb' := hb A outer s H E
  rw [show (He.cT K (x, none)).1 = c from e] at hb'
  exact hb' hr
end
end Y
namespace Y
open PySem PySem.Spec PyProof.Rows L2 Builtin Builtin.ObjectAttr
/-- a builtin class's mro, as it ends that of an own class -/
structure TailOk (t : List Value) (nid : String) : Prop where
  some_ : t.isEmpty = false
  obj : t.contains (.type "object") = true
  pass : ∀ self, refuseLoop self "__setattr__" t = pure ()
  base : ∃ (B iid : String), ExcBaseFacts B nid iid t
theorem tail_ve : TailOk HandSPX.veTail "ValueError.__new__" := ⟨rfl, by decide +kernel, fun self => F.store_ValueError.passes self, _, _, F.excBase_ValueError⟩
theorem tail_le : TailOk leTail "LookupError.__new__" := ⟨rfl, by decide +kernel, fun self => F.store_LookupError.passes self, _, _, F.excBase_LookupError⟩
theorem tail_ie : TailOk ieTail "IndexError.__new__" := ⟨rfl, by decide +kernel, fun self => F.store_IndexError.passes self, _, _, F.excBase_IndexError⟩
/-- own classes, then the tail -/
inductive Refs (t : List Value) : List Value → Prop
  | tail : Refs t t
  | cons (c : Addr) {r : List Value} : Refs t r → Refs t (.ref c :: r)
theorem Refs.pass {t : List Value} {nid : String} (T : TailOk t nid) {self : Value} : ∀ {l : List Value}, Refs t l → refuseLoop self "__setattr__" l = pure ()
  | _, .tail => T.pass self
  | _, .cons c h => by rw [refuseLoop_ref]; exact Refs.pass T h
theorem Refs.has {t : List Value} (Y : String) : ∀ {l : List Value}, Refs t l → l.contains (.type Y) = t.contains (.type Y)
  | _, .tail => rfl
  | _, .cons c h => by rw [List.contains_cons, Refs.has Y h]; rfl
theorem Refs.ne {t : List Value} {nid : String} (T : TailOk t nid) : ∀ {l : List Value}, Refs t l → l.isEmpty = false
  | _, .tail => T.some_
  | _, .cons _ _ => rfl
theorem refs_ok {t : List Value} : ∀ {l : List Value}, refsB t l = true → Refs t l
  | [], e => by rw [show ([] : List Value) = t from beq_iff_eq.mp e]; exact .tail
  | .ref c :: r, e => .cons c (refs_ok (l := r) e)
  | .none :: l, e => by rw [show Value.none :: l = t from beq_iff_eq.mp e]; exact .tail
  | .ellipsis :: l, e => by rw [show Value.ellipsis :: l = t from beq_iff_eq.mp e]; exact .tail
  | .notImplemented :: l, e => by rw [show Value.notImplemented :: l = t from beq_iff_eq.mp e]; exact .tail
  | .bool x :: l, e => by rw [show Value.bool x :: l = t from beq_iff_eq.mp e]; exact .tail
  | .int x y :: l, e => by rw [show Value.int x y :: l = t from beq_iff_eq.mp e]; exact .tail
  | .float x y :: l, e => by rw [show Value.float x y :: l = t from beq_iff_eq.mp e]; exact .tail
  | .str x y :: l, e => by rw [show Value.str x y :: l = t from beq_iff_eq.mp e]; exact .tail
  | .bytes x y :: l, e => by rw [show Value.bytes x y :: l = t from beq_iff_eq.mp e]; exact .tail
  | .type x :: l, e => by rw [show Value.type x :: l = t from beq_iff_eq.mp e]; exact .tail
  | .builtin x :: l, e => by rw [show Value.builtin x :: l = t from beq_iff_eq.mp e]; exact .tail
section
variable {prog : Program} {w : World} {A : Around} {E : Value → Shared → Prop} {R : Result → Shared → Prop} {hp : Heap} {g : Array GenState} {d : Drawn} {t : Nat} {os : OsState}
theorem osaT_new {K : W.Frag} {name : Str} {tk : Tok} {v : Value} {x C : Addr} {fv : Array Value} {cd : ClassData}
    (X : K.In hp) (hxx : hp.get? x = some { cls := .ref C, data := .fields fv }) (hkl : W.clsIn K C = some cd) {tl : List Value} {nid : String} (TT : TailOk tl nid) (hmr0 : Refs tl cd.mro) (hdt : cd.hasDict = true) (hfi : W.findIn K (.ref C) name = some none)
    (hgo : ∀ h' tt' dx, (∀ b o, b ≠ x → hp.get? b = some o → h'.get? b = some o) → hp.objs.size ≤ dx → dx ≠ x → h'.get? x = some { cls := .ref C, dict := some dx, data := .fields fv } →
      h'.Ns1 dx (fun y => if y = name then some v else none) → R (.ok (.ret .none)) ⟨h', g, d, tt', os⟩) :
    codeAny (model prog w) A (.call (.builtin "object.__setattr__") ⟨[.ref x, .str name tk, v], []⟩) R ⟨hp, g, d, t, os⟩ := by
  have I : W.InstAt hp x { cls := .ref C, data := .fields fv } C none := ⟨hxx, rfl, rfl, trivial⟩
  have SO := F.store_object
  have nem := hmr0.ne TT
  have hoo : cd.mro.contains (.type "object") = true := (hmr0.has "object").trans TT.obj
  have hxs : x ≠ hp.objs.size := Nat.ne_of_lt (Heap.lt_size hxx)
  have isO : W.Looks (model prog w) hp (isInstance (.ref x) (.type "object")) true := I.type.andThen (W.looks_mroIn X (by unfold W.mroIn; rw [hkl, Option.bind_some, if_neg (by rw [nem]; decide), hoo]))
  refine codeAny_call_builtin SO.slot.plain SO.entry (@W.check_slot (model prog w) _ _ ⟨hp, g, d, t, os⟩ "object.__setattr__" "object" "__setattr__" (.ref x) [.str name tk, v] [] _ SO.kind SO.split isO (SO.args (.ref x) (.str name tk) v) ?_)
  have hmo : W.Looks (model prog w) hp (mroOf (.ref C)) cd.mro := (W.looks_clsIn X hkl).andThen .now
  have Lt : W.Looks (model prog w) hp (storeTaker? none) none := .now
  have hcc : W.Looks (model prog w) hp (classData C) cd := W.looks_clsIn X hkl
  rw [W.osa_eq, refuse_eq]
  refine wpAny_bind (wpAny_bind (I.type.at (wpAny_bind (hmo.at ?_))))
  rw [hmr0.pass TT]
  refine wpAny_pure (wpAny_bind (I.type.at (wpAny_bind ((W.looks_findIn X hfi).at (wpAny_bind (Lt.at ?_))))))
  show wpAny _ _ (storeInOwnDict (.ref x) (.ref C) (.str name tk) name v false) _ _ _
  obtain ⟨nm, bs, mro, ns, qn, hd, sn, sb, ab, col, del⟩ := cd
  dsimp only at hdt
  subst hdt
  unfold storeInOwnDict ownDictForStores
  repeat (first | with_reducible refine HandSPX.store_in_new ?_ ?_ | with_reducible refine wpAny_loadPart_at hxx ?_ | with_reducible refine hcc.at ?_ | wp_step)
  · exact ⟨_, #[], _, (Heap.get?_update_ne _ _ _ _ hxs.symm).trans (Heap.get?_push_at rfl rfl), rfl, fun e he => absurd he (by simp), fun _ => rfl⟩
  · intro h' tt' hnn hsm
    have hx2 : (hp.push { cls := .type "dict", data := .dict #[] }).get? x = some { cls := .ref C, data := .fields fv } := Heap.get?_push_of_some _ hxx
    refine hgo h' tt' hp.objs.size (fun b o hb ho => ?_) (Nat.le_refl _) hxs.symm ?_ hnn
    · exact (hsm.2 b (Nat.ne_of_lt (Heap.lt_size ho))).trans ((Heap.get?_update_ne _ _ _ _ hb).trans (Heap.get?_push_of_some _ ho))
    · exact (hsm.2 x hxs).trans (Heap.get?_update_self _ hx2 rfl)
theorem osaT_old {K : W.Frag} {name : Str} {tk : Tok} {v : Value} {x C dx : Addr} {fv : Array Value} {cd : ClassData} {m0 : Str → Option Value} {nl : List Str}
    (X : K.In hp) (hxx : hp.get? x = some { cls := .ref C, dict := some dx, data := .fields fv }) (hns : hp.Ns1 dx m0) (hw : Within m0 nl) (hz : nl.length ≤ 1000) (hkl : W.clsIn K C = some cd) {tl : List Value} {nid : String} (TT : TailOk tl nid) (hmr0 : Refs tl cd.mro) (hdt : cd.hasDict = true)
    (hfi : W.findIn K (.ref C) name = some none)
    (hgo : ∀ h' tt', (∀ b o, b ≠ dx → hp.get? b = some o → h'.get? b = some o) → h'.Ns1 dx (fun y => if y = name then some v else m0 y) → R (.ok (.ret .none)) ⟨h', g, d, tt', os⟩) :
    codeAny (model prog w) A (.call (.builtin "object.__setattr__") ⟨[.ref x, .str name tk, v], []⟩) R ⟨hp, g, d, t, os⟩ := by
  obtain ⟨oD, esD, epD, hoD, hdD, _⟩ := hns.count hw
  have I : W.InstAt hp x { cls := .ref C, dict := some dx, data := .fields fv } C (some oD) := ⟨hxx, rfl, rfl, hoD⟩
  have SO := F.store_object
  have nem := hmr0.ne TT
  have hoo : cd.mro.contains (.type "object") = true := (hmr0.has "object").trans TT.obj
  have isO : W.Looks (model prog w) hp (isInstance (.ref x) (.type "object")) true := I.type.andThen (W.looks_mroIn X (by unfold W.mroIn; rw [hkl, Option.bind_some, if_neg (by rw [nem]; decide), hoo]))
  refine codeAny_call_builtin SO.slot.plain SO.entry (@W.check_slot (model prog w) _ _ ⟨hp, g, d, t, os⟩ "object.__setattr__" "object" "__setattr__" (.ref x) [.str name tk, v] [] _ SO.kind SO.split isO (SO.args (.ref x) (.str name tk) v) ?_)
  have hmo : W.Looks (model prog w) hp (mroOf (.ref C)) cd.mro := (W.looks_clsIn X hkl).andThen .now
  have Lt : W.Looks (model prog w) hp (storeTaker? none) none := .now
  have hcc : W.Looks (model prog w) hp (classData C) cd := W.looks_clsIn X hkl
  rw [W.osa_eq, refuse_eq]
  refine wpAny_bind (wpAny_bind (I.type.at (wpAny_bind (hmo.at ?_))))
  rw [hmr0.pass TT]
  refine wpAny_pure (wpAny_bind (I.type.at (wpAny_bind ((W.looks_findIn X hfi).at (wpAny_bind (Lt.at ?_))))))
  show wpAny _ _ (storeInOwnDict (.ref x) (.ref C) (.str name tk) name v false) _ _ _
  obtain ⟨nm, bs, mro, ns, qn, hd, sn, sb, ab, col, del⟩ := cd
  dsimp only at hdt
  subst hdt
  unfold storeInOwnDict ownDictForStores
  repeat (first | with_reducible refine OEX.store_in_old hns hw hz ?_ | with_reducible refine wpAny_loadPart_at hxx ?_ | with_reducible refine hcc.at ?_ | wp_step)
  intro h' tt' hnn hsm
  exact hgo h' tt' (fun b o hb ho => (hsm.2 b hb).trans ho) hnn
end
structure OexT (K : PySem.W.Frag) (C : Addr) : Prop where
  cls : ∃ (tl : List Value) (nid : String), ∃ nm q N bs bm sn sub ab col dd k0 k1 k2 k3 k5, K.lookup C = some (excClassObj nm q C N bs bm true sn sub ab col dd k0 k1 k2 k3 k5 nid) ∧ Refs tl bm ∧ TailOk tl nid
  sa : PySem.W.findIn K (.ref C) "__setattr__" = some (some (.builtin "object.__setattr__"))
  exC : PySem.W.subIn K (.ref C) (.type "BaseException") = some true
  tyC : PySem.W.typeIn K (.ref C) = some (.type "type")
  kC : PySem.W.keepIn K (.ref C) = true
/-- self.f = e, of such a one -/
def tOstT (K : PySem.W.Frag) (f : Str) (to te : TE) : TS := fun D σ H => te σ H fun y H1 => to σ H1 fun x H2 => ∃ a C : Addr, x = .ref a ∧ OexT K C ∧ PySem.W.findIn K (.ref C) f = some none ∧
  ((H2 a = some (exo a C none) ∧ ∀ dx, H2 dx = none → dx ≠ a → D.nx σ (upd (upd H2 dx (exd dx [(f, y)])) a (exo a C (some dx)))) ∨
    ∃ (dx : Addr) (fs : List (Str × V)), H2 a = some (exo a C (some dx)) ∧ H2 dx = some (exd dx fs) ∧ fs.length ≤ 900 ∧ D.nx σ (upd H2 dx (exd dx ((f, y) :: fs))))
section
variable {X : Cx} {pins : List (Addr × Obj)} {σ : L2.St} {H : Hp} {s : Shared} {a C dx : Addr} {f : Str} {y : V} {u : Value} {fs : List (Str × V)} {Q : Unit → Shared → Prop} {E : Value → Shared → Prop} {A : Around}
theorem ostT_new (T : OexT X.K C) (I : Inv X pins σ H s) (e : H a = some (exo a C none)) (hnf : PySem.W.findIn X.K (.ref C) f = some none) (rvy : RelV y u)
    (h : ∀ dx s', H dx = none → dx ≠ a → Inv X pins σ (upd (upd H dx (exd dx [(f, y)])) a (exo a C (some dx))) s' → Q () s') : wpAny (model X.prog X.w) A (setAttr (.ref a) f u) Q E s := by
  obtain ⟨tl, nid, nm, q, N, bs, bm, sn, sub, ab, col, dd, k0, k1, k2, k3, k5, hC, hbm, TT⟩ := T.cls
  have hkc : PySem.W.clsIn X.K C = some { name := nm, bases := bs, mro := .ref C :: bm, ns := N, qualname := q, hasDict := true, slotNames := sn, subclasses := sub, abstract := ab, collection := col, hasDel := false } := by unfold PySem.W.clsIn; rw [hC] <;> rfl
  obtain ⟨t1, hob⟩ := exo_at I.hok e
  obtain ⟨hp, g, d, t, os⟩ := s
  refine PySem.W.set_plain I.kIn (ox := { cls := .ref C, dict := none, data := .fields #[.ref t1, .none, .none, .none, .bool false, .none] }) (od := none) ⟨hob, rfl, rfl, trivial⟩ T.sa ?_
  refine osaT_new I.kIn hob hkc TT (Refs.cons C hbm) rfl hnf (fun h' tk' dx k dn dna hx hn => ?_)
  have hdn : H dx = none := I.hok.fresh dn
  have nd : ∀ {b : Addr} {o : Obj}, hp.get? b = some o → b ≠ dx := fun {b o} q => Nat.ne_of_lt (Nat.lt_of_lt_of_le (Heap.lt_size q) dn)
  have na : ∀ {b : Addr}, H b = none → b ≠ a := fun {b} n z => by
    rw [z, e] at n
    cases n
  have U1 : Un X.fs [] H (upd (upd H dx (exd dx [(f, y)])) a (exo a C (some dx))) hp h' := {
    keep := fun b o q n _ _ => k b o (na n) q
    slot := fun b o q n _ _ => ⟨o.slots, k b o (na n) q⟩
    free := fun b o q n _ => by rw [upd_ne (na n), upd_ne (nd q)]; exact n
    there := fun b o q _ => by
      by_cases hb : b = a
      · exact ⟨_, by rw [hb]; exact hx⟩
      · exact ⟨o, k b o hb q⟩
    tups := fun b xs q => by rw [upd_ne (at_ne e q exo_tup), upd_ne (ne_of_none q hdn)]; exact q
    frzs := fun b o v q => by rw [upd_ne (at_ne e q exo_frz), upd_ne (ne_of_none q hdn)]; exact q
    tbls := fun b ps q => ⟨#[], by rw [upd_ne (at_ne e q exo_tbl), upd_ne (ne_of_none q hdn), q]; simp⟩ }
  refine h dx _ hdn dna (I.un (t' := tk') U1 fun b o q => ?_)
  by_cases hb : b = a
  · subst hb
    rw [upd_same] at q
    cases q
    exact exo_ok hx
  · rw [upd_ne hb] at q
    by_cases hd : b = dx
    · subst hd
      rw [upd_same] at q
      cases q
      exact exd_ok hn (relO_put (fs := []) rvy fun g => True.intro)
    · rw [upd_ne hd] at q
      exact (I.hok b o q).stay (fun c v hc z => k c v (by
          rcases hc with hc | hc
          · rw [hc]
            exact hb
          · exact at_ne e hc exo_own) z)
        (fun c hc => by rw [upd_ne (at_ne e hc exo_own), upd_ne (ne_of_none hc hdn)]; exact hc) (fun c xs hc => by rw [upd_ne (at_ne e hc exo_tup), upd_ne (ne_of_none hc hdn)]; exact hc)
theorem ostT_old (T : OexT X.K C) (I : Inv X pins σ H s) (e : H a = some (exo a C (some dx))) (ed : H dx = some (exd dx fs)) (hl : fs.length ≤ 900) (hnf : PySem.W.findIn X.K (.ref C) f = some none) (rvy : RelV y u)
    (h : ∀ s', Inv X pins σ (upd H dx (exd dx ((f, y) :: fs))) s' → Q () s') : wpAny (model X.prog X.w) A (setAttr (.ref a) f u) Q E s := by
  obtain ⟨tl, nid, nm, q, N, bs, bm, sn, sub, ab, col, dd, k0, k1, k2, k3, k5, hC, hbm, TT⟩ := T.cls
  have hkc : PySem.W.clsIn X.K C = some { name := nm, bases := bs, mro := .ref C :: bm, ns := N, qualname := q, hasDict := true, slotNames := sn, subclasses := sub, abstract := ab, collection := col, hasDel := false } := by unfold PySem.W.clsIn; rw [hC] <;> rfl
  obtain ⟨t1, hob⟩ := exo_at I.hok e
  obtain ⟨mA, hn1, rll⟩ := exd_at I.hok ed
  have hw := within_of rll
  obtain ⟨hp, g, d, t, os⟩ := s
  obtain ⟨oD, _, _, hoD, _, _⟩ := hn1.count hw
  refine PySem.W.set_plain I.kIn (ox := { cls := .ref C, dict := some dx, data := .fields #[.ref t1, .none, .none, .none, .bool false, .none] }) (od := some oD) ⟨hob, rfl, rfl, hoD⟩ T.sa ?_
  refine osaT_old I.kIn hob hn1 hw (by rw [List.length_map]; omega) hkc TT (Refs.cons C hbm) rfl hnf (fun h' tk' k hn => ?_)
  have hd : ∃ o, h'.get? dx = some o := by
    obtain ⟨o, _, _, e', _⟩ := hn
    exact ⟨o, e'⟩
  exact h _ (I.write (t' := tk') (x := dx) (e := dx) (o := exd dx ((f, y) :: fs)) (by rw [ed]; exact True.intro) (.inl rfl) k hd (exd_ok hn (relO_put rvy rll)))
end
section
variable {X : Cx} {o e : Expr} {es : List Expr} {to te : TE} {ta : TA} {f : Str} {p p' p1 p2 pos : Pos}
theorem ps_ostT (ho : PE X o to) (he : PE X e te) (hs : swapsWith e (some (.Attribute o f p')) pos.line X.env = pure false := by rfl) : PS X (.Assign [.Attribute o f p'] e pos) (tOstT X.K f to te) := by
  refine ⟨fun pins s σ H D I h => ?_⟩
  refine plainObj_wpAny_Assign_Attribute (thn (he.run pins s σ H _ I h) fun v s1 ⟨y, H1, I1, r1, q1⟩ => thn (ho.run pins s1 σ H1 _ I1 q1) fun u s2 ⟨x, H2, I2, r2, a, C, ex, T, hno, q⟩ => ?_) hs
  subst ex
  obtain rfl : u = Value.ref a := r2
  rcases q with ⟨ea, q⟩ | ⟨dx, fs, ea, ed, hl, q⟩
  · exact ostT_new T I2 ea hno r1 fun dx s' n ne J => ⟨σ, _, J, q dx n ne⟩
  · exact ostT_old T I2 ea ed hl hno r1 fun s' J => ⟨σ, _, J, q⟩
theorem pmk_oexT {CX : CXT} {x : Str} {C fI : Addr} {k : Nat} {fd : FuncData} {ps : List Str} {sp : Sp} {ds : List Value} {dvs : List V} (T : OexT X.K C) (iC : PySem.W.findIn X.K (.ref C) "__init__" = some (some (.ref fI))) (tI : PySem.W.typeIn X.K (.ref fI) = some (.type "function"))
    (F1 : FnOk X.prog X.w X.K X.mg X.base CX k fI fd ps sp) (hr : Room (k + 1) X.A) (hb : Binds X.K fd ps ds) (hd : Vals dvs ds) (hx : Passes CX X (fun _ _ _ => False)) (hg : Gl X x) (hm : X.mg x = some (.ref C)) (ha : PA X (e :: es) ta)
    (hdb : (x == ("__debug__" : Str)) = false := by decide) (he : starEach (e :: es) X.env = (false, eval e X.env) :: starEach es X.env := by rfl) (hpl : (backTo pos (starEach es X.env)).any (·.1) = false := by rfl) :
    PMk X (.Call (.Name x p) (e :: es) [] pos) (tMkO C sp dvs ta) := by
  intro pins s σ H Q I h
  obtain ⟨tl, nid, nm, q, N, bs, bm, sn, sub, ab, col, dd, k0, k1, k2, k3, k5, hC, hbm, TT⟩ := T.cls
  refine wpAny_Call_Name_kw (ld_glob I hg hm ?_ hdb)
  refine PySem.W.callWith_K (h₀ := X.base) I.ok.mod.kin T.kC (thn (ha.run pos pins s σ H _ I h) fun us s1 ⟨vs, H1, I1, r1, hz, q1⟩ => ⟨I1.kIn, ?_⟩) he hpl
  show wpAny _ _ (call (.ref C) us) _ _ _
  obtain ⟨hp, g, dr, tk, os⟩ := s1
  have hsz : hp.objs.size ≤ hp.objs.size + 1 := Nat.le_succ _
  have hn : H1 (hp.objs.size + 1) = none := I1.hok.fresh hsz
  have hq := q1 (hp.objs.size + 1) hn
  have kk : ∀ b o, hp.get? b = some o → ((hp.push (PySem.W.kdv_tup us)).push (PySem.HandSPX.excO C hp.objs.size)).get? b = some o := fun b o e => Heap.get?_push_of_some _ (Heap.get?_push_of_some _ e)
  have hget : ((hp.push (PySem.W.kdv_tup us)).push (PySem.HandSPX.excO C hp.objs.size)).get? (hp.objs.size + 1) = some (PySem.HandSPX.excO C hp.objs.size) := by heap_get
  have I2 : Inv X pins σ (upd H1 (hp.objs.size + 1) (exo (hp.objs.size + 1) C none)) ⟨(hp.push (PySem.W.kdv_tup us)).push (PySem.HandSPX.excO C hp.objs.size), g, dr, tk, os⟩ :=
    I1.laid (t' := tk) (a := hp.objs.size + 1) (o := exo (hp.objs.size + 1) C none) (h' := (hp.push (PySem.W.kdv_tup us)).push (PySem.HandSPX.excO C hp.objs.size)) kk hsz (exo_ok hget)
  have r2 : Vals (V.ref (hp.objs.size + 1) :: (vs ++ dvs)) (Value.ref (hp.objs.size + 1) :: (us ++ ds)) := .cons rfl (r1.append hd)
  have hl : (Value.ref (hp.objs.size + 1) :: us ++ ds).length = ps.length := by
    have e := r2.length
    rw [F1.len _ _ _ _ hq] at e
    exact e.symm
  have hus : us.length ≤ sizeLine := by
    rw [← Paired.length r1, sizeLine_eq]
    omega
  obtain ⟨BB, iid, EB⟩ := TT.base
  refine wpAny_call (PySem.HandSPX.call_own EB (fun Y => hbm.has Y) (I1.kIn _ _ hC) (PySem.W.looks_findIn I1.kIn iC) (fun self => PySem.W.bind_fn I1.kIn self tI) hus
    (codeAny_mono (F1.run _ X.stack _ _ ⟨Value.ref (hp.objs.size + 1) :: us, []⟩ (Value.ref (hp.objs.size + 1) :: (us ++ ds)) _ _ (fun _ _ _ => False) (hr.make C us []) (I2.env0.make C us []) (hb _ (Value.ref (hp.objs.size + 1) :: us) I2.kIn hl) r2 hq) fun r s' hq' => ?_))
  cases r with
  | error er => exact hx pins σ _ _ er s' I2 hq'
  | ok fl =>
    cases fl with
    | ret u =>
      obtain ⟨v, H2, os2, bare2, un2, hok2, rv, ev, d, fs, ea, ed, hd1, q2⟩ := hq'
      subst ev
      obtain ⟨h2, g2, d2, t2, os'⟩ := s'
      exact ⟨rv, mk_endN (raises_own T.exC T.tyC) I1 hsz kk un2 hok2 os2 bare2 ea ed hd1 q2⟩
    | next => exact False.elim hq'
    | brk => exact False.elim hq'
    | cont => exact False.elim hq'
end
end Y
namespace Y
open PySem PySem.Spec PyProof.Rows L2
theorem oexN_ok {n : String} {bm : List Value} (h : oexN n bm = true) : ∃ tl, Refs tl bm ∧ TailOk tl n := by
  unfold oexN at h
  rcases Bool.or_eq_true_iff.mp h with h | h
  · obtain ⟨h1, h2⟩ := He.ba h
    rw [of_decide_eq_true h1]
    exact ⟨_, refs_ok h2, tail_ve⟩
  · rcases Bool.or_eq_true_iff.mp h with h | h
    · obtain ⟨h1, h2⟩ := He.ba h
      rw [of_decide_eq_true h1]
      exact ⟨_, refs_ok h2, tail_le⟩
    · obtain ⟨h1, h2⟩ := He.ba h
      rw [of_decide_eq_true h1]
      exact ⟨_, refs_ok h2, tail_ie⟩
theorem oexB_ok {K : PySem.W.Frag} {C : Addr} (h : oexB K C = true) : OexT K C := by
  unfold oexB at h
  obtain ⟨h0, h⟩ := He.ba h
  obtain ⟨h1, h⟩ := He.ba h
  obtain ⟨h2, h⟩ := He.ba h
  obtain ⟨h3, h4⟩ := He.ba h
  refine ⟨?_, He.eqO_ok h1, of_decide_eq_true h2, of_decide_eq_true h3, h4⟩
  split at h0
  · rename_i t dd cd sl lk
    split at h0
    · rename_i C' bm k0 k1 k2 k3 n k5 hm hs
      obtain ⟨q1, q⟩ := He.ba h0
      obtain ⟨q2, q3⟩ := He.ba q1
      obtain ⟨q4, q⟩ := He.ba q
      obtain ⟨q5, q6⟩ := He.ba q
      obtain ⟨tl, q7, q8⟩ := oexN_ok q4
      have e1 : t = "type" := of_decide_eq_true q2
      have e2 : C' = C := of_decide_eq_true q3
      subst e1 e2
      obtain ⟨nm, bs, mro, ns, qn, hd, sn, sub, ab, col, del⟩ := cd
      have hm : mro = .ref C' :: bm := hm
      have d5 : del = false := by cases del with | false => rfl | true => exact absurd (show false = true from q5) Bool.false_ne_true
      have d6 : hd = true := q6
      cases hm
      cases d5
      cases d6
      have hsl : sl = #[k0, k1, k2, k3, some (.builtin n), k5] := by
        obtain ⟨l⟩ := sl
        have hs : l = _ := hs
        rw [hs]
      exact ⟨tl, n, nm, qn, ns, bs, bm, sn, sub, ab, col, dd, k0, k1, k2, k3, k5, by rw [lk, hsl], q7, q8⟩
    · cases h0
  · cases h0
abbrev Fl := List (Str × (Str ⊕ Nat))
def fldV (fl : Fl) (vs : List V) : List (Str × V) := fl.map fun p => (p.1, match p.2 with | .inl c => .str c | .inr i => vs.getD i .non)
def fldD (fl : Fl) (ds : List D) : List (Str × D) := fl.map fun p => (p.1, match p.2 with | .inl c => .str c | .inr i => ds.getD i .non)
theorem fld_rel {g : Ge} {G : Hp} {ι : Io} {vs : List V} {ds : List D} (h : VDs g G ι vs ds) : ∀ fl : Fl, KVD g G ι (fldV fl vs) (fldD fl ds)
  | [] => .nil
  | (f, .inl c) :: r => .cons ⟨rfl, .str c⟩ (fld_rel h r)
  | (f, .inr i) :: r => by
    refine .cons ⟨rfl, ?_⟩ (fld_rel h r)
    show VD g G ι (vs.getD i .non) (ds.getD i .non)
    rw [List.getD_eq_getElem?_getD, List.getD_eq_getElem?_getD]
    by_cases hi : i < ds.length
    · obtain ⟨v, h1, h2⟩ := h.get (List.getElem?_eq_getElem hi)
      rw [h1, List.getElem?_eq_getElem hi]
      exact h2
    · have hl := h.length
      rw [List.getElem?_eq_none (by omega), List.getElem?_eq_none (by omega)]
      exact .non
/-- self.f = a text | self.f = a parameter, one behind another -/
inductive InitB (X : Cx) : List Stmt → Fl → Prop
  | nil : InitB X [] []
  | str {o e : Expr} {f c : Str} {p' pos : Pos} {rest : List Stmt} {fl : Fl} (ho : PE X o (tVar 0)) (he : PE X e (tC (.str c))) (hs : swapsWith e (some (.Attribute o f p')) pos.line X.env = pure false) (r : InitB X rest fl) : InitB X (.Assign [.Attribute o f p'] e pos :: rest) ((f, .inl c) :: fl)
  | par {o e : Expr} {f : Str} {i : Nat} {p' pos : Pos} {rest : List Stmt} {fl : Fl} (ho : PE X o (tVar 0)) (he : PE X e (tVar (i + 1))) (hs : swapsWith e (some (.Attribute o f p')) pos.line X.env = pure false) (r : InitB X rest fl) : InitB X (.Assign [.Attribute o f p'] e pos :: rest) ((f, .inr i) :: fl)
theorem ib_str {X : Cx} {x c f : Str} {j : Nat} {px pc p' pos : Pos} {rest : List Stmt} {fl : Fl} (r : InitB X rest fl) (hN : X.N[0]? = some x := by rfl) (hv : Vis X.env.scope x := by first | exact Or.inl rfl | exact Or.inr (Or.inl rfl)) (hd : (x == ("__debug__" : Str)) = false := by decide) (hcd : (x == ("__classdict__" : Str)) = false := by decide)
    (hs : swapsWith (.Constant (.str c) j pc) (some (.Attribute (.Name x px) f p')) pos.line X.env = pure false := by rfl) : InitB X (.Assign [.Attribute (.Name x px) f p'] (.Constant (.str c) j pc) pos :: rest) ((f, .inl c) :: fl) := .str (pe_var hN hv hd hcd) pe_str hs r
theorem ib_par {X : Cx} (i : Nat) {x y f : Str} {px py p' pos : Pos} {rest : List Stmt} {fl : Fl} (r : InitB X rest fl) (hN : X.N[0]? = some x := by rfl) (hv : Vis X.env.scope x := by first | exact Or.inl rfl | exact Or.inr (Or.inl rfl)) (hd : (x == ("__debug__" : Str)) = false := by decide) (hcd : (x == ("__classdict__" : Str)) = false := by decide)
    (hN' : X.N[i + 1]? = some y := by rfl) (hv' : Vis X.env.scope y := by first | exact Or.inl rfl | exact Or.inr (Or.inl rfl)) (hd' : (y == ("__debug__" : Str)) = false := by decide) (hcd' : (y == ("__classdict__" : Str)) = false := by decide)
    (hs : swapsWith (.Name y py) (some (.Attribute (.Name x px) f p')) pos.line X.env = pure false := by rfl) : InitB X (.Assign [.Attribute (.Name x px) f p'] (.Name y py) pos :: rest) ((f, .inr i) :: fl) := .par (pe_var hN hv hd hcd) (pe_var hN' hv' hd' hcd') hs r
section
variable {X : Cx} {a C : Addr} {σ : L2.St} {vs : List V}
theorem upd_upd {H : Hp} {d : Addr} {o o' : HO} : upd (upd H d o) d o' = upd H d o' := by
  funext b
  by_cases h : b = d
  · rw [h, upd_same, upd_same]
  · rw [upd_ne h, upd_ne h, upd_ne h]
theorem upd_comm {H : Hp} {d a : Addr} {o o' : HO} (h : d ≠ a) : upd (upd H d o) a o' = upd (upd H a o') d o := by
  funext b
  by_cases h1 : b = a
  · rw [h1, upd_same, upd_ne (Ne.symm h), upd_same]
  · by_cases h2 : b = d
    · rw [h2, upd_ne h, upd_same, upd_same]
    · rw [upd_ne h1, upd_ne h2, upd_ne h2, upd_ne h1]
/-- further fields -/
theorem init_more (T : OexT X.K C) (h0 : σ[0]? = some (some (.ref a))) : ∀ {body : List Stmt} {fl : Fl}, InitB X body fl → (∀ p ∈ fl, PySem.W.findIn X.K (.ref C) p.1 = some none) → (∀ p ∈ fl, ∀ i, p.2 = .inr i → σ[i + 1]? = some (some (vs.getD i .non))) →
    ∃ t, PSs X body t ∧ ∀ (D : Ends) (H : Hp) (d : Addr) (fs : List (Str × V)), H d = none → d ≠ a → fs.length + fl.length ≤ 900 → D.nx σ (upd (upd H d (exd d (fldV fl.reverse vs ++ fs))) a (exo a C (some d))) → t D σ (upd (upd H d (exd d fs)) a (exo a C (some d)))
  | _, _, .nil, _, _ => ⟨_, pss_nil, fun D H d fs _ _ _ h => h⟩
  | _, _, .str (f := f) (c := c) (fl := fl) ho he hs r, hno, hv => by
    obtain ⟨t, h1, h2⟩ := init_more T h0 r (fun p hp => hno p (List.mem_cons_of_mem _ hp)) (fun p hp => hv p (List.mem_cons_of_mem _ hp))
    refine ⟨_, pss_cons (ps_ostT ho he hs) h1, fun D H d fs hd hda hl h => ?_⟩
    refine ⟨.ref a, h0, a, C, rfl, T, hno _ List.mem_cons_self, .inr ⟨d, fs, upd_same, by rw [upd_ne hda, upd_same], ?_, ?_⟩⟩
    · rw [List.length_cons] at hl; omega
    · rw [upd_comm (H := upd H d (exd d fs)) (Ne.symm hda), upd_upd]
      refine h2 D H d ((f, .str c) :: fs) hd hda (by rw [List.length_cons] at hl ⊢; omega) ?_
      have e : fldV ((f, .inl c) :: fl).reverse vs ++ fs = fldV fl.reverse vs ++ (f, .str c) :: fs := by
        unfold fldV
        rw [List.reverse_cons, List.map_append, List.append_assoc]; rfl
      rw [e] at h
      exact h
  | _, _, .par (f := f) (i := i) (fl := fl) ho he hs r, hno, hv => by
    obtain ⟨t, h1, h2⟩ := init_more T h0 r (fun p hp => hno p (List.mem_cons_of_mem _ hp)) (fun p hp => hv p (List.mem_cons_of_mem _ hp))
    refine ⟨_, pss_cons (ps_ostT ho he hs) h1, fun D H d fs hd hda hl h => ?_⟩
    refine ⟨_, hv _ List.mem_cons_self i rfl, .ref a, h0, a, C, rfl, T, hno _ List.mem_cons_self, .inr ⟨d, fs, upd_same, by rw [upd_ne hda, upd_same], ?_, ?_⟩⟩
    · rw [List.length_cons] at hl; omega
    · rw [upd_comm (H := upd H d (exd d fs)) (Ne.symm hda), upd_upd]
      refine h2 D H d ((f, vs.getD i .non) :: fs) hd hda (by rw [List.length_cons] at hl ⊢; omega) ?_
      have e : fldV ((f, .inr i) :: fl).reverse vs ++ fs = fldV fl.reverse vs ++ (f, vs.getD i .non) :: fs := by
        unfold fldV
        rw [List.reverse_cons, List.map_append, List.append_assoc]; rfl
      rw [e] at h
      exact h
/-- all of an __init__ that begins with a text -/
theorem init_all (T : OexT X.K C) (h0 : σ[0]? = some (some (.ref a))) {body : List Stmt} {f c : Str} {fl : Fl} (b : InitB X body ((f, .inl c) :: fl)) (hno : ∀ p ∈ ((f, .inl c) :: fl : Fl), PySem.W.findIn X.K (.ref C) p.1 = some none) (hv : ∀ p ∈ fl, ∀ i, p.2 = .inr i → σ[i + 1]? = some (some (vs.getD i .non))) (hl : fl.length ≤ 800) :
    ∃ t, PSs X body t ∧ ∀ (D : Ends) (H : Hp), H a = some (exo a C none) → (∀ d, H d = none → d ≠ a → D.nx σ (upd (upd H d (exd d (fldV ((f, .inl c) :: fl).reverse vs))) a (exo a C (some d)))) → t D σ H := by
  cases b with
  | str ho he hs r =>
    obtain ⟨t, h1, h2⟩ := init_more T h0 r (fun p hp => hno p (List.mem_cons_of_mem _ hp)) hv
    refine ⟨_, pss_cons (ps_ostT ho he hs) h1, fun D H ha h => ?_⟩
    refine ⟨.ref a, h0, a, C, rfl, T, hno _ List.mem_cons_self, .inl ⟨ha, fun d hd hda => ?_⟩⟩
    refine h2 D H d [(f, .str c)] hd hda (by simp; omega) ?_
    have e : fldV ((f, .inl c) :: fl).reverse vs = fldV fl.reverse vs ++ [(f, .str c)] := by
      unfold fldV
      rw [List.reverse_cons, List.map_append]; rfl
    rw [← e]
    exact h d hd hda
end
/-- what a class's __init__ promises -/
def spInit (C : Addr) (n : Nat) (fl : Fl) : Sp := fun vs H Q _ => ∃ a ws, vs = .ref a :: ws ∧ ws.length = n ∧ H a = some (exo a C none) ∧ ∀ d, H d = none → d ≠ a → Q .non (upd (upd H d (exd d (fldV fl.reverse ws))) a (exo a C (some d)))
/-- a class that may be raised by its name, of n things -/
structure ExcD (P : Program) (w : World) (K : PySem.W.Frag) (mg : Str → Option Value) (base : Heap) (k : Nat) (x : Str) (n : Nat) (fl : Fl) : Prop where
  ex : ∃ (C fI : Addr) (fd : FuncData) (ps : List Str), mg x = some (.ref C) ∧ OexT K C ∧ PySem.W.findIn K (.ref C) "__init__" = some (some (.ref fI)) ∧ PySem.W.typeIn K (.ref fI) = some (.type "function") ∧ FnOk P w K mg base (CX K P w) k fI fd ps (spInit C n fl) ∧ Binds K fd ps []
def sRaise (x : Str) (n : Nat) (fl : Fl) (U : TL) : SD := fun De ρ μ => U ρ μ (fun ds μ1 => ds.length = n ∧ De.ex ⟨x, fldD fl.reverse ds⟩ ρ μ1) (exAt De ρ)
theorem passes_none {X : Cx} {W : WX} (tk : Takes X W) : Passes (CX X.K X.prog X.w) X (fun _ _ _ => False) := passes_call tk (fun _ _ _ _ z => z.elim)
theorem ds_raise {X : Cx} {W : WX} {x : Str} {n k j : Nat} {fl : Fl} {p pos pos' : Pos} {e : Expr} {es : List Expr} {U : TL} (c : ExcD X.prog X.w X.K X.mg X.base k x n fl) (hn : n ≤ 1000) (hc : X.calm = true) (hr : Room j X.A) (tk : Takes X W) (ha : DA X W (gx X) (e :: es) U) (hk : k + 1 ≤ j := by decide) (hg : Gl X x := by rfl)
    (hdb : (x == ("__debug__" : Str)) = false := by decide) (he : starEach (e :: es) X.env = (false, eval e X.env) :: starEach es X.env := by rfl) (hpl : (backTo pos (starEach es X.env)).any (·.1) = false := by rfl) : DS X W (gx X) (.Raise (some (.Call (.Name x p) (e :: es) [] pos)) none pos') (sRaise x n fl U) := by
  obtain ⟨C, fI, fd, ps, hm, T, iC, tI, F1, hb⟩ := c.ex
  obtain ⟨u, h1, h2⟩ := ha
  have pm : PMk X (.Call (.Name x p) (e :: es) [] pos) (tMkO C (spInit C n fl) [] u) := pmk_oexT T iC tI F1 (hr.mono hk) hb .nil (passes_none tk) hg hm h1 hdb he hpl
  refine ⟨_, ps_raise hc tk pm, fun F G ι σ H ρ μ De Dh r R l h => ?_⟩
  have L := l.xl r
  refine h2 F G ι σ H ρ μ _ _ _ r R L h fun G1 ι1 μ1 H1 vs ds e1 R1 v1 q1 => ⟨by rw [v1.length, q1.1]; exact hn, fun a ha => ?_⟩
  refine ⟨a, vs, by rw [List.append_nil], by rw [v1.length]; exact q1.1, upd_same, fun d hd hda => ⟨rfl, d, fldV fl.reverse vs, upd_same, by rw [upd_ne hda, upd_same], ?_, ?_⟩⟩
  · rw [upd_ne hda] at hd; exact hd
  · have hd1 : H1 d = none := by rw [upd_ne hda] at hd; exact hd
    have eH : upd (del (upd (upd (upd H1 a (exo a C none)) d (exd d (fldV fl.reverse vs))) a (exo a C (some d))) a) d (.xd (fldV fl.reverse vs)) = upd H1 d (.xd (fldV fl.reverse vs)) := by
      funext b
      by_cases h1 : b = d
      · rw [h1, upd_same, upd_same]
      · rw [upd_ne h1, upd_ne h1]
        by_cases h2 : b = a
        · rw [h2, del_same, ha]
        · rw [del_ne h2, upd_ne h2, upd_ne h1, upd_ne h2]
    rw [eH]
    exact L G1 ι1 _ μ1 (.ref C) (some d) ⟨x, fldD fl.reverse ds⟩ e1 (R1.other hd1) ⟨C, d, _, rfl, hm, rfl, upd_same, fld_rel v1 _⟩ q1.2
end Y
namespace Y
open PySem PySem.Spec PyProof.Rows L2
abbrev Cla := List Value × Nat × (Addr → Value → Option Addr → TS)
/-- the ends of a suite whose name at slot i is let go -/
def endsAs (i : Nat) (De : Ends) : Ends := { nx := fun σ' H' => De.nx (σ'.set i none) H', rt := De.rt, bk := fun σ' H' => De.bk (σ'.set i none) H', ct := fun σ' H' => De.ct (σ'.set i none) H' }
def wCla (K : PySem.W.Frag) (Wo : WX) (De : Ends) : List Cla → WX
  | [] => Wo
  | (c, i, ts) :: r => fun cls d σ H => ∃ b, PySem.W.exmAny K cls c = some b ∧ (b = true → ∀ a, H a = none → ts a cls d (endsAs i De) (σ.set i (some (.ref a))) H) ∧ (b = false → wCla K Wo De r cls d σ H)
inductive HdsA (X : Cx) : List ExceptHandler → List Cla → Prop
  | nil : HdsA X [] []
  | cons {x n : Str} {c : Value} {i : Nat} {ts : Addr → Value → Option Addr → TS} {b₀ : Stmt} {su : List Stmt} {np p' : Pos} {hds : List ExceptHandler} {l : List Cla} (hi : X.N[i]? = some n) (hln : X.env.kindOf n = some .local) (hc : Names X x c)
      (hsu : ∀ (a : Addr) (oe : Obj) (cls : Value) (d : Option Addr) (pn : List (Addr × Obj)), Zc cls d oe → (∃ vs, oe.data = .fields vs) → PSs (X.suite a ((a, oe) :: pn)) (b₀ :: su) (ts a cls d)) (r : HdsA X hds l) :
      HdsA X (.ExceptHandler (some (.Name x np)) (some n) (b₀ :: su) p' :: hds) (([c], i, ts) :: l)
  /-- except (C, D) as e -/
  | cons2 {x y n : Str} {c1 c2 : Value} {i : Nat} {ts : Addr → Value → Option Addr → TS} {b₀ : Stmt} {su : List Stmt} {np nq tp p' : Pos} {k : Nat} {hds : List ExceptHandler} {l : List Cla} (hi : X.N[i]? = some n) (hln : X.env.kindOf n = some .local) (hc1 : Names X x c1) (hc2 : Names X y c2)
      (hsu : ∀ (a : Addr) (oe : Obj) (cls : Value) (d : Option Addr) (pn : List (Addr × Obj)), Zc cls d oe → (∃ vs, oe.data = .fields vs) → PSs (X.suite a ((a, oe) :: pn)) (b₀ :: su) (ts a cls d)) (r : HdsA X hds l) :
      HdsA X (.ExceptHandler (some (.Tuple [.Name x np, .Name y nq] k tp)) (some n) (b₀ :: su) p' :: hds) (([c1, c2], i, ts) :: l)
theorem flz_push {base h : Heap} {l : List Env} {e : Addr} {Z : Obj → Prop} (x : HandSPX.FlyingZ base l e Z h) (o : Obj) : HandSPX.FlyingZ base l e Z (h.push o) := by
  obtain ⟨x1, x2, x3, oe, vs, T, oT, ts, y1, y2, y3, y4, y5, y6, y7, y8, y9⟩ := x
  have pk : ∀ {b : Addr} {u : Obj}, h.get? b = some u → (h.push o).get? b = some u := fun {b u} e => Heap.get?_push_of_some _ e
  exact ⟨fun b u e => pk (x1 b u e), x2, Heap.FunFrames.of_keeps (fun b u e _ => ⟨u, pk e, rfl⟩) x3, oe, vs, T, oT, ts, pk y1, y2, y3, y4, y5, y6, pk y7, y8, y9⟩
theorem exmAny_one {K : PySem.W.Frag} {cls c : Value} {b : Bool} (h : PySem.W.exmAny K cls [c] = some b) : PySem.W.exmOne K cls c = some b := by
  obtain ⟨b1, d1, h1, h2, rfl⟩ := PySem.W.exmAny_cons h
  have h2 : some false = some d1 := h2
  cases h2
  rw [Bool.or_false]
  exact h1
theorem exmAny_of {K : PySem.W.Frag} {cls c : Value} {b : Bool} (h : PySem.W.exmOne K cls c = some b) : PySem.W.exmAny K cls [c] = some b := by
  show (match PySem.W.exmOne K cls c, PySem.W.exmAny K cls [] with | some b, some d => some (b || d) | _, _ => none) = _
  rw [h]
  show some (b || false) = _
  rw [Bool.or_false]
section
variable {X : Cx} {body : List Stmt} {h0 : ExceptHandler} {hds : List ExceptHandler} {l : List Cla} {pos : Pos} {tb : WX → TS} {Wo : WX}
theorem ps_tryA (hst : X.stack = X.env :: X.outer) (hfl : X.env.frame = some X.env.locals) (hN : X.N.Nodup) (tk : L2.Takes X Wo)
    (hb : ∀ (W : WX) (pn : List (Addr × Obj)) (xe : Value → Shared → Prop), L2.Takes (X.tr pn xe) W → PassesOwn (model X.prog X.w) X.A X.env xe → PSs (X.tr pn xe) body (tb W)) (hh : HdsA X (h0 :: hds) l) :
    PS X (.Try body (h0 :: hds) [] [] pos) (fun De σ H => tb (wCla X.K Wo De l) De σ H) := by
  refine ⟨fun pins s σ H De I hrd => ?_⟩
  have okX := I.ok
  have frX : X.A.frames = some (X.env :: X.outer) := by rw [okX.frames, hst]
  refine wpAny_Try_except (wpAny_mono ((hb (wCla X.K Wo De l) (X.pn ++ pins) (fun e s₁ => wpAny (model X.prog X.w) X.A (noteFrame e X.env) (fun _ s₂ => wpAny (model X.prog X.w) X.A (setFlight e none) (fun _ s₃ => wpAny (model X.prog X.w) X.A (handleBy e X.env (h0 :: hds)) (SP X pins De) X.xe s₃) X.xe s₂) X.xe s₁) (fun u s' got => ?_) PassesOwn.looking).run [] s σ H De (I.toTry _) hrd) (fun fl s1 hfin => ?_) (fun _ _ z => z))
  · obtain ⟨a, B, sI, pins', σ', H', cls, d, rfl, J', nb, up, sky, na, os, ag, wsh⟩ := got
    have J : Inv X pins σ' H' sI := J'.ofTry okX
    have skyX : Sky B (X.env :: X.outer) a (Zc cls d) X.env.locals s'.heap := by rw [← hst]; exact sky
    show wpAny (model X.prog X.w) X.A (noteFrame (.ref a) X.env) _ _ _
    refine Sky.land Zc.steady frX hfl skyX fun hL flL upL => ?_
    have walk : ∀ {hs : List ExceptHandler} {m : List Cla}, HdsA X hs m → ∀ hL, HandSPX.FlyingZ B (X.env :: X.outer) a (Zc cls d) hL → s'.heap.UpToSlots hL → wCla X.K Wo De m cls d σ' H' → wpAny (model X.prog X.w) X.A (handleBy (.ref a) X.env hs) (SP X pins De) X.xe { s' with heap := hL } := by
      intro hs m hk
      induction hk with
      | nil =>
        intro hL flL upL wz
        refine wpAny_handleBy_nil ?_
        obtain ⟨k1, k2, k3, oe, vs, T, oT, tsT, he, hz, hd, h1, hr⟩ := id flL
        unfold PySem.passOn
        refine wpAny_bind (wpAny_field he hd h1 ?_)
        rw [if_neg (show ¬ ((Value.ref T == Value.none) = true) from by simp)]
        have out : wpAny (model X.prog X.w) X.A (setFlight (.ref a) X.env.frame) (fun _ s4 => wpAny (model X.prog X.w) X.A (throw (.ref a) : Sem Flow) (SP X pins De) X.xe s4) X.xe { s' with heap := hL } := by
          rw [hfl]
          exact HandSPX.setFlight_upZ flL fun h4 hh4 up4 => wpAny_throw (tk _ _ ⟨a, B, sI, pins, σ', H', cls, d, rfl, J, nb, (up.trans upL).trans up4, .inr (.inr (by rw [hst]; exact hh4)), na, os, ag, wz⟩)
        first | exact wpAny_bind (wpAny_pure (wpAny_bind out)) | exact wpAny_bind out
      | @cons x n c i ts b₀ su np p' hs2 l2 hi hln hc hsu r ih =>
        intro hL flL upL wz
        have JL : Inv X pins σ' H' { s' with heap := hL } := J.landed nb flL.1 (up.trans upL) os ag
        obtain ⟨oeL, vsL, heL, hzL, hdL⟩ := flL.there
        have offFr : a ∉ frs (X.env :: X.outer) := fun hm => by
          obtain ⟨_, o', e', hnf⟩ := flL.2.2.1.mem hm
          rw [heL] at e'; cases e'; exact hnf _ hdL
        have nL : a ≠ X.env.locals := fun z => offFr (List.mem_filterMap.mpr ⟨X.env, List.mem_cons_self, by rw [hfl, z]⟩)
        have nF : a ∉ X.fs := fun hm => by
          obtain ⟨e, he, q⟩ := List.mem_filterMap.mp hm
          exact offFr (List.mem_filterMap.mpr ⟨e, List.mem_cons_of_mem _ he, q⟩)
        have SL := JL.suite heL hdL na nL nF
        obtain ⟨b, hb1, hyes, hno⟩ := wz
        refine wpAny_handleBy_cons (codeAny_handlers_test ?_) (by intro q; cases q)
        have LT : PySem.W.Looks (model X.prog X.w) hL (typeOf (.ref a)) cls := fun A Q E s k q => wpAny_typeOf_ref (k _ _ heL) (by rw [hzL.1]; exact q)
        have LM := PySem.W.exm_one (M := model X.prog X.w) (JL.kIn) LT (exmAny_one hb1)
        have named : ∀ {Q : Value → Shared → Prop} {E : Value → Shared → Prop}, Q c { s' with heap := hL } → wpAny (model X.prog X.w) (X.A.mark (some (.ref a))) (eval (.Name x np) X.env) Q E { s' with heap := hL } := fun {Q E} q => by
          obtain ⟨hg, hdbg, hm | ⟨hm, hv, hnn⟩⟩ := hc
          · exact ld_glob (X := X.suite a ((a, oeL) :: (X.pn ++ pins))) SL hg hm q hdbg
          · exact ld_blt (X := X.suite a ((a, oeL) :: (X.pn ++ pins))) SL hg hm hv q hnn hdbg
        refine named (LM.here ?_)
        cases b with
        | false => exact ih hL flL upL (hno rfl)
        | true =>
          refine codeAny_handlers_suite_as (HandSPX.lands_againZ flL fun h4 fl4 up4 => ?_)
          have J4 : Inv X pins σ' H' { s' with heap := h4 } := J.landed nb fl4.1 ((up.trans upL).trans up4) os ag
          obtain ⟨oe4, vs4, he4, hz4, hd4⟩ := fl4.there
          have S4 := J4.suite he4 hd4 na nL nF
          refine store_ok (X := X.suite a ((a, oe4) :: (X.pn ++ pins))) (v := .ref a) S4 hN hi (.inl hln) rfl (fun s5 S5 => ?_) (.inr hln)
          refine wpAny_mono ((hsu a oe4 cls d (X.pn ++ pins) hz4 ⟨_, hd4⟩).run [] s5 _ H' _ S5 (hyes rfl a na)) (fun fl s6 hq => ?_) (fun _ _ z => z.elim)
          have gone : ∀ {σ6 : L2.St} {H6 : Hp} {Q : Shared → Prop}, Inv (X.suite a ((a, oe4) :: (X.pn ++ pins))) [] σ6 H6 s6 → (∀ s7, Inv X pins (σ6.set i none) H6 s7 → Q s7) → wpAny (model X.prog X.w) X.A (do bindName X.env n .none; unbindBehindTheSuite X.env n p') (fun _ s7 => Q s7) X.xe s6 := fun S6 hq => gone_ok (S6.unsuite okX) hN hi hln hq
          cases fl with
          | next => obtain ⟨σ6, H6, S6, q6⟩ := hq; exact gone S6 fun s7 J7 => ⟨_, _, J7, q6⟩
          | brk => obtain ⟨σ6, H6, S6, q6⟩ := hq; exact gone S6 fun s7 J7 => ⟨_, _, J7, q6⟩
          | cont => obtain ⟨σ6, H6, S6, q6⟩ := hq; exact gone S6 fun s7 J7 => ⟨_, _, J7, q6⟩
          | ret u => obtain ⟨v6, σ6, H6, S6, r6, q6⟩ := hq; exact gone S6 fun s7 J7 => ⟨_, _, _, J7, r6, q6⟩
      | @cons2 x y n c1 c2 i ts b₀ su np nq tp p' k hs2 l2 hi hln hc1 hc2 hsu r ih =>
        intro hL flL upL wz
        have JL : Inv X pins σ' H' { s' with heap := hL } := J.landed nb flL.1 (up.trans upL) os ag
        obtain ⟨oeL, vsL, heL, hzL, hdL⟩ := flL.there
        have offFr : a ∉ frs (X.env :: X.outer) := fun hm => by
          obtain ⟨_, o', e', hnf⟩ := flL.2.2.1.mem hm
          rw [heL] at e'; cases e'; exact hnf _ hdL
        have nL : a ≠ X.env.locals := fun z => offFr (List.mem_filterMap.mpr ⟨X.env, List.mem_cons_self, by rw [hfl, z]⟩)
        have nF : a ∉ X.fs := fun hm => by
          obtain ⟨e, he, q⟩ := List.mem_filterMap.mp hm
          exact offFr (List.mem_filterMap.mpr ⟨e, List.mem_cons_of_mem _ he, q⟩)
        have SL := JL.suite heL hdL na nL nF
        obtain ⟨b, hb1, hyes, hno⟩ := wz
        refine wpAny_handleBy_cons (codeAny_handlers_test ?_) (by intro q; cases q)
        have LT : PySem.W.Looks (model X.prog X.w) hL (typeOf (.ref a)) cls := fun A Q E s k q => wpAny_typeOf_ref (k _ _ heL) (by rw [hzL.1]; exact q)
        have named : ∀ {z : Str} {nz : Pos} {c : Value} {Q : Value → Shared → Prop} {E : Value → Shared → Prop}, Names X z c → Q c { s' with heap := hL } → wpAny (model X.prog X.w) (X.A.mark (some (.ref a))) (eval (.Name z nz) X.env) Q E { s' with heap := hL } := fun {z nz c Q E} hc q => by
          obtain ⟨hg, hdbg, hm | ⟨hm, hv, hnn⟩⟩ := hc
          · exact ld_glob (X := X.suite a ((a, oeL) :: (X.pn ++ pins))) SL hg hm q hdbg
          · exact ld_blt (X := X.suite a ((a, oeL) :: (X.pn ++ pins))) SL hg hm hv q hnn hdbg
        have pk : ∀ {o : Obj} {b : Addr} {u : Obj}, hL.get? b = some u → (hL.push o).get? b = some u := fun {o b u} e => Heap.get?_push_of_some _ e
        refine wpAny_Tuple_spliced ?_
        refine Calls.spliced_cons (named hc1 (Calls.spliced_cons (named hc2 (Calls.spliced_nil ⟨by rw [sizeLine_eq]; show 2 ≤ _; omega, ?_⟩))))
        have LM := PySem.W.exm_tup2 (M := model X.prog X.w) (h := hL.push { cls := .type "tuple", data := .seq [c1, c2].toArray }) (JL.kIn.keeps fun _ _ e => pk e) (LT.keeps fun _ _ e => pk e) (Heap.get?_push_size _ rfl) hb1
        refine LM.here ?_
        have flP := flz_push flL { cls := .type "tuple", data := .seq [c1, c2].toArray }
        have upP := upL.trans (Heap.UpToSlots.of_keeps (h := hL) (h' := hL.push { cls := .type "tuple", data := .seq [c1, c2].toArray }) fun _ _ e => pk e)
        cases b with
        | false => exact ih _ flP upP (hno rfl)
        | true =>
          refine codeAny_handlers_suite_as (HandSPX.lands_againZ flP fun h4 fl4 up4 => ?_)
          have J4 : Inv X pins σ' H' { s' with heap := h4 } := J.landed nb fl4.1 ((up.trans upP).trans up4) os ag
          obtain ⟨oe4, vs4, he4, hz4, hd4⟩ := fl4.there
          have S4 := J4.suite he4 hd4 na nL nF
          refine store_ok (X := X.suite a ((a, oe4) :: (X.pn ++ pins))) (v := .ref a) S4 hN hi (.inl hln) rfl (fun s5 S5 => ?_) (.inr hln)
          refine wpAny_mono ((hsu a oe4 cls d (X.pn ++ pins) hz4 ⟨_, hd4⟩).run [] s5 _ H' _ S5 (hyes rfl a na)) (fun fl s6 hq => ?_) (fun _ _ z => z.elim)
          have gone : ∀ {σ6 : L2.St} {H6 : Hp} {Q : Shared → Prop}, Inv (X.suite a ((a, oe4) :: (X.pn ++ pins))) [] σ6 H6 s6 → (∀ s7, Inv X pins (σ6.set i none) H6 s7 → Q s7) → wpAny (model X.prog X.w) X.A (do bindName X.env n .none; unbindBehindTheSuite X.env n p') (fun _ s7 => Q s7) X.xe s6 := fun S6 hq => gone_ok (S6.unsuite okX) hN hi hln hq
          cases fl with
          | next => obtain ⟨σ6, H6, S6, q6⟩ := hq; exact gone S6 fun s7 J7 => ⟨_, _, J7, q6⟩
          | brk => obtain ⟨σ6, H6, S6, q6⟩ := hq; exact gone S6 fun s7 J7 => ⟨_, _, J7, q6⟩
          | cont => obtain ⟨σ6, H6, S6, q6⟩ := hq; exact gone S6 fun s7 J7 => ⟨_, _, J7, q6⟩
          | ret u => obtain ⟨v6, σ6, H6, S6, r6, q6⟩ := hq; exact gone S6 fun s7 J7 => ⟨_, _, _, J7, r6, q6⟩
    exact walk hh hL flL upL wsh
  · cases fl with
    | next => obtain ⟨σ', H', J', q⟩ := hfin; exact wpAny_execs_nil ⟨σ', H', J'.ofTry okX, q⟩
    | brk => obtain ⟨σ', H', J', q⟩ := hfin; exact ⟨σ', H', J'.ofTry okX, q⟩
    | cont => obtain ⟨σ', H', J', q⟩ := hfin; exact ⟨σ', H', J'.ofTry okX, q⟩
    | ret u => obtain ⟨v, σ', H', J', r, q⟩ := hfin; exact ⟨v, σ', H', J'.ofTry okX, r, q⟩
end
end Y
namespace Y
open PySem PySem.Spec PyProof.Rows L2
section
variable {X : Cx}
/-- set(l), l a list of numbers -/
def rSetL (K : PySem.W.Frag) (w : World) : List V → Hp → VK → Prop := fun vs H Q => ∃ (a : Addr) (ns : List Int), vs = [V.ref a] ∧ SqL K H a (ns.map V.int) ∧ ns.length < 64 ∧ ∀ p c, H p = none → c ≤ ns.length → Q (.ref p) (upd H p (SetO w p (fun j => decide (j ∈ ns)) c))
end
/-- the numbers of a list, each once, rising -/
def setI : List Int → List Int
  | [] => []
  | n :: r => putI n (setI r)
where putI (n : Int) : List Int → List Int
  | [] => [n]
  | m :: r => if n < m then n :: m :: r else if n = m then m :: r else m :: putI n r
end Y
namespace Y
open PySem PySem.Spec PyProof.Rows L2
def TV.d : TV → D
  | .s x => .str x
  | .i n => .int n
  | .g x => .glo x
def tabD (kvs : List (Str × TV)) (z : Str) : Option D := (kvs.lookup z).map TV.d
/-- the module's name x is the table kvs -/
structure KTab (K : PySem.W.Frag) (w : World) (mg : Str → Option Value) (x : Str) (kvs : List (Str × TV)) : Prop where
  ex : ∃ (d : Addr) (es : Array DictEntry) (n : Nat), mg x = some (.ref d) ∧ KDict K w d es n ∧ ∀ z, (kvs.lookup z = none ∧ PySem.W.nsIn K d z = some none) ∨ ∃ e u v, kvs.lookup z = some e ∧ PySem.W.nsIn K d z = some (some u) ∧ RelV v u ∧ ∀ G ι, VD ⟨K, mg, w⟩ G ι v e.d
def notInTab (x : Str) (kvs : List (Str × TV)) : Mu → D → D → Option D := fun _ a b => match a, b with
  | .str z, .glo y => if y = x then some (.bl (!(kvs.lookup z).isSome)) else none
  | _, _ => none
def ixTab (x : Str) (kvs : List (Str × TV)) : Mu → D → D → Option D := fun _ a b => match a, b with
  | .glo y, .str z => if y = x then tabD kvs z else none
  | _, _ => none
section
variable {X : Cx} {W : WX} {x : Str} {kvs : List (Str × TV)}
theorem KTab.glo (t : KTab X.K X.w X.mg x kvs) {p : Pos} (hg : Gl X x := by rfl) (hd : (x == ("__debug__" : Str)) = false := by decide) : DE X W (gx X) (.Name x p) (dC (.glo x)) := by
  obtain ⟨d, es, n, hm, _⟩ := t.ex
  exact ⟨_, pe_glob hg hm (v := .ref d) rfl hd, rd_c fun _ _ => .glo hm⟩
theorem KTab.notIn (t : KTab X.K X.w X.mg x kvs) : ∃ r, OpR X (compareOp .NotIn) r ∧ Prim2 (gx X) r (notInTab x kvs) := by
  obtain ⟨d, es, n, hm, D, ha⟩ := t.ex
  refine ⟨_, op_notIn_kd D, fun F G ι H μ a b da db z P R va vb h k => ?_⟩
  unfold notInTab at h
  split at h
  · rename_i z1 y
    split at h
    · rename_i ey
      subst ey
      cases h
      cases va
      cases vb with
      | glo h1 =>
        have e2 := Option.some.inj (h1.symm.trans hm)
        cases e2
        rcases ha z1 with ⟨h2, h3⟩ | ⟨e, u, v, h2, h3, _⟩
        · exact ⟨z1, none, rfl, rfl, h3, by rw [h2] at k; exact k _ _ _ .refl R (.bl _)⟩
        · exact ⟨z1, some u, rfl, rfl, h3, by rw [h2] at k; exact k _ _ _ .refl R (.bl _)⟩
    · cases h
  · cases h
theorem KTab.at_ (t : KTab X.K X.w X.mg x kvs) : Prim2 (gx X) (rIxD X.K X.w) (ixTab x kvs) := by
  obtain ⟨d, es, n, hm, D, ha⟩ := t.ex
  intro F G ι H μ a b da db z P R va vb h k
  unfold ixTab at h
  split at h
  · rename_i y z1
    split at h
    · rename_i ey
      subst ey
      cases vb
      cases va with
      | glo h1 =>
        have e2 := Option.some.inj (h1.symm.trans hm)
        cases e2
        rcases ha z1 with ⟨h2, h3⟩ | ⟨e, u, v, h2, h3, h4, h5⟩
        · unfold tabD at h
          rw [h2] at h
          cases h
        · unfold tabD at h
          rw [h2] at h
          cases h
          exact ⟨_, z1, v, rfl, rfl, ⟨es, n, u, D.at_, D.lit, h3, h4⟩, k _ _ _ .refl R (h5 _ _)⟩
    · cases h
  · cases h
variable {a b : Expr} {p pos : Pos} {T : TD}
theorem db_notInTab (t : KTab X.K X.w X.mg x kvs) (ha : DE X W (gx X) a T) (hg : Gl X x := by rfl) (hd : (x == ("__debug__" : Str)) = false := by decide) : DB X W (gx X) (.Compare a [.NotIn] [.Name x p] pos) (dTest (dOp (notInTab x kvs) T (dC (.glo x)))) :=
  let ⟨_, h1, h2⟩ := t.notIn; db_cmpR h1 h2 ha (t.glo hg hd) rfl
end
theorem isStr_key {v : Value} {k : Str} (h : v.isStr k = true) : ∃ t, v = .str k t := by
  cases v with
  | str y t =>
    have h : (y == k) = true := h
    rw [beq_iff_eq] at h
    exact ⟨t, by rw [h]⟩
  | _ => cases h
theorem TV.isB_ok {w : World} {K : PySem.W.Frag} {h : Heap} {mg : Str → Option Value} (X : K.In h) (G : h.Ns mainGlobals mg) {v : TV} {u : Value} (hb : v.isB K u = true) : ∃ z, RelV z u ∧ ∀ G' ι, VD ⟨K, mg, w⟩ G' ι z v.d := by
  cases v with
  | s x => cases u <;> first | (cases hb; done) | exact ⟨.str x, ⟨_, by rw [of_decide_eq_true hb]⟩, fun _ _ => .str x⟩
  | i n => cases u <;> first | (cases hb; done) | exact ⟨.int n, ⟨_, by rw [of_decide_eq_true hb]⟩, fun _ _ => .int n⟩
  | g x =>
    cases u with
    | ref a => exact ⟨.ref a, rfl, fun _ _ => .glo (PySem.W.mg_of X G (of_decide_eq_true hb))⟩
    | _ => cases hb
theorem entsB_ok {K : PySem.W.Frag} {h : Heap} {mg : Str → Option Value} (X : K.In h) (G : h.Ns mainGlobals mg) (z : Str) : ∀ {l : List DictEntry} {kvs : List (Str × TV)}, entsB K l kvs = true →
    l.any (·.refKey) = false ∧ ((kvs.lookup z = none ∧ l.find? (·.key.isStr z) = none) ∨ ∃ v e, kvs.lookup z = some v ∧ l.find? (·.key.isStr z) = some e ∧ v.isB K e.val = true)
  | [], [], _ => ⟨rfl, .inl ⟨rfl, rfl⟩⟩
  | [], _ :: _, hb => by cases hb
  | _ :: _, [], hb => by cases hb
  | e :: r, (k, v) :: q, hb => by
    obtain ⟨h1, h2⟩ := He.ba hb
    obtain ⟨h3, h4⟩ := He.ba h2
    obtain ⟨h5, h6⟩ := entsB_ok X G z h4
    obtain ⟨t, ek⟩ := isStr_key h1
    refine ⟨?_, ?_⟩
    · rw [List.any_cons, h5, Bool.or_false]
      unfold DictEntry.refKey
      rw [ek]
    · rw [List.lookup_cons, List.find?_cons, ek]
      show _ ∨ _
      have es : (Value.str k t).isStr z = (k == z) := rfl
      rw [es]
      by_cases hz : k = z
      · subst hz
        rw [beq_self_eq_true]
        exact .inr ⟨v, e, rfl, rfl, h3⟩
      · rw [beq_false_of_ne hz, beq_false_of_ne (Ne.symm hz)]
        exact h6
theorem ktab_of {K : PySem.W.Frag} {w : World} {h : Heap} {mg : Str → Option Value} (X : K.In h) (G : h.Ns mainGlobals mg) {x : Str} {kvs : List (Str × TV)} (hg : mg x = some (.ref (He.ga K x))) (hd : ∃ es n, KDict K w (He.ga K x) es n) (hb : tabB K x kvs = true) : KTab K w mg x kvs := by
  obtain ⟨es, n, D⟩ := hd
  refine ⟨_, es, n, hg, D, fun z => ?_⟩
  unfold tabB at hb
  rw [D.at_] at hb
  obtain ⟨h1, h2⟩ := entsB_ok X G z hb
  unfold PySem.W.nsIn
  rw [D.at_]
  rcases h2 with ⟨h2, h3⟩ | ⟨v, e, h2, h3, h4⟩
  · refine .inl ⟨h2, ?_⟩
    simp only [h3, h1]
    rfl
  · obtain ⟨y, h5, h6⟩ := TV.isB_ok X G h4
    refine .inr ⟨v, e.val, y, h2, ?_, h5, h6⟩
    simp only [h3]
section
variable {μ : Mu} {x z : Str} {kvs : List (Str × TV)} {K : D → Prop}
theorem s_notInTab (h : K (.bl (!(kvs.lookup z).isSome))) : opQ (notInTab x kvs μ (.str z) (.glo x)) K := by
  show opQ (if x = x then _ else none) K
  rw [if_pos rfl]; exact h
end
end Y
namespace Y
open PySem PySem.Spec PyProof.Rows L2
theorem tup0_ok {K : PySem.W.Frag} {a : Addr} (h : tup0B K a = true) (H : Hp) : SqT K H a [] := by
  unfold tup0B at h
  split at h
  · rename_i c od its n sl q
    obtain ⟨h1, h2⟩ := He.ba h
    have e1 := of_decide_eq_true h1
    subst e1
    rw [Array.isEmpty_iff] at h2
    subst h2
    exact .inr ⟨_, #[], n, q, rfl, rfl, Nat.zero_le _, .nil⟩
  · cases h
end Y
namespace Y
open PySem PySem.Spec PyProof.Rows L2
/-- all that a reading over data tells of statements -/
def cS (W : WX) (g : Ge) (T : SD) : TS := fun Dh σ H => ∃ F G ι ρ μ De, RhoRel g G ι σ ρ ∧ Rel g F G ι H μ ∧ LiftEnds W g F G ι De Dh ∧ T De ρ μ
theorem DSs.can {X : Cx} {W : WX} {g : Ge} {sts : List Stmt} {T : SD} (h : DSs X W g sts T) : PSs X sts (cS W g T) := by
  obtain ⟨t, h1, h2⟩ := h
  exact ⟨fun pins s σ H D I ⟨F, G, ι, ρ, μ, De, r, R, l, q⟩ => h1.run pins s σ H D I (h2 F G ι σ H ρ μ De D r R l q)⟩
/-- a field, a text, None -/
inductive HI where
  | fld (f : Str) | con (c : Option Str)
def conD : Option Str → D
  | none => .non
  | some x => .str x
def conV : Option Str → V
  | none => .non
  | some x => .str x
def HI.val (x : XD) : HI → Option D
  | .fld f => x.fs.lookup f
  | .con c => some (conD c)
def hvals (x : XD) : List HI → Option (List D)
  | [] => some []
  | i :: r => (i.val x).bind fun d => (hvals x r).map (d :: ·)
inductive HX where
  | one (i : HI) | tup (is : List HI)
def HX.val (x : XD) : HX → Option D
  | .one i => i.val x
  | .tup is => (hvals x is).map .tup
def HI.flds : HI → List Str
  | .fld f => [f]
  | .con _ => []
def HX.flds : HX → List Str
  | .one i => i.flds
  | .tup is => is.flatMap HI.flds
/-- its size as a tuple -/
def HX.few : HX → Prop
  | .one _ => True
  | .tup is => is.length ≤ 100
section
variable (a : Addr) (cls : Value) (d : Option Addr) (C : Addr) (i : Nat)
def tHI : HI → TE
  | .fld f => tXf a cls d C f (tVar i)
  | .con c => tC (conV c)
def tHIs : List HI → TA
  | [] => tNil
  | h :: r => tCons (tHI a cls d C i h) (tHIs r)
def tHX : HX → TE
  | .one h => tHI a cls d C i h
  | .tup is => tTupN (tHIs a cls d C i is)
end
def GoodX (K : PySem.W.Frag) (C : Addr) (fs : List Str) : Prop := XfC K C ∧ ∀ f ∈ fs, PySem.W.findIn K (.ref C) f = some none
/-- the texts that are read so: n the name at slot i -/
inductive EI (X : Cx) (i : Nat) (n : Str) : Expr → HI → Prop
  | fld {f : Str} {p pos : Pos} (hN : X.N[i]? = some n) (hv : Vis X.env.scope n) (hd : (n == ("__debug__" : Str)) = false) (hcd : (n == ("__classdict__" : Str)) = false) (hb : attributeBase (.Name n p) f X.env (eval (.Name n p) X.env) = eval (.Name n p) X.env) : EI X i n (.Attribute (.Name n p) f pos) (.fld f)
  | str {x : Str} {j : Nat} {pos : Pos} : EI X i n (.Constant (.str x) j pos) (.con (some x))
  | non {j : Nat} {pos : Pos} : EI X i n (.Constant .none j pos) (.con none)
inductive EIs (X : Cx) (i : Nat) (n : Str) : List Expr → List HI → Prop
  | nil : EIs X i n [] []
  | cons {e : Expr} {es : List Expr} {h : HI} {is : List HI} (he : EI X i n e h) (r : EIs X i n es is) (hs : starEach (e :: es) X.env = (false, eval e X.env) :: starEach es X.env) : EIs X i n (e :: es) (h :: is)
inductive EX (X : Cx) (i : Nat) (n : Str) : Expr → HX → Prop
  | one {e : Expr} {h : HI} (he : EI X i n e h) : EX X i n e (.one h)
  | tup {es : List Expr} {is : List HI} {k : Nat} {pos : Pos} (hs : EIs X i n es is) : EX X i n (.Tuple es k pos) (.tup is)
section
variable {X : Cx} {a C : Addr} {oe : Obj} {cls : Value} {d : Option Addr} {pn : List (Addr × Obj)} {i : Nat} {n : Str}
theorem EI.pe {e : Expr} {h : HI} (E : EI X i n e h) (g : GoodX X.K C h.flds) (hz : Zc cls d oe) (hf : ∃ vs, oe.data = .fields vs) : PE (X.suite a ((a, oe) :: pn)) e (tHI a cls d C i h) := by
  cases E with
  | fld hN hv hd hcd hb => exact pe_xf g.1 (g.2 _ (List.mem_singleton.mpr rfl)) hz hf (pe_var hN hv hd hcd) hb
  | str => exact pe_str
  | non => exact pe_non
theorem EIs.pa {es : List Expr} {is : List HI} (E : EIs X i n es is) (hz : Zc cls d oe) (hf : ∃ vs, oe.data = .fields vs) : GoodX X.K C (is.flatMap HI.flds) → PA (X.suite a ((a, oe) :: pn)) es (tHIs a cls d C i is) := by
  induction E with
  | nil => exact fun _ => pa_nil
  | cons he r hs ih =>
    intro g
    exact pa_cons (he.pe ⟨g.1, fun f h => g.2 f (List.mem_flatMap.mpr ⟨_, List.mem_cons_self, h⟩)⟩ hz hf) (ih ⟨g.1, fun f h => g.2 f (by rw [List.flatMap_cons]; exact List.mem_append_right _ h)⟩) hs
theorem EX.pe {e : Expr} {h : HX} (E : EX X i n e h) (g : GoodX X.K C h.flds) (hz : Zc cls d oe) (hf : ∃ vs, oe.data = .fields vs) : PE (X.suite a ((a, oe) :: pn)) e (tHX a cls d C i h) := by
  cases E with
  | one he => exact he.pe g hz hf
  | tup hs => exact pe_tupN (hs.pa hz hf g)
end
theorem kvd_get {g : Ge} {G : Hp} {ι : Io} {f : Str} : ∀ {ys : List (Str × V)} {fs : List (Str × D)} {z : D}, KVD g G ι ys fs → fs.lookup f = some z → ∃ v, ys.lookup f = some v ∧ VD g G ι v z
  | _, _, z, .nil, e => by cases e
  | (k, v) :: ys, (k', z') :: fs, z, .cons ⟨h1, h2⟩ r, e => by
    have h1 : k = k' := h1
    subst h1
    rw [List.lookup_cons] at e ⊢
    cases hk : (f == k) with
    | true => rw [hk] at e; cases e; exact ⟨v, rfl, h2⟩
    | false => rw [hk] at e; exact kvd_get r e
section
variable {g : Ge} {F G H : Hp} {ι : Io} {μ : Mu} {σ : L2.St} {a C dd : Addr} {ys : List (Str × V)} {x : XD} {i : Nat}
theorem rd_HI {h : HI} {z : D} {P : VK} (hs : σ[i]? = some (some (.ref a))) (hd : H dd = some (.xd ys)) (kv : KVD g G ι ys x.fs) (e : h.val x = some z) (k : ∀ v, VD g G ι v z → P v H) : tHI a (.ref C) (some dd) C i h σ H P := by
  cases h with
  | fld f =>
    obtain ⟨v, h1, h2⟩ := kvd_get kv e
    exact ⟨.ref a, hs, rfl, rfl, dd, ys, v, rfl, hd, h1, k v h2⟩
  | con c =>
    cases e
    cases c with
    | none => exact k _ .non
    | some x => exact k _ (.str x)
theorem rd_HIs (hs : σ[i]? = some (some (.ref a))) (hd : H dd = some (.xd ys)) (kv : KVD g G ι ys x.fs) : ∀ {is : List HI} {zs : List D} {P : List V → Hp → Prop}, hvals x is = some zs → (∀ vs, VDs g G ι vs zs → P vs H) → tHIs a (.ref C) (some dd) C i is σ H P
  | [], zs, P, e, k => by cases e; exact k [] .nil
  | h :: is, zs, P, e, k => by
    obtain ⟨z, h1, h2⟩ := Option.bind_eq_some_iff.mp e
    obtain ⟨zs', h3, rfl⟩ := Option.map_eq_some_iff.mp h2
    exact rd_HI hs hd kv h1 fun v hv => rd_HIs hs hd kv h3 fun vs hvs => k _ (.cons hv hvs)
theorem hvals_len : ∀ {is : List HI} {zs : List D}, hvals x is = some zs → zs.length = is.length
  | [], zs, e => by cases e; rfl
  | h :: is, zs, e => by
    obtain ⟨z, h1, h2⟩ := Option.bind_eq_some_iff.mp e
    obtain ⟨zs', h3, rfl⟩ := Option.map_eq_some_iff.mp h2
    rw [List.length_cons, List.length_cons, hvals_len h3]
theorem rd_HX {h : HX} {z : D} {P : VK} (R : Rel g F G ι H μ) (hs : σ[i]? = some (some (.ref a))) (hd : H dd = some (.xd ys)) (kv : KVD g G ι ys x.fs) (hf : h.few) (e : h.val x = some z) (k : ∀ G' H' v, Ext G ι G' ι → Rel g F G' ι H' μ → VD g G' ι v z → P v H') : tHX a (.ref C) (some dd) C i h σ H P := by
  cases h with
  | one h => exact rd_HI hs hd kv e fun v hv => k _ _ v .refl R hv
  | tup is =>
    obtain ⟨zs, h1, rfl⟩ := Option.map_eq_some_iff.mp e
    refine rd_HIs hs hd kv h1 fun vs hvs => ⟨?_, fun p ob hp hob => ?_⟩
    · rw [hvs.length, hvals_len h1, sizeLine_eq]; have : is.length ≤ 100 := hf; omega
    · have hz : vs.length ≤ sizeLine := by
        rw [hvs.length, hvals_len h1, sizeLine_eq]; have : is.length ≤ 100 := hf; omega
      obtain ⟨R2, e2, v2⟩ := R.newTup hp hob hvs hz
      exact k _ _ _ e2 R2 v2
end
/-- except C as e: y = ..; tab: which classes it takes -/
structure ClD where
  tab : List (Str × Bool)
  slot : Nat
  tgt : Nat
  h : HX
def catchD (De : EndsD) : List ClD → XD → Rho → Mu → Prop
  | [], x, ρ, μ => De.ex x ρ μ
  | c :: r, x, ρ, μ => match c.tab.lookup x.cls with
    | some true => c.slot < ρ.length ∧ opQ (c.h.val x) fun d => De.nx (((ρ.set c.slot none).set c.tgt (some d)).set c.slot none) μ
    | some false => catchD De r x ρ μ
    | none => False
/-- what the head tells of a clause; cv its class -/
structure ClOk (K : PySem.W.Frag) (mg : Str → Option Value) (c : ClD) (cv : Addr) : Prop where
  few : c.h.few
  tab : ∀ n b, c.tab.lookup n = some b → ∀ C, mg n = some (.ref C) → PySem.W.exmOne K (.ref C) (.ref cv) = some b ∧ (b = true → GoodX K C c.h.flds)
/-- what the head tells of a clause of two classes -/
structure ClOk2 (K : PySem.W.Frag) (mg : Str → Option Value) (c : ClD) (cv1 cv2 : Addr) : Prop where
  few : c.h.few
  tab : ∀ n b, c.tab.lookup n = some b → ∀ C, mg n = some (.ref C) → PySem.W.exmAny K (.ref C) [.ref cv1, .ref cv2] = some b ∧ (b = true → GoodX K C c.h.flds)
def claOf (K : PySem.W.Frag) (p : ClD × List Addr) : Cla := (p.2.map .ref, p.1.slot, fun a cls d D σ H => ∃ C, cls = .ref C ∧ GoodX K C p.1.h.flds ∧ tAsg (tHX a cls d C p.1.slot p.1.h) (gName p.1.tgt) D σ H)
inductive HdsD (X : Cx) : List ExceptHandler → List (ClD × List Addr) → Prop
  | nil : HdsD X [] []
  | cons {x n y : Str} {e : Expr} {np p' p1 pos : Pos} {hds : List ExceptHandler} {l : List (ClD × List Addr)} {c : ClD} {cv : Addr} (hm : X.mg x = some (.ref cv)) (ok : ClOk X.K X.mg c cv) (he : EX X c.slot n e c.h) (r : HdsD X hds l) (hi : X.N[c.slot]? = some n := by rfl) (hln : X.env.kindOf n = some .local := by rfl) (hg : Gl X x := by rfl) (hdb : (x == ("__debug__" : Str)) = false := by decide)
      (ey : X.N[c.tgt]? = some y := by rfl) (ly : Loc X.env.scope y := by first | exact Or.inl rfl | exact Or.inr rfl) (hs : swapsWith e (some (.Name y p1)) pos.line X.env = pure false := by rfl) (fy : X.fn y = true ∨ X.env.scope.names.lookup y = some .local := by first | exact .inl rfl | exact .inr rfl) :
      HdsD X (.ExceptHandler (some (.Name x np)) (some n) [.Assign [.Name y p1] e pos] p' :: hds) ((c, [cv]) :: l)
  | cons2 {x z n y : Str} {e : Expr} {np nq tp p' p1 pos : Pos} {k : Nat} {hds : List ExceptHandler} {l : List (ClD × List Addr)} {c : ClD} {cv cv2 : Addr} (hm : X.mg x = some (.ref cv)) (hm2 : X.mg z = some (.ref cv2)) (ok : ClOk2 X.K X.mg c cv cv2) (he : EX X c.slot n e c.h) (r : HdsD X hds l) (hi : X.N[c.slot]? = some n := by rfl) (hln : X.env.kindOf n = some .local := by rfl) (hg : Gl X x := by rfl) (hg2 : Gl X z := by rfl) (hdb : (x == ("__debug__" : Str)) = false := by decide) (hdb2 : (z == ("__debug__" : Str)) = false := by decide)
      (ey : X.N[c.tgt]? = some y := by rfl) (ly : Loc X.env.scope y := by first | exact Or.inl rfl | exact Or.inr rfl) (hs : swapsWith e (some (.Name y p1)) pos.line X.env = pure false := by rfl) (fy : X.fn y = true ∨ X.env.scope.names.lookup y = some .local := by first | exact .inl rfl | exact .inr rfl) :
      HdsD X (.ExceptHandler (some (.Tuple [.Name x np, .Name z nq] k tp)) (some n) [.Assign [.Name y p1] e pos] p' :: hds) ((c, [cv, cv2]) :: l)
theorem HdsD.a {X : Cx} (hN : X.N.Nodup) {hds : List ExceptHandler} {l : List (ClD × List Addr)} (h : HdsD X hds l) : HdsA X hds (l.map (claOf X.K)) := by
  induction h with
  | nil => exact .nil
  | cons hm ok he r hi hln hg hdb ey ly hs fy ih =>
    refine .cons hi hln ⟨hg, hdb, .inl hm⟩ (fun a oe cls d pn hz hf => ?_) ih
    exact ⟨fun pins s σ H D I ⟨C, ec, gd, q⟩ => (pss_one (ps_set (X := X.suite a ((a, oe) :: pn)) hN ey ly (he.pe gd hz hf) hs fy)).run pins s σ H D I q⟩
  | cons2 hm hm2 ok he r hi hln hg hg2 hdb hdb2 ey ly hs fy ih =>
    refine .cons2 hi hln ⟨hg, hdb, .inl hm⟩ ⟨hg2, hdb2, .inl hm2⟩ (fun a oe cls d pn hz hf => ?_) ih
    exact ⟨fun pins s σ H D I ⟨C, ec, gd, q⟩ => (pss_one (ps_set (X := X.suite a ((a, oe) :: pn)) hN ey ly (he.pe gd hz hf) hs fy)).run pins s σ H D I q⟩
theorem RhoRel.hide {g : Ge} {G : Hp} {ι : Io} {σ : L2.St} {ρ : Rho} (r : RhoRel g G ι σ ρ) (i : Nat) (v : V) : RhoRel g G ι (σ.set i (some v)) (ρ.set i none) := by
  have r0 := r.unset i
  refine ⟨by rw [List.length_set, List.length_set]; exact r.len, fun j d e => ?_⟩
  obtain ⟨u, h1, h2⟩ := r0.at_ j d e
  by_cases hij : i = j
  · subst hij
    by_cases hl : i < σ.length
    · rw [List.getElem?_set_self hl] at h1; cases h1
    · rw [List.getElem?_eq_none (by rw [List.length_set]; omega)] at h1; cases h1
  · rw [List.getElem?_set_ne hij] at h1 ⊢
    exact ⟨u, h1, h2⟩
theorem catch_ok {X : Cx} {W : WX} {F G G' : Hp} {ι ι' : Io} {De : EndsD} {Dh : Ends} {hds : List ExceptHandler} {cl : List (ClD × List Addr)} {cls : Value} {dx : Option Addr} {x : XD} {σ' : L2.St} {H' : Hp} {ρ' : Rho} {μ' : Mu} (l : LiftEnds W (gx X) F G ι De Dh) (hh : HdsD X hds cl)
    (e : Ext G ι G' ι') (r' : RhoRel (gx X) G' ι' σ' ρ') (R' : Rel (gx X) F G' ι' H' μ') (X' : XRel (gx X) G' ι' H' cls dx x) (q : catchD De (cl.map (·.1)) x ρ' μ') : wCla X.K W Dh (cl.map (claOf X.K)) cls dx σ' H' := by
  induction hh with
  | nil => exact l.ex G' ι' σ' H' ρ' μ' cls dx x e r' R' X' q
  | @cons x' n y e' np p' p1 pos' hds' l' c cv hm ok he rr hi hln hg hdb ey ly hs fy ih =>
    obtain ⟨C, dd, ys, rfl, hmC, rfl, hdd, kv⟩ := id X'
    have q : (match c.tab.lookup x.cls with
      | some true => c.slot < ρ'.length ∧ opQ (c.h.val x) fun d => De.nx (((ρ'.set c.slot none).set c.tgt (some d)).set c.slot none) μ'
      | some false => catchD De (l'.map (·.1)) x ρ' μ'
      | none => False) := q
    cases ht : c.tab.lookup x.cls with
    | none => rw [ht] at q; exact q.elim
    | some bb =>
      rw [ht] at q
      obtain ⟨hx, hgood⟩ := ok.tab _ _ ht C hmC
      refine ⟨bb, exmAny_of hx, fun eb a na => ?_, fun eb => ?_⟩
      · subst eb
        obtain ⟨hl, q⟩ := q
        obtain ⟨z, ez, qz⟩ := opQ_get q
        refine ⟨C, rfl, hgood rfl, rd_HX R' (by rw [List.getElem?_set_self (by rw [r'.len]; exact hl)]) hdd kv ok.few ez fun G2 H2 v e2 R2 v2 => ?_⟩
        exact l.nx G2 ι' _ H2 _ μ' (e.trans e2) ((((r'.mono e2).hide c.slot (.ref a)).set v2 c.tgt).unset c.slot) R2 qz
      · subst eb
        exact ih q
  | @cons2 x' z' n y e' np nq tp p' p1 pos' k hds' l' c cv cv2 hm hm2 ok he rr hi hln hg hg2 hdb hdb2 ey ly hs fy ih =>
    obtain ⟨C, dd, ys, rfl, hmC, rfl, hdd, kv⟩ := id X'
    have q : (match c.tab.lookup x.cls with
      | some true => c.slot < ρ'.length ∧ opQ (c.h.val x) fun d => De.nx (((ρ'.set c.slot none).set c.tgt (some d)).set c.slot none) μ'
      | some false => catchD De (l'.map (·.1)) x ρ' μ'
      | none => False) := q
    cases ht : c.tab.lookup x.cls with
    | none => rw [ht] at q; exact q.elim
    | some bb =>
      rw [ht] at q
      obtain ⟨hx, hgood⟩ := ok.tab _ _ ht C hmC
      refine ⟨bb, hx, fun eb a na => ?_, fun eb => ?_⟩
      · subst eb
        obtain ⟨hl, q⟩ := q
        obtain ⟨z, ez, qz⟩ := opQ_get q
        refine ⟨C, rfl, hgood rfl, rd_HX R' (by rw [List.getElem?_set_self (by rw [r'.len]; exact hl)]) hdd kv ok.few ez fun G2 H2 v e2 R2 v2 => ?_⟩
        exact l.nx G2 ι' _ H2 _ μ' (e.trans e2) ((((r'.mono e2).hide c.slot (.ref a)).set v2 c.tgt).unset c.slot) R2 qz
      · subst eb
        exact ih q
end Y
namespace Y
open PySem PySem.Spec PyProof.Rows L2 LamX
section
variable {X : Cx} {pins : List (Addr × Obj)} {σ : L2.St} {H : Hp} {s : Shared}
/-- the context of the def that got the lambda, entered at s -/
abbrev cxG (X : Cx) (Ng : List Str) (q : Str) (sg : Scope) (g : Addr) (cdg : Value) (s : Shared) (H : Hp) : Cx := cxOf C8.CX0 X.prog X.w X.K X.mg X.base Ng q sg g cdg X.A X.stack s H C8.E0
theorem act_at {Ng : List Str} {qg a : Str} {sg scope : Scope} {g f c' : Addr} {cdg pm ctv : Value} {params : Arguments} {body : Expr} {k i : Nat} {pn : List (Addr × Obj)} {xe : Value → Shared → Prop} {W : WX} {t : XK → TE} {p1 p2 : Pos}
    (I : Inv X pins σ H s) (L : LamS X.env.scope scope) (hf : s.heap.get? f = some (PySem.W.kla_obj "<lambda>" (X.env.qual ++ "<lambda>") params body scope (cloFrom X.env.cells scope.names []) pm c' ctv)) (hfn : H f = none) (hfr : f ∉ frs X.stack)
    (hbind : bindArgs (PySem.W.kla_fn "<lambda>" (X.env.qual ++ "<lambda>") params body scope (cloFrom X.env.cells scope.names []) pm (.ref c') ctv) ⟨[], []⟩ = pure []) (tk : L2.Takes ((cxG X Ng qg sg g cdg s H).tr pn xe) W) (hr : Room (k + 1) (X.A.deeper (envOfC qg sg s.heap.objs.size g cdg)))
    (hbody : ∀ (A : Around) (outer : List Env) (s : Shared) (H : Hp) (E : XK), Room k (A.deeper (lamEnv X scope s.heap.objs.size f c')) → PE (lamCx X A outer s H E scope f c') body (t E)) (hN : Ng[i]? = some a) (hv : Vis sg a) (hd : (a == ("__debug__" : Str)) = false) (hcd : (a == ("__classdict__" : Str)) = false) :
    PE ((cxG X Ng qg sg g cdg s H).tr pn xe) (.Call (.Name a p1) [] [] p2) (fun σZ HZ Q => σZ[i]? = some (some (.ref f)) ∧ HZ c' = some (CodeO c' (X.env.qual ++ "<lambda>")) ∧ t (fun cls d H' => W cls d σZ H') σ HZ Q) := by
  refine ⟨fun pZ sZ σZ HZ Q IZ ⟨hs, hc, ht⟩ => ?_⟩
  refine wpAny_Call_Name_kw (thn ((pe_var (pos := p1) (i := i) hN hv hd hcd).run pZ sZ σZ HZ (fun v H1 => v = .ref f ∧ H1 = HZ) IZ ⟨.ref f, hs, rfl, rfl⟩) fun u s1 ⟨v, H1, I1, r1, ev, eH⟩ => ?_)
  subst ev
  subst eH
  obtain rfl : u = Value.ref f := r1
  have fo := I1.base.keep f _ hf hfn hfr (fun z => nomatch (show f ∈ ([] : List Addr) from z))
  obtain ⟨⟨oc, vs, tq, hoc, hdc, hvc⟩, _, _⟩ := I1.hok c' _ hc
  have run : codeAny (model X.prog X.w) (X.A.deeper (envOfC qg sg s.heap.objs.size g cdg)) (.call (.ref f) ⟨[], []⟩) (CR (L2.CX X.prog X.w) (envOfC qg sg s.heap.objs.size g cdg :: X.stack) X.prog X.w H1 s1 Q fun cls d H' => W cls d σZ H') s1 := by
    refine PySem.W.kla_callFunE hr.depth fo rfl L.co L.gen rfl ⟨c', oc, vs, tq, rfl, hoc, hdc, hvc⟩ ?_
    rw [hbind]
    refine wpAny_pure (wpAny_newFunctionEnv (fun y hy => (L.own y hy).2) (fun y hy => absurd hy (by simp)) (fun h1 hns hsb => ⟨I1.nolimit.fresh _ hsb, ?_⟩) L.kind)
    show codeAny _ _ (.expr body (lamEnv X scope s1.heap.objs.size f c')) _ _
    have J : Inv (lamCx X (X.A.deeper (envOfC qg sg s.heap.objs.size g cdg)) (envOfC qg sg s.heap.objs.size g cdg :: X.stack) s1 H1 (fun cls d H' => W cls d σZ H') scope f c') [] σ H1 { s1 with heap := h1, toks := s1.toks + ([] : List (Str × Value)).length } :=
      lam_start2 I L I1.env0 hr.hd I1.base hns (fun b o e => hsb.extBut b o (Nat.ne_of_lt (Heap.lt_size e)) (Heap.get?_push_of_some _ e))
    exact PySem.W.kla_codeExpr (wpAny_mono ((hbody _ _ s1 H1 _ (hr.deeper _)).run [] _ _ H1 Q J ht) (fun v s' ⟨w', H', J', rv, q⟩ => ⟨w', H', J'.os, J'.bare, J'.base, J'.hok, rv, q⟩) fun e s' hq => hq)
  refine PySem.W.callWith_F0 ⟨_, _, _, _, fo⟩ (wpAny_call (codeAny_mono run fun r s2 hq => ?_))
  rcases r with e | fl
  · exact L2.passAt tk σZ pZ H1 s1 e s2 I1 hq
  · cases fl with
    | ret u => exact I1.after hq
    | _ => exact False.elim hq
/-- the def that calls what it got: what it makes of the lambda's reading -/
def GivesS (X : Cx) (Ng : List Str) (x : Str) (sg : Scope) (g : Addr) (cdg : Value) (bg : List Stmt) (a q : Str) (TT : (XK → Hp → VK → Prop) → Hp → VK → Prop) : Prop :=
  ∀ (f c' : Addr) (s : Shared) (H : Hp) (Q : VK) (tl : XK → Hp → VK → Prop),
    (∀ (W : WX) (pn : List (Addr × Obj)) (xe : Value → Shared → Prop) (p1 p2 : Pos), L2.Takes ((cxG X Ng x sg g cdg s H).tr pn xe) W →
      PE ((cxG X Ng x sg g cdg s H).tr pn xe) (.Call (.Name a p1) [] [] p2) (fun σZ HZ Q' => σZ[0]? = some (some (.ref f)) ∧ HZ c' = some (CodeO c' q) ∧ tl (fun cls d H' => W cls d σZ H') HZ Q')) →
    H c' = some (CodeO c' q) → TT tl H Q → ∃ t, PSs (cxG X Ng x sg g cdg s H).nox bg t ∧ t { nx := fun _ H' => Q .non H', rt := Q } (L2.start Ng [.ref f]) H
theorem pe_lamS {T : List (Addr × Str)} {TT : (XK → Hp → VK → Prop) → Hp → VK → Prop} {x a : Str} {g c P : Addr} {k : Nat} {pg params : Arguments} {bg : List Stmt} {sg scope : Scope} {dV kV doc pm cdv ct oc : Value} {an od : Option Addr} {osl : Array (Option Value)} {Ng : List Str} {body : Expr} {t : XK → TE} {p lpos pos : Pos}
    (hg : Gl X x) (hm : X.mg x = some (.ref g)) (hk : PySem.W.keepIn X.K (.ref g) = true) (lk : X.K.lookup g = some ⟨oc, od, .func (PySem.W.fnOf x x pg bg sg dV kV doc pm an cdv ct), osl⟩) (hcg : PySem.W.codeIn X.K cdv x = true) (hb : L2.Binds X.K (PySem.W.fnOf x x pg bg sg dV kV doc pm an cdv ct) [a] [])
    (Sg : FnScope Ng [a] sg) (hNg : Ng[0]? = some a) (hva : Vis sg a) (hG : GivesS X Ng x sg g cdv bg a (X.env.qual ++ "<lambda>") TT) (TB : TabB X.base X.mg c P) (hcode : X.env.code = .ref c) (hmT : (P, X.env.qual ++ "<lambda>") ∈ T) (hu : ∀ p ∈ T, p.1 = P → p.2 = X.env.qual ++ "<lambda>")
    (hr : Room (k + 2) X.A) (L : LamS X.env.scope scope) (hdef : defaultsOf params X.env = ([], [])) (hbind : ∀ (q : Str) (cl : List (Str × Addr)) (pm cv ctv : Value), bindArgs (PySem.W.kla_fn "<lambda>" q params body scope cl pm cv ctv) ⟨[], []⟩ = pure [])
    (hbody : ∀ (A : Around) (outer : List Env) (s : Shared) (H : Hp) (E : XK) (f c' : Addr), Room k (A.deeper (lamEnv X scope s.heap.objs.size f c')) → PE (lamCx X A outer s H E scope f c') body (t E))
    (hdb : (x == ("__debug__" : Str)) = false) (hd : (a == ("__debug__" : Str)) = false) (hcd : (a == ("__classdict__" : Str)) = false) : PE X (.Call (.Name x p) [.Lambda params body scope lpos] [] pos) (tLam T TT t) := by
  refine ⟨fun pins s σ H Q I ⟨hT, h⟩ => wpAny_Call_Name_kw (ld_glob I hg hm (PySem.W.callWith_K (h₀ := X.base) I.ok.mod.kin hk ?_ (by rfl) (by rfl)) hdb)⟩
  show wpAny _ _ (spliced ((false, eval (.Lambda params body scope lpos) X.env) :: backTo pos (starEach [] X.env))) _ _ s
  refine Calls.spliced_cons (lam_make2 I TB hcode hmT hu hT hdef (L.has I.ok) fun f c' pm' ctv H1 s' I1 eN T1 hf hfn hfr hco => Calls.spliced_nil ⟨I1.kIn, ?_⟩)
  have done : codeAny (model X.prog X.w) X.A (.call (.ref g) ⟨[.ref f], []⟩) (CR C8.CX0 X.stack X.prog X.w H1 s' Q C8.E0) s' :=
    run_ofS (N := Ng) (ps := [a]) (us := [.ref f]) (vs := [.ref f]) lk hcg Sg hr I1.env0 (hb s' [.ref f] I1.kIn rfl) (.cons rfl .nil) rfl fun hr' => by
      obtain ⟨t', h1, h2⟩ := hG f c' s' H1 Q (fun E H' Q' => t E σ H' Q') (fun W pn xe p1 p2 tk => act_at (i := 0) I1 L hf hfn hfr (hbind _ _ _ _ _) tk hr' (fun A outer s H E hr2 => hbody A outer s H E f c' hr2) hNg hva hd hcd) hco (h H1 eN T1)
      exact ⟨t', h1.nox, h2⟩
  refine wpAny_call (codeAny_mono done fun r s2 hq => ?_)
  rcases r with e | fl
  · exact (show False from hq).elim
  · cases fl with
    | ret u => exact I1.after hq
    | _ => exact False.elim hq
end
end Y
namespace Y
open PySem PySem.Spec PyProof.Rows L2 LamX
/-- an action; what a def makes of one -/
abbrev LA := Mu → QD → XQ → Prop
abbrev LSp := LA → Mu → QD → Prop
def ActOk (g : Ge) (F G0 : Hp) (ι0 : Io) (tl : XK → Hp → VK → Prop) (A : LA) : Prop := ∀ G ι H μ Q (Ed : XQ) (P : VK) (Ex : XK), Ext G0 ι0 G ι → Rel g F G ι H μ → A μ Q Ed →
  (∀ G' ι' H' μ' v d, Ext G ι G' ι' → Rel g F G' ι' H' μ' → VD g G' ι' v d → Q d μ' → P v H') →
  (∀ G' ι' H' μ' cls dx x, Ext G ι G' ι' → Rel g F G' ι' H' μ' → XRel g G' ι' H' cls dx x → Ed x μ' → Ex cls dx H') → tl Ex H P
def liftL (g : Ge) (sp : LSp) : (XK → Hp → VK → Prop) → Hp → VK → Prop := fun tl H Q => ∃ F G ι μ A Qd, Rel g F G ι H μ ∧ ActOk g F G ι tl A ∧ sp A μ Qd ∧ ∀ G' ι' H' μ' v d, Ext G ι G' ι' → Rel g F G' ι' H' μ' → VD g G' ι' v d → Qd d μ' → Q v H'
theorem Rel.extN {g : Ge} {F G H H1 : Hp} {ι : Io} {μ : Mu} (R : Rel g F G ι H μ) (eN : ExtN H H1) (T1 : Tabs (lamT g.K) H1) : Rel g F G ι H1 μ := by
  refine ⟨fun a o e => eN a o (R.fr a o e) fun ps z => R.tb.f a ps (by rw [e, z]), R.fg, fun a o e => eN a o (R.same a o e) fun ps z => R.tb.g a ps (by rw [e, z]), fun n o e => ?_, R.inj, R.fin, ⟨T1, R.tb.f, R.tb.g, R.tb.n⟩⟩
  obtain ⟨a, h1, h2, h3⟩ := R.cell n o e
  refine ⟨a, h1, h2, ?_⟩
  cases o with
  | lst ds => obtain ⟨xs, q, r, z⟩ := h3; exact ⟨xs, eN _ _ q (fun ps h => by cases h), r, z⟩
  | dk kvs => obtain ⟨xs, q, r⟩ := h3; exact ⟨xs, eN _ _ q (fun ps h => by cases h), r⟩
  | nk kvs => obtain ⟨xs, q, r⟩ := h3; exact ⟨xs, eN _ _ q (fun ps h => by cases h), r⟩
  | lk od ys kvs => exact ⟨eN _ _ h3.1 (fun ps h => by cases h), h3.2⟩
  | ins c fs => obtain ⟨C, dx, ys, m, q, w, r⟩ := h3; exact ⟨C, dx, ys, m, eN _ _ q (fun ps h => by cases h), eN _ _ w (fun ps h => by cases h), r⟩
def dLam (sp : LSp) (TB : TD) : TD := fun ρ μ Q _ => sp (fun μ' Q' E' => TB ρ μ' Q' E') μ Q
theorem rd_lam {W : WX} {g : Ge} {sp : LSp} {TB : TD} : RdE W g (tLam (lamT g.K) (liftL g sp) fun E => cE (wE E) g TB) (dLam sp TB) := fun F G ι σ H ρ μ Q E P r R L q k => by
  refine ⟨R.tb.t, fun H1 eN T1 => ⟨F, G, ι, μ, fun μ' Q' E' => TB ρ μ' Q' E', Q, R.extN eN T1, ?_, q, fun G' ι' H' μ' v d e R' v' qd => k G' ι' μ' H' v d e R' v' qd⟩⟩
  intro G2 ι2 H2 μ2 Q2 Ed P2 Ex e2 R2 hA kv kx
  exact ⟨F, G2, ι2, ρ, μ2, Q2, Ed, r.mono e2, R2, fun G' ι' H' μ' cls dx x e R' X' q => kx G' ι' H' μ' cls dx x e R' X' q, hA, fun G' ι' μ' H' v d e R' v' q => kv G' ι' H' μ' v d e R' v' q⟩
def preD (cs : List (Nat × Option Str)) (ρ : Rho) : Rho := cs.foldl (fun ρ p => ρ.set p.1 (some (conD p.2))) ρ
def preV (cs : List (Nat × Option Str)) (σ : L2.St) : L2.St := cs.foldl (fun σ p => σ.set p.1 (some (conV p.2))) σ
theorem con_vd {g : Ge} {G : Hp} {ι : Io} (c : Option Str) : VD g G ι (conV c) (conD c) := by
  cases c with
  | none => exact .non
  | some x => exact .str x
theorem pre_rel {g : Ge} {G : Hp} {ι : Io} : ∀ (cs : List (Nat × Option Str)) {σ : L2.St} {ρ : Rho}, RhoRel g G ι σ ρ → RhoRel g G ι (preV cs σ) (preD cs ρ)
  | [], _, _, r => r
  | (i, c) :: cs, _, _, r => pre_rel cs (r.set (con_vd c) i)
theorem pre_zero : ∀ (cs : List (Nat × Option Str)) {σ : L2.St} {v : V}, (∀ p ∈ cs, p.1 ≠ 0) → σ[0]? = some (some v) → (preV cs σ)[0]? = some (some v)
  | [], _, _, _, h => h
  | (i, c) :: cs, σ, v, hn, h => pre_zero cs (fun p hp => hn p (List.mem_cons_of_mem _ hp)) (by rw [List.getElem?_set_ne (hn (i, c) List.mem_cons_self)]; exact h)
inductive PreS (X : Cx) : List Stmt → List (Nat × Option Str) → Prop
  | nil : PreS X [] []
  | cons {y : Str} {e : Expr} {p1 pos : Pos} {sts : List Stmt} {cs : List (Nat × Option Str)} {i : Nat} {c : Option Str} (he : PE X e (tC (conV c))) (r : PreS X sts cs) (ey : X.N[i]? = some y) (ly : Loc X.env.scope y) (hs : swapsWith e (some (.Name y p1)) pos.line X.env = pure false) (fy : X.fn y = true ∨ X.env.scope.names.lookup y = some .local) :
      PreS X (.Assign [.Name y p1] e pos :: sts) ((i, c) :: cs)
theorem PreS.pss {X : Cx} (hN : X.N.Nodup) {sts rest : List Stmt} {cs : List (Nat × Option Str)} {t : TS} (h : PreS X sts cs) (hr : PSs X rest t) : PSs X (sts ++ rest) (fun D σ H => t D (preV cs σ) H) := by
  induction h with
  | nil => exact hr
  | cons he r ey ly hs fy ih => exact ⟨fun pins s σ H D I h => (pss_cons (ps_set hN ey ly he hs fy) ih).run pins s σ H D I h⟩
def putV : Option Nat → V → L2.St → L2.St
  | none, _, σ => σ
  | some i, v, σ => σ.set i (some v)
def putD : Option Nat → D → Rho → Rho
  | none, _, ρ => ρ
  | some i, d, ρ => ρ.set i (some d)
theorem put_rel {g : Ge} {G : Hp} {ι : Io} {σ : L2.St} {ρ : Rho} {v : V} {d : D} (o : Option Nat) (r : RhoRel g G ι σ ρ) (h : VD g G ι v d) : RhoRel g G ι (putV o v σ) (putD o d ρ) := by
  cases o with
  | none => exact r
  | some i => exact r.set h i
/-- the call's own row -/
def CallRow (X : Cx) (call : Expr) (st : Stmt) (o : Option Nat) : Prop := ∀ t, PE X call t → PSs X [st] (fun D σ H => t σ H fun v H' => D.nx (putV o v σ) H')
abbrev noX : XQ := fun _ _ => False
def spCatch (n : Nat) (cs : List (Nat × Option Str)) (o : Option Nat) (cl : List ClD) (U : SD) : LSp := fun A μ Q =>
  A μ (fun d μ1 => U (bodyEnds Q noX) (putD o d (preD cs (List.replicate n none))) μ1) (fun x μ1 => catchD { bodyEnds Q noX with nx := fun ρ' μ' => U (bodyEnds Q noX) ρ' μ' } cl x (preD cs (List.replicate n none)) μ1)
theorem row_expr {X : Cx} {call : Expr} {pos : Pos} (hs : swapsWith call none pos.line X.env = pure false) : CallRow X call (.Expr call pos) none := fun t h => pss_one (ps_expr h hs)
section
variable {X : Cx} {Ng : List Str} {x a q : Str} {sg : Scope} {g : Addr} {cdg : Value} {pre rest : List Stmt} {st : Stmt} {h0 : ExceptHandler} {hds : List ExceptHandler} {cs : List (Nat × Option Str)} {o : Option Nat} {cl : List (ClD × List Addr)} {U : SD} {p1 p2 pos : Pos}
set_option maxHeartbeats 1000000 in
theorem gives_catch (hN : Ng.Nodup) (hne : Ng ≠ []) (hp0 : ∀ p ∈ cs, p.1 ≠ 0) (hpre : ∀ s H, PreS (cxG X Ng x sg g cdg s H).nox pre cs) (hrow : ∀ s H pn xe, CallRow ((cxG X Ng x sg g cdg s H).tr pn xe) (.Call (.Name a p1) [] [] p2) st o)
    (hh : ∀ s H, HdsD (cxG X Ng x sg g cdg s H).nox (h0 :: hds) cl) (hrest : ∀ s H, DSs (cxG X Ng x sg g cdg s H).nox (fun _ _ _ _ => False) (gx X) rest U) :
    GivesS X Ng x sg g cdg (pre ++ (.Try [st] (h0 :: hds) [] [] pos :: rest)) a q (liftL (gx X) (spCatch Ng.length cs o (cl.map (·.1)) U)) := by
  intro f c' s H Q tl act hc ⟨F, G, ι, μ, A, Qd, R, ao, hsp, k⟩
  obtain ⟨tU, u1, u2⟩ := hrest s H
  have pt := ps_tryA (X := (cxG X Ng x sg g cdg s H).nox) (pos := pos) (body := [st]) (h0 := h0) (hds := hds) (Wo := fun _ _ _ _ => False) rfl rfl hN takes0
    (tb := fun W D σ H => σ[0]? = some (some (.ref f)) ∧ H c' = some (CodeO c' q) ∧ tl (fun cls d H' => W cls d σ H') H fun v H' => D.nx (putV o v σ) H') (fun W pn xe tk _ => ?_) ((hh s H).a hN)
  · refine ⟨_, (hpre s H).pss hN (pss_cons pt u1), ?_⟩
    have r0 : RhoRel (gx X) G ι (L2.start Ng [.ref f]) (List.replicate Ng.length none) := by
      refine ⟨?_, fun i d e => ?_⟩
      · have : 0 < Ng.length := List.length_pos_iff.mpr hne
        simp [L2.start]; omega
      · rw [slot_get] at e
        simp [List.getElem?_replicate] at e
        split at e <;> cases e
    have r1 := pre_rel cs r0
    have ends : LiftEnds (fun _ _ _ _ => False) (gx X) F G ι (bodyEnds Qd noX) { nx := fun _ H' => Q .non H', rt := Q } := by
      refine ⟨?_, ?_, fun _ _ _ _ _ _ _ _ _ z => z.elim, fun _ _ _ _ _ _ _ _ _ z => z.elim, fun _ _ _ _ _ _ _ _ _ _ _ _ _ ⟨_, _, z⟩ => z⟩
      · rintro G' ι' σ' H' ρ' μ' e r' R' ⟨μ2, s2, q⟩
        exact k G' ι' H' μ2 .non .non e (R'.forget s2) .non q
      · rintro G' ι' H' μ' v d e R' v' ⟨μ2, s2, q⟩
        exact k G' ι' H' μ2 v d e (R'.forget s2) v' q
    refine ⟨pre_zero cs hp0 (by simp [L2.start]), hc, ?_⟩
    refine ao G ι H μ _ _ _ _ .refl R hsp (fun G' ι' H' μ' v d e R' v' q => ?_) (fun G' ι' H' μ' cls dx xd e R' X' q => ?_)
    · exact u2 F G' ι' _ H' _ μ' (bodyEnds Qd noX) _ (put_rel o (r1.mono e) v') R' (ends.mono e) q
    · refine catch_ok (X := (cxG X Ng x sg g cdg s H).nox) (W := fun _ _ _ _ => False) (De := { bodyEnds Qd noX with nx := fun ρ' μ' => U (bodyEnds Qd noX) ρ' μ' }) ⟨fun G2 ι2 σ2 H2 ρ2 μ2 e2 r2 R2 q2 => ?_, ends.rt, ends.bk, ends.ct, ends.ex⟩ (hh s H) e (r1.mono e) R' X' q
      exact u2 F G2 ι2 σ2 H2 ρ2 μ2 (bodyEnds Qd noX) _ r2 R2 (ends.mono e2) q2
  · exact ⟨fun pins s' σ H' D I h' => (hrow s H pn xe _ (act W pn xe p1 p2 tk)).run pins s' σ H' D I h'⟩
end
end Y
namespace Y
open PySem PySem.Spec PyProof.Rows L2 LamX
/-- the module's name x is a def of one parameter; sp: what it makes of a lambda -/
structure LamD (P : Program) (w : World) (K : PySem.W.Frag) (mg : Str → Option Value) (base : Heap) (x : Str) (sp : LSp) : Prop where
  ex : ∃ (g : Addr) (oc : Value) (od : Option Addr) (pg : Arguments) (bg : List Stmt) (sg : Scope) (dV kV doc pm cdv ct : Value) (an : Option Addr) (osl : Array (Option Value)) (Ng : List Str) (a : Str), mg x = some (.ref g) ∧ PySem.W.keepIn K (.ref g) = true ∧
    K.lookup g = some ⟨oc, od, .func (PySem.W.fnOf x x pg bg sg dV kV doc pm an cdv ct), osl⟩ ∧ PySem.W.codeIn K cdv x = true ∧ L2.Binds K (PySem.W.fnOf x x pg bg sg dV kV doc pm an cdv ct) [a] [] ∧ FnScope Ng [a] sg ∧ Ng[0]? = some a ∧ Vis sg a ∧ (a == ("__debug__" : Str)) = false ∧ (a == ("__classdict__" : Str)) = false ∧
    ∀ (X : Cx) (q : Str), X.prog = P → X.w = w → X.K = K → X.mg = mg → X.base = base → GivesS X Ng x sg g cdv bg a q (liftL ⟨K, mg, w⟩ sp)
theorem lamD_of {P : Program} {w : World} {K : PySem.W.Frag} {mg : Str → Option Value} {base : Heap} {x a : Str} {params : Arguments} {body : List Stmt} {scope : Scope} {fd : FuncData} {N : List Str} {sp : LSp} (F : FunD K x x params body scope [] [] (He.fAd K (x, none)) fd) (hm : mg x = some (.ref (He.fAd K (x, none))))
    (S : FnScope N [a] scope) (hb : L2.Binds K fd [a] []) (h0 : N[0]? = some a) (hv : Vis scope a) (hd : (a == ("__debug__" : Str)) = false) (hcd : (a == ("__classdict__" : Str)) = false)
    (hG : ∀ (X : Cx) (q : Str) (cdv : Value), X.prog = P → X.w = w → X.K = K → X.mg = mg → X.base = base → GivesS X N x scope (He.fAd K (x, none)) cdv body a q (liftL ⟨K, mg, w⟩ sp)) : LamD P w K mg base x sp := by
  obtain ⟨oc, od, dV, kV, doc, pm, an, cdv, ct, osl, rfl, lk, hcd2, _, _⟩ := F.ex
  exact ⟨_, oc, od, params, body, scope, dV, kV, doc, pm, cdv, ct, an, osl, N, a, hm, F.kp, lk, hcd2, hb, S, h0, hv, hd, hcd, fun X q h1 h2 h3 h4 h5 => hG X q cdv h1 h2 h3 h4 h5⟩
theorem de_lam {X : Cx} {W : WX} {x : Str} {sp : LSp} {c P : Addr} {k : Nat} {params : Arguments} {body : Expr} {scope : Scope} {TB : TD} {p lpos pos : Pos} (l : LamD X.prog X.w X.K X.mg X.base x sp) (tb : TabB X.base X.mg c P) (hcode : X.env.code = .ref c) (hmT : (P, X.env.qual ++ "<lambda>") ∈ lamT X.K)
    (hu : ∀ p ∈ lamT X.K, p.1 = P → p.2 = X.env.qual ++ "<lambda>") (hr : Room (k + 2) X.A) (L : LamS X.env.scope scope) (hbody : ∀ (A : Around) (outer : List Env) (s : Shared) (H : Hp) (E : XK) (f c' : Addr), Room k (A.deeper (lamEnv X scope s.heap.objs.size f c')) → DE (lamCx X A outer s H E scope f c') (wE E) (gx X) body TB)
    (hg : Gl X x := by rfl) (hdb : (x == ("__debug__" : Str)) = false := by decide) (hdef : defaultsOf params X.env = ([], []) := by rfl) (hbind : ∀ (q : Str) (cl : List (Str × Addr)) (pm cv ctv : Value), bindArgs (PySem.W.kla_fn "<lambda>" q params body scope cl pm cv ctv) ⟨[], []⟩ = pure [] := by intros; rfl) :
    DE X W (gx X) (.Call (.Name x p) [.Lambda params body scope lpos] [] pos) (dLam sp TB) := by
  obtain ⟨g, oc, od, pg, bg, sg, dV, kV, doc, pm, cdv, ct, an, osl, Ng, a, h1, h2, h3, h4, h5, h6, h7, h8, h9, h10, h11⟩ := l.ex
  exact ⟨_, pe_lamS (t := fun E => cE (wE E) (gx X) TB) hg h1 h2 h3 h4 h5 h6 h7 h8 (h11 X _ rfl rfl rfl rfl rfl) tb hcode hmT hu hr L hdef hbind (fun A outer s H E f c' hr2 => (hbody A outer s H E f c' hr2).can) hdb h9 h10, rd_lam⟩
end Y
namespace Y
open PySem PySem.Spec PyProof.Rows L2
section
variable {P : Program} {w : World} {K : PySem.W.Frag} {mg : Str → Option Value} {base : Heap}
theorem fn_exc {f C : Addr} {name qual : Str} {params : Arguments} {body : List Stmt} {scope : Scope} {dV kV doc pm cdv ct oc : Value} {an od : Option Addr} {osl : Array (Option Value)} {N ps : List Str} {k n : Nat} {f0 c0 : Str} {fl : Fl}
    (lk : K.lookup f = some ⟨oc, od, .func (PySem.W.fnOf name qual params body scope dV kV doc pm an cdv ct), osl⟩) (hcd : PySem.W.codeIn K cdv qual = true) (S : FnScope N ps scope) (hp : ps.length = n + 1) (T : OexT K C) (hno : ∀ p ∈ ((f0, .inl c0) :: fl : Fl), PySem.W.findIn K (.ref C) p.1 = some none)
    (hfl : ∀ p ∈ fl, ∀ i, p.2 = .inr i → i < n) (hl : fl.length ≤ 800) (hb : ∀ (A : Around) (outer : List Env) (s : Shared) (H : Hp) (E : XK), InitB (cxOf (CX K P w) P w K mg base N qual scope f cdv A outer s H E) body ((f0, .inl c0) :: fl)) :
    FnOk P w K mg base (CX K P w) (k + 1) f (PySem.W.fnOf name qual params body scope dV kV doc pm an cdv ct) ps (spInit C n ((f0, .inl c0) :: fl)) := by
  refine fn_of lk hcd S (fun vs H Q E ⟨a, ws, e1, e2, _⟩ => by rw [e1, List.length_cons, e2, hp]) fun A outer s H vs Q E hr hsp => ?_
  obtain ⟨a, ws, rfl, hw, ha, q⟩ := hsp
  have h0 : (L2.start N (.ref a :: ws))[0]? = some (some (.ref a)) := by simp [L2.start]
  have hv : ∀ p ∈ fl, ∀ i, p.2 = .inr i → (L2.start N (.ref a :: ws))[i + 1]? = some (some (ws.getD i .non)) := fun p hp' i e => by
    have hi := hfl p hp' i e
    have hlt : i < ws.length := by omega
    simp [L2.start, hlt]
    rw [List.getElem?_append_left (by simpa using hlt)]
    simp [hlt]
  obtain ⟨t, h1, h2⟩ := init_all (X := cxOf (CX K P w) P w K mg base N qual scope f cdv A outer s H E) (vs := ws) T h0 (hb A outer s H E) hno hv hl
  exact ⟨t, h1, h2 _ H ha fun d hd hda => q d hd hda⟩
structure ExcF (K : PySem.W.Frag) (x : Str) (fs : List Str) : Prop where
  o : OexT K (He.ga K x)
  xf : XfC K (He.ga K x)
  no : ∀ f ∈ fs, PySem.W.findIn K (.ref (He.ga K x)) f = some none
  ini : PySem.W.findIn K (.ref (He.ga K x)) "__init__" = some (some (.ref (He.fAd K (x, some "__init__"))))
  fn : PySem.W.typeIn K (.ref (He.fAd K (x, some "__init__"))) = some (.type "function")
theorem excB_ok {x : Str} {fs : List Str} (h : excB K x fs = true) : ExcF K x fs := by
  obtain ⟨h1, h⟩ := He.ba h
  obtain ⟨h2, h⟩ := He.ba h
  obtain ⟨h3, h⟩ := He.ba h
  obtain ⟨h4, h5⟩ := He.ba h
  exact ⟨oexB_ok h1, xfB_ok h2, fun f hf => of_decide_eq_true (List.all_eq_true.mp h3 f hf), of_decide_eq_true h4, of_decide_eq_true h5⟩
theorem excD_of {x name qual : Str} {params : Arguments} {body : List Stmt} {scope : Scope} {fd : FuncData} {N ps : List Str} {n : Nat} {f0 c0 : Str} {fl : Fl} (F : FunD K name qual params body scope [] [] (He.fAd K (x, some "__init__")) fd) (hm : mg x = some (.ref (He.ga K x))) (e : ExcF K x (((f0, .inl c0) :: fl : Fl).map (·.1)))
    (S : FnScope N ps scope) (hp : ps.length = n + 1) (hfl : ∀ p ∈ fl, ∀ i, p.2 = .inr i → i < n) (hl : fl.length ≤ 800) (hbd : Binds K fd ps [])
    (hb : ∀ (cdv : Value) (A : Around) (outer : List Env) (s : Shared) (H : Hp) (E : XK), InitB (cxOf (CX K P w) P w K mg base N qual scope (He.fAd K (x, some "__init__")) cdv A outer s H E) body ((f0, .inl c0) :: fl)) (k : Nat) : ExcD P w K mg base (k + 1) x n ((f0, .inl c0) :: fl) := by
  obtain ⟨oc, od, dV, kV, doc, pm, an, cdv, ct, osl, rfl, lk, hcd, _, _⟩ := F.ex
  exact ⟨_, _, _, ps, hm, e.o, e.ini, e.fn, fn_exc lk hcd S hp e.o (fun p hp' => e.no _ (List.mem_map.mpr ⟨p, hp', rfl⟩)) hfl hl (hb cdv), hbd⟩
end
end Y
namespace Y
open PySem PySem.Spec PyProof.Rows L2 LamX
section
variable {X : Cx} {A : Around} {outer : List Env} {s : Shared} {H : Hp} {E : XK} {scope : Scope} {f c' : Addr}
theorem tk_lam : Takes (lamCx X A outer s H E scope f c') (wE E) := Takes.all (L2.takes_of rfl rfl rfl rfl)
end
theorem lamUB_ok {K : PySem.W.Frag} {x : Str} (h : lamUB K x = true) : ((He.cT K (x, none)).2, x ++ ".<locals>." ++ "<lambda>") ∈ lamT K ∧ ∀ p ∈ lamT K, p.1 = (He.cT K (x, none)).2 → p.2 = x ++ ".<locals>." ++ "<lambda>" := by
  obtain ⟨h1, h2⟩ := He.ba h
  refine ⟨?_, fun p hp e => ?_⟩
  · obtain ⟨p, hp, e⟩ := List.any_eq_true.mp h1
    rw [← of_decide_eq_true e]; exact hp
  · have q := List.all_eq_true.mp h2 p hp
    rw [decide_eq_true e] at q
    exact of_decide_eq_true q
theorem de_lamQ {X : Cx} {W : WX} {x q : Str} {sp : LSp} {K : PySem.W.Frag} {c P : Addr} {k : Nat} {params : Arguments} {body : Expr} {scope : Scope} {TB : TD} {p lpos pos : Pos} (l : LamD X.prog X.w X.K X.mg X.base x sp) (tb : TabB X.base X.mg c P) (lu : (P, q ++ "<lambda>") ∈ lamT K ∧ ∀ p ∈ lamT K, p.1 = P → p.2 = q ++ "<lambda>")
    (hr : Room (k + 2) X.A) (L : LamS X.env.scope scope) (hbody : ∀ (A : Around) (outer : List Env) (s : Shared) (H : Hp) (E : XK) (f c' : Addr), Room k (A.deeper (lamEnv X scope s.heap.objs.size f c')) → DE (lamCx X A outer s H E scope f c') (wE E) (gx X) body TB)
    (hK : X.K = K := by rfl) (hq : X.env.qual = q := by rfl) (hcode : X.env.code = .ref c := by rfl) (hg : Gl X x := by rfl) (hdb : (x == ("__debug__" : Str)) = false := by decide) (hdef : defaultsOf params X.env = ([], []) := by rfl) (hbind : ∀ (q : Str) (cl : List (Str × Addr)) (pm cv ctv : Value), bindArgs (PySem.W.kla_fn "<lambda>" q params body scope cl pm cv ctv) ⟨[], []⟩ = pure [] := by intros; rfl) :
    DE X W (gx X) (.Call (.Name x p) [.Lambda params body scope lpos] [] pos) (dLam sp TB) := by
  subst hK hq
  exact de_lam l tb hcode lu.1 lu.2 hr L hbody hg hdb hdef hbind
def flB (n : Nat) (fl : Fl) : Bool := fl.all fun p => match p.2 with
  | .inr i => decide (i < n)
  | .inl _ => true
theorem flB_ok {n : Nat} {fl : Fl} (h : flB n fl = true) : ∀ p ∈ fl, ∀ i, p.2 = .inr i → i < n := fun p hp i e => by
  have q := List.all_eq_true.mp h p hp
  rw [e] at q
  exact of_decide_eq_true q
/-- a class among those that a clause takes -/
theorem clOk_of {K : PySem.W.Frag} {mg : Str → Option Value} {c : ClD} {cv : Addr} (hf : c.h.few) (h : ∀ p ∈ c.tab, mg p.1 = some (.ref (He.ga K p.1)) ∧ PySem.W.exmOne K (.ref (He.ga K p.1)) (.ref cv) = some p.2 ∧ (p.2 = true → GoodX K (He.ga K p.1) c.h.flds)) : ClOk K mg c cv := by
  refine ⟨hf, fun n b e C hm => ?_⟩
  have hp : (n, b) ∈ c.tab := by
    have : ∀ l : List (Str × Bool), l.lookup n = some b → (n, b) ∈ l := by
      intro l
      induction l with
      | nil => intro e; cases e
      | cons p r ih =>
        intro e
        obtain ⟨k, v⟩ := p
        rw [List.lookup_cons] at e
        cases hk : (n == k) with
        | true => rw [hk] at e; cases e; rw [beq_iff_eq.mp hk]; exact List.mem_cons_self
        | false => rw [hk] at e; exact List.mem_cons_of_mem _ (ih e)
    exact this _ e
  obtain ⟨h1, h2, h3⟩ := h (n, b) hp
  have e2 := Option.some.inj (h1.symm.trans hm)
  cases e2
  exact ⟨h2, h3⟩
end Y
namespace Y
open PySem PySem.Spec PyProof.Rows L2
/-- keys, each at an object of its own -/
structure Kd (P : Program) (w : World) (κ : Type) [DecidableEq κ] where
  is : Heap → κ → Addr → Prop
  hash : κ → Int
  draws : κ → Nat
  stay : ∀ {h h' : Heap} {q : κ} {b : Addr}, is h q b → (∀ o, h.get? b = some o → h'.get? b = some o) → is h' q b
  noset : ∀ {h : Heap} {q : κ} {b : Addr} {o : Obj} {es : Array (Int × Value)} {ep : Nat} {t : SetTable}, is h q b → h.get? b = some o → o.data = .set es ep t → False
  one : ∀ {h : Heap} {q q' : κ} {b : Addr}, is h q b → is h q' b → q = q'
  hashes : ∀ {A : Around} {E : Value → Shared → Prop} {s : Shared} {q : κ} {b : Addr} {Q : Int → Shared → Prop}, A.units < cLine → is s.heap q b → Q (hash q) { s with toks := s.toks + draws q } → wpAny (model P w) A (pyHash (.ref b)) Q E s
  same : ∀ {A : Around} {E : Value → Shared → Prop} {s : Shared} {q q' : κ} {b c : Addr} {Q : Bool → Shared → Prop}, A.units < cLine → is s.heap q b → is s.heap q' c → Q (decide (q = q')) s → wpAny (model P w) A (eqBool (.ref b) (.ref c)) Q E s
  quiet : ∀ {A : Around} {E : Value → Shared → Prop} {s : Shared} {q : κ} {b : Addr} {Q : Bool → Shared → Prop}, is s.heap q b → Q true s → wpAny (model P w) A (eqIsQuiet 8 (.ref b)) Q E s
  plain : ∀ {A : Around} {E : Value → Shared → Prop} {s : Shared} {q : κ} {b : Addr} {Q : Bool → Shared → Prop}, is s.heap q b → Q false s → wpAny (model P w) A (ofAClassStatement 8 (.ref b)) Q E s
  byval : ∀ {A : Around} {E : Value → Shared → Prop} {s : Shared} {q : κ} {b : Addr} {Q : Bool → Shared → Prop}, is s.heap q b → (∀ z, Q z s) → wpAny (model P w) A (hashByValue 8 (.ref b)) Q E s
section
variable {P : Program} {w : World} {κ : Type} [DecidableEq κ] {kd : Kd P w κ} {A : Around} {E : Value → Shared → Prop} {s : Shared}
def kRows (kd : Kd P w κ) (M : List (Addr × κ)) : List (Int × Value) := M.map fun m => (kd.hash m.2, Value.ref m.1)
theorem kRows_get {M : List (Addr × κ)} {i : Nat} {m : Addr × κ} (e : M[i]? = some m) : (kRows kd M)[i]? = some (kd.hash m.2, Value.ref m.1) := by
  unfold kRows
  rw [List.getElem?_map, e]; rfl
abbrev kHs (kd : Kd P w κ) (M : List (Addr × κ)) : List Int := M.map fun m => kd.hash m.2
/-- at S stands a set with the members M, laid as es in the table t -/
structure KSet (kd : Kd P w κ) (h : Heap) (S : Addr) (M : List (Addr × κ)) (es : Array (Int × Value)) (ep : Nat) (t : SetTable) : Prop where
  at_ : ∃ o, h.get? S = some o ∧ o.ExactSet ∧ o.data = .set es ep t
  rows : es.toList = kRows kd M
  tab : TabOk t (kHs kd M)
  nd : (M.map (·.2)).Nodup
  keys : ∀ m ∈ M, kd.is h m.2 m.1
  led : w.params.followText "set-order" = true ∨ t.led = true
  room : M.length * 5 < t.mask * 3
  few : M.length < 64
variable {S : Addr} {M : List (Addr × κ)} {es : Array (Int × Value)} {ep : Nat} {t : SetTable}
theorem KSet.row (R : KSet kd s.heap S M es ep t) {i : Nat} {m : Addr × κ} (e : M[i]? = some m) : es[i]? = some (kd.hash m.2, Value.ref m.1) := by
  rw [← Array.getElem?_toList, R.rows]
  exact kRows_get e
end
end Y
namespace Y
open PySem PySem.Spec PyProof.Rows L2
theorem leaf_shape {q : Leaf} {v : Value} (e : Leaf.isOf q v = true) : (∃ i t, v = .int i t) ∨ (∃ x t, v = .str x t) ∨ (∃ b, v = .bool b) ∨ v = .none := by
  cases q with
  | none => cases Leaf.nested (h := default) e; exact .inr (.inr (.inr rfl))
  | num i => cases Leaf.nested (h := default) e with
    | int _ t => exact .inl ⟨_, _, rfl⟩
    | bool _ => exact .inr (.inr (.inl ⟨_, rfl⟩))
  | text x => cases Leaf.nested (h := default) e; exact .inr (.inl ⟨_, _, rfl⟩)
theorem items_leaf {P : Program} {w : World} {ks : List Leaf} {vs : List Value} (h : PySem.ItemsAre (leafKind P w) ks vs) : ∀ v ∈ vs, ofAClassStatement 7 v = pure false ∧ ∃ b, hashByValue 7 v = pure b := by
  induction h with
  | nil => exact fun v hv => nomatch hv
  | @cons k v ks vs h1 _ ih =>
    intro u hu
    rcases List.mem_cons.mp hu with rfl | hu
    · rcases leaf_shape h1 with ⟨_, _, rfl⟩ | ⟨_, _, rfl⟩ | ⟨_, rfl⟩ | rfl <;> exact ⟨rfl, _, rfl⟩
    · exact ih u hu
end Y
namespace Y
open PySem PySem.Spec PyProof.Rows L2
section
variable {P : Program} {w : World} {A : Around} {E : Value → Shared → Prop} {s : Shared}
theorem plain_leaf {q : List Leaf} {b : Addr} {Q : Bool → Shared → Prop} (hk : IsTupleKey (leafKind P w) s.heap q b) (fin : Q false s) : wpAny (model P w) A (ofAClassStatement 8 (.ref b)) Q E s := by
  have hT := hk.typeIs
  obtain ⟨o, its, n, ho, _, hd, hi⟩ := hk
  unfold ofAClassStatement
  refine wpAny_bind (wpAny_typeOf hT ?_)
  dsimp only
  have e : (("tuple" : String) == "tuple") = true := by decide
  simp only [e, if_true, Bool.not_true, Bool.false_eq_true, if_false]
  try refine wpAny_bind (wpAny_pure ?_)
  try simp only [Bool.not_true, Bool.false_eq_true, if_false]
  refine (show wpAny _ _ (seqItems? (.ref b) >>= _) _ _ s from wpAny_bind (wpAny_seqItems ho hd ?_))
  dsimp only
  refine wpAny_bind (show wpAny _ _ (forIn its _ _) _ _ s from ?_)
  rw [← Array.forIn_toList]
  refine wpAny_forIn_list _ (fun more r s' => r.1 = none ∧ s' = s ∧ ∀ v ∈ more, ofAClassStatement 7 v = pure false) _ ?_ ?_ _ _ ⟨rfl, rfl, fun v hv => (items_leaf hi v hv).1⟩
  · rintro v more r s' ⟨_, rfl, each⟩
    rw [each v List.mem_cons_self]
    refine wpAny_bind (wpAny_pure ?_)
    simp only [Bool.false_eq_true, if_false]
    exact wpAny_pure ⟨rfl, rfl, fun u hu => each u (List.mem_cons_of_mem _ hu)⟩
  · rintro ⟨r1, r2⟩ s' ⟨e0, rfl, _⟩
    simp only at e0
    subst e0
    exact wpAny_pure fin
theorem byval_leaf {q : List Leaf} {b : Addr} {Q : Bool → Shared → Prop} (hk : IsTupleKey (leafKind P w) s.heap q b) (fin : ∀ z, Q z s) : wpAny (model P w) A (hashByValue 8 (.ref b)) Q E s := by
  have hT := hk.typeIs
  obtain ⟨o, its, n, ho, _, hd, hi⟩ := hk
  unfold hashByValue
  refine wpAny_bind (wpAny_specialOf hT F.slot_tuple_hash.lookup ?_)
  refine (show wpAny _ _ (seqItems? (.ref b) >>= _) _ _ s from wpAny_bind (wpAny_seqItems ho hd ?_))
  refine wpAny_bind (show wpAny _ _ (forIn its _ _) _ _ s from ?_)
  rw [← Array.forIn_toList]
  refine wpAny_forIn_list _ (fun more r s' => r.1 = none ∧ s' = s ∧ ∀ v ∈ more, ∃ z, hashByValue 7 v = pure z) _ ?_ ?_ _ _ ⟨rfl, rfl, fun v hv => (items_leaf hi v hv).2⟩
  · rintro v more r s' ⟨_, rfl, each⟩
    obtain ⟨z, ez⟩ := each v List.mem_cons_self
    rw [ez]
    refine wpAny_bind (wpAny_pure ?_)
    cases z with
    | true =>
      simp only [Bool.not_true, Bool.false_eq_true, if_false]
      exact wpAny_pure ⟨rfl, rfl, fun u hu => each u (List.mem_cons_of_mem _ hu)⟩
    | false =>
      simp only [Bool.not_false, if_true]
      exact wpAny_pure (wpAny_pure (fin false))
  · rintro ⟨r1, r2⟩ s' ⟨e0, rfl, _⟩
    simp only at e0
    subst e0
    exact wpAny_pure (fin true)
end
/-- tuples of leaves as keys -/
def leafKd (P : Program) (w : World) : Kd P w (List Leaf) where
  is := fun h q b => IsTupleKey (leafKind P w) h q b
  hash := tupleKeyHash (leafKind P w)
  draws := fun q => q.length + 1
  stay := fun ⟨o, its, n, ho, r⟩ k => ⟨o, its, n, k o ho, r⟩
  noset := fun ⟨o, its, n, ho, _, hd, _⟩ ho' hd' => by
    have e := Option.some.inj (ho.symm.trans ho')
    subst e
    rw [hd'] at hd
    cases hd
  one := fun a b => a.inj b
  hashes := fun hu hk h => wpAny_pyHash_tuple hu hk h
  same := fun hu hx hy h => wpAny_eqBool_tuple hu hx hy h
  quiet := fun hk h => wpAny_eqIsQuiet_tuple hk h
  plain := fun hk h => plain_leaf hk h
  byval := fun hk h => byval_leaf hk h
def lv : Leaf → V
  | .none => .non
  | .num i => .int i
  | .text x => .str x
abbrev KM := List (Addr × List Leaf)
/-- the set at S, its members' own objects apart -/
def K0 (P : Program) (w : World) (h : Heap) (S : Addr) (M : KM) : Prop := ∃ (es : Array (Int × Value)) (ep : Nat) (t : SetTable), (∃ o, h.get? S = some o ∧ o.ExactSet ∧ o.data = .set es ep t) ∧ es.toList = kRows (leafKd P w) M ∧ TabOk t (kHs (leafKd P w) M) ∧ (M.map (·.2)).Nodup ∧
  (w.params.followText "set-order" = true ∨ t.led = true) ∧ M.length * 5 < t.mask * 3 ∧ M.length < 64
def KSO (P : Program) (w : World) (S : Addr) (M : KM) : HO := .ext fun h => K0 P w h S M
theorem K0.ok {P : Program} {w : World} {H : Hp} {h : Heap} {S : Addr} {M : KM} (R : K0 P w h S M) : ObjOk P w H h S (KSO P w S M) := by
  have ⟨es, ep, t, ⟨o, ho, r⟩, q⟩ := R
  refine ⟨R, ⟨o, ho⟩, fun h1 h2 p k => ?_⟩
  obtain ⟨es', ep', t', ⟨o', ho', r'⟩, q'⟩ := (show K0 P w h1 S M from p)
  exact ⟨es', ep', t', ⟨o', k o' ho', r'⟩, q'⟩
end Y
namespace Y
open PySem PySem.Spec PyProof.Rows L2
section
variable {X : Cx}
def lp : Leaf → PyData
  | .none => .none
  | .num i => .int i
  | .text x => .str x
def kp (q : List Leaf) : PyData := .tuple (q.map lp)
end
end Y
namespace Y
open PySem PySem.Spec PyProof.Rows L2
def ld : Leaf → D
  | .none => .non
  | .num i => .int i
  | .text x => .str x
abbrev Ky := List Leaf
def dK (q : Ky) : D := .tup (q.map ld)
def leafOf : D → Option Leaf
  | .int i => some (.num i)
  | .str x => some (.text x)
  | _ => none
def leavesOf : List D → Option Ky
  | [] => some []
  | d :: r => (leafOf d).bind fun l => (leavesOf r).map (l :: ·)
def keyD : D → Option Ky
  | .tup ds => leavesOf ds
  | _ => none
def keysD : List D → Option (List Ky)
  | [] => some []
  | d :: r => (keyD d).bind fun q => (keysD r).map (q :: ·)
def lNum : Leaf → Bool
  | .none => false
  | _ => true
def ltK (x y : Ky) : Bool := PySem.W.dataLt (kp x) (kp y)
/-- a key among rising ones -/
def insK (q : Ky) : List Ky → List Ky
  | [] => [q]
  | m :: r => if ltK q m then q :: m :: r else if q = m then m :: r else m :: insK q r
def sortK : List Ky → List Ky
  | [] => []
  | q :: r => insK q (sortK r)
/-- keys that may be compared -/
def okK (ks : List Ky) : Bool := ks.all (fun x => !x.isEmpty && ks.all fun y => PySem.W.alike (kp x) (kp y))
end Y
namespace Y
open PySem PySem.Spec PyProof.Rows L2
/-- what stands in the set behind some keys -/
structure InK (g : Ge) (G : Hp) (M : KM) (ks : List Ky) : Prop where
  nn : ∀ k ∈ ks, k.all lNum = true
  sub : ∀ m ∈ M, m.2 ∈ ks
  all : ∀ k ∈ ks, k ∈ M.map (·.2)
  len : M.length ≤ ks.length
  at_ : ∀ m ∈ M, SqT g.K G m.1 (m.2.map lv) ∧ m.2.length ≤ sizeLine
theorem InK.nil {g : Ge} {G : Hp} : InK g G [] [] := ⟨fun k h => (nomatch h), fun k h => (nomatch h), fun k h => (nomatch h), Nat.le_refl _, fun k h => (nomatch h)⟩
theorem InK.mono {g : Ge} {G G' : Hp} {M : KM} {ks : List Ky} (h : InK g G M ks) (e : ∀ a o, G a = some o → G' a = some o) : InK g G' M ks := ⟨h.nn, h.sub, h.all, h.len, fun m hm => ⟨sqT_mono e (h.at_ m hm).1, (h.at_ m hm).2⟩⟩
theorem InK.put {g : Ge} {G : Hp} {M M' : KM} {ks : List Ky} {x : Addr} {q : Ky} (h : InK g G M ks) (hq : q.all lNum = true) (hx : SqT g.K G x (q.map lv)) (hz : q.length ≤ sizeLine) (c1 : q ∈ M.map (·.2) → M' = M) (c2 : q ∉ M.map (·.2) → M'.Perm ((x, q) :: M)) : InK g G M' (ks ++ [q]) := by
  have nn : ∀ k ∈ ks ++ [q], k.all lNum = true := fun k hk => by
    rcases List.mem_append.mp hk with hk | hk
    · exact h.nn k hk
    · rw [List.mem_singleton.mp hk]; exact hq
  by_cases c : q ∈ M.map (·.2)
  · rw [c1 c]
    refine ⟨nn, fun m hm => List.mem_append_left _ (h.sub m hm), fun k hk => ?_, by rw [List.length_append]; exact Nat.le_add_right_of_le h.len, h.at_⟩
    rcases List.mem_append.mp hk with hk | hk
    · exact h.all k hk
    · rw [List.mem_singleton.mp hk]; exact c
  · have pm := c2 c
    refine ⟨nn, fun m hm => ?_, fun k hk => ?_, ?_, fun m hm => ?_⟩
    · rcases List.mem_cons.mp (pm.mem_iff.mp hm) with rfl | hm
      · exact List.mem_append_right _ (List.mem_singleton.mpr rfl)
      · exact List.mem_append_left _ (h.sub m hm)
    · rw [(pm.map (·.2)).mem_iff, List.map_cons]
      rcases List.mem_append.mp hk with hk | hk
      · exact List.mem_cons_of_mem _ (h.all k hk)
      · rw [List.mem_singleton.mp hk]; exact List.mem_cons_self
    · rw [pm.length_eq, List.length_cons, List.length_append]
      exact Nat.succ_le_succ h.len
    · rcases List.mem_cons.mp (pm.mem_iff.mp hm) with rfl | hm
      · exact ⟨hx, hz⟩
      · exact h.at_ m hm
end Y
namespace Y
open PySem PySem.Spec PyProof.Rows L2
end Y
namespace Y
open PySem PySem.Spec PyProof.Rows L2
abbrev KD := List (Key × D)
def lookD (kvs : KD) (k : Key) : Option D := (kvs.find? fun kv => decide (kv.1 = k)).map (·.2)
def putD' (kvs : KD) (k : Key) (d : D) : KD := if (kvs.any fun kv => decide (kv.1 = k)) then kvs.map (fun kv => if kv.1 = k then (kv.1, d) else kv) else kvs ++ [(k, d)]
def mergeD (kvs more : KD) : KD := more.foldl (fun acc kv => putD' acc kv.1 kv.2) kvs
def dkey : D → Option Key
  | .int i => some (.inl i)
  | .str x => some (.inr x)
  | _ => none
section
variable {g : Ge} {F G H : Hp} {ι : Io} {μ : Mu}
/-- the dict at a cell -/
def atDk (μ : Mu) : D → Option KD
  | .ptr n => match μ n with | some (.dk kvs) => some kvs | _ => none
  | _ => none
end
section
variable {X : Cx} {W : WX} {i o : Expr} {pos : Pos} {T U : TD}
def dDGet1 (T U : TD) : TD := fun ρ μ Q E => T ρ μ (fun x μ1 => (∃ kvs, atDk μ1 x = some kvs) ∧ U ρ μ1 (fun y μ2 => opQ (atDk μ2 x) fun kvs => opQ (dkey y) fun k => Q ((lookD kvs k).getD .non) μ2) E) E
def dDGet2 (T U V : TD) : TD := fun ρ μ Q E => T ρ μ (fun x μ1 => (∃ kvs, atDk μ1 x = some kvs) ∧ U ρ μ1 (fun y μ2 => V ρ μ2 (fun z μ3 => opQ (atDk μ3 x) fun kvs => opQ (dkey y) fun k => Q ((lookD kvs k).getD z) μ3) E) E) E
variable {e f : Expr} {apos cpos : Pos} {V : TD}
end
def dPairs : List (TD × TD) → Rho → Mu → (List (D × D) → Mu → Prop) → XQ → Prop
  | [], _, μ, Q, _ => Q [] μ
  | (K, V) :: r, ρ, μ, Q, E => K ρ μ (fun x μ1 => V ρ μ1 (fun y μ2 => dPairs r ρ μ2 (fun ps μ3 => Q ((x, y) :: ps) μ3) E) E) E
def keyed : List (D × D) → Option KD
  | [] => some []
  | (x, y) :: r => (dkey x).bind fun k => (keyed r).map ((k, y) :: ·)
def dDisp (prs : List (TD × TD)) : TD := fun ρ μ Q E => dPairs prs ρ μ (fun ps μ1 => opQ (keyed ps) fun kvs => kvs.length ≤ 15 ∧ newQ μ1 (.dk (mergeD [] kvs)) Q) E
def dUpd (To : TD) (U : TL) : TD := fun ρ μ Q E => To ρ μ (fun x μ1 => (∃ kvs, atDk μ1 x = some kvs) ∧ U ρ μ1 (fun xs μ2 => match x, xs with
  | .ptr n, [.ptr m] => n ≠ m ∧ opQ (atDk μ2 (.ptr n)) fun kvs => opQ (atDk μ2 (.ptr m)) fun more => fits (kvs.length + more.length) = true ∧ Q .non (mset μ2 n (.dk (mergeD kvs more)))
  | _, _ => False) E) E
end Y
namespace Y
open PySem PySem.Spec PyProof.Rows L2
section
variable {ρ : Rho} {μ : Mu} {Q : QD} {E : XQ}
theorem s_disp {prs : List (TD × TD)} (h : dPairs prs ρ μ (fun ps μ1 => opQ (keyed ps) fun kvs => kvs.length ≤ 15 ∧ newQ μ1 (.dk (mergeD [] kvs)) Q) E) : dDisp prs ρ μ Q E := h
theorem s_pairN {Qp : List (D × D) → Mu → Prop} (h : Qp [] μ) : dPairs [] ρ μ Qp E := h
theorem s_pairC {K V : TD} {r : List (TD × TD)} {Qp : List (D × D) → Mu → Prop} (h : K ρ μ (fun x μ1 => V ρ μ1 (fun y μ2 => dPairs r ρ μ2 (fun ps μ3 => Qp ((x, y) :: ps) μ3) E) E) E) : dPairs ((K, V) :: r) ρ μ Qp E := h
theorem s_updD {To : TD} {U : TL} (h : To ρ μ (fun x μ1 => (∃ kvs, atDk μ1 x = some kvs) ∧ U ρ μ1 (fun xs μ2 => match x, xs with
  | .ptr n, [.ptr m] => n ≠ m ∧ opQ (atDk μ2 (.ptr n)) fun kvs => opQ (atDk μ2 (.ptr m)) fun more => fits (kvs.length + more.length) = true ∧ Q .non (mset μ2 n (.dk (mergeD kvs more)))
  | _, _ => False) E) E) : dUpd To U ρ μ Q E := h
theorem s_dget2 {T U V : TD} (h : T ρ μ (fun x μ1 => (∃ kvs, atDk μ1 x = some kvs) ∧ U ρ μ1 (fun y μ2 => V ρ μ2 (fun z μ3 => opQ (atDk μ3 x) fun kvs => opQ (dkey y) fun k => Q ((lookD kvs k).getD z) μ3) E) E) E) : dDGet2 T U V ρ μ Q E := h
theorem s_dget1 {T U : TD} (h : T ρ μ (fun x μ1 => (∃ kvs, atDk μ1 x = some kvs) ∧ U ρ μ1 (fun y μ2 => opQ (atDk μ2 x) fun kvs => opQ (dkey y) fun k => Q ((lookD kvs k).getD .non) μ2) E) E) : dDGet1 T U ρ μ Q E := h
theorem s_dkS {x : Str} {K : Key → Prop} (h : K (.inr x)) : opQ (dkey (.str x)) K := h
theorem s_dkI {i : Int} {K : Key → Prop} (h : K (.inl i)) : opQ (dkey (.int i)) K := h
theorem s_lam {sp : LSp} {TB : TD} (h : sp (fun μ' Q' E' => TB ρ μ' Q' E') μ Q) : dLam sp TB ρ μ Q E := h
end
end Y
namespace Y
open PySem PySem.Spec PyProof.Rows L2
def repL {α : Type} (k : Nat) (xs : List α) : List α := (List.replicate k xs).flatten
theorem repL_len {α : Type} (k : Nat) (xs : List α) : (repL k xs).length = xs.length * k := by
  unfold repL
  induction k with
  | zero => rfl
  | succ k ih => rw [List.replicate_succ, List.flatten_cons, List.length_append, ih, Nat.mul_succ, Nat.add_comm]
theorem vds_rep {g : Ge} {G : Hp} {ι : Io} {xs : List V} {ds : List D} (h : VDs g G ι xs ds) : ∀ k, VDs g G ι (repL k xs) (repL k ds)
  | 0 => .nil
  | k + 1 => by
    unfold repL
    rw [List.replicate_succ, List.replicate_succ, List.flatten_cons, List.flatten_cons]
    exact h.append (vds_rep h k)
def repP (μ : Mu) (x y : D) : Option (List D) := (asL μ x).bind fun ds => match y with
  | .int k => if decide (-1000000 ≤ k) && (decide (k ≤ 1000000) && fits (ds.length * k.toNat)) then some (repL k.toNat ds) else none
  | _ => none
def dRep (Ta Tb : TD) : TD := fun ρ μ Q E => Ta ρ μ (fun x μ1 => Tb ρ μ1 (fun y μ2 => opQ (repP μ2 x y) fun ds => Q (.lst ds) μ2) E) E
def dRepN (Ta Tb : TD) : TD := fun ρ μ Q E => Ta ρ μ (fun x μ1 => Tb ρ μ1 (fun y μ2 => opQ (repP μ2 x y) fun ds => newQ μ2 (.lst ds) Q) E) E
theorem rep_ok {g : Ge} {F G H : Hp} {ι : Io} {μ : Mu} {x y : V} {d e : D} {ds : List D} {P : VK} (R : Rel g F G ι H μ) (hx : VD g G ι x d) (hy : VD g G ι y e) (h : repP μ d e = some ds) (k : ∀ zs p, VDs g G ι zs ds → zs.length ≤ sizeLine → H p = none → P (.ref p) (upd H p (.lst zs))) : rRep x y H P := by
  obtain ⟨es, h1, h2⟩ := Option.bind_eq_some_iff.mp h
  obtain ⟨a, xs, rfl, q1, q2, _⟩ := asL_ok R hx h1
  cases hy with
  | int i =>
    have h2 : (if decide (-1000000 ≤ i) && (decide (i ≤ 1000000) && fits (es.length * i.toNat)) then some (repL i.toNat es) else none) = some ds := h2
    split at h2
    · rename_i hc
      cases h2
      obtain ⟨c1, c⟩ := He.ba hc
      obtain ⟨c2, c3⟩ := He.ba c
      have c1 := of_decide_eq_true c1
      have c2 := of_decide_eq_true c2
      have c3 := fits_le.mp c3
      refine ⟨a, i, xs, rfl, rfl, q1, by omega, by omega, by rw [q2.length]; exact c3, fun p hp => ?_⟩
      exact k (repL i.toNat xs) p (vds_rep q2 i.toNat) (by rw [repL_len, q2.length]; exact c3) hp
    · cases h2
  | _ => cases h2
section
variable {X : Cx} {W : WX} {a b : Expr} {pos : Pos} {Ta Tb : TD}
theorem de_rep (ha : DE X W (gx X) a Ta) (hb : DE X W (gx X) b Tb) : DE X W (gx X) (.BinOp a .Mult b pos) (dRep Ta Tb) := by
  obtain ⟨t, h1, h2⟩ := ha
  obtain ⟨u, h3, h4⟩ := hb
  refine ⟨_, pe_op op_rep h1 h3, fun F G ι σ H ρ μ Q E P r R L q k => h2 F G ι σ H ρ μ _ E _ r R L q fun G1 ι1 μ1 H1 v d e1 R1 v1 q1 => h4 F G1 ι1 σ H1 ρ μ1 _ E _ (r.mono e1) R1 (L.mono e1) q1 fun G2 ι2 μ2 H2 w e e2 R2 v2 q2 => ?_⟩
  obtain ⟨ds, ed, qd⟩ := opQ_get q2
  refine rep_ok R2 (v1.mono e2) v2 ed fun zs p hz hl hp => ?_
  obtain ⟨R3, e3⟩ := R2.frozen (o := .lst zs) hp
  exact k _ _ _ _ _ _ ((e1.trans e2).trans e3) R3 (.lst upd_same (hz.mono e3) hl) qd
end
section
variable {ρ : Rho} {μ : Mu} {Q : QD} {E : XQ}
theorem s_rep {Ta Tb : TD} (h : Ta ρ μ (fun x μ1 => Tb ρ μ1 (fun y μ2 => opQ (repP μ2 x y) fun ds => Q (.lst ds) μ2) E) E) : dRep Ta Tb ρ μ Q E := h
theorem s_repN {Ta Tb : TD} (h : Ta ρ μ (fun x μ1 => Tb ρ μ1 (fun y μ2 => opQ (repP μ2 x y) fun ds => newQ μ2 (.lst ds) Q) E) E) : dRepN Ta Tb ρ μ Q E := h
theorem s_repP {ds : List D} {k : Int} {K : List D → Prop} (h0 : -1000000 ≤ k) (h1 : k ≤ 1000000) (h2 : ds.length * k.toNat ≤ 1000000) (h : K (repL k.toNat ds)) : opQ (repP μ (.lst ds) (.int k)) K := by
  have e : repP μ (.lst ds) (.int k) = some (repL k.toNat ds) := by
    show (if decide (-1000000 ≤ k) && (decide (k ≤ 1000000) && fits (ds.length * k.toNat)) then some (repL k.toNat ds) else none) = _
    rw [decide_eq_true h0, decide_eq_true h1, fits_le.mpr (by rw [sizeLine_eq]; omega)]; rfl
  rw [e]; exact h
end
theorem repL_one {α : Type} (k : Nat) (x : α) : repL k [x] = List.replicate k x := by
  unfold repL
  induction k with
  | zero => rfl
  | succ k ih => rw [List.replicate_succ, List.flatten_cons, ih, List.replicate_succ]; rfl
end Y
namespace Y
open PySem PySem.Spec PyProof.Rows L2
section
variable {P : Program} {w : World} {κ : Type} [DecidableEq κ] {kd : Kd P w κ} {A : Around} {E : Value → Shared → Prop} {s : Shared}
/-- the members of a set behind a list of keys -/
structure SubK (M L : List (Addr × κ)) : Prop where
  sub : ∀ m ∈ M, m ∈ L
  all : ∀ p ∈ L, p.2 ∈ M.map (·.2)
  len : M.length ≤ L.length
theorem SubK.put {M M' L : List (Addr × κ)} {p : Addr × κ} (h : SubK M L) (c1 : p.2 ∈ M.map (·.2) → M' = M) (c2 : p.2 ∉ M.map (·.2) → M'.Perm (p :: M)) : SubK M' (L ++ [p]) := by
  by_cases c : p.2 ∈ M.map (·.2)
  · rw [c1 c]
    refine ⟨fun m hm => List.mem_append_left _ (h.sub m hm), fun k hk => ?_, by rw [List.length_append]; exact Nat.le_add_right_of_le h.len⟩
    rcases List.mem_append.mp hk with hk | hk
    · exact h.all k hk
    · rw [List.mem_singleton.mp hk]; exact c
  · have pm := c2 c
    refine ⟨fun m hm => ?_, fun k hk => ?_, by rw [pm.length_eq, List.length_cons, List.length_append]; exact Nat.succ_le_succ h.len⟩
    · rcases List.mem_cons.mp (pm.mem_iff.mp hm) with rfl | hm
      · exact List.mem_append_right _ (List.mem_singleton.mpr rfl)
      · exact List.mem_append_left _ (h.sub m hm)
    · rw [(pm.map (·.2)).mem_iff, List.map_cons]
      rcases List.mem_append.mp hk with hk | hk
      · exact List.mem_cons_of_mem _ (h.all k hk)
      · rw [List.mem_singleton.mp hk]; exact List.mem_cons_self
end
end Y
namespace Y
open PySem PySem.Spec PyProof.Rows L2
end Y
namespace Y
open PySem PySem.Spec PyProof.Rows L2
def cI (W : WX) (g : Ge) (T : TId) : TI := fun σ H P => ∃ F G ι ρ μ Q E, RhoRel g G ι σ ρ ∧ Rel g F G ι H μ ∧ XLift W g F G ι σ E ∧ T ρ μ Q E ∧
  ∀ G' ι' μ' H' J ds st, Ext G ι G' ι' → Rel g F G' ι' H' μ' → Items g F G' ι' J ds st → Q ds st μ' → P J H'
theorem DI.can {X : Cx} {W : WX} {g : Ge} {tg iter : Expr} {T : TId} (h : DI X W g tg iter T) : PI X tg iter (cI W g T) := by
  obtain ⟨t, a, b⟩ := h
  exact ⟨fun pins s σ H P I ⟨F, G, ι, ρ, μ, Q, E, r, R, L, q, k⟩ => a.run pins s σ H P I (b F G ι σ H ρ μ Q E P r R L q k)⟩
end Y
namespace Y
open PySem PySem.Spec PyProof.Rows L2
end Y
namespace Y
open PySem PySem.Spec PyProof.Rows L2
end Y
namespace Y
open PySem PySem.Spec PyProof.Rows L2
end Y
namespace Y
open PySem PySem.Spec PyProof.Rows L2
class Step (P : Prop) (N : outParam Prop) : Prop where
  go : N → P
class StepX (P : Prop) (N : outParam Prop) : Prop where
  go : N → P
class StepW (P : Prop) (N : outParam Prop) : Prop where
  go : N → P
instance i_c {ρ : Rho} {μ : Mu} {Q : QD} {E : XQ} {d : D} : Step (dC d ρ μ Q E) (Q d μ) := ⟨fun h => s_c h⟩
instance i_nil {ρ : Rho} {μ : Mu} {Q : List D → Mu → Prop} {E : XQ} : Step (dNil ρ μ Q E) (Q [] μ) := ⟨fun h => s_nil h⟩
instance i_cons {ρ : Rho} {μ : Mu} {Q : List D → Mu → Prop} {E : XQ} {T : TD} {U : TL} : Step (dCons T U ρ μ Q E) (T ρ μ (fun x μ1 => U ρ μ1 (fun xs μ2 => Q (x :: xs) μ2) E) E) := ⟨fun h => s_cons h⟩
instance i_tup {ρ : Rho} {μ : Mu} {Q : QD} {E : XQ} {U : TL} : Step (dTup U ρ μ Q E) (U ρ μ (fun ds μ1 => ds.length ≤ sizeLine ∧ Q (.tup ds) μ1) E) := ⟨fun h => s_tup h⟩
instance i_lst {ρ : Rho} {μ : Mu} {Q : QD} {E : XQ} {U : TL} : Step (dLst U ρ μ Q E) (U ρ μ (fun ds μ1 => ds.length ≤ sizeLine ∧ Q (.lst ds) μ1) E) := ⟨fun h => s_lst h⟩
instance i_new {ρ : Rho} {μ : Mu} {Q : QD} {E : XQ} {U : TL} : Step (dNew U ρ μ Q E) (U ρ μ (fun ds μ1 => ds.length ≤ sizeLine ∧ newQ μ1 (.lst ds) Q) E) := ⟨fun h => s_new h⟩
instance i_op {ρ : Rho} {μ : Mu} {Q : QD} {E : XQ} {f : Mu → D → D → Option D} {Ta Tb : TD} : Step (dOp f Ta Tb ρ μ Q E) (Ta ρ μ (fun x μ1 => Tb ρ μ1 (fun y μ2 => opQ (f μ2 x y) fun z => Q z μ2) E) E) := ⟨fun h => s_op h⟩
instance i_un {ρ : Rho} {μ : Mu} {Q : QD} {E : XQ} {f : Mu → D → Option D} {Ta : TD} : Step (dUn f Ta ρ μ Q E) (Ta ρ μ (fun x μ1 => opQ (f μ1 x) fun z => Q z μ1) E) := ⟨fun h => s_un h⟩
instance i_cal {ρ : Rho} {μ : Mu} {Q : QD} {E : XQ} {f : Mu → List D → Option D} {U : TL} : Step (dCal f U ρ μ Q E) (U ρ μ (fun xs μ1 => opQ (f μ1 xs) fun z => Q z μ1) E) := ⟨fun h => s_cal h⟩
instance i_call {ρ : Rho} {μ : Mu} {Q : QD} {E : XQ} {sp : DSp} {dvs : List D} {U : TL} : Step (dCall sp dvs U ρ μ Q E) (U ρ μ (fun ds μ1 => sp (ds ++ dvs) μ1 Q E) E) := ⟨fun h => s_call h⟩
instance i_test {ρ : Rho} {μ : Mu} {Q : Bool → Mu → Prop} {E : XQ} {T : TD} : Step (dTest T ρ μ Q E) (T ρ μ (fun x μ1 => onBl x fun b => Q b μ1) E) := ⟨fun h => s_test h⟩
instance i_tru {ρ : Rho} {μ : Mu} {Q : Bool → Mu → Prop} {E : XQ} {T : TD} : Step (dTru T ρ μ Q E) (T ρ μ (fun x μ1 => opQ (truD μ1 x) fun b => Q b μ1) E) := ⟨fun h => s_tru h⟩
instance i_chain {ρ : Rho} {μ : Mu} {Q : QD} {E : XQ} {f f' : Mu → D → D → Option D} {Ta Tb Tc : TD} : Step (dChain f f' Ta Tb Tc ρ μ Q E) (Ta ρ μ (fun x μ1 => Tb ρ μ1 (fun y μ2 => opQ (f μ2 x y) fun z => onBl z fun k => ifB k (Tc ρ μ2 (fun w μ3 => opQ (f' μ3 y w) fun z => Q z μ3) E) (Q (.bl false) μ2)) E) E) := ⟨fun h => s_chain h⟩
instance i_and {ρ : Rho} {μ : Mu} {Q : Bool → Mu → Prop} {E : XQ} {T U : TB} : Step (dAnd T U ρ μ Q E) (T ρ μ (fun c μ1 => ifB c (U ρ μ1 Q E) (Q false μ1)) E) := ⟨fun h => s_and h⟩
instance i_or {ρ : Rho} {μ : Mu} {Q : Bool → Mu → Prop} {E : XQ} {T U : TB} : Step (dOr T U ρ μ Q E) (T ρ μ (fun c μ1 => ifB c (Q true μ1) (U ρ μ1 Q E)) E) := ⟨fun h => s_or h⟩
instance i_not {ρ : Rho} {μ : Mu} {Q : Bool → Mu → Prop} {E : XQ} {T : TB} : Step (dNot T ρ μ Q E) (T ρ μ (fun c μ1 => Q (!c) μ1) E) := ⟨fun h => s_not h⟩
instance i_andV {ρ : Rho} {μ : Mu} {Q : QD} {E : XQ} {T U : TD} : Step (dAndV T U ρ μ Q E) (T ρ μ (fun x μ1 => onBl x fun c => ifB c (U ρ μ1 Q E) (Q (.bl false) μ1)) E) := ⟨fun h => s_andV h⟩
instance i_orV {ρ : Rho} {μ : Mu} {Q : QD} {E : XQ} {T U : TD} : Step (dOrV T U ρ μ Q E) (T ρ μ (fun x μ1 => onBl x fun c => ifB c (Q (.bl true) μ1) (U ρ μ1 Q E)) E) := ⟨fun h => s_orV h⟩
instance i_notV {ρ : Rho} {μ : Mu} {Q : QD} {E : XQ} {T : TD} : Step (dNotV T ρ μ Q E) (T ρ μ (fun x μ1 => onBl x fun c => Q (.bl (!c)) μ1) E) := ⟨fun h => s_notV h⟩
instance i_ife {ρ : Rho} {μ : Mu} {Q : QD} {E : XQ} {C : TB} {T U : TD} : Step (dIf C T U ρ μ Q E) (C ρ μ (fun c μ1 => ifB c (T ρ μ1 Q E) (U ρ μ1 Q E)) E) := ⟨fun h => s_ife h⟩
instance i_sl {ρ : Rho} {μ : Mu} {Q : QD} {E : XQ} {T : TD} {L U : TOp} : Step (dSl T L U ρ μ Q E) (T ρ μ (fun x μ1 => L ρ μ1 (fun lo μ2 => U ρ μ2 (fun hi μ3 => opQ (slD μ3 x lo hi) fun z => Q z μ3) E) E) E) := ⟨fun h => s_sl h⟩
instance i_noP {ρ : Rho} {μ : Mu} {Q : Option Int → Mu → Prop} {E : XQ} : Step (dNoP ρ μ Q E) (Q none μ) := ⟨fun h => s_noP h⟩
instance i_part {ρ : Rho} {μ : Mu} {Q : Option Int → Mu → Prop} {E : XQ} {T : TD} : Step (dPart T ρ μ Q E) (T ρ μ (fun x μ1 => onInt x fun i => Q (some i) μ1) E) := ⟨fun h => s_part h⟩
instance i_seq {ρ : Rho} {μ : Mu} {Q : List D → (Mu → Prop) → Mu → Prop} {E : XQ} {T : TD} : Step (dSeq T ρ μ Q E) (T ρ μ (fun d μ1 => opQ (seqOf μ1 d) fun ds => Q ds (stOf μ1 d) μ1) E) := ⟨fun h => s_seq h⟩
instance i_range1 {ρ : Rho} {μ : Mu} {Q : List D → (Mu → Prop) → Mu → Prop} {E : XQ} {T : TD} : Step (dRange1 T ρ μ Q E) (T ρ μ (fun d μ1 => onInt d fun n => b62 n = true ∧ Q (rangeD 0 n.toNat) (fun _ => True) μ1) E) := ⟨fun h => s_range1 h⟩
instance i_range2 {ρ : Rho} {μ : Mu} {Q : List D → (Mu → Prop) → Mu → Prop} {E : XQ} {T U : TD} : Step (dRange2 T U ρ μ Q E) (T ρ μ (fun d μ1 => U ρ μ1 (fun e μ2 => onInt d fun a => onInt e fun b => (b62 a && b62 b) = true ∧ Q (rangeD a (b - a).toNat) (fun _ => True) μ2) E) E) := ⟨fun h => s_range2 h⟩
instance i_listN {ρ : Rho} {μ : Mu} {Q : QD} {E : XQ} {U : TL} : Step (dListN U ρ μ Q E) (U ρ μ (fun xs μ1 => on1 xs fun d => opQ (asQ μ1 d) fun ds => fits ds.length = true ∧ newQ μ1 (.lst ds) Q) E) := ⟨fun h => s_listN h⟩
instance i_lc {ρ : Rho} {μ : Mu} {Q : QD} {E : XQ} {I : TId} {n : D → Rho → Mu → (Rho → Mu → Prop) → Prop} {C : TB} {T : TD} {vs : List Nat} : Step (dLc I n C T vs ρ μ Q E) (I ρ μ (fun ds st μ1 => ds.length ≤ sizeLine ∧ lcD st n C T (wipeD ρ vs) (fun acc μ2 => Q (.lst acc) μ2) ds [] μ1) E) := ⟨fun h => s_lc h⟩
instance i_lcN {ρ : Rho} {μ : Mu} {Q : QD} {E : XQ} {I : TId} {n : D → Rho → Mu → (Rho → Mu → Prop) → Prop} {C : TB} {T : TD} {vs : List Nat} : Step (dLcN I n C T vs ρ μ Q E) (I ρ μ (fun ds st μ1 => ds.length ≤ sizeLine ∧ lcD st n C T (wipeD ρ vs) (fun acc μ2 => newQ μ2 (.lst acc) Q) ds [] μ1) E) := ⟨fun h => s_lcN h⟩
instance i_yes {ρ : Rho} {μ : Mu} {Q : Bool → Mu → Prop} {E : XQ} : Step (dYes ρ μ Q E) (Q true μ) := ⟨fun h => s_yes h⟩
instance i_sSeq {De : EndsD} {ρ : Rho} {μ : Mu} {T U : SD} : Step (sSeq T U De ρ μ) (T { De with nx := fun ρ' μ' => U De ρ' μ' } ρ μ) := ⟨fun h => s_sSeq h⟩
instance i_sNext {De : EndsD} {ρ : Rho} {μ : Mu} : Step (sNext De ρ μ) (De.nx ρ μ) := ⟨fun h => s_sNext h⟩
instance i_sBreak {De : EndsD} {ρ : Rho} {μ : Mu} : Step (sBreak De ρ μ) (De.bk ρ μ) := ⟨fun h => s_sBreak h⟩
instance i_sCont {De : EndsD} {ρ : Rho} {μ : Mu} : Step (sCont De ρ μ) (De.ct ρ μ) := ⟨fun h => s_sCont h⟩
instance i_sDrop {De : EndsD} {ρ : Rho} {μ : Mu} {T : TD} : Step (sDrop T De ρ μ) (T ρ μ (fun _ μ1 => De.nx ρ μ1) (exAt De ρ)) := ⟨fun h => s_sDrop h⟩
instance i_sRet {De : EndsD} {ρ : Rho} {μ : Mu} {T : TD} : Step (sRet T De ρ μ) (T ρ μ De.rt (exAt De ρ)) := ⟨fun h => s_sRet h⟩
instance i_sRetN {De : EndsD} {ρ : Rho} {μ : Mu} : Step (sRetN De ρ μ) (De.rt .non μ) := ⟨fun h => s_sRetN h⟩
instance i_sIf {De : EndsD} {ρ : Rho} {μ : Mu} {C : TB} {T U : SD} : Step (sIf C T U De ρ μ) (C ρ μ (fun c μ1 => ifB c (T De ρ μ1) (U De ρ μ1)) (exAt De ρ)) := ⟨fun h => s_sIf h⟩
instance i_sSet {De : EndsD} {ρ : Rho} {μ : Mu} {i : Nat} {T : TD} : Step (sSet i T De ρ μ) (T ρ μ (fun d μ1 => De.nx (ρ.set i (some d)) μ1) (exAt De ρ)) := ⟨fun h => s_sSet h⟩
instance i_sAsg {De : EndsD} {ρ : Rho} {μ : Mu} {T : TD} {g : TGd} : Step (sAsg T g De ρ μ) (T ρ μ (fun d μ1 => g d ρ μ1 (fun ρ' μ' => De.nx ρ' μ') (exAt De ρ)) (exAt De ρ)) := ⟨fun h => s_sAsg h⟩
instance i_sUnp {De : EndsD} {ρ : Rho} {μ : Mu} {T : TD} {n : D → Rho → Mu → (Rho → Mu → Prop) → Prop} : Step (sUnp T n De ρ μ) (T ρ μ (fun d μ1 => n d ρ μ1 (fun ρ' μ' => De.nx ρ' μ')) (exAt De ρ)) := ⟨fun h => s_sUnp h⟩
instance i_sPar {De : EndsD} {ρ : Rho} {μ : Mu} {i j : Nat} {U : TL} : Step (sPar i j U De ρ μ) (U ρ μ (fun ds μ1 => on2 ds fun d e => De.nx ((ρ.set i (some d)).set j (some e)) μ1) (exAt De ρ)) := ⟨fun h => s_sPar h⟩
instance i_sFor {De : EndsD} {ρ : Rho} {μ : Mu} {I : TId} {n : D → Rho → Mu → (Rho → Mu → Prop) → Prop} {b : SD} : Step (sFor I n b De ρ μ) (I ρ μ (fun ds st μ1 => forD st n b De ds ρ μ1) (exAt De ρ)) := ⟨fun h => s_sFor h⟩
instance i_gSub {d : D} {ρ : Rho} {μ : Mu} {Q : Rho → Mu → Prop} {E : XQ} {To Ti : TD} : Step (gSubD To Ti d ρ μ Q E) (To ρ μ (fun o μ1 => Ti ρ μ1 (fun i μ2 => onPtr o fun n => onInt i fun k => opQ (cellL (μ2 n)) fun ds => opQ (ixN ds.length k) fun j => Q ρ (mset μ2 n (.lst (ds.set j d)))) E) E) := ⟨fun h => s_gSub h⟩
instance i_nNm {d : D} {ρ : Rho} {μ : Mu} {Q : Rho → Mu → Prop} {i : Nat} : Step (nNm i d ρ μ Q) (Q (ρ.set i (some d)) μ) := ⟨fun h => s_nNm h⟩
instance i_nTup {d : D} {ρ : Rho} {μ : Mu} {Q : Rho → Mu → Prop} {n : Nat} {U : List D → Rho → Mu → (Rho → Mu → Prop) → Prop} : Step (nTup n U d ρ μ Q) (onTup d fun ds => ds.length = n ∧ U ds ρ μ Q) := ⟨fun h => s_nTup h⟩
instance i_nNil {ρ : Rho} {μ : Mu} {Q : Rho → Mu → Prop} : Step (nNil [] ρ μ Q) (Q ρ μ) := ⟨fun h => s_nNil h⟩
instance i_nCons {d : D} {ρ : Rho} {μ : Mu} {Q : Rho → Mu → Prop} {ds : List D} {T : D → Rho → Mu → (Rho → Mu → Prop) → Prop} {U : List D → Rho → Mu → (Rho → Mu → Prop) → Prop} : Step (nCons T U (d :: ds) ρ μ Q) (T d ρ μ fun ρ' μ' => U ds ρ' μ' Q) := ⟨fun h => s_nCons h⟩
instance i_forNil {De : EndsD} {ρ : Rho} {μ : Mu} {st : Mu → Prop} {n : D → Rho → Mu → (Rho → Mu → Prop) → Prop} {b : SD} : Step (forD st n b De [] ρ μ) ((st μ ∧ De.nx ρ μ)) := ⟨fun h => s_forNil h⟩
instance i_append {ρ : Rho} {μ : Mu} {Q : QD} {E : XQ} {To : TD} {U : TL} : Step (dAppend To U ρ μ Q E) (To ρ μ (fun o μ1 => onPtr o fun n => opQ (cellL (μ1 n)) fun _ => U ρ μ1 (fun xs μ2 => on1 xs fun d => opQ (cellL (μ2 n)) fun ds => fits (ds.length + 1) = true ∧ Q .non (mset μ2 n (.lst (ds ++ [d])))) E) E) := ⟨fun h => s_append h⟩
instance i_bl {b : Bool} {K : Bool → Prop} : Step (onBl (.bl b) K) (K b) := ⟨fun h => s_bl h⟩
instance i_onInt {b : Int} {K : Int → Prop} : Step (onInt (.int b) K) (K b) := ⟨fun h => s_onInt h⟩
instance i_ptr {b : Nat} {K : Nat → Prop} : Step (onPtr (.ptr b) K) (K b) := ⟨fun h => s_ptr h⟩
instance i_onTup {b : List D} {K : List D → Prop} : Step (onTup (.tup b) K) (K b) := ⟨fun h => s_onTup h⟩
instance i_on1 {d : D} {K : D → Prop} : Step (on1 [d] K) (K d) := ⟨fun h => s_on1 h⟩
instance i_on2 {d e : D} {K : D → D → Prop} : Step (on2 [d, e] K) (K d e) := ⟨fun h => s_on2 h⟩
instance i_ifT {A B : Prop} : Step (ifB true A B) (A) := ⟨fun h => s_ifT h⟩
instance i_ifF {A B : Prop} : Step (ifB false A B) (B) := ⟨fun h => s_ifF h⟩
instance i_some {α : Type} {z : α} {K : α → Prop} : Step (opQ (some z) K) (K z) := ⟨fun h => s_some h⟩
instance i_lenT {μ : Mu} {ds : List D} {K : D → Prop} : Step (opQ (lenD μ [.tup ds]) K) (K (.int (ds.length : Nat))) := ⟨fun h => s_lenT h⟩
instance i_lenL {μ : Mu} {ds : List D} {K : D → Prop} : Step (opQ (lenD μ [.lst ds]) K) (K (.int (ds.length : Nat))) := ⟨fun h => s_lenL h⟩
instance i_add {μ : Mu} {i j : Int} {K : D → Prop} : Step (opQ (addD μ (.int i) (.int j)) K) (K (.int (i + j))) := ⟨fun h => s_add h⟩
instance i_sub {μ : Mu} {i j : Int} {K : D → Prop} : Step (opQ (subD μ (.int i) (.int j)) K) (K (.int (i - j))) := ⟨fun h => s_sub h⟩
instance i_neg {μ : Mu} {i : Int} {K : D → Prop} : Step (opQ (negD μ (.int i)) K) (K (.int (-i))) := ⟨fun h => s_neg h⟩
instance i_lt {μ : Mu} {i j : Int} {K : D → Prop} : Step (opQ (ltD μ (.int i) (.int j)) K) (K (.bl (decide (i < j)))) := ⟨fun h => s_lt h⟩
instance i_le {μ : Mu} {i j : Int} {K : D → Prop} : Step (opQ (leD μ (.int i) (.int j)) K) (K (.bl (decide (i ≤ j)))) := ⟨fun h => s_le h⟩
instance i_gt {μ : Mu} {i j : Int} {K : D → Prop} : Step (opQ (gtD μ (.int i) (.int j)) K) (K (.bl (decide (i > j)))) := ⟨fun h => s_gt h⟩
instance i_ge {μ : Mu} {i j : Int} {K : D → Prop} : Step (opQ (geD μ (.int i) (.int j)) K) (K (.bl (decide (i ≥ j)))) := ⟨fun h => s_ge h⟩
instance i_eqI {μ : Mu} {i j : Int} {K : D → Prop} : Step (opQ (eqD μ (.int i) (.int j)) K) (K (.bl (decide (i = j)))) := ⟨fun h => s_eqI h⟩
instance i_neI {μ : Mu} {i j : Int} {K : D → Prop} : Step (opQ (neD μ (.int i) (.int j)) K) (K (.bl (!decide (i = j)))) := ⟨fun h => s_neI h⟩
instance i_eqS {μ : Mu} {i j : Str} {K : D → Prop} : Step (opQ (eqD μ (.str i) (.str j)) K) (K (.bl (decide (i = j)))) := ⟨fun h => s_eqS h⟩
instance i_neS {μ : Mu} {i j : Str} {K : D → Prop} : Step (opQ (neD μ (.str i) (.str j)) K) (K (.bl (!decide (i = j)))) := ⟨fun h => s_neS h⟩
instance i_eqB {μ : Mu} {i j : Bool} {K : D → Prop} : Step (opQ (eqD μ (.bl i) (.bl j)) K) (K (.bl (decide (i = j)))) := ⟨fun h => s_eqB h⟩
instance i_neB {μ : Mu} {i j : Bool} {K : D → Prop} : Step (opQ (neD μ (.bl i) (.bl j)) K) (K (.bl (!decide (i = j)))) := ⟨fun h => s_neB h⟩
instance i_isN {μ : Mu} {d : D} {K : D → Prop} : Step (opQ (isND μ d .non) K) (K (.bl (isNon d))) := ⟨fun h => s_isN h⟩
instance i_notN {μ : Mu} {d : D} {K : D → Prop} : Step (opQ (notND μ d .non) K) (K (.bl (!isNon d))) := ⟨fun h => s_notN h⟩
instance i_truB {μ : Mu} {b : Bool} {K : Bool → Prop} : Step (opQ (truD μ (.bl b)) K) (K b) := ⟨fun h => s_truB h⟩
instance i_truI {μ : Mu} {i : Int} {K : Bool → Prop} : Step (opQ (truD μ (.int i)) K) (K (i != 0)) := ⟨fun h => s_truI h⟩
instance i_truN {μ : Mu} {K : Bool → Prop} : Step (opQ (truD μ .non) K) (K false) := ⟨fun h => s_truN h⟩
instance i_truT {μ : Mu} {ds : List D} {K : Bool → Prop} : Step (opQ (truD μ (.tup ds)) K) (K (!ds.isEmpty)) := ⟨fun h => s_truT h⟩
instance i_truL {μ : Mu} {ds : List D} {K : Bool → Prop} : Step (opQ (truD μ (.lst ds)) K) (K (!ds.isEmpty)) := ⟨fun h => s_truL h⟩
instance i_seqL {μ : Mu} {ds : List D} {K : List D → Prop} : Step (opQ (seqOf μ (.lst ds)) K) (K ds) := ⟨fun h => s_seqL h⟩
instance i_seqT {μ : Mu} {ds : List D} {K : List D → Prop} : Step (opQ (seqOf μ (.tup ds)) K) (K ds) := ⟨fun h => s_seqT h⟩
instance i_asQL {μ : Mu} {ds : List D} {K : List D → Prop} : Step (opQ (asQ μ (.lst ds)) K) (K ds) := ⟨fun h => s_asQL h⟩
instance i_asQT {μ : Mu} {ds : List D} {K : List D → Prop} : Step (opQ (asQ μ (.tup ds)) K) (K ds) := ⟨fun h => s_asQT h⟩
instance i_rt {Q : QD} {E : XQ} {d : D} {μ : Mu} : Step ((bodyEnds Q E).rt d μ) (∃ μ', Sub μ' μ ∧ Q d μ') := ⟨fun h => e_rt h⟩
instance i_nx {Q : QD} {E : XQ} {ρ : Rho} {μ : Mu} : Step ((bodyEnds Q E).nx ρ μ) (∃ μ', Sub μ' μ ∧ Q .non μ') := ⟨fun h => e_nx h⟩
instance i_ex {Q : QD} {E : XQ} {x : XD} {ρ : Rho} {μ : Mu} : Step ((bodyEnds Q E).ex x ρ μ) (∃ μ', Sub μ' μ ∧ E x μ') := ⟨fun h => e_ex h⟩
instance i_enum {ρ : Rho} {μ : Mu} {E : XQ} {T : TD} {R : List D → (Mu → Prop) → Mu → Prop} : Step (dEnum T ρ μ R E) (T ρ μ (fun d μ1 => opQ (asQ μ1 d) fun ds => R (enumD 0 ds) (stOf μ1 d) μ1) E) := ⟨fun h => s_enum h⟩
instance i_ez {ρ : Rho} {μ : Mu} {E : XQ} {T U : TD} {R : List D → (Mu → Prop) → Mu → Prop} : Step (dEZ (dCons T (dCons U dNil)) ρ μ R E) (T ρ μ (fun d μ1 => U ρ μ1 (fun e μ2 => opQ (asQ μ2 d) fun ds => opQ (asQ μ2 e) fun es => R (enumD 0 (zipD ds es)) (fun μ' => stOf μ2 d μ' ∧ stOf μ2 e μ') μ2) E) E) := ⟨fun h => s_ez h⟩
instance i_callK {ρ : Rho} {μ : Mu} {Q : QD} {E : XQ} {sp : DSp} {n m : Nat} {gD : List D → List D → List D} {U UK : TL} : Step (dCallK sp n m gD U UK ρ μ Q E) (U ρ μ (fun ds μ1 => UK ρ μ1 (fun es μ2 => ds.length = n ∧ es.length = m ∧ sp (gD ds es) μ2 Q E) E) E) := ⟨fun h => s_callK h⟩
instance i_nnT {A B : Prop} : Step (ifB (!true) A B) (B) := ⟨fun h => s_nnT h⟩
instance i_nnF {A B : Prop} : Step (ifB (!false) A B) (A) := ⟨fun h => s_nnF h⟩
instance i_selfN {α : Type} {a : α} {inst : Decidable (a = a)} {A B : Prop} : Step (ifB (!decide (a = a)) A B) (B) := ⟨fun h => s_selfN h⟩
instance i_self {α : Type} {a : α} {inst : Decidable (a = a)} {A B : Prop} : Step (ifB (decide (a = a)) A B) (A) := ⟨fun h => s_self h⟩
instance i_tfN {A B : Prop} : Step (ifB (!decide (true = false)) A B) (A) := ⟨fun h => s_tfN h⟩
instance i_ftN {A B : Prop} : Step (ifB (!decide (false = true)) A B) (A) := ⟨fun h => s_ftN h⟩
instance i_tf {A B : Prop} : Step (ifB (decide (true = false)) A B) (B) := ⟨fun h => s_tf h⟩
instance i_ft {A B : Prop} : Step (ifB (decide (false = true)) A B) (B) := ⟨fun h => s_ft h⟩
instance i_ch3 {ρ : Rho} {μ : Mu} {E : XQ} {f f' f'' : Mu → D → D → Option D} {Ta Tb Tc Td : TD} {Q : Bool → Mu → Prop} : Step (dCh3 f f' f'' Ta Tb Tc Td ρ μ Q E) (Ta ρ μ (fun x μ1 => Tb ρ μ1 (fun y μ2 => opQ (f μ2 x y) fun z => onBl z fun k => ifB k
 (Tc ρ μ2 (fun v μ3 => opQ (f' μ3 y v) fun z' => onBl z' fun k' => ifB k' (Td ρ μ3 (fun u μ4 => opQ (f'' μ4 v u) fun z'' => onBl z'' fun k'' => Q k'' μ4) E) (Q false μ3)) E) (Q false μ2)) E) E) := ⟨fun h => s_ch3 h⟩
instance i_min2 {μ : Mu} {i j : Int} {K : D → Prop} : Step (opQ (min2D μ [.int i, .int j]) K) (K (.int (if j < i then j else i))) := ⟨fun h => s_min2 h⟩
instance i_max2 {μ : Mu} {i j : Int} {K : D → Prop} : Step (opQ (max2D μ [.int i, .int j]) K) (K (.int (if i < j then j else i))) := ⟨fun h => s_max2 h⟩
instance i_slN {ρ : Rho} {μ : Mu} {Q : QD} {E : XQ} {T : TD} {L U : TOp} : Step (dSlN T L U ρ μ Q E) (T ρ μ (fun x μ1 => L ρ μ1 (fun lo μ2 => U ρ μ2 (fun hi μ3 => opQ (asL μ3 x) fun ds => newQ μ3 (.lst (Y.cutD ds lo hi)) Q) E) E) E) := ⟨fun h => s_slN h⟩
instance i_mostF {ρ : Rho} {μ : Mu} {Q : QD} {E : XQ} {T U : TD} : Step (dMostF (dCons T dNil) (dCons U dNil) ρ μ Q E) (T ρ μ (fun d μ1 => U ρ μ1 (fun e μ2 => opQ (mostF μ2 d e) fun z => Q z μ2) E) E) := ⟨fun h => s_mostF h⟩
instance i_leastF {ρ : Rho} {μ : Mu} {Q : QD} {E : XQ} {T U : TD} : Step (dLeastF (dCons T dNil) (dCons U dNil) ρ μ Q E) (T ρ μ (fun d μ1 => U ρ μ1 (fun e μ2 => opQ (leastF μ2 d e) fun z => Q z μ2) E) E) := ⟨fun h => s_leastF h⟩
instance i_orT {ρ : Rho} {μ : Mu} {Q : QD} {E : XQ} {T U : TD} : Step (dOrT T U ρ μ Q E) (T ρ μ (fun x μ1 => opQ (truD μ1 x) fun b => ifB b (Q x μ1) (U ρ μ1 Q E)) E) := ⟨fun h => s_orT h⟩
instance i_andT {ρ : Rho} {μ : Mu} {Q : QD} {E : XQ} {T U : TD} : Step (dAndT T U ρ μ Q E) (T ρ μ (fun x μ1 => opQ (truD μ1 x) fun b => ifB b (U ρ μ1 Q E) (Q x μ1)) E) := ⟨fun h => s_andT h⟩
instance i_extend {ρ : Rho} {μ : Mu} {Q : QD} {E : XQ} {To U : TD} : Step (dExtend To (dCons U dNil) ρ μ Q E) (To ρ μ (fun o μ1 => onPtr o fun n => (∃ ds, μ1 n = some (.lst ds)) ∧ U ρ μ1 (fun d μ2 => ∃ ds es, μ2 n = some (.lst ds) ∧ asL μ2 d = some es ∧ fits (ds.length + es.length) = true ∧ Q .non (mset μ2 n (.lst (ds ++ es)))) E) E) := ⟨fun h => s_extend h⟩
instance i_disp {ρ : Rho} {μ : Mu} {Q : QD} {E : XQ} {prs : List (TD × TD)} : Step (dDisp prs ρ μ Q E) (dPairs prs ρ μ (fun ps μ1 => opQ (keyed ps) fun kvs => kvs.length ≤ 15 ∧ newQ μ1 (.dk (mergeD [] kvs)) Q) E) := ⟨fun h => s_disp h⟩
instance i_pairN {ρ : Rho} {μ : Mu} {E : XQ} {Qp : List (D × D) → Mu → Prop} : Step (dPairs [] ρ μ Qp E) (Qp [] μ) := ⟨fun h => s_pairN h⟩
instance i_pairC {ρ : Rho} {μ : Mu} {E : XQ} {K V : TD} {r : List (TD × TD)} {Qp : List (D × D) → Mu → Prop} : Step (dPairs ((K, V) :: r) ρ μ Qp E) (K ρ μ (fun x μ1 => V ρ μ1 (fun y μ2 => dPairs r ρ μ2 (fun ps μ3 => Qp ((x, y) :: ps) μ3) E) E) E) := ⟨fun h => s_pairC h⟩
instance i_updD {ρ : Rho} {μ : Mu} {Q : QD} {E : XQ} {To : TD} {U : TL} : Step (dUpd To U ρ μ Q E) (To ρ μ (fun x μ1 => (∃ kvs, atDk μ1 x = some kvs) ∧ U ρ μ1 (fun xs μ2 => match x, xs with
 | .ptr n, [.ptr m] => n ≠ m ∧ opQ (atDk μ2 (.ptr n)) fun kvs => opQ (atDk μ2 (.ptr m)) fun more => fits (kvs.length + more.length) = true ∧ Q .non (mset μ2 n (.dk (mergeD kvs more)))
 | _, _ => False) E) E) := ⟨fun h => s_updD h⟩
instance i_dget2 {ρ : Rho} {μ : Mu} {Q : QD} {E : XQ} {T U V : TD} : Step (dDGet2 T U V ρ μ Q E) (T ρ μ (fun x μ1 => (∃ kvs, atDk μ1 x = some kvs) ∧ U ρ μ1 (fun y μ2 => V ρ μ2 (fun z μ3 => opQ (atDk μ3 x) fun kvs => opQ (dkey y) fun k => Q ((lookD kvs k).getD z) μ3) E) E) E) := ⟨fun h => s_dget2 h⟩
instance i_dget1 {ρ : Rho} {μ : Mu} {Q : QD} {E : XQ} {T U : TD} : Step (dDGet1 T U ρ μ Q E) (T ρ μ (fun x μ1 => (∃ kvs, atDk μ1 x = some kvs) ∧ U ρ μ1 (fun y μ2 => opQ (atDk μ2 x) fun kvs => opQ (dkey y) fun k => Q ((lookD kvs k).getD .non) μ2) E) E) := ⟨fun h => s_dget1 h⟩
instance i_dkS {x : Str} {K : Key → Prop} : Step (opQ (dkey (.str x)) K) (K (.inr x)) := ⟨fun h => s_dkS h⟩
instance i_dkI {i : Int} {K : Key → Prop} : Step (opQ (dkey (.int i)) K) (K (.inl i)) := ⟨fun h => s_dkI h⟩
instance i_rep {ρ : Rho} {μ : Mu} {Q : QD} {E : XQ} {Ta Tb : TD} : Step (dRep Ta Tb ρ μ Q E) (Ta ρ μ (fun x μ1 => Tb ρ μ1 (fun y μ2 => opQ (repP μ2 x y) fun ds => Q (.lst ds) μ2) E) E) := ⟨fun h => s_rep h⟩
instance i_repN {ρ : Rho} {μ : Mu} {Q : QD} {E : XQ} {Ta Tb : TD} : Step (dRepN Ta Tb ρ μ Q E) (Ta ρ μ (fun x μ1 => Tb ρ μ1 (fun y μ2 => opQ (repP μ2 x y) fun ds => newQ μ2 (.lst ds) Q) E) E) := ⟨fun h => s_repN h⟩
class IxG (P : Prop) : Prop where
  go : P → P
instance {μ : Mu} {a b : D} {K : D → Prop} : IxG (opQ (ixD μ a b) K) := ⟨fun h => h⟩
class LenG (P : Prop) : Prop where
  go : P → P
instance {μ : Mu} {l : List D} {K : D → Prop} : LenG (opQ (lenD μ l) K) := ⟨fun h => h⟩
class SeqG (P : Prop) : Prop where
  go : P → P
instance {μ : Mu} {d : D} {K : List D → Prop} : SeqG (opQ (seqOf μ d) K) := ⟨fun h => h⟩
instance {o : Option MO} {K : List D → Prop} : SeqG (opQ (cellL o) K) := ⟨fun h => h⟩
class ArG (P : Prop) : Prop where
  go : P → P
instance {μ : Mu} {a b : D} {K : D → Prop} : ArG (opQ (mulD μ a b) K) := ⟨fun h => h⟩
instance {μ : Mu} {a b : D} {K : D → Prop} : ArG (opQ (modD μ a b) K) := ⟨fun h => h⟩
instance {μ : Mu} {a b : D} {K : D → Prop} : ArG (opQ (fdivD μ a b) K) := ⟨fun h => h⟩
instance {μ : Mu} {a b : D} {K : D → Prop} : ArG (opQ (powD μ a b) K) := ⟨fun h => h⟩
class AndG (P : Prop) : Prop where
  go : P → P
instance {A B : Prop} : AndG (A ∧ B) := ⟨fun h => h⟩
class IsiG (P : Prop) : Prop where
  go : P → P
instance {μ : Mu} {l : List D} {K : D → Prop} : IsiG (opQ (isiD μ l) K) := ⟨fun h => h⟩
class IfG (P : Prop) : Prop where
  go : P → P
instance {d : D} {A B : Prop} : IfG (ifB (isNon d) A B) := ⟨fun h => h⟩
instance {d : D} {A B : Prop} : IfG (ifB (!isNon d) A B) := ⟨fun h => h⟩
class NatG (P : Prop) : Prop where
  go : P → P
instance {n : Nat} {k : Int} {K : Nat → Prop} : NatG (opQ (ixN n k) K) := ⟨fun h => h⟩
class StpA (P : Prop) (N : outParam Prop) : Prop where
  go : N → P
instance (priority := 500) sa_s {P N : Prop} [h : Step P N] : StpA P N := ⟨h.go⟩
instance (priority := 2000) sa_w {P N : Prop} [h : StepW P N] : StpA P N := ⟨h.go⟩
instance (priority := 1500) sa_x {P N : Prop} [h : StepX P N] : StpA P N := ⟨h.go⟩
class WalkS (P : Prop) (N : outParam Prop) : Prop where
  go : N → P
instance (priority := 100) wk_r {P : Prop} : WalkS P P := ⟨id⟩
instance (priority := 1000) wk_s {P M N : Prop} [a : StpA P M] [b : WalkS M N] : WalkS P N := ⟨fun h => a.go (b.go h)⟩
class RunS (P : Prop) (N : outParam Prop) : Prop where
  go : N → P
instance rn_s {P M N : Prop} [a : StpA P M] [b : WalkS M N] : RunS P N := ⟨fun h => a.go (b.go h)⟩
end Y
namespace Y
open PySem PySem.Spec PyProof.Rows L2
def dInR (Tx Tn : TD) : TD := fun ρ μ Q E => Tx ρ μ (fun x μ1 => Tn ρ μ1 (fun n μ2 => onInt x fun i => onInt n fun k => Q (.bl (decide (0 ≤ i ∧ i < k))) μ2) E) E
instance {Tx Tn : TD} {ρ : Rho} {μ : Mu} {Q : QD} {E : XQ} : Step (dInR Tx Tn ρ μ Q E) (Tx ρ μ (fun x μ1 => Tn ρ μ1 (fun n μ2 => onInt x fun i => onInt n fun k => Q (.bl (decide (0 ≤ i ∧ i < k))) μ2) E) E) := ⟨fun h => h⟩
abbrev TRg := Rho → Mu → (Int → Int → Mu → Prop) → XQ → Prop
def dRg1 (T : TD) : TRg := fun ρ μ Q E => T ρ μ (fun d μ1 => onInt d fun n => Q 0 n μ1) E
def dRg2 (T U : TD) : TRg := fun ρ μ Q E => T ρ μ (fun d μ1 => U ρ μ1 (fun e μ2 => onInt d fun a => onInt e fun b => Q a b μ2) E) E
def rgB (a b : Int) : Bool := decide (-1000000 ≤ a ∧ a ≤ 1000000 ∧ -1000000 ≤ b ∧ b ≤ 1000000)
def dLstRg (T : TRg) : TD := fun ρ μ Q E => T ρ μ (fun a b μ1 => rgB a b = true ∧ Q (.lst (rangeD a (b - a).toNat)) μ1) E
def dLstRgN (T : TRg) : TD := fun ρ μ Q E => T ρ μ (fun a b μ1 => rgB a b = true ∧ newQ μ1 (.lst (rangeD a (b - a).toNat)) Q) E
def dTupRg (T : TRg) : TD := fun ρ μ Q E => T ρ μ (fun a b μ1 => rgB a b = true ∧ Q (.tup (rangeD a (b - a).toNat)) μ1) E
section
variable {T U : TD} {R : TRg} {ρ : Rho} {μ : Mu} {Q : QD} {Qr : Int → Int → Mu → Prop} {E : XQ}
instance : Step (dRg1 T ρ μ Qr E) (T ρ μ (fun d μ1 => onInt d fun n => Qr 0 n μ1) E) := ⟨fun h => h⟩
instance : Step (dRg2 T U ρ μ Qr E) (T ρ μ (fun d μ1 => U ρ μ1 (fun e μ2 => onInt d fun a => onInt e fun b => Qr a b μ2) E) E) := ⟨fun h => h⟩
instance : Step (dLstRg R ρ μ Q E) (R ρ μ (fun a b μ1 => rgB a b = true ∧ Q (.lst (rangeD a (b - a).toNat)) μ1) E) := ⟨fun h => h⟩
instance : Step (dLstRgN R ρ μ Q E) (R ρ μ (fun a b μ1 => rgB a b = true ∧ newQ μ1 (.lst (rangeD a (b - a).toNat)) Q) E) := ⟨fun h => h⟩
instance : Step (dTupRg R ρ μ Q E) (R ρ μ (fun a b μ1 => rgB a b = true ∧ Q (.tup (rangeD a (b - a).toNat)) μ1) E) := ⟨fun h => h⟩
end
end Y
namespace Y
open PySem PySem.Spec PyProof.Rows L2
section
variable {g : Ge} {G : Hp} {ι : Io}
def putFD (f : Str) (d : D) : List (Str × D) → List (Str × D)
  | [] => [(f, d)]
  | (k, x) :: r => if k = f then (k, d) :: r else (k, x) :: putFD f d r
end
def fldO (c f : Str) (μ : Mu) : D → Option D
  | .ptr n => (match μ n with
    | some (.ins k fs) => if k = c then fs.lookup f else none
    | _ => none)
  | _ => none
def dFld (c f : Str) (T : TD) : TD := dUn (fldO c f) T
def putQ (c f : Str) (μ : Mu) (y x : D) (K : Mu → Prop) : Prop := match x with
  | .ptr n => (match μ n with
    | some (.ins k fs) => k = c ∧ fs.length < 1000 ∧ K (mset μ n (.ins c (putFD f y fs)))
    | _ => False)
  | _ => False
def sFldD (c f : Str) (Ta Tv : TD) : SD := fun De ρ μ => Tv ρ μ (fun y μ1 => Ta ρ μ1 (fun x μ2 => putQ c f μ2 y x fun μ3 => De.nx ρ μ3) (exAt De ρ)) (exAt De ρ)
end Y
namespace Y
open PySem PySem.Spec PyProof.Rows L2
/-- the cell is an object of the class that has no field of this name -/
def isObj (c m : Str) : Option MO → Bool
  | some (.ins k fs) => decide (k = c) && (fs.lookup m).isNone
  | _ => false
def dMeth (c m : Str) (sp : DSp) (dds : List D) (To : TD) (U : TL) : TD := fun ρ μ Q E => To ρ μ (fun o μ1 => onPtr o fun n => isObj c m (μ1 n) = true ∧ U ρ μ1 (fun ds μ2 => sp (.ptr n :: (ds ++ dds)) μ2 Q E) E) E
end Y
namespace Y
open PySem PySem.Spec PyProof.Rows L2
/-- C(..): a new object without fields, then its __init__ -/
def dMake (c : Str) (sp : DSp) (dds : List D) (U : TL) : TD := fun ρ μ Q E => U ρ μ (fun ds μ1 => ∀ n, μ1 n = none → sp (.ptr n :: (ds ++ dds)) (mset μ1 n (.ins c [])) (fun d μ2 => d = .non ∧ Q (.ptr n) μ2) E) E
end Y
namespace Y
open PySem PySem.Spec PyProof.Rows L2
section
variable {ρ : Rho} {μ : Mu} {Q : QD} {E : XQ} {De : EndsD} {c f m : Str} {sp : DSp} {dds : List D} {n : Nat} {fs : List (Str × D)}
instance i_fld {T : TD} : Step (dFld c f T ρ μ Q E) (T ρ μ (fun x μ1 => opQ (fldO c f μ1 x) fun z => Q z μ1) E) := ⟨fun h => h⟩
instance i_sFld {Ta Tv : TD} : Step (sFldD c f Ta Tv De ρ μ) (Tv ρ μ (fun y μ1 => Ta ρ μ1 (fun x μ2 => putQ c f μ2 y x fun μ3 => De.nx ρ μ3) (exAt De ρ)) (exAt De ρ)) := ⟨fun h => h⟩
instance i_meth {To : TD} {U : TL} : Step (dMeth c m sp dds To U ρ μ Q E) (To ρ μ (fun o μ1 => onPtr o fun n => isObj c m (μ1 n) = true ∧ U ρ μ1 (fun ds μ2 => sp (.ptr n :: (ds ++ dds)) μ2 Q E) E) E) := ⟨fun h => h⟩
instance i_make {U : TL} : Step (dMake c sp dds U ρ μ Q E) (U ρ μ (fun ds μ1 => ∀ n, μ1 n = none → sp (.ptr n :: (ds ++ dds)) (mset μ1 n (.ins c [])) (fun d μ2 => d = .non ∧ Q (.ptr n) μ2) E) E) := ⟨fun h => h⟩
theorem s_fld {d : D} {K : D → Prop} (e : μ n = some (.ins c fs)) (hl : fs.lookup f = some d) (h : K d) : opQ (fldO c f μ (.ptr n)) K := by
  have : fldO c f μ (.ptr n) = some d := by simp only [fldO, e, if_pos, hl]
  rw [this]
  exact h
theorem s_putF {y : D} {K : Mu → Prop} (e : μ n = some (.ins c fs)) (hl : fs.length < 1000) (h : K (mset μ n (.ins c (putFD f y fs)))) : putQ c f μ y (.ptr n) K := by
  unfold putQ
  simp only [e]
  exact ⟨trivial, hl, h⟩
theorem s_isObj {A : Prop} (e : μ n = some (.ins c fs)) (hl : fs.lookup m = none) (h : A) : isObj c m (μ n) = true ∧ A := by
  refine ⟨?_, h⟩
  rw [e]
  simp [isObj, hl]
end
end Y
namespace Y
open PySem PySem.Spec PyProof.Rows L2
def isBD (_ : Mu) (x y : D) : Option D := match x, y with
  | .non, .bl _ => some (.bl false)
  | .bl a, .bl b => some (.bl (decide (a = b)))
  | _, _ => none
instance i_isB {μ : Mu} {a b : Bool} {K : D → Prop} : Step (opQ (isBD μ (.bl a) (.bl b)) K) (K (.bl (decide (a = b)))) := ⟨fun h => h⟩
instance i_isB0 {μ : Mu} {b : Bool} {K : D → Prop} : Step (opQ (isBD μ .non (.bl b)) K) (K (.bl false)) := ⟨fun h => h⟩
end Y
namespace Y
open PySem PySem.Spec PyProof.Rows L2
class ObjG (P : Prop) : Prop where
  go : P → P
instance {c f : Str} {μ : Mu} {d : D} {K : D → Prop} : ObjG (opQ (fldO c f μ d) K) := ⟨fun h => h⟩
instance {c f : Str} {μ : Mu} {x y : D} {K : Mu → Prop} : ObjG (putQ c f μ y x K) := ⟨fun h => h⟩
instance {c m : Str} {o : Option MO} {A : Prop} : ObjG (isObj c m o = true ∧ A) := ⟨fun h => h⟩
theorem mset_ne' {μ : Mu} {n m : Nat} {o : MO} {x : Option MO} (h : m ≠ n) (e : μ m = x) : mset μ n o m = x := by rw [mset_ne h]; exact e
theorem s_truP {μ : Mu} {n : Nat} {ds : List D} {K : Bool → Prop} (e : μ n = some (.lst ds)) (h : K (!ds.isEmpty)) : opQ (truD μ (.ptr n)) K := by
  have : truD μ (.ptr n) = some (!ds.isEmpty) := by simp only [truD, e]
  rw [this]; exact h
class TruG (P : Prop) : Prop where
  go : P → P
instance {μ : Mu} {n : Nat} {K : Bool → Prop} : TruG (opQ (truD μ (.ptr n)) K) := ⟨fun h => h⟩
end Y
namespace Y
open PySem PySem.Spec PyProof.Rows L2
def idxD (μ : Mu) (o d : D) : Option Nat := match asL μ o with
  | some ds => if sh μ 32 d && sh μ 33 o then ds.findIdx? fun z => PyData.eqv (toP μ 32 z) (toP μ 32 d) else none
  | none => none
def dIndex (To : TD) (U : TL) : TD := fun ρ μ Q E => To ρ μ (fun o μ1 => (∃ ds, asL μ1 o = some ds) ∧ U ρ μ1 (fun xs μ2 => match xs with | [d] => opQ (idxD μ2 o d) fun j => Q (.int (j : Nat)) μ2 | _ => False) E) E
instance i_index {ρ : Rho} {μ : Mu} {Q : QD} {E : XQ} {To U : TD} : Step (dIndex To (dCons U dNil) ρ μ Q E) (To ρ μ (fun o μ1 => (∃ ds, asL μ1 o = some ds) ∧ U ρ μ1 (fun d μ2 => opQ (idxD μ2 o d) fun j => Q (.int (j : Nat)) μ2) E) E) := ⟨fun h => h⟩
def downD (a : Int) (n : Nat) : List D := (List.range n).map fun i => .int (a - (i : Nat))
def dRange3 (T U V : TD) : TId := fun ρ μ Q E => T ρ μ (fun d μ1 => U ρ μ1 (fun e μ2 => V ρ μ2 (fun f μ3 => match d, e, f with | .int a, .int b, .int c => c = -1 ∧ (b62 a && b62 b) = true ∧ Q (downD a (a - b).toNat) (fun _ => True) μ3 | _, _, _ => False) E) E) E
theorem y_range3 {ρ : Rho} {μ : Mu} {Q : List D → (Mu → Prop) → Mu → Prop} {E : XQ} {T U V : TD} : dRange3 T U V ρ μ Q E = T ρ μ (fun d μ1 => U ρ μ1 (fun e μ2 => V ρ μ2 (fun f μ3 => onInt d fun a => onInt e fun b => onInt f fun c => c = -1 ∧ (b62 a && b62 b) = true ∧ Q (downD a (a - b).toNat) (fun _ => True) μ3) E) E) E := by
  unfold dRange3
  congr 1
  funext x μ1
  congr 1
  funext y μ2
  congr 1
  funext z μ3
  cases x <;> cases y <;> cases z <;> rfl
instance i_range3 {ρ : Rho} {μ : Mu} {Q : List D → (Mu → Prop) → Mu → Prop} {E : XQ} {T U V : TD} : Step (dRange3 T U V ρ μ Q E) (T ρ μ (fun d μ1 => U ρ μ1 (fun e μ2 => V ρ μ2 (fun f μ3 => onInt d fun a => onInt e fun b => onInt f fun c => c = -1 ∧ (b62 a && b62 b) = true ∧ Q (downD a (a - b).toNat) (fun _ => True) μ3) E) E) E) := ⟨fun h => by rw [y_range3]; exact h⟩
end Y
namespace Y
open PySem PySem.Spec PyProof.Rows L2
def asT : D → Option (List D)
  | .tup ds => some ds
  | _ => none
/-- sorted(set(l)), l a tuple of tuples -/
def dSetKT (T : TD) : TD := fun ρ μ Q E => T ρ μ (fun d μ1 => opQ ((asT d).bind keysD) fun ks => ks.length < 64 ∧ okK ks = true ∧ Q (.lst ((sortK ks).map dK)) μ1) E
def dRevT (T : TD) : TD := fun ρ μ Q E => T ρ μ (fun d μ1 => opQ (asT d) fun ds => Q (.tup ds.reverse) μ1) E
instance i_revT {ρ : Rho} {μ : Mu} {Q : QD} {E : XQ} {T : TD} : Step (dRevT T ρ μ Q E) (T ρ μ (fun d μ1 => opQ (asT d) fun ds => Q (.tup ds.reverse) μ1) E) := ⟨fun h => h⟩
instance i_asT {ds : List D} {K : List D → Prop} : Step (opQ (asT (.tup ds)) K) (K ds) := ⟨fun h => h⟩
instance i_setKT {ρ : Rho} {μ : Mu} {Q : QD} {E : XQ} {T : TD} : Step (dSetKT T ρ μ Q E) (T ρ μ (fun d μ1 => opQ ((asT d).bind keysD) fun ks => ks.length < 64 ∧ okK ks = true ∧ Q (.lst ((sortK ks).map dK)) μ1) E) := ⟨fun h => h⟩
end Y
namespace Y
open PySem PySem.Spec PyProof.Rows L2
def catP (μ : Mu) (x y : D) : Option (List D) := (asL μ x).bind fun a => (asL μ y).bind fun b => if fits (a.length + b.length) then some (a ++ b) else none
def dCatN (Ta Tb : TD) : TD := fun ρ μ Q E => Ta ρ μ (fun x μ1 => Tb ρ μ1 (fun y μ2 => opQ (catP μ2 x y) fun ds => newQ μ2 (.lst ds) Q) E) E
instance i_catN {ρ : Rho} {μ : Mu} {Q : QD} {E : XQ} {Ta Tb : TD} : Step (dCatN Ta Tb ρ μ Q E) (Ta ρ μ (fun x μ1 => Tb ρ μ1 (fun y μ2 => opQ (catP μ2 x y) fun ds => newQ μ2 (.lst ds) Q) E) E) := ⟨fun h => h⟩
def partQ (x : D) (K : Option Int → Prop) : Prop := match x with
  | .int i => K (some i)
  | .non => K none
  | _ => False
def dPartO (T : TD) : TOp := fun ρ μ Q E => T ρ μ (fun x μ1 => partQ x fun o => Q o μ1) E
instance i_partO {ρ : Rho} {μ : Mu} {Q : Option Int → Mu → Prop} {E : XQ} {T : TD} : Step (dPartO T ρ μ Q E) (T ρ μ (fun x μ1 => partQ x fun o => Q o μ1) E) := ⟨fun h => h⟩
instance i_partI {i : Int} {K : Option Int → Prop} : Step (partQ (.int i) K) (K (some i)) := ⟨fun h => h⟩
instance i_partN {K : Option Int → Prop} : Step (partQ .non K) (K none) := ⟨fun h => h⟩
end Y
namespace Y
open PySem PySem.Spec PyProof.Rows L2
/-- the items left, what is made so far -/
def dcD (st : Mu → Prop) (n : D → Rho → Mu → (Rho → Mu → Prop) → Prop) (C : TB) (T U : TD) (ρ : Rho) (Q : KD → Mu → Prop) : List D → KD → Mu → Prop
  | [], acc, μ => st μ ∧ Q acc μ
  | d :: ds, acc, μ => st μ ∧ n d ρ μ fun ρ' μ1 => C ρ' μ1 (fun b μ2 => ifB b (T ρ' μ2 (fun y μ3 => U ρ' μ3 (fun z μ4 => opQ (dkey y) fun k => dcD st n C T U ρ Q ds (putD' acc k z) μ4) (fun _ _ => False)) (fun _ _ => False)) (dcD st n C T U ρ Q ds acc μ2)) (fun _ _ => False)
def dDc (I : TId) (n : D → Rho → Mu → (Rho → Mu → Prop) → Prop) (C : TB) (T U : TD) (vs : List Nat) : TD := fun ρ μ Q E => I ρ μ (fun ds st μ1 => ds.length ≤ sizeLine ∧ dcD st n C T U (wipeD ρ vs) (fun acc μ2 => newQ μ2 (.dk acc) Q) ds [] μ1) E
section
variable {ρ : Rho} {μ : Mu} {Q : QD} {E : XQ}
instance i_dc {I : TId} {n : D → Rho → Mu → (Rho → Mu → Prop) → Prop} {C : TB} {T U : TD} {vs : List Nat} : Step (dDc I n C T U vs ρ μ Q E) (I ρ μ (fun ds st μ1 => ds.length ≤ sizeLine ∧ dcD st n C T U (wipeD ρ vs) (fun acc μ2 => newQ μ2 (.dk acc) Q) ds [] μ1) E) := ⟨fun h => h⟩
end
end Y
namespace Y
open PySem PySem.Spec PyProof.Rows L2
def dSetW (T : TD) : TD := fun ρ μ Q E => T ρ μ (fun d μ1 => opQ ((asL μ1 d).bind intsD) fun ns => ns.length < 4000 ∧ (setI ns).length < 64 ∧ Q (.lst ((setI ns).map D.int)) μ1) E
instance i_setW {ρ : Rho} {μ : Mu} {Q : QD} {E : XQ} {T : TD} : Step (dSetW T ρ μ Q E) (T ρ μ (fun d μ1 => opQ ((asL μ1 d).bind intsD) fun ns => ns.length < 4000 ∧ (setI ns).length < 64 ∧ Q (.lst ((setI ns).map D.int)) μ1) E) := ⟨fun h => h⟩
end Y
namespace Y
open PySem PySem.Spec PyProof.Rows L2
mutual
def nkey : D → Option NestedKey
  | .non => some .none
  | .int i => some (.num i)
  | .str x => some (.text x)
  | .tup ds => (nkeys ds).map .tup
  | _ => none
def nkeys : List D → Option (List NestedKey)
  | [] => some []
  | d :: ds => (nkey d).bind fun k => (nkeys ds).map (k :: ·)
end
/-- a key of such a dict: a tuple, not too deep -/
def tkey : D → Option NestedKey
  | .tup ds => (nkeys ds).bind fun ks => if (NestedKey.tup ks).depth ≤ 8 then some (.tup ks) else none
  | _ => none
def lookN (kvs : List (NestedKey × D)) (k : NestedKey) : Option D := (kvs.find? fun x => decide (x.1 = k)).map (·.2)
def putN (kvs : List (NestedKey × D)) (k : NestedKey) (d : D) : List (NestedKey × D) := if (lookN kvs k).isSome then kvs.map fun x => if x.1 = k then (x.1, d) else x else kvs ++ [(k, d)]
theorem NkAt.stay {w : World} {a : Addr} {xs : List (NestedKey × Addr × V)} {h1 h2 : Heap} (x : NkAt w a xs h1) (k : ∀ o, h1.get? a = some o → h2.get? a = some o) : NkAt w a xs h2 := by
  obtain ⟨z1, z2, z3, ys, r, o, es, ep, ho, q⟩ := x
  exact ⟨z1, z2, z3, ys, r, o, es, ep, k o ho, q⟩
theorem NkAt.ok {P : Program} {w : World} {a : Addr} {xs : List (NestedKey × Addr × V)} {H : Hp} {h : Heap} (x : NkAt w a xs h) : ObjOk P w H h a (NkO w a xs) := by
  refine ⟨x, ?_, fun h1 h2 p k => NkAt.stay p k⟩
  obtain ⟨_, _, _, ys, _, o, es, ep, ho, _⟩ := x
  exact ⟨o, ho⟩
def dNNew : TD := fun _ μ Q _ => newQ μ (.nk []) Q
def putNQ (μ : Mu) (x y z : D) (K : Mu → Prop) : Prop := match x with
  | .ptr n => (match μ n with
    | some (.nk kvs) => kvs.length < sizeLine ∧ opQ (tkey y) fun k => K (mset μ n (.nk (putN kvs k z)))
    | _ => False)
  | _ => False
def sNPutD (T U Tv : TD) : SD := fun De ρ μ => Tv ρ μ (fun z μ1 => T ρ μ1 (fun x μ2 => U ρ μ2 (fun y μ3 => putNQ μ3 x y z fun μ4 => De.nx ρ μ4) (exAt De ρ)) (exAt De ρ)) (exAt De ρ)
section
variable {ρ : Rho} {μ : Mu} {Q : QD} {E : XQ} {De : EndsD} {T U Tv : TD}
instance i_nnew : Step (dNNew ρ μ Q E) (newQ μ (.nk []) Q) := ⟨fun h => h⟩
instance i_nput : Step (sNPutD T U Tv De ρ μ) (Tv ρ μ (fun z μ1 => T ρ μ1 (fun x μ2 => U ρ μ2 (fun y μ3 => putNQ μ3 x y z fun μ4 => De.nx ρ μ4) (exAt De ρ)) (exAt De ρ)) (exAt De ρ)) := ⟨fun h => h⟩
end
end Y
namespace Y
open PySem PySem.Spec PyProof.Rows L2
/-- x(..), where the things' making ends in a raising -/
def dCallNo (U : TL) : TD := fun ρ μ _ E => U ρ μ (fun _ _ => False) E
instance i_callNo {ρ : Rho} {μ : Mu} {Q : QD} {E : XQ} {U : TL} : Step (dCallNo U ρ μ Q E) (U ρ μ (fun _ _ => False) E) := ⟨fun h => h⟩
end Y
namespace Y
open PySem PySem.Spec PyProof.Rows L2
end Y
namespace Y
open PySem PySem.Spec PyProof.Rows L2 LamX
end Y
namespace Y
open PySem PySem.Spec PyProof.Rows L2 LamX
/-- one parameter, captured names, globals -/
structure LamP (sc scope : Scope) (a : Str) : Prop where
  kind : scope.kind = .function
  co : scope.isCoroutine = false
  gen : scope.isGenerator = false
  par : scope.names.lookup a = some .local
  own : ∀ y ∈ scope.names, y.2 ≠ .cell ∧ (y.2 = .local → y.1 = a)
  free : ∀ y ∈ scope.names, y.2 = .free → sc.names.lookup y.1 = some .cell ∨ sc.names.lookup y.1 = some .free
section
variable {X : Cx} {pins : List (Addr × Obj)} {σ : L2.St} {H : Hp} {s : Shared}
theorem LamP.has {scope : Scope} {a : Str} (L : LamP X.env.scope scope a) (ok : X.Ok) : ∀ y ∈ scope.names, y.2 = .free → ∃ c, X.env.cells.lookup y.1 = some c := fun y hy e => ok.has _ (L.free y hy e)
/-- an object made behind here is none of ours -/
structure New (X : Cx) (pins : List (Addr × Obj)) (a : Addr) : Prop where
  s : X.s_0.heap.objs.size ≤ a
  l : a ≠ X.env.locals
  c : ∀ x c, X.env.cells.lookup x = some c → c ≠ a
  p : ∀ p ∈ X.pn ++ pins, p.1 ≠ a
  f : a ∉ frs X.stack
theorem New.of {a : Addr} (J : Inv X pins σ H s) (ha : s.heap.objs.size ≤ a) : New X pins a := by
  have ne : ∀ {b : Addr} {o : Obj}, s.heap.get? b = some o → b ≠ a := fun e z => Nat.lt_irrefl _ (Nat.lt_of_lt_of_le (z ▸ Heap.lt_size e) ha)
  have hl : a ≠ X.env.locals := fun z => Nat.lt_irrefl _ (Nat.lt_of_lt_of_le (z ▸ J.lt) ha)
  refine ⟨Nat.le_trans J.sz ha, hl, fun x c e => ?_, fun p hp => ne (J.pin p hp).1, fun z => ?_⟩
  · obtain ⟨v, o, ho, _⟩ := J.cell x c e
    exact ne ho
  · rcases List.mem_cons.mp (J.stkSub a z) with q | q
    · exact hl q
    · exact J.nofs ha q
end
end Y
namespace Y
open PySem PySem.Spec PyProof.Rows L2 LamX
end Y
namespace Y
open PySem PySem.Spec PyProof.Rows L2
end Y
namespace Y
open PySem PySem.Spec PyProof.Rows L2
def dPopAt (To : TD) (U : TL) : TD := fun ρ μ Q E => To ρ μ (fun o μ1 => onPtr o fun n => opQ (cellL (μ1 n)) fun _ => U ρ μ1 (fun xs μ2 => on1 xs fun a => onInt a fun i => opQ (cellL (μ2 n)) fun ds => 0 ≤ i ∧ ∃ d, ds[i.toNat]? = some d ∧ Q d (mset μ2 n (.lst (ds.eraseIdx i.toNat)))) E) E
instance i_popAt {ρ : Rho} {μ : Mu} {Q : QD} {E : XQ} {To : TD} {U : TL} : Step (dPopAt To U ρ μ Q E) (To ρ μ (fun o μ1 => onPtr o fun n => opQ (cellL (μ1 n)) fun _ => U ρ μ1 (fun xs μ2 => on1 xs fun a => onInt a fun i => opQ (cellL (μ2 n)) fun ds => 0 ≤ i ∧ ∃ d, ds[i.toNat]? = some d ∧ Q d (mset μ2 n (.lst (ds.eraseIdx i.toNat)))) E) E) := ⟨fun h => h⟩
end Y
namespace Y
open PySem PySem.Spec PyProof.Rows L2
section
variable {X : Cx} {g : Ge}
def keyV : Key → D
  | .inl i => .int i
  | .inr x => .str x
def insT (x : Str) : List Str → List Str
  | [] => [x]
  | y :: r => if ltCps y.cps.toList x.cps.toList then y :: insT x r else x :: y :: r
def sortT : List Str → List Str
  | [] => []
  | x :: r => insT x (sortT r)
def dDictC (U : TL) : TD := fun ρ μ Q E => U ρ μ (fun xs μ1 => match xs with | [d] => opQ (atDk μ1 d) fun kvs => newQ μ1 (.dk kvs) Q | _ => False) E
instance i_dictC {ρ : Rho} {μ : Mu} {Q : QD} {E : XQ} {U : TD} : Step (dDictC (dCons U dNil) ρ μ Q E) (U ρ μ (fun d μ1 => opQ (atDk μ1 d) fun kvs => newQ μ1 (.dk kvs) Q) E) := ⟨fun h => h⟩
def dropD (kvs : KD) (k : Key) : KD := kvs.filter fun kv => decide (kv.1 ≠ k)
end
end Y
namespace Y
open PySem PySem.Spec PyProof.Rows L2
def mdel (μ : Mu) (n : Nat) : Mu := fun m => if m = n then none else μ m
section
variable {g : Ge} {F G H : Hp} {ι : Io} {μ : Mu} {a : Addr} {od : Obj} {ys : List (Key × V)}
def pairK (kv : Key × D) : D := .tup [keyV kv.1, kv.2]
/-- {k: v for k, v in d.items() ..}: the dict is locked meanwhile -/
def dDcI (T0 : TD) (n : D → Rho → Mu → (Rho → Mu → Prop) → Prop) (C : TB) (T U : TD) (vs : List Nat) : TD := fun ρ μ Q _ => ∃ m kvs, μ m = some (.dk kvs) ∧ T0 ρ (mdel μ m) (fun d μ1 => d = .ptr m ∧ kvs.length ≤ sizeLine ∧
  dcD (fun _ => True) n C T U (wipeD ρ vs) (fun acc μ2 => newQ μ2 (.dk acc) fun d' μ3 => μ3 m = none → Q d' (mset μ3 m (.dk kvs))) (kvs.map pairK) [] μ1) fun _ _ => False
end
instance i_dcI {ρ : Rho} {μ : Mu} {Q : QD} {E : XQ} {T0 : TD} {n : D → Rho → Mu → (Rho → Mu → Prop) → Prop} {C : TB} {T U : TD} {vs : List Nat} : StepX (dDcI T0 n C T U vs ρ μ Q E) (∃ m kvs, μ m = some (.dk kvs) ∧ T0 ρ (mdel μ m) (fun d μ1 => d = .ptr m ∧ kvs.length ≤ sizeLine ∧
  dcD (fun _ => True) n C T U (wipeD ρ vs) (fun acc μ2 => newQ μ2 (.dk acc) fun d' μ3 => μ3 m = none → Q d' (mset μ3 m (.dk kvs))) (kvs.map pairK) [] μ1) fun _ _ => False) := ⟨fun h => h⟩
end Y
namespace Y
open PySem PySem.Spec PyProof.Rows L2
def dSplit (To : TD) (U : TL) : TD := fun ρ μ Q E => To ρ μ (fun o μ1 => (∃ a, o = .str a) ∧ U ρ μ1 (fun xs μ2 => match o, xs with
  | .str a, [.str b] => (b.length == 0) = false ∧ a.length + 2 ≤ sizeLine ∧ Q (.lst ((Txt.split a b).map .str)) μ2
  | _, _ => False) E) E
instance i_split {ρ : Rho} {μ : Mu} {Q : QD} {E : XQ} {To : TD} {U : TL} : Step (dSplit To U ρ μ Q E) (To ρ μ (fun o μ1 => (∃ a, o = .str a) ∧ U ρ μ1 (fun xs μ2 => match o, xs with
  | .str a, [.str b] => (b.length == 0) = false ∧ a.length + 2 ≤ sizeLine ∧ Q (.lst ((Txt.split a b).map .str)) μ2
  | _, _ => False) E) E) := ⟨fun h => h⟩
def dPopK (To : TD) (U : TL) : TD := fun ρ μ Q E => To ρ μ (fun o μ1 => (∃ kvs, atDk μ1 o = some kvs) ∧ U ρ μ1 (fun xs μ2 => match o, xs with
  | .ptr n, [y] => opQ (atDk μ2 (.ptr n)) fun kvs => opQ (dkey y) fun k => opQ (lookD kvs k) fun d => Q d (mset μ2 n (.dk (dropD kvs k)))
  | _, _ => False) E) E
instance i_popK {ρ : Rho} {μ : Mu} {Q : QD} {E : XQ} {To U : TD} : Step (dPopK To (dCons U dNil) ρ μ Q E) (To ρ μ (fun o μ1 => (∃ kvs, atDk μ1 o = some kvs) ∧ U ρ μ1 (fun y μ2 => match o with
  | .ptr n => opQ (atDk μ2 (.ptr n)) fun kvs => opQ (dkey y) fun k => opQ (lookD kvs k) fun d => Q d (mset μ2 n (.dk (dropD kvs k)))
  | _ => False) E) E) := ⟨fun h => by
  refine cast (congrArg (fun K => To ρ μ K E) (funext fun o => funext fun μ1 => ?_)) h
  refine congrArg (fun p => (∃ kvs, atDk μ1 o = some kvs) ∧ p) ?_
  refine congrArg (fun K => U ρ μ1 K E) (funext fun y => funext fun μ2 => ?_)
  cases o <;> rfl⟩
end Y
namespace Y
open PySem PySem.Spec PyProof.Rows L2
def dMakeK (c : Str) (sp : DSp) (m : Nat) (gD : List D → List D → List D) (UK : TL) : TD := fun ρ μ Q E => UK ρ μ (fun es μ1 => es.length = m ∧ ∀ n, μ1 n = none → sp (gD [.ptr n] es) (mset μ1 n (.ins c [])) (fun d μ2 => d = .non ∧ Q (.ptr n) μ2) E) E
instance i_makeK {ρ : Rho} {μ : Mu} {Q : QD} {E : XQ} {c : Str} {sp : DSp} {m : Nat} {gD : List D → List D → List D} {UK : TL} : Step (dMakeK c sp m gD UK ρ μ Q E) (UK ρ μ (fun es μ1 => es.length = m ∧ ∀ n, μ1 n = none → sp (gD [.ptr n] es) (mset μ1 n (.ins c [])) (fun d μ2 => d = .non ∧ Q (.ptr n) μ2) E) E) := ⟨fun h => h⟩
end Y
namespace Y
open PySem PySem.Spec PyProof.Rows L2
def dDNew : TD := fun _ μ Q _ => newQ μ (.dk []) Q
instance i_dnew {ρ : Rho} {μ : Mu} {Q : QD} {E : XQ} : Step (dDNew ρ μ Q E) (newQ μ (.dk []) Q) := ⟨fun h => h⟩
end Y
namespace Y
open PySem PySem.Spec PyProof.Rows L2
section
variable {P : Program} {w : World} {A : Around} {E : Value → Shared → Prop} {s : Shared}
/-- at S stands a set of the texts l, each once -/
def TSet (P : Program) (w : World) (h : Heap) (S : Addr) (l : List Str) : Prop := ∃ D : Froz.SD, h.get? S = some (Froz.sObj "set" D) ∧ Froz.TxOk P w D l ∧ l.Nodup ∧ Ris D.2.2.place.toList ∧ (w.params.followText "set-order" = true ∨ D.2.2.led = true)
theorem TSet.at {h h' : Heap} {S : Addr} {l : List Str} (R : TSet P w h S l) (k : ∀ o, h.get? S = some o → h'.get? S = some o) : TSet P w h' S l := by
  obtain ⟨D, ho, r⟩ := R
  exact ⟨D, k _ ho, r⟩
end
def textsD : List D → Option (List Str)
  | [] => some []
  | .str x :: r => (textsD r).map (x :: ·)
  | _ :: _ => none
def nubT : List Str → List Str
  | [] => []
  | x :: r => if x ∈ nubT r then nubT r else x :: nubT r
/-- the texts of a list, each once, in order -/
def setT (l : List Str) : List Str := sortT (nubT l)
def dSetX (T : TD) : TD := fun ρ μ Q E => T ρ μ (fun d μ1 => opQ ((asL μ1 d).bind textsD) fun ns => ns.length < 64 ∧ Q (.lst ((setT ns).map D.str)) μ1) E
section
variable {ρ : Rho} {μ : Mu} {Q : QD} {E : XQ}
instance i_setX {T : TD} : Step (dSetX T ρ μ Q E) (T ρ μ (fun d μ1 => opQ ((asL μ1 d).bind textsD) fun ns => ns.length < 64 ∧ Q (.lst ((setT ns).map D.str)) μ1) E) := ⟨fun h => h⟩
end
end Y
namespace Y
open PySem PySem.Spec PyProof.Rows L2
/-- len(x) by x's own __len__ -/
def dLenO (c : Str) (sp : DSp) (dds : List D) (To : TD) : TD := fun ρ μ Q E => To ρ μ (fun x μ1 => onPtr x fun n => isObj c "__len__" (μ1 n) = true ∧ sp (.ptr n :: dds) μ1 (fun z μ2 => ∃ n : Int, z = .int n ∧ 0 ≤ n ∧ n < 2 ^ 63 ∧ Q (.int n) μ2) E) E
section
variable {ρ : Rho} {μ : Mu} {Q : QD} {E : XQ}
instance i_lenO {c : Str} {sp : DSp} {dds : List D} {To : TD} : Step (dLenO c sp dds To ρ μ Q E) (To ρ μ (fun x μ1 => onPtr x fun n => isObj c "__len__" (μ1 n) = true ∧ sp (.ptr n :: dds) μ1 (fun z μ2 => ∃ n : Int, z = .int n ∧ 0 ≤ n ∧ n < 2 ^ 63 ∧ Q (.int n) μ2) E) E) := ⟨fun h => h⟩
end
end Y
namespace Y
open PySem PySem.Spec PyProof.Rows L2
def dSetTI (T : TD) : TD := fun ρ μ Q E => T ρ μ (fun d μ1 => opQ ((asT d).bind intsD) fun ns => ns.length < 64 ∧ Q (.lst ((setI ns).map D.int)) μ1) E
def dReverse (To : TD) : TD := fun ρ μ Q E => To ρ μ (fun o μ1 => onPtr o fun n => ∃ ds, μ1 n = some (.lst ds) ∧ Q .non (mset μ1 n (.lst ds.reverse))) E
section
variable {ρ : Rho} {μ : Mu} {Q : QD} {E : XQ}
instance i_setTI {T : TD} : Step (dSetTI T ρ μ Q E) (T ρ μ (fun d μ1 => opQ ((asT d).bind intsD) fun ns => ns.length < 64 ∧ Q (.lst ((setI ns).map D.int)) μ1) E) := ⟨fun h => h⟩
instance i_reverse {To : TD} : Step (dReverse To ρ μ Q E) (To ρ μ (fun o μ1 => onPtr o fun n => ∃ ds, μ1 n = some (.lst ds) ∧ Q .non (mset μ1 n (.lst ds.reverse))) E) := ⟨fun h => h⟩
end
end Y
namespace Y
open PySem PySem.Spec PyProof.Rows L2
def putDQ (μ : Mu) (x y z : D) (K : Mu → Prop) : Prop := match x with
  | .ptr n => opQ (atDk μ (.ptr n)) fun kvs => opQ (dkey y) fun k => kvs.length < sizeLine ∧ K (mset μ n (.dk (putD' kvs k z)))
  | _ => False
def sDPutD (T U Tv : TD) : Y.SD := fun De ρ μ => Tv ρ μ (fun z μ1 => T ρ μ1 (fun x μ2 => U ρ μ2 (fun y μ3 => putDQ μ3 x y z fun μ4 => De.nx ρ μ4) (exAt De ρ)) (exAt De ρ)) (exAt De ρ)
section
variable {ρ : Rho} {μ : Mu} {De : EndsD} {T U Tv : TD}
instance i_dput : Step (sDPutD T U Tv De ρ μ) (Tv ρ μ (fun z μ1 => T ρ μ1 (fun x μ2 => U ρ μ2 (fun y μ3 => putDQ μ3 x y z fun μ4 => De.nx ρ μ4) (exAt De ρ)) (exAt De ρ)) (exAt De ρ)) := ⟨fun h => h⟩
end
end Y
namespace Y
open PySem PySem.Spec PyProof.Rows L2
section
variable {g : Ge} {F G H : Hp} {ι : Io} {μ : Mu} {a : Addr} {od : Obj} {ys : List (Key × V)} {n : Nat} {kvs : KD}
/-- the dict is locked meanwhile -/
def dLcK (T0 : TD) (n : D → Rho → Mu → (Rho → Mu → Prop) → Prop) (C : TB) (T : TD) (vs : List Nat) : TD := fun ρ μ Q _ => ∃ m kvs, μ m = some (.dk kvs) ∧ kvs.length ≤ sizeLine ∧ ∀ od ys, T0 ρ (mset μ m (.lk od ys kvs)) (fun d μ1 => d = .ptr m ∧
  lcD (fun μ' => μ' m = some (.lk od ys kvs)) n C T (wipeD ρ vs) (fun acc μ2 => μ2 m = some (.lk od ys kvs) ∧ Q (.lst acc) (mset μ2 m (.dk kvs))) (kvs.map fun kv => keyV kv.1) [] μ1) fun _ _ => False
variable {X : Cx} {W : WX} {elt tg iter : Expr} {ifs : List Expr} {scope : Scope} {own : List (Str × Nat)} {ws vs : List Nat} {pos : Pos} {T0 : TD} {nn : D → Rho → Mu → (Rho → Mu → Prop) → Prop} {C : TB} {T : TD}
end
section
variable {ρ : Rho} {μ : Mu} {Q : QD} {E : XQ} {T0 : TD} {nn : D → Rho → Mu → (Rho → Mu → Prop) → Prop} {C : TB} {T : TD} {vs : List Nat}
instance i_lcK : StepX (dLcK T0 nn C T vs ρ μ Q E) (∃ m kvs, μ m = some (.dk kvs) ∧ kvs.length ≤ sizeLine ∧ ∀ od ys, T0 ρ (mset μ m (.lk od ys kvs)) (fun d μ1 => d = .ptr m ∧
  lcD (fun μ' => μ' m = some (.lk od ys kvs)) nn C T (wipeD ρ vs) (fun acc μ2 => μ2 m = some (.lk od ys kvs) ∧ Q (.lst acc) (mset μ2 m (.dk kvs))) (kvs.map fun kv => keyV kv.1) [] μ1) fun _ _ => False) := ⟨fun h => h⟩
end
end Y
namespace Y
open PySem PySem.Spec PyProof.Rows L2
def dPop (To : TD) : TD := fun ρ μ Q E => To ρ μ (fun o μ1 => onPtr o fun n => ∃ ds d, μ1 n = some (.lst ds) ∧ ds[ds.length - 1]? = some d ∧ Q d (mset μ1 n (.lst ds.dropLast))) E
def dClear (To : TD) : TD := fun ρ μ Q E => To ρ μ (fun o μ1 => onPtr o fun n => ∃ ds, μ1 n = some (.lst ds) ∧ Q .non (mset μ1 n (.lst []))) E
def sTryFin (b f : SD) : SD := fun De ρ μ => b { nx := f { De with ex := fun _ _ _ => False }, rt := fun _ _ => False, bk := fun _ _ => False, ct := fun _ _ => False, ex := fun _ _ _ => False } ρ μ
theorem LiftEnds.bare {W : WX} {g : Ge} {F G : Hp} {ι : Io} {De : EndsD} {Dh : Ends} (l : LiftEnds W g F G ι De Dh) : LiftEnds noW g F G ι { De with ex := fun _ _ _ => False } Dh :=
  ⟨l.nx, l.rt, l.bk, l.ct, fun _ _ _ _ _ _ _ _ _ _ _ _ _ z => z⟩
section
variable {ρ : Rho} {μ : Mu} {Q : QD} {E : XQ}
instance i_pop {To : TD} : Step (dPop To ρ μ Q E) (To ρ μ (fun o μ1 => onPtr o fun n => ∃ ds d, μ1 n = some (.lst ds) ∧ ds[ds.length - 1]? = some d ∧ Q d (mset μ1 n (.lst ds.dropLast))) E) := ⟨fun h => h⟩
instance i_clear {To : TD} : Step (dClear To ρ μ Q E) (To ρ μ (fun o μ1 => onPtr o fun n => ∃ ds, μ1 n = some (.lst ds) ∧ Q .non (mset μ1 n (.lst []))) E) := ⟨fun h => h⟩
instance i_tryFin {b f : SD} {De : EndsD} : Step (sTryFin b f De ρ μ) (b { nx := f { De with ex := fun _ _ _ => False }, rt := fun _ _ => False, bk := fun _ _ => False, ct := fun _ _ => False, ex := fun _ _ _ => False } ρ μ) := ⟨fun h => h⟩
end
end Y
namespace Y
open PySem PySem.Spec PyProof.Rows L2
end Y
namespace Y
open PySem PySem.Spec PyProof.Rows L2
end Y
namespace Y
open PySem PySem.Spec PyProof.Rows L2 LamX
end Y
namespace Y
open PySem PySem.Spec PyProof.Rows L2
def dTxM (f : Mu → D → D → Option D) (To : TD) (U : TL) : TD := fun ρ μ Q E => To ρ μ (fun o μ1 => (∃ a, o = .str a) ∧ U ρ μ1 (fun xs μ2 => match xs with
  | [y] => opQ (f μ2 o y) fun z => Q z μ2
  | _ => False) E) E
def startsD (_ : Mu) : D → D → Option D
  | .str a, .str b => some (.bl (Txt.startswith a b))
  | _, _ => none
def endsD (_ : Mu) : D → D → Option D
  | .str a, .str b => some (.bl (Txt.endswith a b))
  | _, _ => none
def strD : Mu → List D → Option D := fun _ ds => match ds with
  | [.str a] => some (.str a)
  | [.int i] => if i.natAbs.log2 < 1920 then some (.str (toString i)) else none
  | _ => none
def fmtD (x : D) : Option Str := match x with
  | .str y => if fits y.length then some y else none
  | .int i => if i.natAbs.log2 < 1920 then some (toString i) else none
  | _ => none
def dFmt (T : TD) : TD := fun ρ μ Q E => T ρ μ (fun x μ1 => opQ (fmtD x) fun y => Q (.str y) μ1) E
def dJs : List TD → Str → Rho → Mu → (Str → Mu → Prop) → XQ → Prop
  | [], acc, _, μ, Q, _ => Q acc μ
  | T :: Ts, acc, ρ, μ, Q, E => T ρ μ (fun x μ1 => match x with
    | .str y => fits (acc ++ y).length = true ∧ dJs Ts (acc ++ y) ρ μ1 Q E
    | _ => False) E
def dJoined (Ts : List TD) : TD := fun ρ μ Q E => dJs Ts Str.empty ρ μ (fun y μ1 => Q (.str y) μ1) E
section
variable {ρ : Rho} {μ : Mu} {Q : QD} {E : XQ} {K : D → Prop}
instance i_txm {f : Mu → D → D → Option D} {To : TD} {U : TL} : Step (dTxM f To U ρ μ Q E) (To ρ μ (fun o μ1 => (∃ a, o = .str a) ∧ U ρ μ1 (fun xs μ2 => match xs with
  | [y] => opQ (f μ2 o y) fun z => Q z μ2
  | _ => False) E) E) := ⟨fun h => h⟩
instance i_fmt {T : TD} : Step (dFmt T ρ μ Q E) (T ρ μ (fun x μ1 => opQ (fmtD x) fun y => Q (.str y) μ1) E) := ⟨fun h => h⟩
instance i_joined {Ts : List TD} : Step (dJoined Ts ρ μ Q E) (dJs Ts Str.empty ρ μ (fun y μ1 => Q (.str y) μ1) E) := ⟨fun h => h⟩
instance i_jsN {acc : Str} {P : Str → Mu → Prop} : Step (dJs [] acc ρ μ P E) (P acc μ) := ⟨fun h => h⟩
instance i_jsC {T : TD} {Ts : List TD} {acc : Str} {P : Str → Mu → Prop} : Step (dJs (T :: Ts) acc ρ μ P E) (T ρ μ (fun x μ1 => match x with
    | .str y => fits (acc ++ y).length = true ∧ dJs Ts (acc ++ y) ρ μ1 P E
    | _ => False) E) := ⟨fun h => h⟩
instance i_starts {a b : Str} : StepW (opQ (startsD μ (.str a) (.str b)) K) (K (.bl (Txt.startswith a b))) := ⟨fun h => h⟩
instance i_ends {a b : Str} : StepW (opQ (endsD μ (.str a) (.str b)) K) (K (.bl (Txt.endswith a b))) := ⟨fun h => h⟩
instance i_strS {a : Str} : StepW (opQ (strD μ [.str a]) K) (K (.str a)) := ⟨fun h => h⟩
end
end Y
namespace PySem
open Sem (wp)
end PySem
namespace PySem
open Sem (wp)
end PySem
namespace Y
open PySem PySem.Spec PyProof.Rows L2
end Y
namespace Y
open PySem PySem.Spec PyProof.Rows L2
def dZS (T : TL) : TId := fun ρ μ Q E => T ρ μ (fun dd μ1 => match dd with | [.str x, e] => (opQ (asL μ1 e) fun es => es.length = x.length ∧ Q (zipD (signsD x) es) (fun μ' => stOf μ1 e μ') μ1) | _ => False) E
section
variable {X : Cx} {W : WX} {g : Ge} {F G H : Hp} {ι : Io} {μ : Mu}
instance i_zs {ρ : Rho} {μ : Mu} {E : XQ} {T : TL} {R : List D → (Mu → Prop) → Mu → Prop} : Step (dZS T ρ μ R E) (T ρ μ (fun dd μ1 => match dd with | [.str x, e] => (opQ (asL μ1 e) fun es => es.length = x.length ∧ R (zipD (signsD x) es) (fun μ' => stOf μ1 e μ') μ1) | _ => False) E) := ⟨fun h => h⟩
end
end Y
namespace Y
open PySem PySem.Spec PyProof.Rows L2
section
variable {X : Cx} {W : WX} {x : Str} {kvs : List (Str × TV)}
/-- table.get(T) -/
def dTabGet1 (kvs : List (Str × TV)) (T : TD) : TD := fun ρ μ Q E => T ρ μ (fun a μ1 => match a with | .str z => Q ((tabD kvs z).getD .non) μ1 | _ => False) E
instance i_tabGet1 {ρ : Rho} {μ : Mu} {Q : QD} {E : XQ} {T : TD} : Step (dTabGet1 kvs T ρ μ Q E) (T ρ μ (fun a μ1 => match a with | .str z => Q ((tabD kvs z).getD .non) μ1 | _ => False) E) := ⟨fun h => h⟩
end
end Y
namespace Y
open PySem PySem.Spec PyProof.Rows L2
/-- the context of a suite that may raise -/
abbrev suiteY (X : Cx) (a : Addr) (pn : List (Addr × Obj)) (xe : Value → Shared → Prop) : Cx := { X with A := X.A.mark (some (.ref a)), calm := false, pn := pn, xe := xe }
section
variable {X : Cx} {pins : List (Addr × Obj)}
/-- what a raising suite's exception does behind -/
def hotO (K : PySem.W.Frag) (i : Nat) (Wo : WX) : WX := fun c d σ H => HotV K c ∧ Wo c d (σ.set i none) H
end
end Y
namespace Y
open PySem PySem.Spec PyProof.Rows L2
/-- a clause: its classes, the slot of its name, whether it raises, its suite -/
structure ClY where
  cs : List Value
  i : Option Nat
  hot : Bool
  ts : Addr → Value → Option Addr → TS
inductive SpY (X : Cx) : Expr → List Value → Prop
  | one {x : Str} {c : Value} {np : Pos} (hc : Names X x c) : SpY X (.Name x np) [c]
  | two {x y : Str} {c1 c2 : Value} {np nq tp : Pos} {k : Nat} (hc1 : Names X x c1) (hc2 : Names X y c2) : SpY X (.Tuple [.Name x np, .Name y nq] k tp) [c1, c2]
inductive HdsY (X : Cx) (Wo : WX) : List ExceptHandler → List ClY → Prop
  | nil : HdsY X Wo [] []
  | calm0 {e : Expr} {c : ClY} {b₀ : Stmt} {su : List Stmt} {p' : Pos} {hds : List ExceptHandler} {l : List ClY} (sp : SpY X e c.cs) (ei : c.i = none) (eh : c.hot = false)
      (hsu : ∀ (a : Addr) (oe : Obj) (cls : Value) (d : Option Addr) (pn : List (Addr × Obj)), Zc cls d oe → (∃ vs, oe.data = .fields vs) → PSs (X.suite a ((a, oe) :: pn)) (b₀ :: su) (c.ts a cls d)) (r : HdsY X Wo hds l) : HdsY X Wo (.ExceptHandler (some e) none (b₀ :: su) p' :: hds) (c :: l)
  | calm1 {e : Expr} {n : Str} {i : Nat} {c : ClY} {b₀ : Stmt} {su : List Stmt} {p' : Pos} {hds : List ExceptHandler} {l : List ClY} (sp : SpY X e c.cs) (ei : c.i = some i) (hi : X.N[i]? = some n) (hln : X.env.kindOf n = some .local) (eh : c.hot = false)
      (hsu : ∀ (a : Addr) (oe : Obj) (cls : Value) (d : Option Addr) (pn : List (Addr × Obj)), Zc cls d oe → (∃ vs, oe.data = .fields vs) → PSs (X.suite a ((a, oe) :: pn)) (b₀ :: su) (c.ts a cls d)) (r : HdsY X Wo hds l) : HdsY X Wo (.ExceptHandler (some e) (some n) (b₀ :: su) p' :: hds) (c :: l)
  | hot1 {e : Expr} {n : Str} {i : Nat} {c : ClY} {b₀ : Stmt} {su : List Stmt} {p' : Pos} {hds : List ExceptHandler} {l : List ClY} (sp : SpY X e c.cs) (ei : c.i = some i) (hi : X.N[i]? = some n) (hln : X.env.kindOf n = some .local) (eh : c.hot = true)
      (hsu : ∀ (a : Addr) (oe : Obj) (cls : Value) (d : Option Addr) (pn : List (Addr × Obj)) (xe : Value → Shared → Prop), L2N.Zn cls d oe → (∃ vs, oe.data = .fields vs) → L2.Takes (suiteY X a ((a, oe) :: pn) xe) (hotO X.K i Wo) → L2H.HotC (suiteY X a ((a, oe) :: pn) xe) →
        PSs (suiteY X a ((a, oe) :: pn) xe) (b₀ :: su) (c.ts a cls d)) (r : HdsY X Wo hds l) : HdsY X Wo (.ExceptHandler (some e) (some n) (b₀ :: su) p' :: hds) (c :: l)
end Y
namespace Y
open PySem PySem.Spec PyProof.Rows L2
section
variable {X : Cx} {pins : List (Addr × Obj)} {σ : L2.St} {H : Hp} {s : Shared} {Wo : WX} {De : Ends} {tb : WX → TS} {body : List Stmt} {h0 : ExceptHandler} {hds : List ExceptHandler} {l : List ClY} {pos : Pos}
variable {f₀ : Stmt} {fs : List Stmt} {tf tfs : TS}
theorem SpY.tr {pn : List (Addr × Obj)} {xe : Value → Shared → Prop} {e : Expr} {cs : List Value} (h : SpY X e cs) : SpY (X.tr pn xe) e cs := by
  cases h with
  | one a => exact .one a
  | two a b => exact .two a b
theorem HdsY.tr {Wi : WX} {pn : List (Addr × Obj)} {xe : Value → Shared → Prop} {hs : List ExceptHandler} {m : List ClY} (h : HdsY X Wi hs m) : HdsY (X.tr pn xe) Wi hs m := by
  induction h with
  | nil => exact .nil
  | calm0 sp ei eh hsu r ih => exact .calm0 sp.tr ei eh hsu ih
  | calm1 sp ei hi hln eh hsu r ih => exact .calm1 sp.tr ei hi hln eh hsu ih
  | hot1 sp ei hi hln eh hsu r ih => exact .hot1 sp.tr ei hi hln eh hsu ih
end
end Y
namespace Y
open PySem PySem.Spec PyProof.Rows L2
abbrev E0 : XK := fun _ _ _ => False
end Y
namespace Y
open PySem PySem.Spec PyProof.Rows L2
end Y
namespace Y
open PySem PySem.Spec PyProof.Rows L2
def sRaiseD (x : Str) (n : Nat) (fl : Fl) (dds : List D) (U : TL) : SD := fun De ρ μ => U ρ μ (fun ds μ1 => (ds ++ dds).length = n ∧ De.ex ⟨x, fldD fl.reverse (ds ++ dds)⟩ ρ μ1) (exAt De ρ)
def dExF (x f : Str) (n : Nat) (fl : Fl) (dds : List D) (U : TL) : TD := fun ρ μ Q E => U ρ μ (fun ds μ1 => (ds ++ dds).length = n ∧ opQ ((fldD fl.reverse (ds ++ dds)).lookup f) fun d => Q d μ1) E
end Y
namespace Y
open PySem PySem.Spec PyProof.Rows L2
/-- what a clause does: a name is set to fields, a constant or a written text is returned, another one is raised from it -/
inductive HB where
  | asg (t : Nat) (h : HX) | retC (c : Option Str) | retF (is : List HI) | rais (x : Str) (n : Nat) (fl : Fl) (dds : List D) (U : TL)
def HB.flds : HB → List Str
  | .asg _ h => h.flds
  | .retF is => is.flatMap HI.flds
  | _ => []
def HB.few : HB → Prop
  | .asg _ h => h.few
  | .rais _ n _ _ _ => n ≤ 900
  | _ => True
def HB.hot : HB → Bool
  | .rais .. => true
  | _ => false
structure CY where
  tab : List (Str × Bool)
  slot : Option Nat
  h : HB
def unO (i : Option Nat) (ρ : Rho) : Rho := match i with
  | none => ρ
  | some j => ρ.set j none
def isIn (i : Option Nat) (ρ : Rho) : Prop := match i with
  | none => True
  | some j => j < ρ.length
def partHI (x : XD) : HI → Option Str
  | .con c => c
  | .fld f => (x.fs.lookup f).bind fmtD
def joinHI (x : XD) : List HI → Str → Option Str
  | [], acc => some acc
  | i :: r, acc => (partHI x i).bind fun y => if fits (acc ++ y).length = true then joinHI x r (acc ++ y) else none
def bodyY (De : EndsD) (c : CY) (x : XD) (ρ : Rho) (μ : Mu) : Prop := match c.h with
  | .asg t h => opQ (h.val x) fun d => De.nx (unO c.slot ((unO c.slot ρ).set t (some d))) μ
  | .retC v => De.rt (conD v) μ
  | .retF is => opQ (joinHI x is Str.empty) fun y => De.rt (.str y) μ
  | .rais y n fl dds U => y ∈ hotN ∧ U (unO c.slot ρ) μ (fun ds μ1 => (ds ++ dds).length = n ∧ De.ex ⟨y, fldD fl.reverse (ds ++ dds)⟩ (unO c.slot ρ) μ1) (fun _ _ => False)
def catchY (De : EndsD) : List CY → XD → Rho → Mu → Prop
  | [], x, ρ, μ => De.ex x ρ μ
  | c :: r, x, ρ, μ => match c.tab.lookup x.cls with
    | some true => isIn c.slot ρ ∧ bodyY De c x ρ μ
    | some false => catchY De r x ρ μ
    | none => False
def sTryY (b : SD) (cl : List CY) : SD := fun De ρ μ => b { De with ex := fun x ρ' μ' => catchY De cl x ρ' μ' } ρ μ
/-- all that a reading of things tells -/
def cL (W : WX) (g : Ge) (U : TL) : TA := fun σ H P => ∃ F G ι ρ μ Q E, RhoRel g G ι σ ρ ∧ Rel g F G ι H μ ∧ XLift W g F G ι σ E ∧ U ρ μ Q E ∧ ∀ G' ι' μ' H' vs ds, Ext G ι G' ι' → Rel g F G' ι' H' μ' → VDs g G' ι' vs ds → Q ds μ' → P vs H'
theorem DA.can {X : Cx} {W : WX} {g : Ge} {es : List Expr} {U : TL} (h : DA X W g es U) : PA X es (cL W g U) := by
  obtain ⟨t, h1, h2⟩ := h
  exact ⟨fun pos pins s σ H P I ⟨F, G, ι, ρ, μ, Q, E, r, R, L, q, k⟩ => h1.run pos pins s σ H P I (h2 F G ι σ H ρ μ Q E P r R L q k)⟩
end Y
namespace Y
open PySem PySem.Spec PyProof.Rows L2
section
variable {X : Cx} {W : WX} {b f : SD} {body : List Stmt} {h0 : ExceptHandler} {hds : List ExceptHandler} {cl : List (CY × List Addr)} {pos : Pos} {j : Nat}
/-- behind the clauses comes the suite f, on whichever way -/
def endFY (hs : List Str) (f : SD) (De : EndsD) : EndsD where
  nx := fun ρ μ => f { De with ex := fun _ _ _ => False } ρ μ
  rt := fun _ _ => False
  bk := fun _ _ => False
  ct := fun _ _ => False
  ex := fun x ρ μ => x.cls ∈ hs ∧ f { nx := fun ρ2 μ2 => De.ex x ρ2 μ2, rt := fun _ _ => False, bk := fun _ _ => False, ct := fun _ _ => False, ex := fun _ _ _ => False } ρ μ
def sTryFY (hs : List Str) (b : SD) (cl : List CY) (f : SD) : SD := fun De ρ μ => b { endFY hs f De with ex := fun x ρ' μ' => catchY (endFY hs f De) cl x ρ' μ' } ρ μ
end
section
variable {ρ : Rho} {μ : Mu} {De : EndsD}
instance i_tryY {b : SD} {cl : List CY} : Step (sTryY b cl De ρ μ) (b { De with ex := fun x ρ' μ' => catchY De cl x ρ' μ' } ρ μ) := ⟨fun h => h⟩
instance i_tryFY {hs : List Str} {b f : SD} {cl : List CY} : Step (sTryFY hs b cl f De ρ μ) (b { endFY hs f De with ex := fun x ρ' μ' => catchY (endFY hs f De) cl x ρ' μ' } ρ μ) := ⟨fun h => h⟩
instance i_raiseD {x : Str} {n : Nat} {fl : Fl} {dds : List D} {U : TL} : Step (sRaiseD x n fl dds U De ρ μ) (U ρ μ (fun ds μ1 => (ds ++ dds).length = n ∧ De.ex ⟨x, fldD fl.reverse (ds ++ dds)⟩ ρ μ1) (exAt De ρ)) := ⟨fun h => h⟩
instance i_exF {x f : Str} {n : Nat} {fl : Fl} {dds : List D} {U : TL} {Q : QD} {E : XQ} : Step (dExF x f n fl dds U ρ μ Q E) (U ρ μ (fun ds μ1 => (ds ++ dds).length = n ∧ opQ ((fldD fl.reverse (ds ++ dds)).lookup f) fun d => Q d μ1) E) := ⟨fun h => h⟩
end
end Y
namespace Y
open PySem PySem.Spec PyProof.Rows L2
end Y
namespace Y
open PySem PySem.Spec PyProof.Rows L2
def notBD (_ : Mu) (x y : D) : Option D := match x, y with
  | .non, .bl _ => some (.bl true)
  | .bl a, .bl b => some (.bl (!decide (a = b)))
  | _, _ => none
instance i_notB {μ : Mu} {a b : Bool} {K : D → Prop} : Step (opQ (notBD μ (.bl a) (.bl b)) K) (K (.bl (!decide (a = b)))) := ⟨fun h => h⟩
instance i_notB0 {μ : Mu} {b : Bool} {K : D → Prop} : Step (opQ (notBD μ .non (.bl b)) K) (K (.bl true)) := ⟨fun h => h⟩
end Y
namespace Y
open PySem PySem.Spec PyProof.Rows L2
end Y
namespace PySem.W
open PySem PySem.Calls PyProof.Rows PyProof.V PySem.Spec
end PySem.W
namespace Y
open PySem PySem.Spec PyProof.Rows L2
/-- x == y (neg: x != y) by an own __eq__ -/
def dOwn (neg : Bool) (c : Str) (sp : DSp) (Ta Tb : TD) : TD := fun ρ μ Q E => Ta ρ μ (fun x μ1 => Tb ρ μ1 (fun y μ2 => onPtr x fun n => onPtr y fun m => isObj c "__eq__" (μ2 n) = true ∧ isObj c "__eq__" (μ2 m) = true ∧ sp [.ptr n, .ptr m] μ2 (fun d μ' => onBl d fun k => Q (.bl (neg ^^ k)) μ') fun _ _ => False) E) E
section
variable {ρ : Rho} {μ : Mu} {Q : QD} {E : XQ} {neg : Bool} {c : Str} {sp : DSp} {Ta Tb : TD}
instance i_own : Step (dOwn neg c sp Ta Tb ρ μ Q E) (Ta ρ μ (fun x μ1 => Tb ρ μ1 (fun y μ2 => onPtr x fun n => onPtr y fun m => isObj c "__eq__" (μ2 n) = true ∧ isObj c "__eq__" (μ2 m) = true ∧ sp [.ptr n, .ptr m] μ2 (fun d μ' => onBl d fun k => Q (.bl (neg ^^ k)) μ') fun _ _ => False) E) E) := ⟨fun h => h⟩
end
end Y
namespace Y
open PySem PySem.Spec PyProof.Rows L2
def isO (c : Str) (μ : Mu) (x : D) : Option D := match x with
  | .ptr n => (match μ n with
    | some (.ins k _) => if k = c then some (.bl true) else none
    | some (.lst _) => some (.bl false)
    | _ => none)
  | .int _ => some (.bl false)
  | .str _ => some (.bl false)
  | .non => some (.bl false)
  | _ => none
def dIsO (c : Str) (T : TD) : TD := fun ρ μ Q E => T ρ μ (fun x μ1 => opQ (isO c μ1 x) fun z => Q z μ1) E
instance i_isO {c : Str} {T : TD} {ρ : Rho} {μ : Mu} {Q : QD} {E : XQ} : Step (dIsO c T ρ μ Q E) (T ρ μ (fun x μ1 => opQ (isO c μ1 x) fun z => Q z μ1) E) := ⟨fun h => h⟩
end Y
namespace Y
open PySem PySem.Spec PyProof.Rows L2
def nAtt (c f : Str) (i : Nat) : D → Rho → Mu → (Rho → Mu → Prop) → Prop := fun d ρ μ Q => opQ (slot ρ i) fun x => putQ c f μ d x fun μ' => Q ρ μ'
instance i_nAtt {c f : Str} {i : Nat} {d : D} {ρ : Rho} {μ : Mu} {K : Rho → Mu → Prop} : Step (nAtt c f i d ρ μ K) (opQ (slot ρ i) fun x => putQ c f μ d x fun μ' => K ρ μ') := ⟨fun h => h⟩
end Y
namespace Y
open PySem PySem.Spec PyProof.Rows L2
end Y
namespace Y
open PySem PySem.Spec PyProof.Rows L2
def nSub (To Ti : TD) : D → Rho → Mu → (Rho → Mu → Prop) → Prop := fun d ρ μ Q => gSubD To Ti d ρ μ Q fun _ _ => False
instance i_nSub {d : D} {ρ : Rho} {μ : Mu} {Q : Rho → Mu → Prop} {To Ti : TD} : Step (nSub To Ti d ρ μ Q) (gSubD To Ti d ρ μ Q fun _ _ => False) := ⟨fun h => h⟩
end Y
namespace Y
open PySem PySem.Spec PyProof.Rows L2
/-- a tuple without a dict of its own -/
def NdT (K : PySem.W.Frag) (H : Hp) (a : Addr) (xs : List V) : Prop := SqT K H a xs ∧ ((∃ o, H a = some (.frz o (.tup xs)) ∧ o.dict = none) ∨ ∃ o, K.lookup a = some o ∧ o.dict = none)
section
variable {X : Cx} {pins : List (Addr × Obj)} {σ : L2.St} {H : Hp} {s : Shared}
theorem NdT.plain {a : Addr} {xs : List V} (I : Inv X pins σ H s) (h : NdT X.K H a xs) : ∃ ws : List Value, Vals xs ws ∧ PlainSeq "tuple" s.heap a ws.toArray ∧ xs.length ≤ sizeLine := by
  obtain ⟨ws, rv, ⟨o, ho, hc, n, hd⟩, hz⟩ := I.tuple h.1
  refine ⟨ws, rv, ⟨o, n, ho, hc, ?_, hd⟩, hz⟩
  rcases h.2 with ⟨ob, e, hn⟩ | ⟨ob, e, hn⟩
  · have e2 := (I.hok a _ e).1
    rw [ho] at e2; cases e2
    exact hn
  · have e2 := I.kIn a ob e
    rw [ho] at e2; cases e2
    exact hn
end
def pairP : D → Option (Key × D)
  | .tup [a, b] => (dkey a).map fun k => (k, b)
  | _ => none
def pairsP : List D → Option KD
  | [] => some []
  | d :: r => (pairP d).bind fun p => (pairsP r).map fun q => p :: q
def dDictP (U : TL) : TD := fun ρ μ Q E => U ρ μ (fun xs μ1 => match xs with | [d] => opQ ((asQ μ1 d).bind pairsP) fun kvs => newQ μ1 (.dk (mergeD [] kvs)) Q | _ => False) E
instance i_dictP {ρ : Rho} {μ : Mu} {Q : QD} {E : XQ} {U : TD} : Step (dDictP (dCons U dNil) ρ μ Q E) (U ρ μ (fun d μ1 => opQ ((asQ μ1 d).bind pairsP) fun kvs => newQ μ1 (.dk (mergeD [] kvs)) Q) E) := ⟨fun h => h⟩
end Y
namespace Y
open PySem PySem.Spec PyProof.Rows L2
/-- repr(x) by x's own __repr__ -/
def dReprO (c : Str) (sp : DSp) (dds : List D) (To : TD) : TD := fun ρ μ Q E => To ρ μ (fun x μ1 => onPtr x fun n => isObj c "__repr__" (μ1 n) = true ∧ sp (.ptr n :: dds) μ1 (fun z μ2 => ∃ t : Str, z = .str t ∧ Q (.str t) μ2) E) E
/-- bool(x) by x's own __len__ -/
def dBoolO (c : Str) (sp : DSp) (dds : List D) (To : TD) : TD := fun ρ μ Q E => To ρ μ (fun x μ1 => onPtr x fun n => isObj c "__len__" (μ1 n) = true ∧ sp (.ptr n :: dds) μ1 (fun z μ2 => ∃ n : Int, z = .int n ∧ 0 ≤ n ∧ n < 2 ^ 63 ∧ Q (.bl (n != 0)) μ2) E) E
section
variable {ρ : Rho} {μ : Mu} {Q : QD} {E : XQ} {c : Str} {sp : DSp} {dds : List D} {To : TD}
instance i_reprO : Step (dReprO c sp dds To ρ μ Q E) (To ρ μ (fun x μ1 => onPtr x fun n => isObj c "__repr__" (μ1 n) = true ∧ sp (.ptr n :: dds) μ1 (fun z μ2 => ∃ t : Str, z = .str t ∧ Q (.str t) μ2) E) E) := ⟨fun h => h⟩
instance i_boolO : Step (dBoolO c sp dds To ρ μ Q E) (To ρ μ (fun x μ1 => onPtr x fun n => isObj c "__len__" (μ1 n) = true ∧ sp (.ptr n :: dds) μ1 (fun z μ2 => ∃ n : Int, z = .int n ∧ 0 ≤ n ∧ n < 2 ^ 63 ∧ Q (.bl (n != 0)) μ2) E) E) := ⟨fun h => h⟩
end
end Y
namespace Y
open PySem PySem.Spec PyProof.Rows L2
/-- x in [y] by y's own __eq__, x and y not the same -/
def dInOwn (c : Str) (sp : DSp) (Ta Tb : TD) : TD := fun ρ μ Q E => Ta ρ μ (fun x μ1 => Tb ρ μ1 (fun y μ2 => onPtr x fun n => onPtr y fun m => n ≠ m ∧ isObj c "__eq__" (μ2 n) = true ∧ isObj c "__eq__" (μ2 m) = true ∧ sp [.ptr m, .ptr n] μ2 (fun d μ' => onBl d fun k => Q (.bl k) μ') fun _ _ => False) E) E
/-- z is an int, a text or a list -/
def unlD (μ : Mu) : D → Bool
  | .int _ => true
  | .str _ => true
  | .lst _ => true
  | .ptr n => match μ n with | some (.lst _) => true | _ => false
  | _ => false
def dUnl (c : Str) (sp : DSp) (Ta Tb : TD) : TD := fun ρ μ Q E => Ta ρ μ (fun x μ1 => Tb ρ μ1 (fun y μ2 => onPtr x fun n => isObj c "__eq__" (μ2 n) = true ∧ unlD μ2 y = true ∧ sp [.ptr n, y] μ2 (fun d μ' => onBl d fun k => Q (.bl k) μ') fun _ _ => False) E) E
section
variable {ρ : Rho} {μ : Mu} {Q : QD} {E : XQ} {c : Str} {sp : DSp} {Ta Tb : TD}
instance i_inOwn : Step (dInOwn c sp Ta Tb ρ μ Q E) (Ta ρ μ (fun x μ1 => Tb ρ μ1 (fun y μ2 => onPtr x fun n => onPtr y fun m => n ≠ m ∧ isObj c "__eq__" (μ2 n) = true ∧ isObj c "__eq__" (μ2 m) = true ∧ sp [.ptr m, .ptr n] μ2 (fun d μ' => onBl d fun k => Q (.bl k) μ') fun _ _ => False) E) E) := ⟨fun h => h⟩
instance i_unl : Step (dUnl c sp Ta Tb ρ μ Q E) (Ta ρ μ (fun x μ1 => Tb ρ μ1 (fun y μ2 => onPtr x fun n => isObj c "__eq__" (μ2 n) = true ∧ unlD μ2 y = true ∧ sp [.ptr n, y] μ2 (fun d μ' => onBl d fun k => Q (.bl k) μ') fun _ _ => False) E) E) := ⟨fun h => h⟩
end
end Y
namespace Y
open PySem PySem.Spec PyProof.Rows L2
end Y
namespace Y
open PySem PySem.Spec PyProof.Rows L2
end Y
namespace Y
open PySem PySem.Spec PyProof.Rows L2 LamX
/-- the tables and the script alone are tracked -/
def only (T : List Addr) (a : Addr) (o : Option HO) : Hp := fun b => if b ∈ T then some (.tbl #[]) else if b = a then o else none
end Y
namespace Y
open PySem PySem.Spec PyProof.Rows L2 LamX
end Y
namespace Y
open PySem PySem.Spec PyProof.Rows L2
/-- a thing whose text is short -/
structure Sm (w : Nat) (p : PyData) : Prop where
  sh : p.showable = true
  nd : p.hasDict = false
  lv : p.leavesShort 9 = true
  bk : p.bulk ≤ w
/-- what is new since μ0 is kept -/
def Kp (μ0 μ μ' : Mu) : Prop := ∀ c o, μ0 c = none → μ c = some o → μ' c = some o
theorem Kp.refl {μ0 μ : Mu} : Kp μ0 μ μ := fun _ _ _ e => e
/-- a small thing whose cells are new since μ0 -/
def Hw (μ0 μ : Mu) (k w : Nat) (d : D) : Prop := ∀ μ', Kp μ0 μ μ' → sh μ' k d = true ∧ toP μ' k d = toP μ k d ∧ Sm w (toP μ k d)
section
variable {μ0 μ μ1 : Mu} {k w n : Nat} {d : D} {ds : List D} {c : Nat}
theorem Hw.kp (h : Hw μ0 μ k w d) (q : Kp μ0 μ μ1) : Hw μ0 μ1 k w d := fun μ' q' => by
  obtain ⟨_, b1, c1⟩ := h μ1 q
  obtain ⟨a, b, _⟩ := h μ' fun x o h0 e => q' x o h0 (q x o h0 e)
  exact ⟨a, by rw [b, b1], by rw [b1]; exact c1⟩
end
end Y
namespace Y
open PySem PySem.Spec PyProof.Rows L2
section
variable {X : Cx} {W : WX} {E : XK} {pins pn2 : List (Addr × Obj)} {σ σ2 : L2.St} {H H3 H2 : Hp} {s s3 sI s' : Shared} {scope : Scope} {ce : Env} {fp : List Addr} {B : Heap} {a : Addr} {Z : Obj → Prop}
/-- the block's context where its element may raise -/
abbrev blkX (X : Cx) (s : Shared) (H : Hp) (scope : Scope) (ce : Env) (fp : List Addr) : Cx := (X.blk s H scope ce fp).tr [] (notedBy (model X.prog X.w) X.A ce (CompFails (model X.prog X.w) X.A X.xe ce))
theorem inv_in {xe : Value → Shared → Prop} (I : Inv X pins σ H s) : Inv (X.tr X.pn xe) pins σ H s := ⟨I.ok.toTry X.pn xe, I.os, I.bare, I.base, I.loc, I.cell, I.free, I.freeC, I.pin, I.hok, I.len⟩
theorem inv_un {xe : Value → Shared → Prop} (I : Inv (X.tr X.pn xe) pins σ H s) : Inv X pins σ H s := ⟨I.ok.ofTry, I.os, I.bare, I.base, I.loc, I.cell, I.free, I.freeC, I.pin, I.hok, I.len⟩
/-- what is known where the block begins -/
structure BlkAt (X : Cx) (pins : List (Addr × Obj)) (σ : L2.St) (s : Shared) (H : Hp) (C : Addr) (fp : List Addr) : Prop where
  inv : Inv X pins σ H s
  loc : C = s.heap.objs.size
  fp : ∀ b ∈ fp, FpOk X pins H b
end
section
variable {X : Cx}
theorem lc_coreX {pins : List (Addr × Obj)} {s : Shared} {σ : L2.St} {H : Hp} {Q : VK} {elt tg iter : Expr} {ifs : List Expr} {scope : Scope} {own : List (Str × Nat)} {pos pos' : Pos} {wi : TI} {g : TG} {tt : TT} {te : TE} {Qf : Value → Shared → Prop}
    (hc : X.calm = true) (hN : X.N.Nodup) (I : Inv X pins σ H s) (hi : PI X tg iter wi) (ok : BlkOk X.N X.env.scope scope own) (hg : Blk X scope fun X' => PG X' tg g) (ht : Blk X scope fun X' => PTs X' ifs tt)
    (he : ∀ (s : Shared) (H : Hp) (C : Addr) (cl : List (Str × Addr)) (fp : List Addr), BlkAt X pins σ s H C fp → PE (blkX X s H scope (compEnvC scope cl C X.env) fp) elt te) (hs : ∀ x, foldedSetIterable iter X.env x = pure x)
    (h : tLc wi g tt te (own.map (·.2)) σ H Q) (hRR : ∀ D s' H', Inv X pins σ H' s' → Q (.ref D) H' → Qf (.ref D) s') :
    wpAny (model X.prog X.w) X.A (comprehension (.ListComp elt [⟨tg, iter, ifs, 0⟩] scope pos) scope X.env pos' (newList []) false (eval iter X.env) none) Qf X.xe s := by
  have free_ : ∀ y ∈ scope.names, y.2 = .free → ∃ c, X.env.cells.lookup y.1 = some c := fun y hy e => by
    rcases ok.free y hy e with k | k
    · exact I.ok.has _ (.inl k)
    · exact I.ok.has _ (.inr k)
  refine comprehension_at (use := none) rfl hs (closure_ok free_) ok.kind (fun y hy e => by rw [ok.uniq y hy, e])
    (thn (hi.run pins s σ H _ I h) fun xv z1 hx => thn hx fun itv z2 h2 => ?_)
  obtain ⟨it, fq, tn, J, H2, e, J2, T, t2, g2, q⟩ := h2
  subst e
  refine wpAny_newObj_type (newEnv_comp ?_) (by show 0 ≤ sizeLine; decide)
  generalize eD : z2.heap.objs.size = D
  have nD : H2 D = none := J2.hok.fresh (Nat.le_of_eq eD)
  obtain ⟨W, ⟨k0, v0⟩, turn_⟩ := q D nD
  -- the new list
  generalize e3 : ({ z2 with heap := z2.heap.push { cls := .type "list", data := .seq ([] : List Value).toArray } } : Shared) = z3
  have J3 : Inv X pins σ (upd H2 D (.lst [])) z3 := by
    rw [← e3]
    refine J2.laid (t' := z2.toks) (fun b o e => Heap.get?_push_of_some _ e) (Nat.le_of_eq eD) ⟨Nat.zero_le _, [], 0, .nil, ?_⟩
    rw [← eD]
    exact Heap.get?_push_size _ rfl
  have p3 : z3.heap = z2.heap.push { cls := .type "list", data := .seq ([] : List Value).toArray } := by rw [← e3]
  have sz : ∀ b ∈ fq, b < z2.heap.objs.size := fun b hb => by
    obtain ⟨o, e, _⟩ := T.obj _ _ t2 b hb
    exact Heap.lt_size e
  have g3 : ∀ b ∈ fq, FpOk X pins (upd H2 D (.lst [])) b ∧ b < z3.heap.objs.size := fun b hb => by
    have hlt := sz b hb
    refine ⟨⟨?_, (g2 b hb).2⟩, by rw [p3, Heap.size_push]; exact Nat.lt_succ_of_lt hlt⟩
    rw [upd_ne (by rw [← eD]; exact Nat.ne_of_lt hlt)]
    exact (g2 b hb).1
  have t3 : tn 0 z3.heap := T.keep _ _ _ t2 fun b _ o e => by rw [p3]; exact Heap.get?_push_of_some _ e
  have J4 := block_start J3 ok hN g3
  have pg_ := hg z3 (upd H2 D (.lst [])) z3.heap.objs.size (cellsFrom (z3.heap.objs.size + 1) scope.names (cloFrom X.env.cells scope.names [])) fq
  have pt_ := ht z3 (upd H2 D (.lst [])) z3.heap.objs.size (cellsFrom (z3.heap.objs.size + 1) scope.names (cloFrom X.env.cells scope.names [])) fq
  have pe_ := he z3 (upd H2 D (.lst [])) z3.heap.objs.size (cellsFrom (z3.heap.objs.size + 1) scope.names (cloFrom X.env.cells scope.names [])) fq ⟨J3, rfl, fun b hb => (g3 b hb).1⟩
  show codeAny _ _ (.compStart (.ListComp elt [⟨tg, iter, ifs, 0⟩] scope pos) 0 (.ref it) (.ref D) (compEnvC scope (cellsFrom (z3.heap.objs.size + 1) scope.names (cloFrom X.env.cells scope.names [])) z3.heap.objs.size X.env)) (compEnds (model X.prog X.w) X.A X.xe none Qf (.ref D) (compEnvC scope (cellsFrom (z3.heap.objs.size + 1) scope.names (cloFrom X.env.cells scope.names [])) z3.heap.objs.size X.env)) { z3 with heap := pushCells (z3.heap.push { cls := .type "dict", data := .dict #[] }) scope.names }
  have no_fp : ∀ b ∈ fq, (upd H2 D (.lst [])) b = none := fun b hb => (g3 b hb).1.1
  generalize ece : compEnvC scope (cellsFrom (z3.heap.objs.size + 1) scope.names (cloFrom X.env.cells scope.names [])) z3.heap.objs.size X.env = ce at J4 pg_ pt_ pe_ ⊢
  have cL : ce.locals = z3.heap.objs.size := by subst ece; rfl
  generalize eH3 : upd H2 D (.lst []) = H3 at J3 J4 pg_ pt_ pe_ v0 no_fp g3
  generalize e4 : ({ z3 with heap := pushCells (z3.heap.push { cls := .type "dict", data := .dict #[] }) scope.names } : Shared) = z4 at J4 ⊢
  have t4 : tn 0 z4.heap := T.keep _ _ _ t3 fun b _ o e => by rw [← e4]; exact pushCells_keeps _ _ _ _ (Heap.get?_push_of_some _ e)
  have stat_ : ∀ {σ' : L2.St} {H' : Hp} {s' : Shared}, Inv (X.blk z3 H3 scope ce fq) [] σ' H' s' → (∀ b ∈ fq, H' b = none) → ∀ b ∈ fq, FpOk (X.blk z3 H3 scope ce fq) [] H' b := fun {σ' H' s'} I' hn b hb =>
    ⟨hn b hb, (I'.ok.exf b hb).1, I'.ok.exfs b hb, .inl hb, fun x c e => (I'.ok.exf b hb).2 x c e, fun p hp => absurd (show p ∈ ([] : List (Addr × Obj)) ++ [] from hp) (by simp)⟩
  have loop_ : codeAny (model X.prog X.w) X.A (.compLoop (.ListComp elt [⟨tg, iter, ifs, 0⟩] scope pos) 0 (.ref it) (.ref D) ce) (compEnds (model X.prog X.w) X.A X.xe none Qf (.ref D) ce) z4 := by
    refine compLoop_any (fun n s' => ∃ i H', Inv (X.blk z3 H3 scope ce fq) [] (wipe σ (own.map (·.2))) H' s' ∧ tn i s'.heap ∧ (∀ b ∈ fq, H' b = none) ∧ W i n H') ?_ k0 ⟨0, H3, J4, t4, no_fp, v0⟩
    rintro n z5 ⟨i, H5, J5, t5, n5, v5⟩
    rcases turn_ i n H5 v5 with ⟨stop, qq⟩ | ⟨go, Mx, hMx, step_⟩
    · have td := T.done (X.blk z3 H3 scope ce fq) rfl rfl rfl hc i [] z5 _ H5 (fun _ _ => False) J5 (stat_ J5 n5) t5 stop
      refine thnF td fun r z6 ⟨hr, J6⟩ => ?_
      subst hr
      -- back in the def's context
      have J7 : Inv X pins σ H5 z6 := J3.call' (ch := fq) J6.os J6.base J6.hok J6.bare fun b hb => ⟨(g3 b hb).1.2.2.2.1, (g3 b hb).1.2.1, (g3 b hb).1.2.2.2.2.1, (g3 b hb).1.2.2.2.2.2⟩
      have nC : H5 z3.heap.objs.size = none := by
        have z : H5 ce.locals = none := J6.free
        rw [cL] at z
        exact z
      obtain ⟨m, hn, _⟩ := J6.loc
      have hn : z6.heap.Ns ce.locals m := hn
      refine ⟨m, hn, fun h'' sb => ?_⟩
      rw [cL] at sb
      obtain ⟨f0, f1, f2, f3, f4, f5⟩ := J3.fpOk (H' := H5) (Nat.le_refl _) nC
      exact hRR D _ H5 (J7.turned (t' := z6.toks) (fun b o hb e => (sb.2 b hb).trans e) f0 f1 f3 f4 f5) qq
    · have ti := T.item (X.blk z3 H3 scope ce fq) rfl rfl rfl hc i [] z5 _ H5 (fun _ _ => False) J5 (stat_ J5 n5) t5 go
      refine thnF ti fun r z6 ⟨u, hr, h6⟩ => ?_
      subst hr
      refine thnF h6 fun _ z7 ⟨x, H7, J7, r7, y7, t7, n7⟩ => ?_
      have J7' := J7.pinned (stat_ J7 n7) (T.obj _ _ t7)
      refine thnF (pg_.run _ z7 _ H7 x u _ J7' r7 (step_ x H7 y7)) fun _ z8 ⟨σ8, H8, J8, hw8, q8⟩ => ?_
      refine thnF (pt_.run _ z8 σ8 H8 _ J8 q8) fun b z9 ⟨H9, J9, q9⟩ => ?_
      -- the turn_'s end
      have fin_ : ∀ {s' : Shared} {H' : Hp}, Inv (X.blk z3 H3 scope ce fq) ([] ++ pinsAt fq z7.heap) σ8 H' s' → Mx H' → ∃ m, m < n ∧ ∃ i H', Inv (X.blk z3 H3 scope ce fq) [] (wipe σ (own.map (·.2))) H' s' ∧ tn i s'.heap ∧ (∀ b ∈ fq, H' b = none) ∧ W i m H' := fun {s' H'} I' mx => by
        obtain ⟨m', hm, w'⟩ := hMx H' mx
        have pin' : ∀ b ∈ fq, ∀ o, z7.heap.get? b = some o → s'.heap.get? b = some o ∧ H' b = none := fun b hb o e =>
          let z := I'.pin (b, o) (List.mem_append_right _ (List.mem_append_right _ (mem_pinsAt hb e)))
          ⟨z.1, z.2.1⟩
        have hl : (wipe σ (own.map (·.2))).length = σ8.length := by rw [← hw8, wipe_length]
        refine ⟨m', hm, i + 1, H', (I'.unpinned (pins := [])).weak hl (fun j v e => ?_), T.keep _ _ _ t7 fun b hb o e => (pin' b hb o e).1, fun b hb => ?_, w'⟩
        · rw [← hw8] at e
          exact (wipe_some e).1
        · obtain ⟨o, e, _⟩ := T.obj _ _ t7 b hb
          exact (pin' b hb o e).2
      cases b with
      | false =>
        simp only [Bool.false_eq_true, if_false] at q9 ⊢
        exact fin_ J9 q9
      | true =>
        simp only [if_true] at q9 ⊢
        refine wpAny_mono (pe_.run _ z9 σ8 H9 _ (inv_in (X := X.blk z3 H3 scope ce fq) J9) q9) (fun z z10 ⟨yv, H10, J10, r10, acc, hD10, hz10, mx⟩ => ?_) fun _ _ x => x
        exact app_ok (X := X.blk z3 H3 scope ce fq) (inv_un (X := X.blk z3 H3 scope ce fq) J10) hD10 hz10 r10 fun z11 J11 => fin_ J11 mx
  exact codeAny_compStart_list loop_ (T.self X.A 0 _ _ _ t4 loop_)
end
/-- the items left, what is made so far; an item may raise -/
def lcDX (st : Mu → Prop) (n : D → Rho → Mu → (Rho → Mu → Prop) → Prop) (T : TD) (E : XQ) (ρ : Rho) (Q : List D → Mu → Prop) : List D → List D → Mu → Prop
  | [], acc, μ => st μ ∧ Q acc μ
  | d :: ds, acc, μ => st μ ∧ n d ρ μ fun ρ' μ1 => T ρ' μ1 (fun y μ3 => lcDX st n T E ρ Q ds (acc ++ [y]) μ3) E
theorem lcDX_st {st : Mu → Prop} {n : D → Rho → Mu → (Rho → Mu → Prop) → Prop} {T : TD} {E : XQ} {ρ : Rho} {Q : List D → Mu → Prop} : ∀ {ds acc : List D} {μ : Mu}, lcDX st n T E ρ Q ds acc μ → st μ
  | [], _, _, h => h.1
  | _ :: _, _, _, h => h.1
def dLcX (I : TId) (n : D → Rho → Mu → (Rho → Mu → Prop) → Prop) (T : TD) (vs : List Nat) : TD := fun ρ μ Q E => I ρ μ (fun ds st μ1 => ds.length ≤ sizeLine ∧ lcDX st n T E (wipeD ρ vs) (fun acc μ2 => Q (.lst acc) μ2) ds [] μ1) E
theorem lc_runX {g : Ge} {F G1 : Hp} {ι1 : Io} {J : It} {ds : List D} {st : Mu → Prop} {H1 : Hp} {μ1 : Mu} {σ : L2.St} {ρ : Rho} {vs ws : List Nat} {tg : TG} {te : TE} {n : D → Rho → Mu → (Rho → Mu → Prop) → Prop} {T : TD} {Dd : Addr} {Qd : Hp → Prop} {Q : List D → Mu → Prop} {E : XQ} {Wb : WX}
    (It : Items g F G1 ι1 J ds st) (hl : ds.length ≤ sizeLine) (r : RhoRel g G1 ι1 σ ρ) (R : Rel g F G1 ι1 H1 μ1) (hD : H1 Dd = none) (hv : ∀ j ∈ ws, j ∈ vs)
    (q2 : ∀ F G ι σ H ρ μ v d Q (P : L2.St → Hp → Prop), RhoRel g G ι σ ρ → Rel g F G ι H μ → VD g G ι v d → n d ρ μ Q →
      (∀ G' ι' σ' H' ρ' μ', Ext G ι G' ι' → Upto ws σ σ' → RhoRel g G' ι' σ' ρ' → Rel g F G' ι' H' μ' → Q ρ' μ' → P σ' H') → tg v σ H P)
    (q4 : ∀ F G ι σ H ρ μ Q E (P : VK), Ext G1 ι1 G ι → RhoRel g G ι σ ρ → Rel g F G ι H μ → XLift Wb g F G ι σ E → T ρ μ Q E → (∀ G' ι' μ' H' v d, Ext G ι G' ι' → Rel g F G' ι' H' μ' → VD g G' ι' v d → Q d μ' → P v H') → te σ H P)
    (L : ∀ σ' xs G' ι', Ext G1 ι1 G' ι' → XLift Wb g (upd F Dd (.lst xs)) G' ι' σ' E)
    (h : lcDX st n T E (wipeD ρ vs) Q ds [] μ1)
    (hd : ∀ G' ι' H' μ' xs acc, Ext G1 ι1 G' ι' → Rel g (upd F Dd (.lst xs)) G' ι' H' μ' → VDs g G' ι' xs acc → xs.length ≤ sizeLine → Q acc μ' → Qd H') :
    ∃ W : Nat → Nat → Hp → Prop, (∃ m, W 0 m (upd H1 Dd (.lst []))) ∧ ∀ i m H, W i m H →
      (J.stop i H ∧ Qd H) ∨ (J.go i H ∧ ∃ Nx : Hp → Prop, (∀ H', Nx H' → ∃ m', m' < m ∧ W (i + 1) m' H') ∧ ∀ x H', J.yld i H x H' → tg x (wipe σ vs) H' fun σ2 H2 => wipe σ2 vs = wipe σ vs ∧ tYes σ2 H2 fun b H3 =>
        if b = true then te σ2 H3 fun y H4 => ∃ acc, H4 Dd = some (.lst acc) ∧ acc.length < sizeLine ∧ Nx (upd H4 Dd (.lst (acc ++ [y]))) else Nx H3) := by
  obtain ⟨Gs, Y, wk, hG, hY⟩ := It.ex
  have fD : F Dd = none := by
    cases e : F Dd with
    | none => rfl
    | some u => rw [R.fr Dd u e] at hD; cases hD
  have gD : G1 Dd = none := by
    cases e : G1 Dd with
    | none => rfl
    | some u => rw [R.same Dd u e] at hD; cases hD
  have R0 : Rel g (upd F Dd (.lst [])) G1 ι1 (upd H1 Dd (.lst [])) μ1 := by
    have R' := R.other (o := .lst []) hD
    refine ⟨fun a u e => ?_, fun a u e => ?_, R'.same, fun n u e => ?_, R'.inj, R'.fin, ⟨R'.tb.t, upd_tbl R.tb.f (fun _ h => by cases h), R.tb.g, R.tb.n⟩⟩
    · by_cases z : a = Dd
      · subst z; rw [upd_same] at e ⊢; exact e
      · rw [upd_ne z] at e; exact R'.fr a u e
    · by_cases z : a = Dd
      · subst z; exact fun _ => gD
      · rw [upd_ne z] at e; exact R.fg a u e
    · obtain ⟨a, h1, h2, h3⟩ := R.cell n u e
      obtain ⟨w, h4, _⟩ := h3.some_
      obtain ⟨a', h1', h2', h3'⟩ := R'.cell n u e
      rw [h1] at h1'; cases h1'
      exact ⟨a, h1, ⟨h2.1, by rw [upd_ne (ne_of_none h4 hD)]; exact h2.2⟩, h3'⟩
  refine lc_it wk (fun i H => ∃ G' ι' μ' xs acc, Ext G1 ι1 G' ι' ∧ Rel g (upd F Dd (.lst xs)) G' ι' H μ' ∧ VDs g G' ι' xs acc ∧ xs.length ≤ i ∧ lcDX st n T E (wipeD ρ vs) Q (ds.drop i) acc μ')
    ⟨G1, ι1, μ1, [], [], .refl, R0, .nil, Nat.le_refl _, h⟩ ?_ ?_ ?_
  · rintro i H _ ⟨G', ι', μ', xs, acc, e, R', _, _, q⟩
    exact hG _ G' ι' H μ' e R' (lcDX_st q)
  · rintro i x H H' hi ⟨G', ι', μ', xs, acc, e, R', va, hlen, q⟩ y
    obtain ⟨d, G2, hd, e2, R2, vd⟩ := hY _ G' ι' H μ' i x H' e R' (lcDX_st q) y
    have dr : ds.drop i = d :: ds.drop (i + 1) := by
      rw [List.drop_eq_getElem_cons hi]
      congr 1
      rw [List.getElem?_eq_getElem hi] at hd
      exact Option.some.inj hd
    rw [dr] at q
    obtain ⟨_, q⟩ := q
    have rw_ : RhoRel g G2 ι' (wipe σ vs) (wipeD ρ vs) := ((r.mono e).mono e2).wipe vs
    refine q2 _ G2 ι' _ H' _ μ' x d _ _ rw_ R2 vd q fun G3 ι3 σ3 H3 ρ3 μ3 e3 u3 r3 R3 q3' => ⟨wipe_upto u3 hv, ?_⟩
    have eAll : Ext G' ι' G3 ι3 := e2.trans e3
    show te σ3 H3 _
    refine q4 _ G3 ι3 σ3 H3 ρ3 μ3 _ _ _ (e.trans eAll) r3 R3 (L σ3 xs G3 ι3 (e.trans eAll)) q3' fun G5 ι5 μ5 H5 v dd e5 R5 v5 q6 => ?_
    have e05 := eAll.trans e5
    refine ⟨xs, R5.fr Dd _ upd_same, by omega, G5, ι5, μ5, xs ++ [v], acc ++ [dd], e.trans e05, ?_, (va.mono e05).append (.cons v5 .nil), by rw [List.length_append]; exact Nat.succ_le_succ hlen, q6⟩
    have := R5.reframe (o' := .lst (xs ++ [v])) trivial
    exact this
  · rintro H ⟨G', ι', μ', xs, acc, e, R', va, hlen, q⟩
    rw [List.drop_length] at q
    exact hd G' ι' H μ' xs acc e R' va (Nat.le_trans hlen hl) q.2
instance i_lcX {ρ : Rho} {μ : Mu} {Q : QD} {E : XQ} {I : TId} {n : D → Rho → Mu → (Rho → Mu → Prop) → Prop} {T : TD} {vs : List Nat} : Step (dLcX I n T vs ρ μ Q E) (I ρ μ (fun ds st μ1 => ds.length ≤ sizeLine ∧ lcDX st n T E (wipeD ρ vs) (fun acc μ2 => Q (.lst acc) μ2) ds [] μ1) E) := ⟨fun h => h⟩
end Y
namespace Y
open PySem PySem.Spec PyProof.Rows L2 LamX
section
variable {X : Cx} {pins : List (Addr × Obj)} {σ : L2.St} {H : Hp} {s : Shared}
/-- the object of a lambda -/
abbrev lamO (X : Cx) (params : Arguments) (body : Expr) (scope : Scope) (pm : Value) (c' : Addr) (ctv : Value) : Obj :=
  PySem.W.kla_obj "<lambda>" (X.env.qual ++ "<lambda>") params body scope (cloFrom X.env.cells scope.names []) pm c' ctv
theorem objO_ok {P : Program} {w : World} {H : Hp} {h : Heap} {a : Addr} {o : Obj} (e : h.get? a = some o) : ObjOk P w H h a (ObjO a o) := ⟨e, ⟨o, e⟩, fun _ _ q st => st o q⟩
/-- a lambda made, its object known from there on -/
theorem lam_keep {T : List (Addr × Str)} {c P : Addr} {params : Arguments} {body : Expr} {scope : Scope} {pos : Pos} {E Q : Value → Shared → Prop} (I : Inv X pins σ H s) (TB : TabB X.base X.mg c P)
    (hcode : X.env.code = .ref c) (mem : (P, X.env.qual ++ "<lambda>") ∈ T) (one : ∀ p ∈ T, p.1 = P → p.2 = X.env.qual ++ "<lambda>") (tabs : Tabs T H) (hdef : defaultsOf params X.env = ([], []))
    (has : ∀ y ∈ scope.names, y.2 = .free → ∃ c, X.env.cells.lookup y.1 = some c)
    (k : ∀ (f c' : Addr) (pm ctv : Value) (H1 : Hp) (s' : Shared), Inv X pins σ H1 s' → ExtN H H1 → Tabs T H1 → H f = none → H1 f = some (ObjO f (lamO X params body scope pm c' ctv)) →
      f ∉ frs X.stack → H1 c' = some (CodeO c' (X.env.qual ++ "<lambda>")) → Q (.ref f) s') :
    wpAny (model X.prog X.w) X.A (eval (.Lambda params body scope pos) X.env) Q E s := by
  obtain ⟨ps, atP, triples, among⟩ := tabs _ mem
  have heapP : s.heap.get? P = some { cls := .none, data := .fields ps } := I.hok P _ atP
  have out : ∀ f, s.heap.objs.size ≤ f → f ∉ frs X.stack := fun f hf z => (List.mem_cons.mp (I.stkSub _ z)).elim
    (fun e => Nat.lt_irrefl _ (Nat.lt_of_lt_of_le (e ▸ I.lt) hf)) fun e => I.nofs hf e
  refine PySem.W.kla_eval hdef ?_
  cases found : codeAmong pos ps.toList with
  | some cv =>
    obtain ⟨c', rfl, codeH⟩ := among pos cv found
    refine PySem.W.kla_makeFunctionHit (mg := X.mg) (c := c) (P := P) (ps := ps) (closure_ok has) I.ok.glob (I.mod.glob.keeps I.bk) hcode (TB.code.keeps I.bk) heapP triples found (TB.bm.keeps I.bk) fun ctv h' tk more size => ?_
    have J : Inv X pins σ H { s with heap := h', toks := tk } := I.kept fun b o e => more b o e
    have nf : H h'.objs.size = none := I.hok.fresh size
    have J2 := J.laid (t' := tk) (a := h'.objs.size) (o := ObjO h'.objs.size (lamO X params body scope ((X.mg "__name__").getD .none) c' ctv)) (h' := h'.push (lamO X params body scope ((X.mg "__name__").getD .none) c' ctv))
      (fun b o e => Heap.get?_push_of_some _ e) (Nat.le_refl _) (objO_ok (Heap.get?_push_size _ rfl))
    have hE : ExtN H (upd H h'.objs.size (ObjO h'.objs.size (lamO X params body scope ((X.mg "__name__").getD .none) c' ctv))) := ExtN.of fun b o e => by rw [upd_ne (ne_of_none e nf)]; exact e
    exact k h'.objs.size c' _ ctv _ _ J2 hE (tabs.ext fun b o e => by rw [upd_ne (ne_of_none e nf)]; exact e) nf upd_same (out _ size) (hE _ _ codeH codeO_ne)
  | none =>
    refine PySem.W.kla_makeFunction (mg := X.mg) (c := c) (P := P) (ps := ps) (closure_ok has) I.ok.glob (I.mod.glob.keeps I.bk) hcode (TB.code.keeps I.bk) heapP triples found TB.gP (TB.bm.keeps I.bk) fun c' ctv h' tk more ge lt made tab => ?_
    obtain ⟨c2, oc, vs, t, e2, hoc, hd, hv⟩ := made
    cases e2
    have size : s.heap.objs.size ≤ h'.objs.size := Nat.le_trans ge (Nat.le_of_lt lt)
    have nC : H c' = none := I.hok.fresh ge
    have J := inv_table (t' := tk) (more := #[rawInt pos.line, rawInt pos.col, Value.ref c']) (h' := h') I atP more tab ge ⟨oc, vs, t, hoc, hd, hv⟩
    have list : (ps ++ #[rawInt pos.line, rawInt pos.col, Value.ref c']).toList = ps.toList ++ [rawInt pos.line, rawInt pos.col, Value.ref c'] := by simp
    have codeH : upd (upd H P (.tbl (ps ++ #[rawInt pos.line, rawInt pos.col, Value.ref c']))) c' (CodeO c' (X.env.qual ++ "<lambda>")) c' = some (CodeO c' (X.env.qual ++ "<lambda>")) := upd_same
    have hE1 : ExtN H (upd (upd H P (.tbl (ps ++ #[rawInt pos.line, rawInt pos.col, Value.ref c']))) c' (CodeO c' (X.env.qual ++ "<lambda>"))) := fun b o e n => by
      have far : b ≠ P := fun z => n ps (by rw [z] at e; exact Option.some.inj (e.symm.trans atP))
      rw [upd_ne (ne_of_none e nC), upd_ne far]
      exact e
    have T1 : Tabs T (upd (upd H P (.tbl (ps ++ #[rawInt pos.line, rawInt pos.col, Value.ref c']))) c' (CodeO c' (X.env.qual ++ "<lambda>"))) := fun p hp => by
      by_cases hb : p.1 = P
      · rw [one p hp hb, hb]
        refine ⟨_, (upd_ne (ne_of_none atP nC)).trans upd_same, list ▸ PySem.TriplesOk_snoc _ _ _ _ triples, fun q cv hq => ?_⟩
        rw [list] at hq
        rcases among_app _ triples hq with z | z
        · obtain ⟨c0, e1, e2⟩ := among q cv z
          exact ⟨c0, e1, hE1 _ _ e2 codeO_ne⟩
        · exact ⟨c', z, codeH⟩
      · obtain ⟨qs, a1, a2, a3⟩ := tabs p hp
        refine ⟨qs, (upd_ne (ne_of_none a1 nC)).trans ((upd_ne hb).trans a1), a2, fun q cv hq => ?_⟩
        obtain ⟨c0, e1, e2⟩ := a3 q cv hq
        exact ⟨c0, e1, hE1 _ _ e2 codeO_ne⟩
    have nf0 : H h'.objs.size = none := I.hok.fresh size
    have nf : upd (upd H P (.tbl (ps ++ #[rawInt pos.line, rawInt pos.col, Value.ref c']))) c' (CodeO c' (X.env.qual ++ "<lambda>")) h'.objs.size = none :=
      (upd_ne (Nat.ne_of_gt lt)).trans ((upd_ne (Nat.ne_of_gt (Nat.lt_of_lt_of_le (Heap.lt_size heapP) size))).trans nf0)
    generalize upd (upd H P (.tbl (ps ++ #[rawInt pos.line, rawInt pos.col, Value.ref c']))) c' (CodeO c' (X.env.qual ++ "<lambda>")) = H2 at J codeH hE1 T1 nf
    have J2 := J.laid (t' := tk) (a := h'.objs.size) (o := ObjO h'.objs.size (lamO X params body scope ((X.mg "__name__").getD .none) c' ctv)) (h' := h'.push (lamO X params body scope ((X.mg "__name__").getD .none) c' ctv))
      (fun b o e => Heap.get?_push_of_some _ e) (Nat.le_refl _) (objO_ok (Heap.get?_push_size _ rfl))
    have hE2 : ExtN H2 (upd H2 h'.objs.size (ObjO h'.objs.size (lamO X params body scope ((X.mg "__name__").getD .none) c' ctv))) := ExtN.of fun b o e => by rw [upd_ne (ne_of_none e nf)]; exact e
    exact k h'.objs.size c' _ ctv _ _ J2 (hE1.trans hE2) (T1.ext fun b o e => by rw [upd_ne (ne_of_none e nf)]; exact e) nf0 upd_same (out _ size) (hE2 _ _ codeH codeO_ne)
/-- which lambda an object is -/
abbrev LTag := Nat → Obj → Addr → Str → Prop
abbrev LamI := Arguments × Expr × Scope
def tagOf (X : Cx) (lams : List LamI) : LTag := fun k o c q => ∃ l : LamI, lams[k]? = some l ∧ q = X.env.qual ++ "<lambda>" ∧ ∃ pm ctv, o = lamO X l.1 l.2.1 l.2.2 pm c ctv
def dMkLam (LT : LTag) (k : Nat) : TD := fun _ μ Q _ => ∀ o c q, LT k o c q → Q (.fn o c q) μ
/-- the frame's lambdas: whichever objects they are -/
def sLams (U : LTag → SD) : SD := fun De ρ μ => ∀ LT, U LT De ρ μ
end
theorem Rel.know {g : Ge} {F G H : Hp} {ι : Io} {μ : Mu} {c : Addr} {q : Str} (R : Rel g F G ι H μ) (hc : H c = some (CodeO c q)) : ∃ G', Rel g F G' ι H μ ∧ Ext G ι G' ι ∧ G' c = some (CodeO c q) := by
  cases hG : G c with
  | some o =>
    have e := R.same c o hG
    rw [hc] at e
    cases e
    exact ⟨G, R, .refl, hG⟩
  | none =>
    have eG : ∀ a o, G a = some o → upd G c (CodeO c q) a = some o := fun a o e => by rw [upd_ne (ne_of_none e hG)]; exact e
    refine ⟨upd G c (CodeO c q), ⟨R.fr, fun a o e => ?_, fun a o e => ?_, fun n o e => ?_, R.inj, R.fin, ⟨R.tb.t, R.tb.f, upd_tbl R.tb.g codeO_ne, upd_ok R.tb.n trivial⟩⟩, ⟨eG, fun _ _ e => e⟩, upd_same⟩
    · by_cases z : a = c
      · subst z
        intro w
        have u := R.fr a o e
        rw [hc] at u
        cases u
        exact absurd rfl (w q)
      · rw [upd_ne z]; exact R.fg a o e
    · by_cases z : a = c
      · subst z; rw [upd_same] at e; cases e; exact hc
      · rw [upd_ne z] at e; exact R.same a o e
    · obtain ⟨a, h1, h2, h3⟩ := R.cell n o e
      have z : a ≠ c := fun z => by subst z; exact h3.noC hc q rfl
      exact ⟨a, h1, ⟨by rw [upd_ne z]; exact h2.1, h2.2⟩, h3.mono ⟨eG, fun _ _ e => e⟩ fun _ _ e => e⟩
/-- a lambda's object, told from where it is made -/
theorem Rel.made {g : Ge} {F G H H1 : Hp} {ι : Io} {μ : Mu} {f : Addr} {o : Obj} (R : Rel g F G ι H μ) (eN : ExtN H H1) (T1 : Tabs (lamT g.K) H1) (hf : H f = none) (h1 : H1 f = some (ObjO f o)) : Rel g F (upd G f (ObjO f o)) ι H1 μ ∧ Ext G ι (upd G f (ObjO f o)) ι := by
  have hG : G f = none := by
    cases q : G f with
    | none => rfl
    | some u => rw [R.same f u q] at hf; cases hf
  have R1 := R.extN eN T1
  have eG : ∀ a u, G a = some u → upd G f (ObjO f o) a = some u := fun a u e => by rw [upd_ne (ne_of_none e hG)]; exact e
  refine ⟨⟨R1.fr, fun a u e => ?_, fun a u e => ?_, fun n u e => ?_, R1.inj, R1.fin, ⟨R1.tb.t, R1.tb.f, upd_tbl R1.tb.g (fun _ h => by unfold ObjO at h; cases h), upd_ok R1.tb.n trivial⟩⟩, eG, fun _ _ e => e⟩
  · have z : a ≠ f := fun z => by subst z; rw [R.fr a u e] at hf; cases hf
    rw [upd_ne z]; exact R1.fg a u e
  · by_cases z : a = f
    · subst z; rw [upd_same] at e; cases e; exact h1
    · rw [upd_ne z] at e; exact R1.same a u e
  · obtain ⟨a, k1, k2, k3⟩ := R1.cell n u e
    obtain ⟨b, m1, m2, m3⟩ := R.cell n u e
    rw [k1] at m1
    cases m1
    obtain ⟨w, h4, _⟩ := m3.some_
    have z : a ≠ f := ne_of_none h4 hf
    exact ⟨a, k1, ⟨by rw [upd_ne z]; exact k2.1, k2.2⟩, k3.mono ⟨eG, fun _ _ e => e⟩ fun _ _ e => e⟩
def tMkLam (T : List (Addr × Str)) (q : Str) (ok : Obj → Addr → Prop) : TE := fun _ H Q => Tabs T H ∧ ∀ (f c' : Addr) (o : Obj) (H1 : Hp), ExtN H H1 → Tabs T H1 → H f = none → H1 f = some (ObjO f o) → H1 c' = some (CodeO c' q) → ok o c' → Q (.ref f) H1
theorem rd_mkLam {W : WX} {g : Ge} {LT : LTag} {k : Nat} {q : Str} {ok : Obj → Addr → Prop} (ho : ∀ o c, ok o c → LT k o c q) : RdE W g (tMkLam (lamT g.K) q ok) (dMkLam LT k) := fun F G ι σ H ρ μ Q E P r R L hq kk => by
  refine ⟨R.tb.t, fun f c' o H1 eN T1 hf h1 hc z => ?_⟩
  obtain ⟨R1, e1⟩ := R.made eN T1 hf h1
  obtain ⟨G2, R2, e2, h2⟩ := R1.know hc
  exact kk G2 ι μ H1 _ _ (e1.trans e2) R2 (.fn (e2.g _ _ upd_same) h2) (hq o c' q (ho _ _ z))
section
variable {X : Cx} {W : WX}
theorem de_mkLam {q : Str} {K : PySem.W.Frag} {c P : Addr} {lams : List LamI} {k : Nat} {params : Arguments} {body : Expr} {scope : Scope} {pos : Pos} (tb : TabB X.base X.mg c P) (lu : (P, q ++ "<lambda>") ∈ lamT K ∧ ∀ p ∈ lamT K, p.1 = P → p.2 = q ++ "<lambda>")
    (L : LamS X.env.scope scope) (hl : lams[k]? = some (params, body, scope)) (hK : X.K = K := by rfl) (hq : X.env.qual = q := by rfl) (hcode : X.env.code = .ref c := by rfl) (hdef : defaultsOf params X.env = ([], []) := by rfl) : DE X W (gx X) (.Lambda params body scope pos) (dMkLam (tagOf X lams) k) := by
  subst hK hq
  refine ⟨tMkLam (lamT X.K) (X.env.qual ++ "<lambda>") fun o c' => ∃ pm ctv, o = lamO X params body scope pm c' ctv, ⟨fun pins s σ H Q I ⟨hT, h⟩ => ?_⟩, rd_mkLam fun o c' ⟨pm, ctv, e⟩ => ⟨_, hl, rfl, pm, ctv, e⟩⟩
  exact lam_keep I tb hcode lu.1 lu.2 hT hdef (L.has I.ok) fun f c' pm ctv H1 s' I1 eN T1 hf h1 hfr hc => ⟨.ref f, H1, I1, rfl, h f c' _ H1 eN T1 hf h1 hc ⟨pm, ctv, rfl⟩⟩
theorem dss_lams {g : Ge} {sts : List Stmt} {U : LTag → SD} (lams : List LamI) (h : DSs X W g sts (U (tagOf X lams))) : DSs X W g sts (sLams U) := by
  obtain ⟨t, a, b⟩ := h
  exact ⟨t, a, fun F G ι σ H ρ μ De Dh r R l q => b F G ι σ H ρ μ De Dh r R l (q (tagOf X lams))⟩
end
section
variable {X : Cx} {pins : List (Addr × Obj)} {σ : L2.St} {H : Hp} {s : Shared}
theorem act_know {Ng : List Str} {qg a : Str} {sg scope : Scope} {g f c' : Addr} {cdg pm ctv : Value} {params : Arguments} {body : Expr} {k i : Nat} {pn : List (Addr × Obj)} {xe : Value → Shared → Prop} {W : WX} {t : XK → TE} {p1 p2 : Pos}
    (I : Inv X pins σ H s) (L : LamS X.env.scope scope)
    (hbind : bindArgs (PySem.W.kla_fn "<lambda>" (X.env.qual ++ "<lambda>") params body scope (cloFrom X.env.cells scope.names []) pm (.ref c') ctv) ⟨[], []⟩ = pure []) (tk : L2.Takes ((cxG X Ng qg sg g cdg s H).tr pn xe) W) (hr : Room (k + 1) (X.A.deeper (envOfC qg sg s.heap.objs.size g cdg)))
    (hbody : ∀ (A : Around) (outer : List Env) (s : Shared) (H : Hp) (E : XK), Room k (A.deeper (lamEnv X scope s.heap.objs.size f c')) → PE (lamCx X A outer s H E scope f c') body (t E)) (hN : Ng[i]? = some a) (hv : Vis sg a) (hd : (a == ("__debug__" : Str)) = false) (hcd : (a == ("__classdict__" : Str)) = false) :
    PE ((cxG X Ng qg sg g cdg s H).tr pn xe) (.Call (.Name a p1) [] [] p2) (fun σZ HZ Q => σZ[i]? = some (some (.ref f)) ∧ HZ c' = some (CodeO c' (X.env.qual ++ "<lambda>")) ∧ HZ f = some (ObjO f (lamO X params body scope pm c' ctv)) ∧ t (fun cls d H' => W cls d σZ H') σ HZ Q) := by
  refine ⟨fun pZ sZ σZ HZ Q IZ ⟨hs, hc, hf, ht⟩ => ?_⟩
  refine wpAny_Call_Name_kw (thn ((pe_var (pos := p1) (i := i) hN hv hd hcd).run pZ sZ σZ HZ (fun v H1 => v = .ref f ∧ H1 = HZ) IZ ⟨.ref f, hs, rfl, rfl⟩) fun u s1 ⟨v, H1, I1, r1, ev, eH⟩ => ?_)
  subst ev
  subst eH
  obtain rfl : u = Value.ref f := r1
  have fo := (I1.hok f _ hf).1
  obtain ⟨⟨oc, vs, tq, hoc, hdc, hvc⟩, _, _⟩ := I1.hok c' _ hc
  have run : codeAny (model X.prog X.w) (X.A.deeper (envOfC qg sg s.heap.objs.size g cdg)) (.call (.ref f) ⟨[], []⟩) (CR (L2.CX X.prog X.w) (envOfC qg sg s.heap.objs.size g cdg :: X.stack) X.prog X.w H1 s1 Q fun cls d H' => W cls d σZ H') s1 := by
    refine PySem.W.kla_callFunE hr.depth fo rfl L.co L.gen rfl ⟨c', oc, vs, tq, rfl, hoc, hdc, hvc⟩ ?_
    rw [hbind]
    refine wpAny_pure (wpAny_newFunctionEnv (fun y hy => (L.own y hy).2) (fun y hy => absurd hy (by simp)) (fun h1 hns hsb => ⟨I1.nolimit.fresh _ hsb, ?_⟩) L.kind)
    show codeAny _ _ (.expr body (lamEnv X scope s1.heap.objs.size f c')) _ _
    have J : Inv (lamCx X (X.A.deeper (envOfC qg sg s.heap.objs.size g cdg)) (envOfC qg sg s.heap.objs.size g cdg :: X.stack) s1 H1 (fun cls d H' => W cls d σZ H') scope f c') [] σ H1 { s1 with heap := h1, toks := s1.toks + ([] : List (Str × Value)).length } :=
      lam_start2 I L I1.env0 hr.hd I1.base hns (fun b o e => hsb.extBut b o (Nat.ne_of_lt (Heap.lt_size e)) (Heap.get?_push_of_some _ e))
    exact PySem.W.kla_codeExpr (wpAny_mono ((hbody _ _ s1 H1 _ (hr.deeper _)).run [] _ _ H1 Q J ht) (fun v s' ⟨w', H', J', rv, q⟩ => ⟨w', H', J'.os, J'.bare, J'.base, J'.hok, rv, q⟩) fun e s' hq => hq)
  refine PySem.W.callWith_F0 ⟨_, _, _, _, fo⟩ (wpAny_call (codeAny_mono run fun r s2 hq => ?_))
  rcases r with e | fl
  · exact L2.passAt tk σZ pZ H1 s1 e s2 I1 hq
  · cases fl with
    | ret u => exact I1.after hq
    | _ => exact False.elim hq
/-- the frame's lambdas and what their bodies make -/
inductive LamsOk (X : Cx) (k : Nat) : List LamI → List TD → Prop
  | nil : LamsOk X k [] []
  | cons {params : Arguments} {body : Expr} {scope : Scope} {ls : List LamI} {U : TD} {Us : List TD} (L : LamS X.env.scope scope) (hbody : ∀ (A : Around) (outer : List Env) (s : Shared) (H : Hp) (E : XK) (f c' : Addr), Room k (A.deeper (lamEnv X scope s.heap.objs.size f c')) → DE (lamCx X A outer s H E scope f c') (wE E) (gx X) body U)
      (r : LamsOk X k ls Us) (hbind : ∀ (q : Str) (cl : List (Str × Addr)) (pm cv ctv : Value), bindArgs (PySem.W.kla_fn "<lambda>" q params body scope cl pm cv ctv) ⟨[], []⟩ = pure [] := by intros; rfl) : LamsOk X k ((params, body, scope) :: ls) (U :: Us)
theorem LamsOk.at_ {k : Nat} {ls : List LamI} {Us : List TD} (h : LamsOk X k ls Us) : ∀ {i : Nat} {l : LamI} {U : TD}, ls[i]? = some l → Us[i]? = some U → LamS X.env.scope l.2.2 ∧ (∀ (q : Str) (cl : List (Str × Addr)) (pm cv ctv : Value), bindArgs (PySem.W.kla_fn "<lambda>" q l.1 l.2.1 l.2.2 cl pm cv ctv) ⟨[], []⟩ = pure []) ∧
    ∀ (A : Around) (outer : List Env) (s : Shared) (H : Hp) (E : XK) (f c' : Addr), Room k (A.deeper (lamEnv X l.2.2 s.heap.objs.size f c')) → DE (lamCx X A outer s H E l.2.2 f c') (wE E) (gx X) l.2.1 U := by
  induction h with
  | nil => intro i l U e; simp at e
  | cons L hbody r hbind ih =>
    intro i l U e1 e2
    cases i with
    | zero => simp at e1 e2; subst e1 e2; exact ⟨L, hbind, hbody⟩
    | succ i => exact ih (by simpa using e1) (by simpa using e2)
/-- x(v) in a block, v a lambda of the frame around -/
def tSpot (X : Cx) (lams : List LamI) (Us : List TD) (TT : (XK → Hp → VK → Prop) → Hp → VK → Prop) (j : Nat) (σ0 : L2.St) : TE := fun σ2 H2 Q => ∃ (f c' : Addr) (k : Nat) (l : LamI) (U : TD) (pm ctv : Value), σ2[j]? = some (some (.ref f)) ∧ H2 f = some (ObjO f (lamO X l.1 l.2.1 l.2.2 pm c' ctv)) ∧ H2 c' = some (CodeO c' (X.env.qual ++ "<lambda>")) ∧ lams[k]? = some l ∧ Us[k]? = some U ∧
  TT (fun E H' Q' => H' f = some (ObjO f (lamO X l.1 l.2.1 l.2.2 pm c' ctv)) ∧ cE (wE E) (gx X) U σ0 H' Q') H2 Q
theorem pe_spot {TT : (XK → Hp → VK → Prop) → Hp → VK → Prop} {x a v : Str} {g C : Addr} {k j : Nat} {pg : Arguments} {bg : List Stmt} {sg sc0 : Scope} {dV kV doc pm cdv ct oc : Value} {an od : Option Addr} {osl : Array (Option Value)} {Ng : List Str} {cl : List (Str × Addr)} {fp : List Addr} {lams : List LamI} {Us : List TD} {p pv pos : Pos}
    (b : BlkAt X pins σ s H C fp) (hg : Gl (blkX X s H sc0 (compEnvC sc0 cl C X.env) fp) x) (hm : X.mg x = some (.ref g)) (hk : PySem.W.keepIn X.K (.ref g) = true) (lk : X.K.lookup g = some ⟨oc, od, .func (PySem.W.fnOf x x pg bg sg dV kV doc pm an cdv ct), osl⟩) (hcg : PySem.W.codeIn X.K cdv x = true) (hb : L2.Binds X.K (PySem.W.fnOf x x pg bg sg dV kV doc pm an cdv ct) [a] [])
    (Sg : FnScope Ng [a] sg) (hNg : Ng[0]? = some a) (hva : Vis sg a) (hG : GivesS X Ng x sg g cdv bg a (X.env.qual ++ "<lambda>") TT) (hr : Room (k + 2) X.A) (hl : LamsOk X k lams Us) (hv : PE (blkX X s H sc0 (compEnvC sc0 cl C X.env) fp) (.Name v pv) (tVar j))
    (hdb : (x == ("__debug__" : Str)) = false) (hd : (a == ("__debug__" : Str)) = false) (hcd : (a == ("__classdict__" : Str)) = false) (hpl : starEach [.Name v pv] (compEnvC sc0 cl C X.env) = (false, eval (.Name v pv) (compEnvC sc0 cl C X.env)) :: starEach [] (compEnvC sc0 cl C X.env)) :
    PE (blkX X s H sc0 (compEnvC sc0 cl C X.env) fp) (.Call (.Name x p) [.Name v pv] [] pos) (tSpot X lams Us TT j σ) := by
  refine ⟨fun pn2 s2 σ2 H2 Q I2 ⟨f, c', kk, l, U, pmv, ctv, hs, hf, hc, hl1, hU, hTT⟩ => wpAny_Call_Name_kw (ld_glob I2 hg hm (PySem.W.callWith_K (h₀ := X.base) I2.ok.mod.kin hk ?_ (by rfl) (by rfl)) hdb)⟩
  show wpAny _ _ (spliced (backTo pos (starEach [.Name v pv] (compEnvC sc0 cl C X.env)))) _ _ s2
  rw [hpl]
  show wpAny _ _ (spliced ((false, eval (.Name v pv) (compEnvC sc0 cl C X.env)) :: backTo pos (starEach [] (compEnvC sc0 cl C X.env)))) _ _ s2
  refine Calls.spliced_cons (thn (hv.run pn2 s2 σ2 H2 (fun u H1 => u = .ref f ∧ H1 = H2) I2 ⟨.ref f, hs, rfl, rfl⟩) fun u s1 ⟨w, H1, I1, r1, ew, eH⟩ => Calls.spliced_nil ⟨I1.kIn, ?_⟩)
  subst ew
  subst eH
  obtain rfl : u = Value.ref f := r1
  have IB : Inv (X.blk s H sc0 (compEnvC sc0 cl C X.env) fp) pn2 σ2 H1 s1 := inv_un (X := X.blk s H sc0 (compEnvC sc0 cl C X.env) fp) I1
  have IX : Inv X pins σ H1 s1 := b.inv.call' (ch := fp) IB.os IB.base IB.hok IB.bare fun q hq => ⟨(b.fp q hq).2.2.2.1, (b.fp q hq).2.1, (b.fp q hq).2.2.2.2.1, (b.fp q hq).2.2.2.2.2⟩
  obtain ⟨L, hbind, hbody⟩ := hl.at_ hl1 hU
  have done : codeAny (model X.prog X.w) X.A (.call (.ref g) ⟨[.ref f], []⟩) (CR C8.CX0 X.stack X.prog X.w H1 s1 Q C8.E0) s1 :=
    run_ofS (N := Ng) (ps := [a]) (us := [.ref f]) (vs := [.ref f]) lk hcg Sg hr IX.env0 (hb s1 [.ref f] IX.kIn rfl) (.cons rfl .nil) rfl fun hr' => by
      obtain ⟨t', h1, h2⟩ := hG f c' s1 H1 Q (fun E H' Q' => H' f = some (ObjO f (lamO X l.1 l.2.1 l.2.2 pmv c' ctv)) ∧ cE (wE E) (gx X) U σ H' Q')
        (fun W pn xe p1 p2 tk => act_know (i := 0) (t := fun E => cE (wE E) (gx X) U) IX L (hbind _ _ _ _ _) tk hr' (fun A outer s H E hr2 => (hbody A outer s H E f c' hr2).can) hNg hva hd hcd) hc hTT
      exact ⟨t', h1.nox, h2⟩
  refine wpAny_call (codeAny_mono done fun r s2 hq => ?_)
  rcases r with e | fl
  · exact (show False from hq).elim
  · cases fl with
    | ret u => exact I1.after hq
    | _ => exact False.elim hq
end
/-- what x(v) makes: v a lambda of the frame, read at the frame's slots -/
def tdSpot (sp : LSp) (LT : LTag) (Us : List TD) (j : Nat) (ρ0 : Rho) : TD := fun ρ μ Q _ => ∃ o c q k U, slot ρ j = some (.fn o c q) ∧ LT k o c q ∧ Us[k]? = some U ∧ sp (fun μ2 Q2 E2 => U ρ0 μ2 Q2 E2) μ Q
/-- [x(v) for v in ..] -/
def dSpots (sp : LSp) (LT : LTag) (Us : List TD) (I : TId) (j : Nat) (n : D → Rho → Mu → (Rho → Mu → Prop) → Prop) (vs : List Nat) : TD := fun ρ μ Q E => I ρ μ (fun ds st μ1 => ds.length ≤ sizeLine ∧ lcDX st n (tdSpot sp LT Us j ρ) E (wipeD ρ vs) (fun acc μ2 => Q (.lst acc) μ2) ds [] μ1) E
section
variable {X : Cx} {W : WX}
theorem de_spots {k j : Nat} {x v : Str} {sp : LSp} {lams : List LamI} {Us : List TD} {tg iter : Expr} {scope : Scope} {own : List (Str × Nat)} {ws vs : List Nat} {p pv cpos pos : Pos} {I : TId} {n : D → Rho → Mu → (Rho → Mu → Prop) → Prop} (l : LamD X.prog X.w X.K X.mg X.base x sp) (hr : Room (k + 2) X.A) (hL : LamsOk X k lams Us)
    (hc : X.calm = true) (hN : X.N.Nodup) (hi : DI X W (gx X) tg iter I) (ok : BlkOk X.N X.env.scope scope own) (h1 : Blk X scope fun X' => DGn X' noW (gx X) ws tg n)
    (hv : ∀ (s : Shared) (H : Hp) (C : Addr) (cl : List (Str × Addr)) (fp : List Addr), PE (blkX X s H scope (compEnvC scope cl C X.env) fp) (.Name v pv) (tVar j)) (hg : ∀ (s : Shared) (H : Hp) (C : Addr) (cl : List (Str × Addr)) (fp : List Addr), Gl (blkX X s H scope (compEnvC scope cl C X.env) fp) x)
    (hvs : own.map (·.2) = vs) (hvw : ∀ j ∈ ws, j ∈ vs) (hs : ∀ x, foldedSetIterable iter X.env x = pure x := by intro _; rfl) (hdb : (x == ("__debug__" : Str)) = false := by decide)
    (hpl : ∀ (C : Addr) (cl : List (Str × Addr)), starEach [.Name v pv] (compEnvC scope cl C X.env) = (false, eval (.Name v pv) (compEnvC scope cl C X.env)) :: starEach [] (compEnvC scope cl C X.env) := by intros; rfl) :
    DE X W (gx X) (.ListComp (.Call (.Name x p) [.Name v pv] [] cpos) [⟨tg, iter, [], 0⟩] scope pos) (dSpots sp (tagOf X lams) Us I j n vs) := by
  subst hvs
  obtain ⟨g, oc, od, pg, bg, sg, dV, kV, doc, pm, cdv, ct, an, osl, Ng, a, k1, k2, k3, k4, k5, k6, k7, k8, k9, k10, k11⟩ := l.ex
  obtain ⟨w, p1, q1⟩ := hi
  have P : PE X (.ListComp (.Call (.Name x p) [.Name v pv] [] cpos) [⟨tg, iter, [], 0⟩] scope pos) (fun σ H Q => tLc w (cN (gx X) ws n) tYes (tSpot X lams Us (liftL (gx X) sp) j σ) (own.map (·.2)) σ H Q) := by
    refine ⟨fun pins s σ H Q J h => ?_⟩
    rw [eval_ListComp]
    exact lc_coreX hc hN J p1 ok (fun s H C cl fp => (h1 s H C cl fp).can) (fun _ _ _ _ _ => pts_nil)
      (fun s H C cl fp b => pe_spot b (hg s H C cl fp) k1 k2 k3 k4 k5 k6 k7 k8 (k11 X _ rfl rfl rfl rfl rfl) hr hL (hv s H C cl fp) hdb k9 k10 (hpl C cl)) hs h fun D s' H' J' q => ⟨.ref D, H', J', rfl, q⟩
  refine ⟨_, P, fun F G ι σ H ρ μ Q E P r R L q k => ?_⟩
  refine q1 F G ι σ H ρ μ _ _ _ r R L q fun G1 ι1 μ1 H1 J ds st e1 R1 It q => fun Dd hD => ?_
  have r1 := r.mono e1
  refine lc_runX (Wb := fun cls d _ H' => W cls d σ H') It q.1 r1 R1 hD hvw (fun F G ι σ H ρ μ v d Q P r R vd q k => ⟨F, G, ι, ρ, μ, d, Q, r, R, vd, q, k⟩) (fun F G ι σ2 H2 ρ2 μ2 Q E P e2 r2 R2 L2 q k => ?_) (fun σ' xs G' ι' e G2 ι2 H2 μ2 cls dx x e2 R2 xr hE => L G2 ι2 H2 μ2 cls dx x ((e1.trans e).trans e2) (R2.unframe (frame_none R1 hD)) xr hE) q.2 fun G' ι' H' μ' xs acc e R' va hz qa => ?_
  · obtain ⟨o, c, qq, kk, U, h3, ⟨l', hl', rfl, pm', ctv, rfl⟩, hU, hsp⟩ := q
    obtain ⟨u, hu, vd⟩ := r2.at_ j _ h3
    cases vd with
    | fn hf hc' =>
      refine ⟨_, c, kk, l', U, pm', ctv, hu, R2.same _ _ hf, R2.same _ _ hc', hl', hU, F, G, ι, μ2, fun μ' Q' E' => U ρ μ' Q' E', Q, R2, ?_, hsp, fun G' ι' H' μ' v d e R' v' qd => k G' ι' μ' H' v d e R' v' qd⟩
      intro G3 ι3 H3 μ3 Q3 Ed P3 Ex e3 R3 hA kv kx
      exact ⟨R3.same _ _ (e3.g _ _ hf), F, G3, ι3, ρ, μ3, Q3, Ed, r1.mono (e2.trans e3), R3, fun G' ι' H' μ' cls dx x e R' X' q => kx G' ι' H' μ' cls dx x e R' X' q, hA, fun G' ι' μ' H' v d e R' v' q => kv G' ι' H' μ' v d e R' v' q⟩
  · obtain ⟨R2, e2⟩ := R'.toFrozen (frame_none R1 hD)
    exact k _ _ μ' H' _ _ ((e1.trans e).trans e2) R2 (.lst upd_same (va.mono e2) hz) qa
end
end Y
namespace Z
open PySem PySem.Spec PyProof.Rows L2 Y
abbrev N_is_way : List Str := ["stuffs", "way", "long", "rests", "needs", "many"]
abbrev P_is_way : List Str := ["stuffs", "way"]
theorem sc_is_way : FnScope N_is_way P_is_way (defScope st_is_way) := ⟨rfl, rfl, rfl, by decide +kernel, rfl, by decide +kernel, by decide +kernel⟩
def R_is_way (sp_between : DSp) : SD :=
  (sSeq (sUnp (dVar 1) (nTup 3 (nCons (nNm 2) (nCons (nNm 3) (nCons (nNm 4) nNil)))))
  (sSeq (sIf (dOr (dNot (dTru (dCall sp_between [] (dCons (dVar 2) (dCons (dC (.int 1)) (dCons (dC (.int (9))) dNil)))))) (dTest (dOp notInD (dVar 3) (dTup (dCons (dC (.int 0)) (dCons (dC (.int 1)) dNil)))))) (sRet (dC (.bl false))) sNext)
  (sRet (dAndV (dOp eqD (dCal lenD (dCons (dVar 4) dNil)) (dVar 0)) (dCal allD (dCons (dLc (dSeq (dVar 4)) (nNm 5) dYes (dCall sp_between [] (dCons (dVar 5) (dCons (dC (.int 0)) (dCons (dC (.int (9))) dNil)))) [5]) dNil))))))
theorem b_is_way {P : Program} {w : World} {K : PySem.W.Frag} {mg : Str → Option Value} {base : Heap} {f : Addr} {j : Nat} {sp_between : DSp} {k_between : Nat} (h_between : k_between ≤ j) (c_between : CalD P w K mg base k_between "between" sp_between []) (m_all : mg "all" = none) (m_len : mg "len" = none) {t_MOST_LONG : Tok} (g_MOST_LONG : mg "MOST_LONG" = some (.int (9) t_MOST_LONG)) {t_MOST_MANY : Tok} (g_MOST_MANY : mg "MOST_MANY" = some (.int (9) t_MOST_MANY)) :
    BodyOk P w K mg base N_is_way "is_way" (defScope st_is_way) (defBody st_is_way) f j (R_is_way sp_between) := fun cdv A outer s H E hr =>
  have nd := sc_is_way.nd
  have hu := hr.units
  have tk := tk_of (P := P) (w := w) (K := K) (mg := mg) (base := base) (N := N_is_way) (qual := "is_way") (scope := defScope st_is_way) (f := f) (cdv := cdv) (A := A) (outer := outer) (s := s) (H := H) (E := E)
  have hp := hp_of (P := P) (w := w) (K := K) (mg := mg) (base := base) (N := N_is_way) (qual := "is_way") (scope := defScope st_is_way) (f := f) (cdv := cdv) (A := A) (outer := outer) (s := s) (H := H) (E := E)
  (dss_cons (ds_unp (dv 1) (dn_tup rfl (dns_cons (dn_name nd) (dns_cons (dn_name nd) (dns_cons (dn_name nd) dns_nil)))))
  (dss_cons (ds_if (DW.db (dw_or (db_not (db_tru (de_call c_between hr tk (da_cons (dv 2) (da_cons de_int (da_cons (de_glob g_MOST_LONG) da_nil))) (hk := h_between)))) (dw_or1 (db_cmpR op_notIn_seq prim_notIn (dv 3) (de_tup (da_cons de_int (da_cons de_int da_nil))) rfl)))) (dss_one (ds_ret de_bl)) dss_nil)
  (dss_one (ds_ret (de_and (de_cmpR (op_eqU hu) prim_eq (de_blt call_len prim_len m_len PySem.boot_len (da_cons (dv 4) da_nil)) (dv 0) (nomark _)) (de_one (de_blt (cr_all rfl) prim_all m_all boot_all (da_cons (de_lc1 rfl nd (di_seq (dv 4)) (blkOk_by (N := N_is_way) (sc := defScope st_is_way) (own := [("many", 5)]) (by decide +kernel)) (blk0 (fun _ _ _ _ _ => (dn_name nd)) (fun _ _ _ _ _ => (de_call c_between hr (takes_no rfl) (da_cons (dv 5) (da_cons de_int (da_cons (de_glob g_MOST_MANY) da_nil))) (hk := h_between)))) rfl (by decide)) da_nil))))))))
abbrev N_is_work : List Str := ["days", "stuffs", "work", "low", "high", "ways", "way"]
abbrev P_is_work : List Str := ["days", "stuffs", "work"]
theorem sc_is_work : FnScope N_is_work P_is_work (defScope st_is_work) := ⟨rfl, rfl, rfl, by decide +kernel, rfl, by decide +kernel, by decide +kernel⟩
def R_is_work (sp_between : DSp) (sp_is_way : DSp) : SD :=
  (sSeq (sUnp (dVar 2) (nTup 3 (nCons (nNm 3) (nCons (nNm 4) (nCons (nNm 5) nNil)))))
  (sSeq (sIf (dOr (dNot (dCh3 leD ltD leD (dC (.int 0)) (dVar 3) (dVar 4) (dVar 0))) (dNot (dTru (dCall sp_between [] (dCons (dCal lenD (dCons (dVar 5) dNil)) (dCons (dC (.int 1)) (dCons (dC (.int (3))) dNil))))))) (sRet (dC (.bl false))) sNext)
  (sRet (dCal allD (dCons (dLc (dSeq (dVar 5)) (nNm 6) dYes (dCall sp_is_way [] (dCons (dVar 1) (dCons (dVar 6) dNil))) [6]) dNil)))))
theorem b_is_work {P : Program} {w : World} {K : PySem.W.Frag} {mg : Str → Option Value} {base : Heap} {f : Addr} {j : Nat} {sp_between : DSp} {sp_is_way : DSp} {k_between : Nat} (h_between : k_between ≤ j) (c_between : CalD P w K mg base k_between "between" sp_between []) {k_is_way : Nat} (h_is_way : k_is_way ≤ j) (c_is_way : CalD P w K mg base k_is_way "is_way" sp_is_way []) (m_all : mg "all" = none) (m_len : mg "len" = none) {t_MOST_WAYS : Tok} (g_MOST_WAYS : mg "MOST_WAYS" = some (.int (3) t_MOST_WAYS)) :
    BodyOk P w K mg base N_is_work "is_work" (defScope st_is_work) (defBody st_is_work) f j (R_is_work sp_between sp_is_way) := fun cdv A outer s H E hr =>
  have nd := sc_is_work.nd
  have hu := hr.units
  have tk := tk_of (P := P) (w := w) (K := K) (mg := mg) (base := base) (N := N_is_work) (qual := "is_work") (scope := defScope st_is_work) (f := f) (cdv := cdv) (A := A) (outer := outer) (s := s) (H := H) (E := E)
  have hp := hp_of (P := P) (w := w) (K := K) (mg := mg) (base := base) (N := N_is_work) (qual := "is_work") (scope := defScope st_is_work) (f := f) (cdv := cdv) (A := A) (outer := outer) (s := s) (H := H) (E := E)
  (dss_cons (ds_unp (dv 2) (dn_tup rfl (dns_cons (dn_name nd) (dns_cons (dn_name nd) (dns_cons (dn_name nd) dns_nil)))))
  (dss_cons (ds_if (DW.db (dw_or (db_not (db_ch3 op_le prim_le op_lt prim_lt op_le prim_le de_int (dv 3) (dv 4) (dv 0))) (dw_or1 (db_not (db_tru (de_call c_between hr tk (da_cons (de_blt call_len prim_len m_len PySem.boot_len (da_cons (dv 5) da_nil)) (da_cons de_int (da_cons (de_glob g_MOST_WAYS) da_nil))) (hk := h_between))))))) (dss_one (ds_ret de_bl)) dss_nil)
  (dss_one (ds_ret (de_blt (cr_all rfl) prim_all m_all boot_all (da_cons (de_lc1 rfl nd (di_seq (dv 5)) (blkOk_by (N := N_is_work) (sc := defScope st_is_work) (own := [("way", 6)]) (by decide +kernel)) (blk0 (fun _ _ _ _ _ => (dn_name nd)) (fun _ _ _ _ _ => (de_call c_is_way hr (takes_no rfl) (da_cons (dv 1) (da_cons (dv 6) da_nil)) (hk := h_is_way)))) rfl (by decide)) da_nil))))))
abbrev N_is_tie : List Str := ["works", "tie", "kind", "one", "other", "gap"]
abbrev P_is_tie : List Str := ["works", "tie"]
theorem sc_is_tie : FnScope N_is_tie P_is_tie (defScope st_is_tie) := ⟨rfl, rfl, rfl, by decide +kernel, rfl, by decide +kernel, by decide +kernel⟩
def R_is_tie (sp_between : DSp) : SD :=
  (sSeq (sUnp (dVar 1) (nTup 4 (nCons (nNm 2) (nCons (nNm 3) (nCons (nNm 4) (nCons (nNm 5) nNil))))))
  (sSeq (sIf (dOr (dTest (dOp notInD (dVar 2) (dTup (dCons (dC (.int (0))) (dCons (dC (.int (1))) dNil))))) (dOr (dNot (dTest (dChain leD ltD (dC (.int 0)) (dVar 3) (dVar 0)))) (dNot (dTest (dChain leD ltD (dC (.int 0)) (dVar 4) (dVar 0)))))) (sRet (dC (.bl false))) sNext)
  (sRet (dAndV (dOp neD (dVar 3) (dVar 4)) (dCall sp_between [] (dCons (dVar 5) (dCons (dUn negD (dC (.int (20)))) (dCons (dC (.int (20))) dNil))))))))
theorem b_is_tie {P : Program} {w : World} {K : PySem.W.Frag} {mg : Str → Option Value} {base : Heap} {f : Addr} {j : Nat} {sp_between : DSp} {k_between : Nat} (h_between : k_between ≤ j) (c_between : CalD P w K mg base k_between "between" sp_between []) {t_END : Tok} (g_END : mg "END" = some (.int (1) t_END)) {t_MOST_GAP : Tok} (g_MOST_GAP : mg "MOST_GAP" = some (.int (20) t_MOST_GAP)) {t_START : Tok} (g_START : mg "START" = some (.int (0) t_START)) :
    BodyOk P w K mg base N_is_tie "is_tie" (defScope st_is_tie) (defBody st_is_tie) f j (R_is_tie sp_between) := fun cdv A outer s H E hr =>
  have nd := sc_is_tie.nd
  have hu := hr.units
  have tk := tk_of (P := P) (w := w) (K := K) (mg := mg) (base := base) (N := N_is_tie) (qual := "is_tie") (scope := defScope st_is_tie) (f := f) (cdv := cdv) (A := A) (outer := outer) (s := s) (H := H) (E := E)
  have hp := hp_of (P := P) (w := w) (K := K) (mg := mg) (base := base) (N := N_is_tie) (qual := "is_tie") (scope := defScope st_is_tie) (f := f) (cdv := cdv) (A := A) (outer := outer) (s := s) (H := H) (E := E)
  (dss_cons (ds_unp (dv 1) (dn_tup rfl (dns_cons (dn_name nd) (dns_cons (dn_name nd) (dns_cons (dn_name nd) (dns_cons (dn_name nd) dns_nil))))))
  (dss_cons (ds_if (DW.db (dw_or (db_cmpR op_notIn_seq prim_notIn (dv 2) (de_tup (da_cons (de_glob g_START) (da_cons (de_glob g_END) da_nil))) rfl) (dw_or (db_not (db_chain op_le prim_le op_lt prim_lt de_int (dv 3) (dv 0))) (dw_or1 (db_not (db_chain op_le prim_le op_lt prim_lt de_int (dv 4) (dv 0))))))) (dss_one (ds_ret de_bl)) dss_nil)
  (dss_one (ds_ret (de_and (de_cmpR (op_neU hu) prim_ne (dv 3) (dv 4) (nomark _)) (de_one (de_call c_between hr tk (da_cons (dv 5) (da_cons (de_un un_neg prim_neg (de_glob g_MOST_GAP)) (da_cons (de_glob g_MOST_GAP) da_nil))) (hk := h_between))))))))
abbrev N_first_wrong : List Str := ["yard", "days", "shut", "stuffs", "works", "ties", "at", "row", "work", "tie"]
abbrev P_first_wrong : List Str := ["yard"]
theorem sc_first_wrong : FnScope N_first_wrong P_first_wrong (defScope st_first_wrong) := ⟨rfl, rfl, rfl, by decide +kernel, rfl, by decide +kernel, by decide +kernel⟩
def R_first_wrong (sp_between : DSp) (sp_is_stuff : DSp) (sp_is_tie : DSp) (sp_is_work : DSp) (sp_shut_wrong : DSp) : SD :=
  (sSeq (sUnp (dVar 0) (nTup 5 (nCons (nNm 1) (nCons (nNm 2) (nCons (nNm 3) (nCons (nNm 4) (nCons (nNm 5) nNil)))))))
  (sSeq (sIf (dNot (dTru (dCall sp_between [] (dCons (dVar 1) (dCons (dC (.int 1)) (dCons (dC (.int (20))) dNil)))))) (sRet (dTup (dCons (dC (.str "days")) (dCons (dC (.int 0)) dNil)))) sNext)
  (sSeq (sSet 6 (dCall sp_shut_wrong [] (dCons (dVar 1) (dCons (dVar 2) dNil))))
  (sSeq (sIf (dTest (dOp notND (dVar 6) (dC .non))) (sRet (dTup (dCons (dC (.str "shut")) (dCons (dVar 6) dNil)))) sNext)
  (sSeq (sFor (dEnum (dVar 3)) (nTup 2 (nCons (nNm 6) (nCons (nNm 7) nNil))) (sIf (dOr (dTest (dOp geD (dVar 6) (dC (.int (3))))) (dNot (dTru (dCall sp_is_stuff [] (dCons (dVar 1) (dCons (dVar 7) dNil)))))) (sRet (dTup (dCons (dC (.str "stuffs")) (dCons (dVar 6) dNil)))) sNext))
  (sSeq (sFor (dEnum (dVar 4)) (nTup 2 (nCons (nNm 6) (nCons (nNm 8) nNil))) (sIf (dOr (dTest (dOp geD (dVar 6) (dC (.int (6))))) (dNot (dTru (dCall sp_is_work [] (dCons (dVar 1) (dCons (dCal lenD (dCons (dVar 3) dNil)) (dCons (dVar 8) dNil))))))) (sRet (dTup (dCons (dC (.str "works")) (dCons (dVar 6) dNil)))) sNext))
  (sSeq (sFor (dEnum (dVar 5)) (nTup 2 (nCons (nNm 6) (nCons (nNm 9) nNil))) (sIf (dOr (dTest (dOp geD (dVar 6) (dC (.int (12))))) (dNot (dTru (dCall sp_is_tie [] (dCons (dCal lenD (dCons (dVar 4) dNil)) (dCons (dVar 9) dNil)))))) (sRet (dTup (dCons (dC (.str "ties")) (dCons (dVar 6) dNil)))) sNext))
  (sRet (dC .non)))))))))
theorem b_first_wrong {P : Program} {w : World} {K : PySem.W.Frag} {mg : Str → Option Value} {base : Heap} {f : Addr} {j : Nat} {sp_between : DSp} {sp_is_stuff : DSp} {sp_is_tie : DSp} {sp_is_work : DSp} {sp_shut_wrong : DSp} {k_between : Nat} (h_between : k_between ≤ j) (c_between : CalD P w K mg base k_between "between" sp_between []) {k_is_stuff : Nat} (h_is_stuff : k_is_stuff ≤ j) (c_is_stuff : CalD P w K mg base k_is_stuff "is_stuff" sp_is_stuff []) {k_is_tie : Nat} (h_is_tie : k_is_tie ≤ j) (c_is_tie : CalD P w K mg base k_is_tie "is_tie" sp_is_tie []) {k_is_work : Nat} (h_is_work : k_is_work ≤ j) (c_is_work : CalD P w K mg base k_is_work "is_work" sp_is_work []) {k_shut_wrong : Nat} (h_shut_wrong : k_shut_wrong ≤ j) (c_shut_wrong : CalD P w K mg base k_shut_wrong "shut_wrong" sp_shut_wrong []) (m_enumerate : mg "enumerate" = none) (m_len : mg "len" = none) {t_MOST_DAYS : Tok} (g_MOST_DAYS : mg "MOST_DAYS" = some (.int (20) t_MOST_DAYS)) {t_MOST_STUFFS : Tok} (g_MOST_STUFFS : mg "MOST_STUFFS" = some (.int (3) t_MOST_STUFFS)) {t_MOST_TIES : Tok} (g_MOST_TIES : mg "MOST_TIES" = some (.int (12) t_MOST_TIES)) {t_MOST_WORKS : Tok} (g_MOST_WORKS : mg "MOST_WORKS" = some (.int (6) t_MOST_WORKS)) :
    BodyOk P w K mg base N_first_wrong "first_wrong" (defScope st_first_wrong) (defBody st_first_wrong) f j (R_first_wrong sp_between sp_is_stuff sp_is_tie sp_is_work sp_shut_wrong) := fun cdv A outer s H E hr =>
  have nd := sc_first_wrong.nd
  have hu := hr.units
  have tk := tk_of (P := P) (w := w) (K := K) (mg := mg) (base := base) (N := N_first_wrong) (qual := "first_wrong") (scope := defScope st_first_wrong) (f := f) (cdv := cdv) (A := A) (outer := outer) (s := s) (H := H) (E := E)
  have hp := hp_of (P := P) (w := w) (K := K) (mg := mg) (base := base) (N := N_first_wrong) (qual := "first_wrong") (scope := defScope st_first_wrong) (f := f) (cdv := cdv) (A := A) (outer := outer) (s := s) (H := H) (E := E)
  (dss_cons (ds_unp (dv 0) (dn_tup rfl (dns_cons (dn_name nd) (dns_cons (dn_name nd) (dns_cons (dn_name nd) (dns_cons (dn_name nd) (dns_cons (dn_name nd) dns_nil)))))))
  (dss_cons (ds_if (db_not (db_tru (de_call c_between hr tk (da_cons (dv 1) (da_cons de_int (da_cons (de_glob g_MOST_DAYS) da_nil))) (hk := h_between)))) (dss_one (ds_ret (de_tup (da_cons de_str (da_cons de_int da_nil))))) dss_nil)
  (dss_cons (ds_set (i := 6) nd (de_call c_shut_wrong hr tk (da_cons (dv 1) (da_cons (dv 2) da_nil)) (hk := h_shut_wrong)))
  (dss_cons (ds_if (db_cmpR op_notN prim_notN (dv 6) de_non (nomark _)) (dss_one (ds_ret (de_tup (da_cons de_str (da_cons (dv 6) da_nil))))) dss_nil)
  (dss_cons (ds_for hp rfl (di_enum (by rfl) m_enumerate (dv 3)) (dn_tup rfl (dns_cons (dn_name nd) (dns_cons (dn_name nd) dns_nil))) (dss_one (ds_if (DW.db (dw_or (db_cmpR op_ge prim_ge (dv 6) (de_glob g_MOST_STUFFS) (nomark _)) (dw_or1 (db_not (db_tru (de_call c_is_stuff hr tk (da_cons (dv 1) (da_cons (dv 7) da_nil)) (hk := h_is_stuff))))))) (dss_one (ds_ret (de_tup (da_cons de_str (da_cons (dv 6) da_nil))))) dss_nil)))
  (dss_cons (ds_for hp rfl (di_enum (by rfl) m_enumerate (dv 4)) (dn_tup rfl (dns_cons (dn_name nd) (dns_cons (dn_name nd) dns_nil))) (dss_one (ds_if (DW.db (dw_or (db_cmpR op_ge prim_ge (dv 6) (de_glob g_MOST_WORKS) (nomark _)) (dw_or1 (db_not (db_tru (de_call c_is_work hr tk (da_cons (dv 1) (da_cons (de_blt call_len prim_len m_len PySem.boot_len (da_cons (dv 3) da_nil)) (da_cons (dv 8) da_nil))) (hk := h_is_work))))))) (dss_one (ds_ret (de_tup (da_cons de_str (da_cons (dv 6) da_nil))))) dss_nil)))
  (dss_cons (ds_for hp rfl (di_enum (by rfl) m_enumerate (dv 5)) (dn_tup rfl (dns_cons (dn_name nd) (dns_cons (dn_name nd) dns_nil))) (dss_one (ds_if (DW.db (dw_or (db_cmpR op_ge prim_ge (dv 6) (de_glob g_MOST_TIES) (nomark _)) (dw_or1 (db_not (db_tru (de_call c_is_tie hr tk (da_cons (de_blt call_len prim_len m_len PySem.boot_len (da_cons (dv 4) da_nil)) (da_cons (dv 9) da_nil)) (hk := h_is_tie))))))) (dss_one (ds_ret (de_tup (da_cons de_str (da_cons (dv 6) da_nil))))) dss_nil)))
  (dss_one (ds_ret de_non)))))))))
abbrev N_days_of : List Str := ["yard", "work", "way", "begin", "days", "shut", "long", "rests", "needs", "found", "day"]
abbrev P_days_of : List Str := ["yard", "work", "way", "begin"]
theorem sc_days_of : FnScope N_days_of P_days_of (defScope st_days_of) := ⟨rfl, rfl, rfl, by decide +kernel, rfl, by decide +kernel, by decide +kernel⟩
def R_days_of : SD :=
  (sSeq (sUnp (dTup (dCons (dOp ixD (dVar 0) (dC (.int 0))) (dCons (dOp ixD (dVar 0) (dC (.int 1))) dNil))) (nTup 2 (nCons (nNm 4) (nCons (nNm 5) nNil))))
  (sSeq (sUnp (dOp ixD (dOp ixD (dOp ixD (dOp ixD (dVar 0) (dC (.int 3))) (dVar 1)) (dC (.int 2))) (dVar 2)) (nTup 3 (nCons (nNm 6) (nCons (nNm 7) (nCons (nNm 8) nNil)))))
  (sSeq (sIf (dAnd (dTru (dVar 7)) (dTest (dOp inD (dVar 3) (dVar 5)))) (sRet (dC .non)) sNext)
  (sSeq (sSet 9 (dSl (dLc (dRange2 (dVar 3) (dVar 4)) (nNm 10) (dOr (dNot (dTru (dVar 7))) (dTest (dOp notInD (dVar 10) (dVar 5)))) (dVar 10) [10]) dNoP (dPart (dVar 6))))
  (sRet (dIf (dTest (dOp eqD (dCal lenD (dCons (dVar 9) dNil)) (dVar 6))) (dVar 9) (dC .non)))))))
theorem b_days_of {P : Program} {w : World} {K : PySem.W.Frag} {mg : Str → Option Value} {base : Heap} {f : Addr} {j : Nat} (m_len : mg "len" = none) (m_range : mg "range" = none) :
    BodyOk P w K mg base N_days_of "days_of" (defScope st_days_of) (defBody st_days_of) f j (R_days_of) := fun cdv A outer s H E hr =>
  have nd := sc_days_of.nd
  have hu := hr.units
  have tk := tk_of (P := P) (w := w) (K := K) (mg := mg) (base := base) (N := N_days_of) (qual := "days_of") (scope := defScope st_days_of) (f := f) (cdv := cdv) (A := A) (outer := outer) (s := s) (H := H) (E := E)
  have hp := hp_of (P := P) (w := w) (K := K) (mg := mg) (base := base) (N := N_days_of) (qual := "days_of") (scope := defScope st_days_of) (f := f) (cdv := cdv) (A := A) (outer := outer) (s := s) (H := H) (E := E)
  (dss_cons (ds_unp (de_tup (da_cons (de_ix (dv 0) de_int) (da_cons (de_ix (dv 0) de_int) da_nil))) (dn_tup rfl (dns_cons (dn_name nd) (dns_cons (dn_name nd) dns_nil))))
  (dss_cons (ds_unp (de_ix (de_ix (de_ix (de_ix (dv 0) de_int) (dv 1)) de_int) (dv 2)) (dn_tup rfl (dns_cons (dn_name nd) (dns_cons (dn_name nd) (dns_cons (dn_name nd) dns_nil)))))
  (dss_cons (ds_if (DW.db (dw_and (db_tru (dv 7)) (dw_and1 (db_cmpR op_in_seq prim_in (dv 3) (dv 5) rfl)))) (dss_one (ds_ret de_non)) dss_nil)
  (dss_cons (ds_set (i := 9) nd (de_slice (de_lc1 rfl nd (di_range2 (by rfl) m_range (dv 3) (dv 4)) (blkOk_by (N := N_days_of) (sc := defScope st_days_of) (own := [("day", 10)]) (by decide +kernel)) (blk1 (fun _ _ _ _ _ => (dn_name nd)) (fun _ _ _ _ _ => (DW.db (dw_or (db_not (db_tru (dv 7))) (dw_or1 (db_cmpR op_notIn_seq prim_notIn (dv 10) (dv 5) rfl))))) (fun _ _ _ _ _ => (dv 10))) rfl (by decide)) do_none (do_some (dv 6))))
  (dss_one (ds_ret (de_ifx (db_cmpR (op_eqU hu) prim_eq (de_blt call_len prim_len m_len PySem.boot_len (da_cons (dv 9) da_nil)) (dv 6) (nomark _)) (dv 9) de_non)))))))
abbrev N_held_by : List Str := ["yard", "work", "way", "begin", "stuff", "first", "past", "row", "day"]
abbrev P_held_by : List Str := ["yard", "work", "way", "begin", "stuff", "first", "past"]
theorem sc_held_by : FnScope N_held_by P_held_by (defScope st_held_by) := ⟨rfl, rfl, rfl, by decide +kernel, rfl, by decide +kernel, by decide +kernel⟩
def R_held_by (sp_days_of : DSp) : SD :=
  (sSeq (sSet 7 (dCall sp_days_of [] (dCons (dVar 0) (dCons (dVar 1) (dCons (dVar 2) (dCons (dVar 3) dNil))))))
  (sSeq (sIf (dTest (dOp isND (dVar 7) (dC .non))) (sRet (dC .non)) sNext)
  (sRet (dOp mulD (dOp ixD (dOp ixD (dOp ixD (dOp ixD (dOp ixD (dOp ixD (dVar 0) (dC (.int 3))) (dVar 1)) (dC (.int 2))) (dVar 2)) (dC (.int 2))) (dVar 4)) (dCal lenD (dCons (dLc (dSeq (dVar 7)) (nNm 8) (dTest (dChain leD ltD (dVar 5) (dVar 8) (dVar 6))) (dVar 8) [8]) dNil))))))
theorem b_held_by {P : Program} {w : World} {K : PySem.W.Frag} {mg : Str → Option Value} {base : Heap} {f : Addr} {j : Nat} {sp_days_of : DSp} {k_days_of : Nat} (h_days_of : k_days_of ≤ j) (c_days_of : CalD P w K mg base k_days_of "days_of" sp_days_of []) (m_len : mg "len" = none) :
    BodyOk P w K mg base N_held_by "held_by" (defScope st_held_by) (defBody st_held_by) f j (R_held_by sp_days_of) := fun cdv A outer s H E hr =>
  have nd := sc_held_by.nd
  have hu := hr.units
  have tk := tk_of (P := P) (w := w) (K := K) (mg := mg) (base := base) (N := N_held_by) (qual := "held_by") (scope := defScope st_held_by) (f := f) (cdv := cdv) (A := A) (outer := outer) (s := s) (H := H) (E := E)
  have hp := hp_of (P := P) (w := w) (K := K) (mg := mg) (base := base) (N := N_held_by) (qual := "held_by") (scope := defScope st_held_by) (f := f) (cdv := cdv) (A := A) (outer := outer) (s := s) (H := H) (E := E)
  (dss_cons (ds_set (i := 7) nd (de_call c_days_of hr tk (da_cons (dv 0) (da_cons (dv 1) (da_cons (dv 2) (da_cons (dv 3) da_nil)))) (hk := h_days_of)))
  (dss_cons (ds_if (db_cmpR op_isN prim_isN (dv 7) de_non (nomark _)) (dss_one (ds_ret de_non)) dss_nil)
  (dss_one (ds_ret (de_op op_mul prim_mul (de_ix (de_ix (de_ix (de_ix (de_ix (de_ix (dv 0) de_int) (dv 1)) de_int) (dv 2)) de_int) (dv 4)) (de_blt call_len prim_len m_len PySem.boot_len (da_cons (de_lc1 rfl nd (di_seq (dv 7)) (blkOk_by (N := N_held_by) (sc := defScope st_held_by) (own := [("day", 8)]) (by decide +kernel)) (blk1 (fun _ _ _ _ _ => (dn_name nd)) (fun _ _ _ _ _ => (db_chain op_le prim_le op_lt prim_lt (dv 5) (dv 8) (dv 6))) (fun _ _ _ _ _ => (dv 8))) rfl (by decide)) da_nil)))))))
abbrev N_tie_kept : List Str := ["yard", "tie", "plan", "kind", "one", "other", "gap", "begin", "way", "ahead"]
abbrev P_tie_kept : List Str := ["yard", "tie", "plan"]
theorem sc_tie_kept : FnScope N_tie_kept P_tie_kept (defScope st_tie_kept) := ⟨rfl, rfl, rfl, by decide +kernel, rfl, by decide +kernel, by decide +kernel⟩
def R_tie_kept (sp_days_of : DSp) : SD :=
  (sSeq (sUnp (dVar 1) (nTup 4 (nCons (nNm 3) (nCons (nNm 4) (nCons (nNm 5) (nCons (nNm 6) nNil))))))
  (sSeq (sUnp (dOp ixD (dVar 2) (dVar 4)) (nTup 2 (nCons (nNm 7) (nCons (nNm 8) nNil))))
  (sSeq (sSet 9 (dIf (dTest (dOp eqD (dVar 3) (dC (.int (1))))) (dOp addD (dOp ixD (dCall sp_days_of [] (dCons (dVar 0) (dCons (dVar 4) (dCons (dVar 8) (dCons (dVar 7) dNil))))) (dUn negD (dC (.int 1)))) (dC (.int 1))) (dVar 7)))
  (sRet (dOp geD (dOp ixD (dOp ixD (dVar 2) (dVar 5)) (dC (.int 0))) (dOp addD (dVar 9) (dVar 6)))))))
theorem b_tie_kept {P : Program} {w : World} {K : PySem.W.Frag} {mg : Str → Option Value} {base : Heap} {f : Addr} {j : Nat} {sp_days_of : DSp} {k_days_of : Nat} (h_days_of : k_days_of ≤ j) (c_days_of : CalD P w K mg base k_days_of "days_of" sp_days_of []) {t_END : Tok} (g_END : mg "END" = some (.int (1) t_END)) :
    BodyOk P w K mg base N_tie_kept "tie_kept" (defScope st_tie_kept) (defBody st_tie_kept) f j (R_tie_kept sp_days_of) := fun cdv A outer s H E hr =>
  have nd := sc_tie_kept.nd
  have hu := hr.units
  have tk := tk_of (P := P) (w := w) (K := K) (mg := mg) (base := base) (N := N_tie_kept) (qual := "tie_kept") (scope := defScope st_tie_kept) (f := f) (cdv := cdv) (A := A) (outer := outer) (s := s) (H := H) (E := E)
  have hp := hp_of (P := P) (w := w) (K := K) (mg := mg) (base := base) (N := N_tie_kept) (qual := "tie_kept") (scope := defScope st_tie_kept) (f := f) (cdv := cdv) (A := A) (outer := outer) (s := s) (H := H) (E := E)
  (dss_cons (ds_unp (dv 1) (dn_tup rfl (dns_cons (dn_name nd) (dns_cons (dn_name nd) (dns_cons (dn_name nd) (dns_cons (dn_name nd) dns_nil))))))
  (dss_cons (ds_unp (de_ix (dv 2) (dv 4)) (dn_tup rfl (dns_cons (dn_name nd) (dns_cons (dn_name nd) dns_nil))))
  (dss_cons (ds_set (i := 9) nd (de_ifx (db_cmpR (op_eqU hu) prim_eq (dv 3) (de_glob g_END) (nomark _)) (de_op op_addU prim_add (de_ix (de_call c_days_of hr tk (da_cons (dv 0) (da_cons (dv 4) (da_cons (dv 8) (da_cons (dv 7) da_nil)))) (hk := h_days_of)) (de_un un_neg prim_neg de_int)) de_int) (dv 7)))
  (dss_one (ds_ret (de_cmpR op_ge prim_ge (de_ix (de_ix (dv 2) (dv 5)) de_int) (de_op op_addU prim_add (dv 9) (dv 6)) (nomark _)))))))
abbrev N_first_broken : List Str := ["yard", "plan", "at", "pair", "tie", "stuff", "row", "day", "many"]
abbrev P_first_broken : List Str := ["yard", "plan"]
theorem sc_first_broken : FnScope N_first_broken P_first_broken (defScope st_first_broken) := ⟨rfl, rfl, rfl, by decide +kernel, rfl, by decide +kernel, by decide +kernel⟩
def R_first_broken (sp_tie_kept : DSp) (sp_used : DSp) (sp_works_alone : DSp) : SD :=
  (sSeq (sFor (dEnum (dVar 1)) (nTup 2 (nCons (nNm 2) (nCons (nNm 3) nNil))) (sIf (dNot (dTru (dCall sp_works_alone [] (dCons (dVar 0) (dCons (dVar 2) (dCons (dVar 3) dNil)))))) (sRet (dTup (dCons (dC (.str "work")) (dCons (dVar 2) dNil)))) sNext))
  (sSeq (sFor (dEnum (dOp ixD (dVar 0) (dC (.int 4)))) (nTup 2 (nCons (nNm 2) (nCons (nNm 4) nNil))) (sIf (dNot (dTru (dCall sp_tie_kept [] (dCons (dVar 0) (dCons (dVar 4) (dCons (dVar 1) dNil)))))) (sRet (dTup (dCons (dC (.str "tie")) (dCons (dVar 2) dNil)))) sNext))
  (sSeq (sFor (dEnum (dOp ixD (dVar 0) (dC (.int 2)))) (nTup 2 (nCons (nNm 5) (nCons (nNm 6) nNil))) (sFor (dEnum (dVar 6)) (nTup 2 (nCons (nNm 7) (nCons (nNm 8) nNil))) (sIf (dTest (dOp gtD (dCall sp_used [] (dCons (dVar 0) (dCons (dVar 1) (dCons (dVar 5) (dCons (dVar 7) dNil))))) (dVar 8))) (sRet (dTup (dCons (dC (.str "stuff")) (dCons (dVar 5) (dCons (dVar 7) dNil))))) sNext)))
  (sRet (dC .non)))))
theorem b_first_broken {P : Program} {w : World} {K : PySem.W.Frag} {mg : Str → Option Value} {base : Heap} {f : Addr} {j : Nat} {sp_tie_kept : DSp} {sp_used : DSp} {sp_works_alone : DSp} {k_tie_kept : Nat} (h_tie_kept : k_tie_kept ≤ j) (c_tie_kept : CalD P w K mg base k_tie_kept "tie_kept" sp_tie_kept []) {k_used : Nat} (h_used : k_used ≤ j) (c_used : CalD P w K mg base k_used "used" sp_used []) {k_works_alone : Nat} (h_works_alone : k_works_alone ≤ j) (c_works_alone : CalD P w K mg base k_works_alone "works_alone" sp_works_alone []) (m_enumerate : mg "enumerate" = none) :
    BodyOk P w K mg base N_first_broken "first_broken" (defScope st_first_broken) (defBody st_first_broken) f j (R_first_broken sp_tie_kept sp_used sp_works_alone) := fun cdv A outer s H E hr =>
  have nd := sc_first_broken.nd
  have hu := hr.units
  have tk := tk_of (P := P) (w := w) (K := K) (mg := mg) (base := base) (N := N_first_broken) (qual := "first_broken") (scope := defScope st_first_broken) (f := f) (cdv := cdv) (A := A) (outer := outer) (s := s) (H := H) (E := E)
  have hp := hp_of (P := P) (w := w) (K := K) (mg := mg) (base := base) (N := N_first_broken) (qual := "first_broken") (scope := defScope st_first_broken) (f := f) (cdv := cdv) (A := A) (outer := outer) (s := s) (H := H) (E := E)
  (dss_cons (ds_for hp rfl (di_enum (by rfl) m_enumerate (dv 1)) (dn_tup rfl (dns_cons (dn_name nd) (dns_cons (dn_name nd) dns_nil))) (dss_one (ds_if (db_not (db_tru (de_call c_works_alone hr tk (da_cons (dv 0) (da_cons (dv 2) (da_cons (dv 3) da_nil))) (hk := h_works_alone)))) (dss_one (ds_ret (de_tup (da_cons de_str (da_cons (dv 2) da_nil))))) dss_nil)))
  (dss_cons (ds_for hp rfl (di_enum (by rfl) m_enumerate (de_ix (dv 0) de_int)) (dn_tup rfl (dns_cons (dn_name nd) (dns_cons (dn_name nd) dns_nil))) (dss_one (ds_if (db_not (db_tru (de_call c_tie_kept hr tk (da_cons (dv 0) (da_cons (dv 4) (da_cons (dv 1) da_nil))) (hk := h_tie_kept)))) (dss_one (ds_ret (de_tup (da_cons de_str (da_cons (dv 2) da_nil))))) dss_nil)))
  (dss_cons (ds_for hp rfl (di_enum (by rfl) m_enumerate (de_ix (dv 0) de_int)) (dn_tup rfl (dns_cons (dn_name nd) (dns_cons (dn_name nd) dns_nil))) (dss_one (ds_for hp rfl (di_enum (by rfl) m_enumerate (dv 6)) (dn_tup rfl (dns_cons (dn_name nd) (dns_cons (dn_name nd) dns_nil))) (dss_one (ds_if (db_cmpR op_gt prim_gt (de_call c_used hr tk (da_cons (dv 0) (da_cons (dv 1) (da_cons (dv 5) (da_cons (dv 7) da_nil)))) (hk := h_used)) (dv 8) (nomark _)) (dss_one (ds_ret (de_tup (da_cons de_str (da_cons (dv 5) (da_cons (dv 7) da_nil)))))) dss_nil)))))
  (dss_one (ds_ret de_non)))))
abbrev N_end_ofX : List Str := ["yard", "plan", "at", "begin", "way"]
abbrev P_end_ofX : List Str := ["yard", "plan"]
theorem sc_end_ofX : FnScope N_end_ofX P_end_ofX (defScope st_end_ofX) := ⟨rfl, rfl, rfl, by decide +kernel, rfl, by decide +kernel, by decide +kernel⟩
def R_end_ofX (sp_days_of : DSp) (sp_need_daysX : DSp) : SD :=
  (sSeq (sDrop (dCall sp_need_daysX [] (dCons (dVar 0) (dCons (dVar 1) dNil))))
  (sRet (dMostF (dCons (dLc (dEnum (dVar 1)) (nTup 2 (nCons (nNm 2) (nCons (nTup 2 (nCons (nNm 3) (nCons (nNm 4) nNil))) nNil))) dYes (dOp addD (dOp ixD (dCall sp_days_of [] (dCons (dVar 0) (dCons (dVar 2) (dCons (dVar 4) (dCons (dVar 3) dNil))))) (dUn negD (dC (.int 1)))) (dC (.int 1))) [2, 3, 4]) dNil) (dCons (dC (.int 0)) dNil))))
theorem b_end_ofX {P : Program} {w : World} {K : PySem.W.Frag} {mg : Str → Option Value} {base : Heap} {f : Addr} {j : Nat} {sp_days_of : DSp} {sp_need_daysX : DSp} {k_days_of : Nat} (h_days_of : k_days_of ≤ j) (c_days_of : CalD P w K mg base k_days_of "days_of" sp_days_of []) {k_need_daysX : Nat} (h_need_daysX : k_need_daysX ≤ j) (c_need_daysX : CalD P w K mg base k_need_daysX "need_days" sp_need_daysX []) (m_enumerate : mg "enumerate" = none) (m_max : mg "max" = none) :
    BodyOk P w K mg base N_end_ofX "end_of" (defScope st_end_ofX) (defBody st_end_ofX) f j (R_end_ofX sp_days_of sp_need_daysX) := fun cdv A outer s H E hr =>
  have nd := sc_end_ofX.nd
  have hu := hr.units
  have tk := tk_of (P := P) (w := w) (K := K) (mg := mg) (base := base) (N := N_end_ofX) (qual := "end_of") (scope := defScope st_end_ofX) (f := f) (cdv := cdv) (A := A) (outer := outer) (s := s) (H := H) (E := E)
  have hp := hp_of (P := P) (w := w) (K := K) (mg := mg) (base := base) (N := N_end_ofX) (qual := "end_of") (scope := defScope st_end_ofX) (f := f) (cdv := cdv) (A := A) (outer := outer) (s := s) (H := H) (E := E)
  (dss_cons (ds_expr (de_call c_need_daysX hr tk (da_cons (dv 0) (da_cons (dv 1) da_nil)) (hk := h_need_daysX)))
  (dss_one (ds_ret (de_maxF rfl hu (by rfl) m_max (da_cons (de_lc1 rfl nd (di_enum (by rfl) m_enumerate (dv 1)) (blkOk_by (N := N_end_ofX) (sc := defScope st_end_ofX) (own := [("at", 2), ("begin", 3), ("way", 4)]) (by decide +kernel)) (blk0 (fun _ _ _ _ _ => (dn_tup rfl (dns_cons (dn_name nd) (dns_cons (dn_tup rfl (dns_cons (dn_name nd) (dns_cons (dn_name nd) dns_nil))) dns_nil)))) (fun _ _ _ _ _ => (de_op op_addU prim_add (de_ix (de_call c_days_of hr (takes_no rfl) (da_cons (dv 0) (da_cons (dv 2) (da_cons (dv 4) (da_cons (dv 3) da_nil)))) (hk := h_days_of)) (de_un un_neg prim_neg de_int)) de_int))) rfl (by decide)) da_nil) (dk_cons de_int dk_nil)))))
abbrev N_tableX : List Str := ["yard", "plan", "stuff", "day"]
abbrev P_tableX : List Str := ["yard", "plan"]
theorem sc_tableX : FnScope N_tableX P_tableX (defScope st_tableX) := ⟨rfl, rfl, rfl, by decide +kernel, rfl, by decide +kernel, by decide +kernel⟩
def R_tableX (sp_need_daysX : DSp) (sp_used : DSp) : SD :=
  (sSeq (sDrop (dCall sp_need_daysX [] (dCons (dVar 0) (dCons (dVar 1) dNil))))
  (sRet (dLc (dRange1 (dCal lenD (dCons (dOp ixD (dVar 0) (dC (.int 2))) dNil))) (nNm 2) dYes (dLc (dRange1 (dOp ixD (dVar 0) (dC (.int 0)))) (nNm 3) dYes (dCall sp_used [] (dCons (dVar 0) (dCons (dVar 1) (dCons (dVar 2) (dCons (dVar 3) dNil))))) [3]) [2])))
theorem b_tableX {P : Program} {w : World} {K : PySem.W.Frag} {mg : Str → Option Value} {base : Heap} {f : Addr} {j : Nat} {sp_need_daysX : DSp} {sp_used : DSp} {k_need_daysX : Nat} (h_need_daysX : k_need_daysX ≤ j) (c_need_daysX : CalD P w K mg base k_need_daysX "need_days" sp_need_daysX []) {k_used : Nat} (h_used : k_used ≤ j) (c_used : CalD P w K mg base k_used "used" sp_used []) (m_len : mg "len" = none) (m_range : mg "range" = none) :
    BodyOk P w K mg base N_tableX "table" (defScope st_tableX) (defBody st_tableX) f j (R_tableX sp_need_daysX sp_used) := fun cdv A outer s H E hr =>
  have nd := sc_tableX.nd
  have hu := hr.units
  have tk := tk_of (P := P) (w := w) (K := K) (mg := mg) (base := base) (N := N_tableX) (qual := "table") (scope := defScope st_tableX) (f := f) (cdv := cdv) (A := A) (outer := outer) (s := s) (H := H) (E := E)
  have hp := hp_of (P := P) (w := w) (K := K) (mg := mg) (base := base) (N := N_tableX) (qual := "table") (scope := defScope st_tableX) (f := f) (cdv := cdv) (A := A) (outer := outer) (s := s) (H := H) (E := E)
  (dss_cons (ds_expr (de_call c_need_daysX hr tk (da_cons (dv 0) (da_cons (dv 1) da_nil)) (hk := h_need_daysX)))
  (dss_one (ds_ret (de_lc1 rfl nd (di_range1 (by rfl) m_range (de_blt call_len prim_len m_len PySem.boot_len (da_cons (de_ix (dv 0) de_int) da_nil))) (blkOk_by (N := N_tableX) (sc := defScope st_tableX) (own := [("stuff", 2)]) (by decide +kernel)) (blk0 (fun _ _ _ _ _ => (dn_name nd)) (fun _ _ _ _ _ => (de_lc1 rfl nd (di_range1 (by rfl) m_range (de_ix (dv 0) de_int)) (blkOk_in (N := N_tableX) (sc := defScope st_tableX) (own := [("day", 3)]) rfl rfl (by decide +kernel)) (blk0 (fun _ _ _ _ _ => (dn_name nd)) (fun _ _ _ _ _ => (de_call c_used hr (takes_no rfl) (da_cons (dv 0) (da_cons (dv 1) (da_cons (dv 2) (da_cons (dv 3) da_nil)))) (hk := h_used)))) rfl (by decide)))) rfl (by decide)))))
abbrev N_is_saying : List Str := ["yard", "saying", "word", "work", "thing"]
abbrev P_is_saying : List Str := ["yard", "saying"]
theorem sc_is_saying : FnScope N_is_saying P_is_saying (defScope st_is_saying) := ⟨rfl, rfl, rfl, by decide +kernel, rfl, by decide +kernel, by decide +kernel⟩
def R_is_saying : SD :=
  (sSeq (sUnp (dVar 1) (nTup 3 (nCons (nNm 2) (nCons (nNm 3) (nCons (nNm 4) nNil)))))
  (sSeq (sIf (dOr (dTest (dOp (notInTab "OTHER" tab_OTHER) (dVar 2) (dC (.glo "OTHER")))) (dNot (dTest (dChain leD ltD (dC (.int 0)) (dVar 3) (dCal lenD (dCons (dOp ixD (dVar 0) (dC (.int 3))) dNil)))))) (sRet (dC (.bl false))) sNext)
  (sSeq (sIf (dTest (dOp inD (dVar 2) (dTup (dCons (dC (.str "from")) (dCons (dC (.str "ahead")) dNil))))) (sRet (dChain leD leD (dC (.int 0)) (dVar 4) (dOp ixD (dVar 0) (dC (.int 0))))) sNext)
  (sSeq (sIf (dTest (dOp inD (dVar 2) (dTup (dCons (dC (.str "way")) (dCons (dC (.str "not")) dNil))))) (sRet (dChain leD ltD (dC (.int 0)) (dVar 4) (dCal lenD (dCons (dOp ixD (dOp ixD (dOp ixD (dVar 0) (dC (.int 3))) (dVar 3)) (dC (.int 2))) dNil)))) sNext)
  (sRet (dOp eqD (dVar 4) (dC (.int 0))))))))
theorem b_is_saying {P : Program} {w : World} {K : PySem.W.Frag} {mg : Str → Option Value} {base : Heap} {f : Addr} {j : Nat} (m_len : mg "len" = none) (t_OTHER : KTab K w mg "OTHER" tab_OTHER) :
    BodyOk P w K mg base N_is_saying "is_saying" (defScope st_is_saying) (defBody st_is_saying) f j (R_is_saying) := fun cdv A outer s H E hr =>
  have nd := sc_is_saying.nd
  have hu := hr.units
  have tk := tk_of (P := P) (w := w) (K := K) (mg := mg) (base := base) (N := N_is_saying) (qual := "is_saying") (scope := defScope st_is_saying) (f := f) (cdv := cdv) (A := A) (outer := outer) (s := s) (H := H) (E := E)
  have hp := hp_of (P := P) (w := w) (K := K) (mg := mg) (base := base) (N := N_is_saying) (qual := "is_saying") (scope := defScope st_is_saying) (f := f) (cdv := cdv) (A := A) (outer := outer) (s := s) (H := H) (E := E)
  (dss_cons (ds_unp (dv 1) (dn_tup rfl (dns_cons (dn_name nd) (dns_cons (dn_name nd) (dns_cons (dn_name nd) dns_nil)))))
  (dss_cons (ds_if (DW.db (dw_or (db_notInTab t_OTHER (dv 2)) (dw_or1 (db_not (db_chain op_le prim_le op_lt prim_lt de_int (dv 3) (de_blt call_len prim_len m_len PySem.boot_len (da_cons (de_ix (dv 0) de_int) da_nil))))))) (dss_one (ds_ret de_bl)) dss_nil)
  (dss_cons (ds_if (db_cmpR op_in_seq prim_in (dv 2) (de_tup (da_cons de_str (da_cons de_str da_nil))) rfl) (dss_one (ds_ret (de_chain op_le prim_le op_le prim_le de_int (dv 4) (de_ix (dv 0) de_int)))) dss_nil)
  (dss_cons (ds_if (db_cmpR op_in_seq prim_in (dv 2) (de_tup (da_cons de_str (da_cons de_str da_nil))) rfl) (dss_one (ds_ret (de_chain op_le prim_le op_lt prim_lt de_int (dv 4) (de_blt call_len prim_len m_len PySem.boot_len (da_cons (de_ix (de_ix (de_ix (dv 0) de_int) (dv 3)) de_int) da_nil))))) dss_nil)
  (dss_one (ds_ret (de_cmpR (op_eqU hu) prim_eq (dv 4) de_int (nomark _))))))))
abbrev N_says_so : List Str := ["plan", "kept", "saying", "word", "work", "thing", "begin", "way", "stays"]
abbrev P_says_so : List Str := ["plan", "kept", "saying"]
theorem sc_says_so : FnScope N_says_so P_says_so (defScope st_says_so) := ⟨rfl, rfl, rfl, by decide +kernel, rfl, by decide +kernel, by decide +kernel⟩
def R_says_so : SD :=
  (sSeq (sUnp (dVar 2) (nTup 3 (nCons (nNm 3) (nCons (nNm 4) (nCons (nNm 5) nNil)))))
  (sSeq (sUnp (dOp ixD (dVar 0) (dVar 4)) (nTup 2 (nCons (nNm 6) (nCons (nNm 7) nNil))))
  (sSeq (sIf (dTest (dOp inD (dVar 3) (dTup (dCons (dC (.str "from")) (dCons (dC (.str "ahead")) dNil))))) (sRet (dOp eqD (dOp geD (dVar 6) (dVar 5)) (dOp eqD (dVar 3) (dC (.str "from"))))) sNext)
  (sSeq (sIf (dTest (dOp inD (dVar 3) (dTup (dCons (dC (.str "way")) (dCons (dC (.str "not")) dNil))))) (sRet (dOp eqD (dOp eqD (dVar 7) (dVar 5)) (dOp eqD (dVar 3) (dC (.str "way"))))) sNext)
  (sSeq (sSet 8 (dAndV (dOp neD (dVar 1) (dTup dNil)) (dAndV (dOp notND (dOp ixD (dVar 1) (dVar 4)) (dC .non)) (dOp eqD (dCal tupleD (dCons (dOp ixD (dVar 1) (dVar 4)) dNil)) (dTup (dCons (dVar 6) (dCons (dVar 7) dNil)))))))
  (sRet (dOp eqD (dVar 8) (dOp eqD (dVar 3) (dC (.str "stays"))))))))))
theorem b_says_so {P : Program} {w : World} {K : PySem.W.Frag} {mg : Str → Option Value} {base : Heap} {f : Addr} {j : Nat} (m_tuple : mg "tuple" = none) :
    BodyOk P w K mg base N_says_so "says_so" (defScope st_says_so) (defBody st_says_so) f j (R_says_so) := fun cdv A outer s H E hr =>
  have nd := sc_says_so.nd
  have hu := hr.units
  have tk := tk_of (P := P) (w := w) (K := K) (mg := mg) (base := base) (N := N_says_so) (qual := "says_so") (scope := defScope st_says_so) (f := f) (cdv := cdv) (A := A) (outer := outer) (s := s) (H := H) (E := E)
  have hp := hp_of (P := P) (w := w) (K := K) (mg := mg) (base := base) (N := N_says_so) (qual := "says_so") (scope := defScope st_says_so) (f := f) (cdv := cdv) (A := A) (outer := outer) (s := s) (H := H) (E := E)
  (dss_cons (ds_unp (dv 2) (dn_tup rfl (dns_cons (dn_name nd) (dns_cons (dn_name nd) (dns_cons (dn_name nd) dns_nil)))))
  (dss_cons (ds_unp (de_ix (dv 0) (dv 4)) (dn_tup rfl (dns_cons (dn_name nd) (dns_cons (dn_name nd) dns_nil))))
  (dss_cons (ds_if (db_cmpR op_in_seq prim_in (dv 3) (de_tup (da_cons de_str (da_cons de_str da_nil))) rfl) (dss_one (ds_ret (de_cmpR (op_eqU hu) prim_eq (de_cmpR op_ge prim_ge (dv 6) (dv 5) (nomark _)) (de_cmpR (op_eqU hu) prim_eq (dv 3) de_str (nomark _)) (nomark _)))) dss_nil)
  (dss_cons (ds_if (db_cmpR op_in_seq prim_in (dv 3) (de_tup (da_cons de_str (da_cons de_str da_nil))) rfl) (dss_one (ds_ret (de_cmpR (op_eqU hu) prim_eq (de_cmpR (op_eqU hu) prim_eq (dv 7) (dv 5) (nomark _)) (de_cmpR (op_eqU hu) prim_eq (dv 3) de_str (nomark _)) (nomark _)))) dss_nil)
  (dss_cons (ds_set (i := 8) nd (de_and (de_cmpR (op_neU hu) prim_ne (dv 1) (de_tup da_nil) (nomark _)) (de_and (de_cmpR op_notN prim_notN (de_ix (dv 1) (dv 4)) de_non (nomark _)) (de_one (de_cmpR (op_eqU hu) prim_eq (de_tyc call_tupN prim_tuple m_tuple boot_tuple (da_cons (de_ix (dv 1) (dv 4)) da_nil)) (de_tup (da_cons (dv 6) (da_cons (dv 7) da_nil))) (nomark _))))))
  (dss_one (ds_ret (de_cmpR (op_eqU hu) prim_eq (dv 8) (de_cmpR (op_eqU hu) prim_eq (dv 3) de_str (nomark _)) (nomark _)))))))))
abbrev N_holdsX : List Str := ["yard", "plan", "sayings", "kept", "saying"]
abbrev P_holdsX : List Str := ["yard", "plan", "sayings", "kept"]
theorem sc_holdsX : FnScope N_holdsX P_holdsX (defScope st_holdsX) := ⟨rfl, rfl, rfl, by decide +kernel, rfl, by decide +kernel, by decide +kernel⟩
def R_holdsX (sp_need_planX : DSp) (sp_need_sayingsX : DSp) (sp_says_so : DSp) : SD :=
  (sSeq (sDrop (dCall sp_need_planX [] (dCons (dVar 0) (dCons (dVar 1) dNil))))
  (sSeq (sDrop (dCall sp_need_sayingsX [] (dCons (dVar 0) (dCons (dVar 2) dNil))))
  (sRet (dCal anyD (dCons (dLc (dSeq (dVar 2)) (nNm 4) dYes (dCall sp_says_so [] (dCons (dVar 1) (dCons (dVar 3) (dCons (dVar 4) dNil)))) [4]) dNil)))))
theorem b_holdsX {P : Program} {w : World} {K : PySem.W.Frag} {mg : Str → Option Value} {base : Heap} {f : Addr} {j : Nat} {sp_need_planX : DSp} {sp_need_sayingsX : DSp} {sp_says_so : DSp} {k_need_planX : Nat} (h_need_planX : k_need_planX ≤ j) (c_need_planX : CalD P w K mg base k_need_planX "need_plan" sp_need_planX []) {k_need_sayingsX : Nat} (h_need_sayingsX : k_need_sayingsX ≤ j) (c_need_sayingsX : CalD P w K mg base k_need_sayingsX "need_sayings" sp_need_sayingsX []) {k_says_so : Nat} (h_says_so : k_says_so ≤ j) (c_says_so : CalD P w K mg base k_says_so "says_so" sp_says_so []) (m_any : mg "any" = none) :
    BodyOk P w K mg base N_holdsX "holds" (defScope st_holdsX) (defBody st_holdsX) f j (R_holdsX sp_need_planX sp_need_sayingsX sp_says_so) := fun cdv A outer s H E hr =>
  have nd := sc_holdsX.nd
  have hu := hr.units
  have tk := tk_of (P := P) (w := w) (K := K) (mg := mg) (base := base) (N := N_holdsX) (qual := "holds") (scope := defScope st_holdsX) (f := f) (cdv := cdv) (A := A) (outer := outer) (s := s) (H := H) (E := E)
  have hp := hp_of (P := P) (w := w) (K := K) (mg := mg) (base := base) (N := N_holdsX) (qual := "holds") (scope := defScope st_holdsX) (f := f) (cdv := cdv) (A := A) (outer := outer) (s := s) (H := H) (E := E)
  (dss_cons (ds_expr (de_call c_need_planX hr tk (da_cons (dv 0) (da_cons (dv 1) da_nil)) (hk := h_need_planX)))
  (dss_cons (ds_expr (de_call c_need_sayingsX hr tk (da_cons (dv 0) (da_cons (dv 2) da_nil)) (hk := h_need_sayingsX)))
  (dss_one (ds_ret (de_blt (cr_any rfl) prim_any m_any boot_any (da_cons (de_lc1 rfl nd (di_seq (dv 2)) (blkOk_by (N := N_holdsX) (sc := defScope st_holdsX) (own := [("saying", 4)]) (by decide +kernel)) (blk0 (fun _ _ _ _ _ => (dn_name nd)) (fun _ _ _ _ _ => (de_call c_says_so hr (takes_no rfl) (da_cons (dv 1) (da_cons (dv 3) (da_cons (dv 4) da_nil))) (hk := h_says_so)))) rfl (by decide)) da_nil))))))
abbrev N_pull_L : List Str := ["_law_draw", "_law_total_of", "_law_cell", "_law_got", "_law_seed"]
abbrev P_pull_L : List Str := ["_law_draw", "_law_total_of"]
theorem sc_pull_L : FnScope N_pull_L P_pull_L (defScope st_pull_L) := ⟨rfl, rfl, rfl, by decide +kernel, rfl, by decide +kernel, by decide +kernel⟩
def R_pull_L : SD :=
  (sSeq (sIf (dAnd (dTest (dOp ltD (dOp ixD (dVar 0) (dC (.int 2))) (dVar 1))) (dTest (dOp ltD (dOp ixD (dVar 0) (dC (.int 1))) (dCal lenD (dCons (dOp ixD (dVar 0) (dC (.int 0))) dNil))))) (sSeq (sSet 2 (dOp ixD (dOp ixD (dVar 0) (dC (.int 0))) (dOp ixD (dVar 0) (dC (.int 1)))))
  (sSeq (sAsg (dOp addD (dOp ixD (dVar 0) (dC (.int 1))) (dC (.int 1))) (gSubD (dVar 0) (dC (.int 1))))
  (sSeq (sAsg (dC (.int 0)) (gSubD (dVar 0) (dC (.int 2))))
  (sIf (dTest (dOp geD (dVar 2) (dOp powD (dC (.int 10)) (dC (.int 18))))) (sAsg (dVar 2) (gSubD (dVar 0) (dC (.int 2)))) (sAsg (dOp modD (dOp addD (dOp addD (dOp mulD (dOp ixD (dVar 0) (dC (.int 3))) (dC (.int 40692))) (dOp mulD (dOp modD (dVar 2) (dC (.int 2147483629))) (dC (.int 69621)))) (dC (.int 104729))) (dC (.int 2147483647))) (gSubD (dVar 0) (dC (.int 3)))))))) sNext)
  (sSeq (sIf (dTest (dOp geD (dOp ixD (dVar 0) (dC (.int 2))) (dVar 1))) (sSeq (sSet 3 (dOp modD (dOp ixD (dVar 0) (dC (.int 2))) (dVar 1)))
  (sSeq (sAsg (dOp fdivD (dOp ixD (dVar 0) (dC (.int 2))) (dVar 1)) (gSubD (dVar 0) (dC (.int 2))))
  (sRet (dVar 3)))) sNext)
  (sSeq (sSet 4 (dOp ixD (dVar 0) (dC (.int 3))))
  (sSeq (sAsg (dOp modD (dOp addD (dOp addD (dOp mulD (dOp modD (dOp mulD (dVar 4) (dVar 4)) (dC (.int 2147483587))) (dC (.int 5))) (dOp mulD (dVar 4) (dC (.int 16807)))) (dC (.int 1013904229))) (dC (.int 2147483647))) (gSubD (dVar 0) (dC (.int 3))))
  (sRet (dOp modD (dOp addD (dOp fdivD (dOp ixD (dVar 0) (dC (.int 3))) (dC (.int 53))) (dOp mulD (dOp modD (dOp ixD (dVar 0) (dC (.int 3))) (dC (.int 8191))) (dC (.int 31)))) (dVar 1)))))))
theorem b_pull_L {P : Program} {w : World} {K : PySem.W.Frag} {mg : Str → Option Value} {base : Heap} {f : Addr} {j : Nat} (m_len : mg "len" = none) :
    BodyOk P w K mg base N_pull_L "_law_pull" (defScope st_pull_L) (defBody st_pull_L) f j (R_pull_L) := fun cdv A outer s H E hr =>
  have nd := sc_pull_L.nd
  have hu := hr.units
  have tk := tk_of (P := P) (w := w) (K := K) (mg := mg) (base := base) (N := N_pull_L) (qual := "_law_pull") (scope := defScope st_pull_L) (f := f) (cdv := cdv) (A := A) (outer := outer) (s := s) (H := H) (E := E)
  have hp := hp_of (P := P) (w := w) (K := K) (mg := mg) (base := base) (N := N_pull_L) (qual := "_law_pull") (scope := defScope st_pull_L) (f := f) (cdv := cdv) (A := A) (outer := outer) (s := s) (H := H) (E := E)
  (dss_cons (ds_if (DW.db (dw_and (db_cmpR op_lt prim_lt (de_ix (dv 0) de_int) (dv 1) (nomark _)) (dw_and1 (db_cmpR op_lt prim_lt (de_ix (dv 0) de_int) (de_blt call_len prim_len m_len PySem.boot_len (da_cons (de_ix (dv 0) de_int) da_nil)) (nomark _))))) (dss_cons (ds_set (i := 2) nd (de_ix (de_ix (dv 0) de_int) (de_ix (dv 0) de_int)))
  (dss_cons (ds_asg (de_op op_addU prim_add (de_ix (dv 0) de_int) de_int) (dg_sub (dv 0) de_int))
  (dss_cons (ds_asg de_int (dg_sub (dv 0) de_int))
  (dss_one (ds_if (db_cmpR op_ge prim_ge (dv 2) (de_op op_pow prim_pow de_int de_int) (nomark _)) (dss_one (ds_asg (dv 2) (dg_sub (dv 0) de_int))) (dss_one (ds_asg (de_op op_mod prim_mod (de_op op_addU prim_add (de_op op_addU prim_add (de_op op_mul prim_mul (de_ix (dv 0) de_int) de_int) (de_op op_mul prim_mul (de_op op_mod prim_mod (dv 2) de_int) de_int)) de_int) de_int) (dg_sub (dv 0) de_int)))))))) dss_nil)
  (dss_cons (ds_if (db_cmpR op_ge prim_ge (de_ix (dv 0) de_int) (dv 1) (nomark _)) (dss_cons (ds_set (i := 3) nd (de_op op_mod prim_mod (de_ix (dv 0) de_int) (dv 1)))
  (dss_cons (ds_asg (de_op op_fdiv prim_fdiv (de_ix (dv 0) de_int) (dv 1)) (dg_sub (dv 0) de_int))
  (dss_one (ds_ret (dv 3))))) dss_nil)
  (dss_cons (ds_set (i := 4) nd (de_ix (dv 0) de_int))
  (dss_cons (ds_asg (de_op op_mod prim_mod (de_op op_addU prim_add (de_op op_addU prim_add (de_op op_mul prim_mul (de_op op_mod prim_mod (de_op op_mul prim_mul (dv 4) (dv 4)) de_int) de_int) (de_op op_mul prim_mul (dv 4) de_int)) de_int) de_int) (dg_sub (dv 0) de_int))
  (dss_one (ds_ret (de_op op_mod prim_mod (de_op op_addU prim_add (de_op op_fdiv prim_fdiv (de_ix (dv 0) de_int) de_int) (de_op op_mul prim_mul (de_op op_mod prim_mod (de_ix (dv 0) de_int) de_int) de_int)) (dv 1))))))))
abbrev N_like_L : List Str := ["_law_found", "_law_due", "_law_k"]
abbrev P_like_L : List Str := ["_law_found", "_law_due"]
theorem sc_like_L : FnScope N_like_L P_like_L (defScope st_like_L) := ⟨rfl, rfl, rfl, by decide +kernel, rfl, by decide +kernel, by decide +kernel⟩
def R_like_L (sp_self : DSp) (sp_num_L : DSp) : SD :=
  (sSeq (sIf (dTest (dOp isND (dVar 1) (dC .non))) (sRet (dOp isND (dVar 0) (dC .non))) sNext)
  (sSeq (sIf (dTru (dCal isiD (dCons (dVar 1) (dCons (dC (.ty "bool")) dNil)))) (sRet (dAndV (dCal isiD (dCons (dVar 0) (dCons (dC (.ty "bool")) dNil))) (dOp eqD (dVar 0) (dVar 1)))) sNext)
  (sSeq (sIf (dTru (dCal isiD (dCons (dVar 1) (dCons (dC (.ty "int")) dNil)))) (sRet (dAndV (dCall sp_num_L [] (dCons (dVar 0) dNil)) (dOp eqD (dVar 0) (dVar 1)))) sNext)
  (sSeq (sIf (dTru (dCal isiD (dCons (dVar 1) (dCons (dC (.ty "str")) dNil)))) (sRet (dAndV (dCal isiD (dCons (dVar 0) (dCons (dC (.ty "str")) dNil))) (dOp eqD (dVar 0) (dVar 1)))) sNext)
  (sSeq (sIf (dOr (dTest (dOp neD (dCal isiD (dCons (dVar 1) (dCons (dC (.ty "tuple")) dNil))) (dCal isiD (dCons (dVar 0) (dCons (dC (.ty "tuple")) dNil))))) (dTest (dOp neD (dCal isiD (dCons (dVar 1) (dCons (dC (.ty "list")) dNil))) (dCal isiD (dCons (dVar 0) (dCons (dC (.ty "list")) dNil)))))) (sRet (dC (.bl false))) sNext)
  (sSeq (sIf (dTest (dOp neD (dCal lenD (dCons (dVar 0) dNil)) (dCal lenD (dCons (dVar 1) dNil)))) (sRet (dC (.bl false))) sNext)
  (sRet (dCal allD (dCons (dLc (dRange1 (dCal lenD (dCons (dVar 1) dNil))) (nNm 2) dYes (dCall sp_self [] (dCons (dOp ixD (dVar 0) (dVar 2)) (dCons (dOp ixD (dVar 1) (dVar 2)) dNil))) [2]) dNil)))))))))
theorem b_like_L {P : Program} {w : World} {K : PySem.W.Frag} {mg : Str → Option Value} {base : Heap} {f : Addr} {j : Nat} {sp_self : DSp} {sp_num_L : DSp} {k_like_L : Nat} (h_like_L : k_like_L ≤ j) (c_like_L : CalD P w K mg base k_like_L "_law_like" sp_self []) {k_num_L : Nat} (h_num_L : k_num_L ≤ j) (c_num_L : CalD P w K mg base k_num_L "_law_num" sp_num_L []) (m_all : mg "all" = none) (m_bool : mg "bool" = none) (m_int : mg "int" = none) (m_isinstance : mg "isinstance" = none) (m_len : mg "len" = none) (m_list : mg "list" = none) (m_range : mg "range" = none) (m_str : mg "str" = none) (m_tuple : mg "tuple" = none) :
    BodyOk P w K mg base N_like_L "_law_like" (defScope st_like_L) (defBody st_like_L) f j (R_like_L sp_self sp_num_L) := fun cdv A outer s H E hr =>
  have nd := sc_like_L.nd
  have hu := hr.units
  have tk := tk_of (P := P) (w := w) (K := K) (mg := mg) (base := base) (N := N_like_L) (qual := "_law_like") (scope := defScope st_like_L) (f := f) (cdv := cdv) (A := A) (outer := outer) (s := s) (H := H) (E := E)
  have hp := hp_of (P := P) (w := w) (K := K) (mg := mg) (base := base) (N := N_like_L) (qual := "_law_like") (scope := defScope st_like_L) (f := f) (cdv := cdv) (A := A) (outer := outer) (s := s) (H := H) (E := E)
  (dss_cons (ds_if (db_cmpR op_isN prim_isN (dv 1) de_non (nomark _)) (dss_one (ds_ret (de_cmpR op_isN prim_isN (dv 0) de_non (nomark _)))) dss_nil)
  (dss_cons (ds_if (db_tru (de_blt call_isi prim_isi m_isinstance boot_isinstance (da_cons (dv 1) (da_cons (de_ty m_bool boot_bool) da_nil)))) (dss_one (ds_ret (de_and (de_blt call_isi prim_isi m_isinstance boot_isinstance (da_cons (dv 0) (da_cons (de_ty m_bool boot_bool) da_nil))) (de_one (de_cmpR (op_eqU hu) prim_eq (dv 0) (dv 1) (nomark _)))))) dss_nil)
  (dss_cons (ds_if (db_tru (de_blt call_isi prim_isi m_isinstance boot_isinstance (da_cons (dv 1) (da_cons (de_ty m_int boot_int) da_nil)))) (dss_one (ds_ret (de_and (de_call c_num_L hr tk (da_cons (dv 0) da_nil) (hk := h_num_L)) (de_one (de_cmpR (op_eqU hu) prim_eq (dv 0) (dv 1) (nomark _)))))) dss_nil)
  (dss_cons (ds_if (db_tru (de_blt call_isi prim_isi m_isinstance boot_isinstance (da_cons (dv 1) (da_cons (de_ty m_str boot_str) da_nil)))) (dss_one (ds_ret (de_and (de_blt call_isi prim_isi m_isinstance boot_isinstance (da_cons (dv 0) (da_cons (de_ty m_str boot_str) da_nil))) (de_one (de_cmpR (op_eqU hu) prim_eq (dv 0) (dv 1) (nomark _)))))) dss_nil)
  (dss_cons (ds_if (DW.db (dw_or (db_cmpR (op_neU hu) prim_ne (de_blt call_isi prim_isi m_isinstance boot_isinstance (da_cons (dv 1) (da_cons (de_ty m_tuple boot_tuple) da_nil))) (de_blt call_isi prim_isi m_isinstance boot_isinstance (da_cons (dv 0) (da_cons (de_ty m_tuple boot_tuple) da_nil))) (nomark _)) (dw_or1 (db_cmpR (op_neU hu) prim_ne (de_blt call_isi prim_isi m_isinstance boot_isinstance (da_cons (dv 1) (da_cons (de_ty m_list boot_list) da_nil))) (de_blt call_isi prim_isi m_isinstance boot_isinstance (da_cons (dv 0) (da_cons (de_ty m_list boot_list) da_nil))) (nomark _))))) (dss_one (ds_ret de_bl)) dss_nil)
  (dss_cons (ds_if (db_cmpR (op_neU hu) prim_ne (de_blt call_len prim_len m_len PySem.boot_len (da_cons (dv 0) da_nil)) (de_blt call_len prim_len m_len PySem.boot_len (da_cons (dv 1) da_nil)) (nomark _)) (dss_one (ds_ret de_bl)) dss_nil)
  (dss_one (ds_ret (de_blt (cr_all rfl) prim_all m_all boot_all (da_cons (de_lc1 rfl nd (di_range1 (by rfl) m_range (de_blt call_len prim_len m_len PySem.boot_len (da_cons (dv 1) da_nil))) (blkOk_by (N := N_like_L) (sc := defScope st_like_L) (own := [("_law_k", 2)]) (by decide +kernel)) (blk0 (fun _ _ _ _ _ => (dn_name nd)) (fun _ _ _ _ _ => (de_call c_like_L hr (takes_no rfl) (da_cons (de_ix (dv 0) (dv 2)) (da_cons (de_ix (dv 1) (dv 2)) da_nil)) (hk := h_like_L)))) rfl (by decide)) da_nil))))))))))
abbrev N_good_row_L : List Str := ["_law_draw", "_law_span", "_law_base", "_law_date"]
abbrev P_good_row_L : List Str := ["_law_draw", "_law_span"]
theorem sc_good_row_L : FnScope N_good_row_L P_good_row_L (defScope st_good_row_L) := ⟨rfl, rfl, rfl, by decide +kernel, rfl, by decide +kernel, by decide +kernel⟩
def R_good_row_L (sp_pull_L : DSp) : SD :=
  (sSeq (sSet 2 (dOp addD (dC (.int 1)) (dCall sp_pull_L [] (dCons (dVar 0) (dCons (dC (.int 4)) dNil)))))
  (sRet (dCal tupleD (dCons (dLc (dRange1 (dVar 1)) (nNm 3) dYes (dOp ixD (dLst (dCons (dVar 2) (dCons (dVar 2) (dCons (dVar 2) (dCons (dCall sp_pull_L [] (dCons (dVar 0) (dCons (dC (.int 10)) dNil))) dNil))))) (dCall sp_pull_L [] (dCons (dVar 0) (dCons (dC (.int 4)) dNil)))) [3]) dNil))))
theorem b_good_row_L {P : Program} {w : World} {K : PySem.W.Frag} {mg : Str → Option Value} {base : Heap} {f : Addr} {j : Nat} {sp_pull_L : DSp} {k_pull_L : Nat} (h_pull_L : k_pull_L ≤ j) (c_pull_L : CalD P w K mg base k_pull_L "_law_pull" sp_pull_L []) (m_range : mg "range" = none) (m_tuple : mg "tuple" = none) :
    BodyOk P w K mg base N_good_row_L "_law_good_row" (defScope st_good_row_L) (defBody st_good_row_L) f j (R_good_row_L sp_pull_L) := fun cdv A outer s H E hr =>
  have nd := sc_good_row_L.nd
  have hu := hr.units
  have tk := tk_of (P := P) (w := w) (K := K) (mg := mg) (base := base) (N := N_good_row_L) (qual := "_law_good_row") (scope := defScope st_good_row_L) (f := f) (cdv := cdv) (A := A) (outer := outer) (s := s) (H := H) (E := E)
  have hp := hp_of (P := P) (w := w) (K := K) (mg := mg) (base := base) (N := N_good_row_L) (qual := "_law_good_row") (scope := defScope st_good_row_L) (f := f) (cdv := cdv) (A := A) (outer := outer) (s := s) (H := H) (E := E)
  (dss_cons (ds_set (i := 2) nd (de_op op_addU prim_add de_int (de_call c_pull_L hr tk (da_cons (dv 0) (da_cons de_int da_nil)) (hk := h_pull_L))))
  (dss_one (ds_ret (de_tyc call_tupN prim_tuple m_tuple boot_tuple (da_cons (de_lc1 rfl nd (di_range1 (by rfl) m_range (dv 1)) (blkOk_by (N := N_good_row_L) (sc := defScope st_good_row_L) (own := [("_law_date", 3)]) (by decide +kernel)) (blk0 (fun _ _ _ _ _ => (dn_name nd)) (fun _ _ _ _ _ => (de_ix (de_lst (da_cons (dv 2) (da_cons (dv 2) (da_cons (dv 2) (da_cons (de_call c_pull_L hr (takes_no rfl) (da_cons (dv 0) (da_cons de_int da_nil)) (hk := h_pull_L)) da_nil))))) (de_call c_pull_L hr (takes_no rfl) (da_cons (dv 0) (da_cons de_int da_nil)) (hk := h_pull_L))))) rfl (by decide)) da_nil)))))
abbrev N_mode_L : List Str := ["_law_draw", "_law_span", "_law_goods", "_law_long_of", "_law_some", "_law_k"]
abbrev P_mode_L : List Str := ["_law_draw", "_law_span", "_law_goods"]
theorem sc_mode_L : FnScope N_mode_L P_mode_L (defScope st_mode_L) := ⟨rfl, rfl, rfl, by decide +kernel, rfl, by decide +kernel, by decide +kernel⟩
def R_mode_L (sp_pull_L : DSp) : SD :=
  (sSeq (sSet 3 (dOp addD (dC (.int 1)) (dCall sp_pull_L [] (dCons (dVar 0) (dCons (dCal min2D (dCons (dC (.int 4)) (dCons (dVar 1) dNil))) dNil)))))
  (sSeq (sIf (dTest (dOp eqD (dCall sp_pull_L [] (dCons (dVar 0) (dCons (dC (.int 12)) dNil))) (dC (.int 0)))) (sSet 3 (dOp addD (dC (.int 1)) (dCall sp_pull_L [] (dCons (dVar 0) (dCons (dC (.int 9)) dNil))))) sNext)
  (sSeq (sSet 4 (dLcN (dRange1 (dVar 2)) (nNm 5) dYes (dOp ixD (dLst (dCons (dC (.int 0)) (dCons (dC (.int 1)) (dCons (dC (.int 1)) (dCons (dC (.int 2)) (dCons (dC (.int 3)) dNil)))))) (dCall sp_pull_L [] (dCons (dVar 0) (dCons (dC (.int 5)) dNil)))) [5]))
  (sSeq (sIf (dAnd (dTest (dOp gtD (dVar 2) (dC (.int 0)))) (dTest (dOp eqD (dCall sp_pull_L [] (dCons (dVar 0) (dCons (dC (.int 12)) dNil))) (dC (.int 0))))) (sAsg (dCall sp_pull_L [] (dCons (dVar 0) (dCons (dC (.int 10)) dNil))) (gSubD (dVar 4) (dCall sp_pull_L [] (dCons (dVar 0) (dCons (dVar 2) dNil))))) sNext)
  (sRet (dTup (dCons (dVar 3) (dCons (dCall sp_pull_L [] (dCons (dVar 0) (dCons (dC (.int 2)) dNil))) (dCons (dCal tupleD (dCons (dVar 4) dNil)) dNil)))))))))
theorem b_mode_L {P : Program} {w : World} {K : PySem.W.Frag} {mg : Str → Option Value} {base : Heap} {f : Addr} {j : Nat} {sp_pull_L : DSp} {k_pull_L : Nat} (h_pull_L : k_pull_L ≤ j) (c_pull_L : CalD P w K mg base k_pull_L "_law_pull" sp_pull_L []) (m_min : mg "min" = none) (m_range : mg "range" = none) (m_tuple : mg "tuple" = none) :
    BodyOk P w K mg base N_mode_L "_law_mode" (defScope st_mode_L) (defBody st_mode_L) f j (R_mode_L sp_pull_L) := fun cdv A outer s H E hr =>
  have nd := sc_mode_L.nd
  have hu := hr.units
  have tk := tk_of (P := P) (w := w) (K := K) (mg := mg) (base := base) (N := N_mode_L) (qual := "_law_mode") (scope := defScope st_mode_L) (f := f) (cdv := cdv) (A := A) (outer := outer) (s := s) (H := H) (E := E)
  have hp := hp_of (P := P) (w := w) (K := K) (mg := mg) (base := base) (N := N_mode_L) (qual := "_law_mode") (scope := defScope st_mode_L) (f := f) (cdv := cdv) (A := A) (outer := outer) (s := s) (H := H) (E := E)
  (dss_cons (ds_set (i := 3) nd (de_op op_addU prim_add de_int (de_call c_pull_L hr tk (da_cons (dv 0) (da_cons (de_blt (call_min2 rfl) prim_min2 m_min PyProof.Rows.boot_min (da_cons de_int (da_cons (dv 1) da_nil))) da_nil)) (hk := h_pull_L))))
  (dss_cons (ds_if (db_cmpR (op_eqU hu) prim_eq (de_call c_pull_L hr tk (da_cons (dv 0) (da_cons de_int da_nil)) (hk := h_pull_L)) de_int (nomark _)) (dss_one (ds_set (i := 3) nd (de_op op_addU prim_add de_int (de_call c_pull_L hr tk (da_cons (dv 0) (da_cons de_int da_nil)) (hk := h_pull_L))))) dss_nil)
  (dss_cons (by first | exact ds_set (i := 4) nd (de_lcN rfl nd (di_range1 (by rfl) m_range (dv 2)) (blkOk_by (N := N_mode_L) (sc := defScope st_mode_L) (own := [("_law_k", 5)]) (by decide +kernel)) (blk0 (fun _ _ _ _ _ => (dn_name nd)) (fun _ _ _ _ _ => (de_ix (de_lst (da_cons de_int (da_cons de_int (da_cons de_int (da_cons de_int (da_cons de_int da_nil)))))) (de_call c_pull_L hr (takes_no rfl) (da_cons (dv 0) (da_cons de_int da_nil)) (hk := h_pull_L))))) rfl (by decide)) | exact ds_setLcN (i := 4) rfl nd rfl rfl (sw_true rfl rfl rfl (by decide +kernel)) (di_range1 (by rfl) m_range (dv 2)) (blkOk_by (N := N_mode_L) (sc := defScope st_mode_L) (own := [("_law_k", 5)]) (by decide +kernel)) (blk0 (fun _ _ _ _ _ => (dn_name nd)) (fun _ _ _ _ _ => (de_ix (de_lst (da_cons de_int (da_cons de_int (da_cons de_int (da_cons de_int (da_cons de_int da_nil)))))) (de_call c_pull_L hr (takes_no rfl) (da_cons (dv 0) (da_cons de_int da_nil)) (hk := h_pull_L))))) rfl (by decide))
  (dss_cons (ds_if (DW.db (dw_and (db_cmpR op_gt prim_gt (dv 2) de_int (nomark _)) (dw_and1 (db_cmpR (op_eqU hu) prim_eq (de_call c_pull_L hr tk (da_cons (dv 0) (da_cons de_int da_nil)) (hk := h_pull_L)) de_int (nomark _))))) (dss_one (ds_asg (de_call c_pull_L hr tk (da_cons (dv 0) (da_cons de_int da_nil)) (hk := h_pull_L)) (dg_sub (dv 4) (de_call c_pull_L hr tk (da_cons (dv 0) (da_cons (dv 2) da_nil)) (hk := h_pull_L))))) dss_nil)
  (dss_one (ds_ret (de_tup (da_cons (dv 3) (da_cons (de_call c_pull_L hr tk (da_cons (dv 0) (da_cons de_int da_nil)) (hk := h_pull_L)) (da_cons (de_tyc call_tupN prim_tuple m_tuple boot_tuple (da_cons (dv 4) da_nil)) da_nil))))))))))
abbrev N_job_L : List Str := ["_law_draw", "_law_span", "_law_goods", "_law_modes", "_law_floor", "_law_roof", "_law_k"]
abbrev P_job_L : List Str := ["_law_draw", "_law_span", "_law_goods", "_law_modes"]
theorem sc_job_L : FnScope N_job_L P_job_L (defScope st_job_L) := ⟨rfl, rfl, rfl, by decide +kernel, rfl, by decide +kernel, by decide +kernel⟩
def R_job_L (sp_mode_L : DSp) (sp_pull_L : DSp) : SD :=
  (sSeq (sPar 4 5 (dCons (dC (.int 0)) (dCons (dVar 1) dNil)))
  (sSeq (sIf (dTest (dOp eqD (dCall sp_pull_L [] (dCons (dVar 0) (dCons (dC (.int 4)) dNil))) (dC (.int 0)))) (sSeq (sSet 4 (dCall sp_pull_L [] (dCons (dVar 0) (dCons (dVar 1) dNil))))
  (sSet 5 (dOp addD (dOp addD (dVar 4) (dC (.int 1))) (dCall sp_pull_L [] (dCons (dVar 0) (dCons (dOp subD (dVar 1) (dVar 4)) dNil)))))) sNext)
  (sRet (dTup (dCons (dVar 4) (dCons (dVar 5) (dCons (dCal tupleD (dCons (dLc (dRange1 (dOp addD (dC (.int 1)) (dCall sp_pull_L [] (dCons (dVar 0) (dCons (dVar 3) dNil))))) (nNm 6) dYes (dCall sp_mode_L [] (dCons (dVar 0) (dCons (dVar 1) (dCons (dVar 2) dNil)))) [6]) dNil)) dNil)))))))
theorem b_job_L {P : Program} {w : World} {K : PySem.W.Frag} {mg : Str → Option Value} {base : Heap} {f : Addr} {j : Nat} {sp_mode_L : DSp} {sp_pull_L : DSp} {k_mode_L : Nat} (h_mode_L : k_mode_L ≤ j) (c_mode_L : CalD P w K mg base k_mode_L "_law_mode" sp_mode_L []) {k_pull_L : Nat} (h_pull_L : k_pull_L ≤ j) (c_pull_L : CalD P w K mg base k_pull_L "_law_pull" sp_pull_L []) (m_range : mg "range" = none) (m_tuple : mg "tuple" = none) :
    BodyOk P w K mg base N_job_L "_law_job" (defScope st_job_L) (defBody st_job_L) f j (R_job_L sp_mode_L sp_pull_L) := fun cdv A outer s H E hr =>
  have nd := sc_job_L.nd
  have hu := hr.units
  have tk := tk_of (P := P) (w := w) (K := K) (mg := mg) (base := base) (N := N_job_L) (qual := "_law_job") (scope := defScope st_job_L) (f := f) (cdv := cdv) (A := A) (outer := outer) (s := s) (H := H) (E := E)
  have hp := hp_of (P := P) (w := w) (K := K) (mg := mg) (base := base) (N := N_job_L) (qual := "_law_job") (scope := defScope st_job_L) (f := f) (cdv := cdv) (A := A) (outer := outer) (s := s) (H := H) (E := E)
  (dss_cons (ds_par (i := 4) (j := 5) rfl nd (da_cons de_int (da_cons (dv 1) da_nil)) (by decide))
  (dss_cons (ds_if (db_cmpR (op_eqU hu) prim_eq (de_call c_pull_L hr tk (da_cons (dv 0) (da_cons de_int da_nil)) (hk := h_pull_L)) de_int (nomark _)) (dss_cons (ds_set (i := 4) nd (de_call c_pull_L hr tk (da_cons (dv 0) (da_cons (dv 1) da_nil)) (hk := h_pull_L)))
  (dss_one (ds_set (i := 5) nd (de_op op_addU prim_add (de_op op_addU prim_add (dv 4) de_int) (de_call c_pull_L hr tk (da_cons (dv 0) (da_cons (de_op op_sub prim_sub (dv 1) (dv 4)) da_nil)) (hk := h_pull_L)))))) dss_nil)
  (dss_one (ds_ret (de_tup (da_cons (dv 4) (da_cons (dv 5) (da_cons (de_tyc call_tupN prim_tuple m_tuple boot_tuple (da_cons (de_lc1 rfl nd (di_range1 (by rfl) m_range (de_op op_addU prim_add de_int (de_call c_pull_L hr tk (da_cons (dv 0) (da_cons (dv 3) da_nil)) (hk := h_pull_L)))) (blkOk_by (N := N_job_L) (sc := defScope st_job_L) (own := [("_law_k", 6)]) (by decide +kernel)) (blk0 (fun _ _ _ _ _ => (dn_name nd)) (fun _ _ _ _ _ => (de_call c_mode_L hr (takes_no rfl) (da_cons (dv 0) (da_cons (dv 1) (da_cons (dv 2) da_nil))) (hk := h_mode_L)))) rfl (by decide)) da_nil)) da_nil))))))))
abbrev N_link_L : List Str := ["_law_draw", "_law_jobs", "_law_one", "_law_other", "_law_room"]
abbrev P_link_L : List Str := ["_law_draw", "_law_jobs"]
theorem sc_link_L : FnScope N_link_L P_link_L (defScope st_link_L) := ⟨rfl, rfl, rfl, by decide +kernel, rfl, by decide +kernel, by decide +kernel⟩
def R_link_L (sp_pull_L : DSp) : SD :=
  (sSeq (sSet 2 (dCall sp_pull_L [] (dCons (dVar 0) (dCons (dVar 1) dNil))))
  (sSeq (sSet 3 (dOp modD (dOp addD (dOp addD (dVar 2) (dC (.int 1))) (dCall sp_pull_L [] (dCons (dVar 0) (dCons (dOp subD (dVar 1) (dC (.int 1))) dNil)))) (dVar 1)))
  (sSeq (sSet 4 (dOp ixD (dLst (dCons (dC (.int 0)) (dCons (dC (.int 0)) (dCons (dC (.int 0)) (dCons (dC (.int 1)) (dCons (dUn negD (dC (.int 1))) (dCons (dOp subD (dCall sp_pull_L [] (dCons (dVar 0) (dCons (dC (.int 7)) dNil))) (dC (.int 3))) (dCons (dOp subD (dCall sp_pull_L [] (dCons (dVar 0) (dCons (dC (.int 41)) dNil))) (dC (.int 20))) dNil)))))))) (dCall sp_pull_L [] (dCons (dVar 0) (dCons (dC (.int 7)) dNil)))))
  (sRet (dTup (dCons (dCall sp_pull_L [] (dCons (dVar 0) (dCons (dC (.int 2)) dNil))) (dCons (dVar 2) (dCons (dVar 3) (dCons (dVar 4) dNil)))))))))
theorem b_link_L {P : Program} {w : World} {K : PySem.W.Frag} {mg : Str → Option Value} {base : Heap} {f : Addr} {j : Nat} {sp_pull_L : DSp} {k_pull_L : Nat} (h_pull_L : k_pull_L ≤ j) (c_pull_L : CalD P w K mg base k_pull_L "_law_pull" sp_pull_L []) :
    BodyOk P w K mg base N_link_L "_law_link" (defScope st_link_L) (defBody st_link_L) f j (R_link_L sp_pull_L) := fun cdv A outer s H E hr =>
  have nd := sc_link_L.nd
  have hu := hr.units
  have tk := tk_of (P := P) (w := w) (K := K) (mg := mg) (base := base) (N := N_link_L) (qual := "_law_link") (scope := defScope st_link_L) (f := f) (cdv := cdv) (A := A) (outer := outer) (s := s) (H := H) (E := E)
  have hp := hp_of (P := P) (w := w) (K := K) (mg := mg) (base := base) (N := N_link_L) (qual := "_law_link") (scope := defScope st_link_L) (f := f) (cdv := cdv) (A := A) (outer := outer) (s := s) (H := H) (E := E)
  (dss_cons (ds_set (i := 2) nd (de_call c_pull_L hr tk (da_cons (dv 0) (da_cons (dv 1) da_nil)) (hk := h_pull_L)))
  (dss_cons (ds_set (i := 3) nd (de_op op_mod prim_mod (de_op op_addU prim_add (de_op op_addU prim_add (dv 2) de_int) (de_call c_pull_L hr tk (da_cons (dv 0) (da_cons (de_op op_sub prim_sub (dv 1) de_int) da_nil)) (hk := h_pull_L))) (dv 1)))
  (dss_cons (ds_set (i := 4) nd (de_ix (de_lst (da_cons de_int (da_cons de_int (da_cons de_int (da_cons de_int (da_cons (de_un un_neg prim_neg de_int) (da_cons (de_op op_sub prim_sub (de_call c_pull_L hr tk (da_cons (dv 0) (da_cons de_int da_nil)) (hk := h_pull_L)) de_int) (da_cons (de_op op_sub prim_sub (de_call c_pull_L hr tk (da_cons (dv 0) (da_cons de_int da_nil)) (hk := h_pull_L)) de_int) da_nil)))))))) (de_call c_pull_L hr tk (da_cons (dv 0) (da_cons de_int da_nil)) (hk := h_pull_L))))
  (dss_one (ds_ret (de_tup (da_cons (de_call c_pull_L hr tk (da_cons (dv 0) (da_cons de_int da_nil)) (hk := h_pull_L)) (da_cons (dv 2) (da_cons (dv 3) (da_cons (dv 4) da_nil))))))))))
abbrev N_closed_L : List Str := ["_law_draw", "_law_span", "_law_date"]
abbrev P_closed_L : List Str := ["_law_draw", "_law_span"]
theorem sc_closed_L : FnScope N_closed_L P_closed_L (defScope st_closed_L) := ⟨rfl, rfl, rfl, by decide +kernel, rfl, by decide +kernel, by decide +kernel⟩
def R_closed_L (sp_pull_L : DSp) : SD :=
  (sSeq (sIf (dTest (dOp eqD (dCall sp_pull_L [] (dCons (dVar 0) (dCons (dC (.int 2)) dNil))) (dC (.int 0)))) (sRet (dTup dNil)) sNext)
  (sRet (dCal tupleD (dCons (dLc (dRange1 (dVar 1)) (nNm 2) (dTest (dOp eqD (dCall sp_pull_L [] (dCons (dVar 0) (dCons (dC (.int 4)) dNil))) (dC (.int 0)))) (dVar 2) [2]) dNil))))
theorem b_closed_L {P : Program} {w : World} {K : PySem.W.Frag} {mg : Str → Option Value} {base : Heap} {f : Addr} {j : Nat} {sp_pull_L : DSp} {k_pull_L : Nat} (h_pull_L : k_pull_L ≤ j) (c_pull_L : CalD P w K mg base k_pull_L "_law_pull" sp_pull_L []) (m_range : mg "range" = none) (m_tuple : mg "tuple" = none) :
    BodyOk P w K mg base N_closed_L "_law_closed" (defScope st_closed_L) (defBody st_closed_L) f j (R_closed_L sp_pull_L) := fun cdv A outer s H E hr =>
  have nd := sc_closed_L.nd
  have hu := hr.units
  have tk := tk_of (P := P) (w := w) (K := K) (mg := mg) (base := base) (N := N_closed_L) (qual := "_law_closed") (scope := defScope st_closed_L) (f := f) (cdv := cdv) (A := A) (outer := outer) (s := s) (H := H) (E := E)
  have hp := hp_of (P := P) (w := w) (K := K) (mg := mg) (base := base) (N := N_closed_L) (qual := "_law_closed") (scope := defScope st_closed_L) (f := f) (cdv := cdv) (A := A) (outer := outer) (s := s) (H := H) (E := E)
  (dss_cons (ds_if (db_cmpR (op_eqU hu) prim_eq (de_call c_pull_L hr tk (da_cons (dv 0) (da_cons de_int da_nil)) (hk := h_pull_L)) de_int (nomark _)) (dss_one (ds_ret (de_tup da_nil))) dss_nil)
  (dss_one (ds_ret (de_tyc call_tupN prim_tuple m_tuple boot_tuple (da_cons (de_lc1 rfl nd (di_range1 (by rfl) m_range (dv 1)) (blkOk_by (N := N_closed_L) (sc := defScope st_closed_L) (own := [("_law_date", 2)]) (by decide +kernel)) (blk1 (fun _ _ _ _ _ => (dn_name nd)) (fun _ _ _ _ _ => (db_cmpR (op_eqU hu) prim_eq (de_call c_pull_L hr (takes_no rfl) (da_cons (dv 0) (da_cons de_int da_nil)) (hk := h_pull_L)) de_int (nomark _))) (fun _ _ _ _ _ => (dv 2))) rfl (by decide)) da_nil)))))
abbrev N_net_L : List Str := ["_law_draw", "_law_span_most", "_law_jobs_most", "_law_modes", "_law_goods_most", "_law_links_most", "_law_span", "_law_closed_here", "_law_goods", "_law_jobs", "_law_rows", "_law_links", "_law_k"]
abbrev P_net_L : List Str := ["_law_draw", "_law_span_most", "_law_jobs_most", "_law_modes", "_law_goods_most", "_law_links_most"]
theorem sc_net_L : FnScope N_net_L P_net_L (defScope st_net_L) := ⟨rfl, rfl, rfl, by decide +kernel, rfl, by decide +kernel, by decide +kernel⟩
def R_net_L (sp_closed_L : DSp) (sp_good_row_L : DSp) (sp_job_L : DSp) (sp_link_L : DSp) (sp_pull_L : DSp) : SD :=
  (sSeq (sSet 6 (dOp addD (dC (.int 1)) (dCall sp_pull_L [] (dCons (dVar 0) (dCons (dVar 1) dNil)))))
  (sSeq (sSet 7 (dCall sp_closed_L [] (dCons (dVar 0) (dCons (dVar 6) dNil))))
  (sSeq (sSet 8 (dCal tupleD (dCons (dLc (dRange1 (dCall sp_pull_L [] (dCons (dVar 0) (dCons (dOp addD (dVar 4) (dC (.int 1))) dNil)))) (nNm 12) dYes (dCall sp_good_row_L [] (dCons (dVar 0) (dCons (dVar 6) dNil))) [12]) dNil)))
  (sSeq (sSet 9 (dCall sp_pull_L [] (dCons (dVar 0) (dCons (dOp addD (dVar 2) (dC (.int 1))) dNil))))
  (sSeq (sSet 10 (dCal tupleD (dCons (dLc (dRange1 (dVar 9)) (nNm 12) dYes (dCall sp_job_L [] (dCons (dVar 0) (dCons (dVar 6) (dCons (dCal lenD (dCons (dVar 8) dNil)) (dCons (dVar 3) dNil))))) [12]) dNil)))
  (sSeq (sSet 11 (dTup dNil))
  (sSeq (sIf (dTest (dOp gtD (dVar 9) (dC (.int 1)))) (sSet 11 (dCal tupleD (dCons (dLc (dRange1 (dCall sp_pull_L [] (dCons (dVar 0) (dCons (dOp addD (dVar 5) (dC (.int 1))) dNil)))) (nNm 12) dYes (dCall sp_link_L [] (dCons (dVar 0) (dCons (dVar 9) dNil))) [12]) dNil))) sNext)
  (sRet (dTup (dCons (dVar 6) (dCons (dVar 7) (dCons (dVar 8) (dCons (dVar 10) (dCons (dVar 11) dNil))))))))))))))
theorem b_net_L {P : Program} {w : World} {K : PySem.W.Frag} {mg : Str → Option Value} {base : Heap} {f : Addr} {j : Nat} {sp_closed_L : DSp} {sp_good_row_L : DSp} {sp_job_L : DSp} {sp_link_L : DSp} {sp_pull_L : DSp} {k_closed_L : Nat} (h_closed_L : k_closed_L ≤ j) (c_closed_L : CalD P w K mg base k_closed_L "_law_closed" sp_closed_L []) {k_good_row_L : Nat} (h_good_row_L : k_good_row_L ≤ j) (c_good_row_L : CalD P w K mg base k_good_row_L "_law_good_row" sp_good_row_L []) {k_job_L : Nat} (h_job_L : k_job_L ≤ j) (c_job_L : CalD P w K mg base k_job_L "_law_job" sp_job_L []) {k_link_L : Nat} (h_link_L : k_link_L ≤ j) (c_link_L : CalD P w K mg base k_link_L "_law_link" sp_link_L []) {k_pull_L : Nat} (h_pull_L : k_pull_L ≤ j) (c_pull_L : CalD P w K mg base k_pull_L "_law_pull" sp_pull_L []) (m_len : mg "len" = none) (m_range : mg "range" = none) (m_tuple : mg "tuple" = none) :
    BodyOk P w K mg base N_net_L "_law_net" (defScope st_net_L) (defBody st_net_L) f j (R_net_L sp_closed_L sp_good_row_L sp_job_L sp_link_L sp_pull_L) := fun cdv A outer s H E hr =>
  have nd := sc_net_L.nd
  have hu := hr.units
  have tk := tk_of (P := P) (w := w) (K := K) (mg := mg) (base := base) (N := N_net_L) (qual := "_law_net") (scope := defScope st_net_L) (f := f) (cdv := cdv) (A := A) (outer := outer) (s := s) (H := H) (E := E)
  have hp := hp_of (P := P) (w := w) (K := K) (mg := mg) (base := base) (N := N_net_L) (qual := "_law_net") (scope := defScope st_net_L) (f := f) (cdv := cdv) (A := A) (outer := outer) (s := s) (H := H) (E := E)
  (dss_cons (ds_set (i := 6) nd (de_op op_addU prim_add de_int (de_call c_pull_L hr tk (da_cons (dv 0) (da_cons (dv 1) da_nil)) (hk := h_pull_L))))
  (dss_cons (ds_set (i := 7) nd (de_call c_closed_L hr tk (da_cons (dv 0) (da_cons (dv 6) da_nil)) (hk := h_closed_L)))
  (dss_cons (ds_set (i := 8) nd (de_tyc call_tupN prim_tuple m_tuple boot_tuple (da_cons (de_lc1 rfl nd (di_range1 (by rfl) m_range (de_call c_pull_L hr tk (da_cons (dv 0) (da_cons (de_op op_addU prim_add (dv 4) de_int) da_nil)) (hk := h_pull_L))) (blkOk_by (N := N_net_L) (sc := defScope st_net_L) (own := [("_law_k", 12)]) (by decide +kernel)) (blk0 (fun _ _ _ _ _ => (dn_name nd)) (fun _ _ _ _ _ => (de_call c_good_row_L hr (takes_no rfl) (da_cons (dv 0) (da_cons (dv 6) da_nil)) (hk := h_good_row_L)))) rfl (by decide)) da_nil)))
  (dss_cons (ds_set (i := 9) nd (de_call c_pull_L hr tk (da_cons (dv 0) (da_cons (de_op op_addU prim_add (dv 2) de_int) da_nil)) (hk := h_pull_L)))
  (dss_cons (ds_set (i := 10) nd (de_tyc call_tupN prim_tuple m_tuple boot_tuple (da_cons (de_lc1 rfl nd (di_range1 (by rfl) m_range (dv 9)) (blkOk_by (N := N_net_L) (sc := defScope st_net_L) (own := [("_law_k", 12)]) (by decide +kernel)) (blk0 (fun _ _ _ _ _ => (dn_name nd)) (fun _ _ _ _ _ => (de_call c_job_L hr (takes_no rfl) (da_cons (dv 0) (da_cons (dv 6) (da_cons (de_blt call_len prim_len m_len PySem.boot_len (da_cons (dv 8) da_nil)) (da_cons (dv 3) da_nil)))) (hk := h_job_L)))) rfl (by decide)) da_nil)))
  (dss_cons (ds_set (i := 11) nd (de_tup da_nil))
  (dss_cons (ds_if (db_cmpR op_gt prim_gt (dv 9) de_int (nomark _)) (dss_one (ds_set (i := 11) nd (de_tyc call_tupN prim_tuple m_tuple boot_tuple (da_cons (de_lc1 rfl nd (di_range1 (by rfl) m_range (de_call c_pull_L hr tk (da_cons (dv 0) (da_cons (de_op op_addU prim_add (dv 5) de_int) da_nil)) (hk := h_pull_L))) (blkOk_by (N := N_net_L) (sc := defScope st_net_L) (own := [("_law_k", 12)]) (by decide +kernel)) (blk0 (fun _ _ _ _ _ => (dn_name nd)) (fun _ _ _ _ _ => (de_call c_link_L hr (takes_no rfl) (da_cons (dv 0) (da_cons (dv 9) da_nil)) (hk := h_link_L)))) rfl (by decide)) da_nil)))) dss_nil)
  (dss_one (ds_ret (de_tup (da_cons (dv 6) (da_cons (dv 7) (da_cons (dv 8) (da_cons (dv 10) (da_cons (dv 11) da_nil)))))))))))))))
abbrev N_dates_L : List Str := ["_law_net_here", "_law_job_here", "_law_mode_here", "_law_at", "_law_long_of", "_law_still", "_law_some", "_law_found", "_law_date"]
abbrev P_dates_L : List Str := ["_law_net_here", "_law_job_here", "_law_mode_here", "_law_at"]
theorem sc_dates_L : FnScope N_dates_L P_dates_L (defScope st_dates_L) := ⟨rfl, rfl, rfl, by decide +kernel, rfl, by decide +kernel, by decide +kernel⟩
def R_dates_L : SD :=
  (sSeq (sUnp (dOp ixD (dOp ixD (dOp ixD (dOp ixD (dVar 0) (dC (.int 3))) (dVar 1)) (dC (.int 2))) (dVar 2)) (nTup 3 (nCons (nNm 4) (nCons (nNm 5) (nCons (nNm 6) nNil)))))
  (sSeq (sIf (dAnd (dTest (dOp eqD (dVar 5) (dC (.int 1)))) (dTest (dOp inD (dVar 3) (dOp ixD (dVar 0) (dC (.int 1)))))) (sRet (dC .non)) sNext)
  (sSeq (sSet 7 (dNew dNil))
  (sSeq (sSet 8 (dVar 3))
  (sSeq (sWhile (dAnd (dTest (dOp ltD (dVar 8) (dOp ixD (dVar 0) (dC (.int 0))))) (dTest (dOp ltD (dCal lenD (dCons (dVar 7) dNil)) (dVar 4)))) (sSeq (sIf (dOr (dTest (dOp eqD (dVar 5) (dC (.int 0)))) (dTest (dOp notInD (dVar 8) (dOp ixD (dVar 0) (dC (.int 1)))))) (sDrop (dAppend (dVar 7) (dCons (dVar 8) dNil))) sNext)
  (sSet 8 (dOp addD (dVar 8) (dC (.int 1))))))
  (sRet (dIf (dTest (dOp eqD (dCal lenD (dCons (dVar 7) dNil)) (dVar 4))) (dVar 7) (dC .non))))))))
theorem b_dates_L {P : Program} {w : World} {K : PySem.W.Frag} {mg : Str → Option Value} {base : Heap} {f : Addr} {j : Nat} (m_len : mg "len" = none) :
    BodyOk P w K mg base N_dates_L "_law_dates" (defScope st_dates_L) (defBody st_dates_L) f j (R_dates_L) := fun cdv A outer s H E hr =>
  have nd := sc_dates_L.nd
  have hu := hr.units
  have tk := tk_of (P := P) (w := w) (K := K) (mg := mg) (base := base) (N := N_dates_L) (qual := "_law_dates") (scope := defScope st_dates_L) (f := f) (cdv := cdv) (A := A) (outer := outer) (s := s) (H := H) (E := E)
  have hp := hp_of (P := P) (w := w) (K := K) (mg := mg) (base := base) (N := N_dates_L) (qual := "_law_dates") (scope := defScope st_dates_L) (f := f) (cdv := cdv) (A := A) (outer := outer) (s := s) (H := H) (E := E)
  (dss_cons (ds_unp (de_ix (de_ix (de_ix (de_ix (dv 0) de_int) (dv 1)) de_int) (dv 2)) (dn_tup rfl (dns_cons (dn_name nd) (dns_cons (dn_name nd) (dns_cons (dn_name nd) dns_nil)))))
  (dss_cons (ds_if (DW.db (dw_and (db_cmpR (op_eqU hu) prim_eq (dv 5) de_int (nomark _)) (dw_and1 (db_cmpR op_in_seq prim_in (dv 3) (de_ix (dv 0) de_int) rfl)))) (dss_one (ds_ret de_non)) dss_nil)
  (dss_cons (ds_set (i := 7) nd (de_new da_nil))
  (dss_cons (ds_set (i := 8) nd (dv 3))
  (dss_cons (ds_while hp (DW.db (dw_and (db_cmpR op_lt prim_lt (dv 8) (de_ix (dv 0) de_int) (nomark _)) (dw_and1 (db_cmpR op_lt prim_lt (de_blt call_len prim_len m_len PySem.boot_len (da_cons (dv 7) da_nil)) (dv 4) (nomark _))))) (dss_cons (ds_if (DW.db (dw_or (db_cmpR (op_eqU hu) prim_eq (dv 5) de_int (nomark _)) (dw_or1 (db_cmpR op_notIn_seq prim_notIn (dv 8) (de_ix (dv 0) de_int) rfl)))) (dss_one (ds_expr (de_append (dv 7) (da_cons (dv 8) da_nil)))) dss_nil)
  (dss_one (ds_set (i := 8) nd (de_op op_addU prim_add (dv 8) de_int)))))
  (dss_one (ds_ret (de_ifx (db_cmpR (op_eqU hu) prim_eq (de_blt call_len prim_len m_len PySem.boot_len (da_cons (dv 7) da_nil)) (dv 4) (nomark _)) (dv 7) de_non))))))))
abbrev N_law : List Str := ["_law_script", "_law_draw", "_law_turn", "_law_net_here", "_law_course", "_law_bent", "_law_spot_here", "_law_asks", "_law_due", "_law_job_here", "_law_floor", "_law_roof", "_law_modes", "_law_at", "_law_mode_here", "_law_good", "_law_found", "_law_k", "_law_ask"]
abbrev P_law : List Str := ["_law_script"]
theorem sc_law : FnScope N_law P_law (defScope st_law) := ⟨rfl, rfl, rfl, by decide +kernel, rfl, by decide +kernel, by decide +kernel⟩
def R_law (sp_brokenX : DSp) (sp_dates_L : DSp) (sp_end_ofX : DSp) (sp_holdsX : DSp) (sp_like_L : DSp) (sp_net_L : DSp) (sp_open_L : DSp) (sp_pull_L : DSp) (sp_spot_L : LSp) (sp_tableX : DSp) : SD :=
  (sLams fun LT => (sSeq (sSet 1 (dCall sp_open_L [] (dCons (dVar 0) dNil)))
  (sSeq (sFor (dRange1 (dC (.int 3))) (nNm 2) (sSeq (sSet 3 (dCall sp_net_L [] (dCons (dVar 1) (dCons (dC (.int 8)) (dCons (dC (.int 5)) (dCons (dC (.int 2)) (dCons (dC (.int 2)) (dCons (dC (.int 3)) dNil))))))))
  (sSeq (sSet 4 (dLc (dRange1 (dCal lenD (dCons (dOp ixD (dVar 3) (dC (.int 3))) dNil))) (nNm 17) dYes (dTup (dCons (dOp subD (dCall sp_pull_L [] (dCons (dVar 1) (dCons (dOp addD (dOp ixD (dVar 3) (dC (.int 0))) (dC (.int 2))) dNil))) (dC (.int 1))) (dCons (dOp subD (dCall sp_pull_L [] (dCons (dVar 1) (dCons (dC (.int 4)) dNil))) (dC (.int 1))) dNil))) [17]))
  (sSeq (sSet 5 (dOp addD (dVar 4) (dRep (dLst (dCons (dTup (dCons (dC (.int 0)) (dCons (dC (.int 0)) dNil))) dNil)) (dOp addD (dC (.int 1)) (dCall sp_pull_L [] (dCons (dVar 1) (dCons (dC (.int 3)) dNil)))))))
  (sJoin (sIf (dAnd (dTest (dOp neD (dVar 4) (dLst dNil))) (dTest (dOp eqD (dCall sp_pull_L [] (dCons (dVar 1) (dCons (dC (.int 2)) dNil))) (dC (.int 0))))) (sSet 5 (dSl (dVar 4) dNoP (dPart (dCall sp_pull_L [] (dCons (dVar 1) (dCons (dCal lenD (dCons (dVar 4) dNil)) dNil)))))) sNext)
  (sSeq (sSet 6 (dCal min2D (dCons (dCal lenD (dCons (dVar 5) dNil)) (dCons (dCal lenD (dCons (dOp ixD (dVar 3) (dC (.int 3))) dNil)) dNil))))
  (sSeq (sSet 7 (dNew (dCons (dMkLam LT 0) dNil)))
  (sSeq (sDrop (dAppend (dVar 7) (dCons (dMkLam LT 1) dNil)))
  (sSeq (sDrop (dAppend (dVar 7) (dCons (dMkLam LT 2) dNil)))
  (sSeq (sDrop (dAppend (dVar 7) (dCons (dMkLam LT 3) dNil)))
  (sSeq (sIf (dNot (dTru (dCall sp_like_L [] (dCons (dSpots sp_spot_L LT [(dCall sp_brokenX [] (dCons (dVar 3) (dCons (dVar 5) dNil))), (dCall sp_end_ofX [] (dCons (dVar 3) (dCons (dVar 5) dNil))), (dCall sp_tableX [] (dCons (dVar 3) (dCons (dVar 5) dNil))), (dCallK sp_holdsX 3 0 (fun ds es => pick [0, 1, 2, 3] (ds ++ es ++ [.tup []])) (dCons (dVar 3) (dCons (dVar 5) (dCons (dLst (dCons (dTup (dCons (dC (.str "odd")) (dCons (dC (.int 9)) (dCons (dC (.int 9)) dNil)))) dNil)) dNil))) dNil)] (dSeq (dVar 7)) 18 (nNm 18) [18]) (dCons (dRep (dLst (dCons (dVar 6) dNil)) (dC (.int 4))) dNil))))) (sRet (dC (.bl false))) sNext)
  (sSeq (sSet 8 (dC .non))
  (sSeq (sFor (dRange1 (dCal lenD (dCons (dVar 4) dNil))) (nNm 9) (sSeq (sUnp (dOp ixD (dOp ixD (dVar 3) (dC (.int 3))) (dVar 9)) (nTup 3 (nCons (nNm 10) (nCons (nNm 11) (nCons (nNm 12) nNil)))))
  (sSeq (sUnp (dOp ixD (dVar 4) (dVar 9)) (nTup 2 (nCons (nNm 13) (nCons (nNm 14) nNil))))
  (sSeq (sSet 15 (dAndV (dChain leD ltD (dVar 10) (dVar 13) (dVar 11)) (dChain leD ltD (dC (.int 0)) (dVar 14) (dCal lenD (dCons (dVar 12) dNil)))))
  (sIf (dAnd (dTest (dOp isND (dVar 8) (dC .non))) (dOr (dNot (dTru (dVar 15))) (dTest (dOp isND (dCall sp_dates_L [] (dCons (dVar 3) (dCons (dVar 9) (dCons (dVar 14) (dCons (dVar 13) dNil))))) (dC .non))))) (sSet 8 (dVar 9)) sNext)))))
  (sSeq (sSet 16 (dNew (dCons (dLam sp_spot_L (dCall sp_end_ofX [] (dCons (dVar 3) (dCons (dVar 4) dNil)))) dNil)))
  (sSeq (sDrop (dAppend (dVar 16) (dCons (dLam sp_spot_L (dCall sp_tableX [] (dCons (dVar 3) (dCons (dVar 4) dNil)))) dNil)))
  (sIf (dOr (dNot (dTru (dCall sp_like_L [] (dCons (dVar 16) (dCons (dLst (dCons (dVar 8) (dCons (dVar 8) dNil))) dNil))))) (dTest (dOp notND (dLam sp_spot_L (dCall sp_brokenX [] (dCons (dVar 3) (dCons (dVar 4) dNil)))) (dC .non)))) (sRet (dC (.bl false))) sNext))))))))))))))))
  (sRet (dC (.bl true))))))
theorem b_law {P : Program} {w : World} {K : PySem.W.Frag} {mg : Str → Option Value} {base : Heap} {j : Nat} {sp_brokenX : DSp} {sp_dates_L : DSp} {sp_end_ofX : DSp} {sp_holdsX : DSp} {sp_like_L : DSp} {sp_net_L : DSp} {sp_open_L : DSp} {sp_pull_L : DSp} {sp_spot_L : LSp} {sp_tableX : DSp} {jl : Nat} (hjl : jl + 2 ≤ j) {k_dates_L : Nat} (h_dates_L : k_dates_L ≤ jl) (c_dates_L : CalD P w K mg base k_dates_L "_law_dates" sp_dates_L []) {k_like_L : Nat} (h_like_L : k_like_L ≤ jl) (c_like_L : CalD P w K mg base k_like_L "_law_like" sp_like_L []) {k_net_L : Nat} (h_net_L : k_net_L ≤ jl) (c_net_L : CalD P w K mg base k_net_L "_law_net" sp_net_L []) {k_open_L : Nat} (h_open_L : k_open_L ≤ jl) (c_open_L : CalD P w K mg base k_open_L "_law_open" sp_open_L []) {k_pull_L : Nat} (h_pull_L : k_pull_L ≤ jl) (c_pull_L : CalD P w K mg base k_pull_L "_law_pull" sp_pull_L []) {k_brokenX : Nat} (h_brokenX : k_brokenX ≤ jl) (c_brokenX : CalD P w K mg base k_brokenX "broken" sp_brokenX []) {k_end_ofX : Nat} (h_end_ofX : k_end_ofX ≤ jl) (c_end_ofX : CalD P w K mg base k_end_ofX "end_of" sp_end_ofX []) {k_tableX : Nat} (h_tableX : k_tableX ≤ jl) (c_tableX : CalD P w K mg base k_tableX "table" sp_tableX []) (m_len : mg "len" = none) (m_min : mg "min" = none) (m_range : mg "range" = none) {kk3_holdsX_ : Nat} (hk3_holdsX_ : kk3_holdsX_ ≤ jl) (ck3_holdsX_ : CalK P w K mg base kk3_holdsX_ "holds" sp_holdsX 3 [] (fun ds es => pick [0, 1, 2, 3] (ds ++ es ++ [.tup []]))) (l_spot_L : LamD P w K mg base "_law_spot" sp_spot_L) (tbL : LamX.TabB base mg (He.cT K ("law", none)).1 (He.cT K ("law", none)).2) (luL : ((He.cT K ("law", none)).2, ("law" : Str) ++ ".<locals>." ++ "<lambda>") ∈ lamT K ∧ ∀ p ∈ lamT K, p.1 = (He.cT K ("law", none)).2 → p.2 = ("law" : Str) ++ ".<locals>." ++ "<lambda>") :
    BodyOkC P w K mg base N_law "law" (defScope st_law) (defBody st_law) (He.fAd K ("law", none)) (He.cT K ("law", none)).1 j (R_law sp_brokenX sp_dates_L sp_end_ofX sp_holdsX sp_like_L sp_net_L sp_open_L sp_pull_L sp_spot_L sp_tableX) := fun A outer s H E hr =>
  have jle : jl ≤ j := Nat.le_of_succ_le (Nat.le_of_succ_le hjl)
  have nd := sc_law.nd
  have hu := hr.units
  have tk := tk_of (P := P) (w := w) (K := K) (mg := mg) (base := base) (N := N_law) (qual := "law") (scope := defScope st_law) (f := (He.fAd K ("law", none))) (cdv := (.ref (He.cT K ("law", none)).1)) (A := A) (outer := outer) (s := s) (H := H) (E := E)
  have hp := hp_of (P := P) (w := w) (K := K) (mg := mg) (base := base) (N := N_law) (qual := "law") (scope := defScope st_law) (f := (He.fAd K ("law", none))) (cdv := (.ref (He.cT K ("law", none)).1)) (A := A) (outer := outer) (s := s) (H := H) (E := E)
  (dss_lams [_, _, _, _] (dss_cons (ds_set (i := 1) nd (de_call c_open_L hr tk (da_cons (dv 0) da_nil) (hk := (Nat.le_trans h_open_L jle))))
  (dss_cons (ds_for hp rfl (di_range1 (by rfl) m_range de_int) (dn_name nd) (dss_cons (ds_set (i := 3) nd (de_call c_net_L hr tk (da_cons (dv 1) (da_cons de_int (da_cons de_int (da_cons de_int (da_cons de_int (da_cons de_int da_nil)))))) (hk := (Nat.le_trans h_net_L jle))))
  (dss_cons (by first | exact ds_set (i := 4) nd (de_lc1 rfl nd (di_range1 (by rfl) m_range (de_blt call_len prim_len m_len PySem.boot_len (da_cons (de_ix (dv 3) de_int) da_nil))) (blkOk_by (N := N_law) (sc := defScope st_law) (own := [("_law_k", 17)]) (by decide +kernel)) (blk0 (fun _ _ _ _ _ => (dn_name nd)) (fun _ _ _ _ _ => (de_tup (da_cons (de_op op_sub prim_sub (de_call c_pull_L hr (takes_no rfl) (da_cons (dv 1) (da_cons (de_op op_addU prim_add (de_ix (dv 3) de_int) de_int) da_nil)) (hk := (Nat.le_trans h_pull_L jle))) de_int) (da_cons (de_op op_sub prim_sub (de_call c_pull_L hr (takes_no rfl) (da_cons (dv 1) (da_cons de_int da_nil)) (hk := (Nat.le_trans h_pull_L jle))) de_int) da_nil))))) rfl (by decide)) | exact ds_setLc1 (i := 4) rfl nd rfl rfl (sw_true rfl rfl rfl (by decide +kernel)) (di_range1 (by rfl) m_range (de_blt call_len prim_len m_len PySem.boot_len (da_cons (de_ix (dv 3) de_int) da_nil))) (blkOk_by (N := N_law) (sc := defScope st_law) (own := [("_law_k", 17)]) (by decide +kernel)) (blk0 (fun _ _ _ _ _ => (dn_name nd)) (fun _ _ _ _ _ => (de_tup (da_cons (de_op op_sub prim_sub (de_call c_pull_L hr (takes_no rfl) (da_cons (dv 1) (da_cons (de_op op_addU prim_add (de_ix (dv 3) de_int) de_int) da_nil)) (hk := (Nat.le_trans h_pull_L jle))) de_int) (da_cons (de_op op_sub prim_sub (de_call c_pull_L hr (takes_no rfl) (da_cons (dv 1) (da_cons de_int da_nil)) (hk := (Nat.le_trans h_pull_L jle))) de_int) da_nil))))) rfl (by decide))
  (dss_cons (ds_set (i := 5) nd (de_op op_addU prim_add (dv 4) (de_rep (de_lst (da_cons (de_tup (da_cons de_int (da_cons de_int da_nil))) da_nil)) (de_op op_addU prim_add de_int (de_call c_pull_L hr tk (da_cons (dv 1) (da_cons de_int da_nil)) (hk := (Nat.le_trans h_pull_L jle)))))))
  (dss_join (ds_if (DW.db (dw_and (db_cmpR (op_neU hu) prim_ne (dv 4) (de_lst da_nil) (nomark _)) (dw_and1 (db_cmpR (op_eqU hu) prim_eq (de_call c_pull_L hr tk (da_cons (dv 1) (da_cons de_int da_nil)) (hk := (Nat.le_trans h_pull_L jle))) de_int (nomark _))))) (dss_one (ds_set (i := 5) nd (de_slice (dv 4) do_none (do_some (de_call c_pull_L hr tk (da_cons (dv 1) (da_cons (de_blt call_len prim_len m_len PySem.boot_len (da_cons (dv 4) da_nil)) da_nil)) (hk := (Nat.le_trans h_pull_L jle))))))) dss_nil)
  (dss_cons (ds_set (i := 6) nd (de_blt (call_min2 rfl) prim_min2 m_min PyProof.Rows.boot_min (da_cons (de_blt call_len prim_len m_len PySem.boot_len (da_cons (dv 5) da_nil)) (da_cons (de_blt call_len prim_len m_len PySem.boot_len (da_cons (de_ix (dv 3) de_int) da_nil)) da_nil))))
  (dss_cons (ds_set (i := 7) nd (de_new (da_cons (de_mkLam tbL luL (LamX.lamS_by (sc := defScope st_law) (by decide +kernel)) rfl) da_nil)))
  (dss_cons (ds_expr (de_append (dv 7) (da_cons (de_mkLam tbL luL (LamX.lamS_by (sc := defScope st_law) (by decide +kernel)) rfl) da_nil)))
  (dss_cons (ds_expr (de_append (dv 7) (da_cons (de_mkLam tbL luL (LamX.lamS_by (sc := defScope st_law) (by decide +kernel)) rfl) da_nil)))
  (dss_cons (ds_expr (de_append (dv 7) (da_cons (de_mkLam tbL luL (LamX.lamS_by (sc := defScope st_law) (by decide +kernel)) rfl) da_nil)))
  (dss_cons (ds_if (db_not (db_tru (de_call c_like_L hr tk (da_cons (de_spots l_spot_L (hr.mono hjl) (.cons (LamX.lamS_by (sc := defScope st_law) (by decide +kernel)) (fun A3 outer3 s3 H3 E3 f3 c3 hr3 => have hu := hr3.units; (de_call c_brokenX hr3 tk_lam (da_cons (dv 3) (da_cons (dv 5) da_nil)) (hk := h_brokenX))) (.cons (LamX.lamS_by (sc := defScope st_law) (by decide +kernel)) (fun A3 outer3 s3 H3 E3 f3 c3 hr3 => have hu := hr3.units; (de_call c_end_ofX hr3 tk_lam (da_cons (dv 3) (da_cons (dv 5) da_nil)) (hk := h_end_ofX))) (.cons (LamX.lamS_by (sc := defScope st_law) (by decide +kernel)) (fun A3 outer3 s3 H3 E3 f3 c3 hr3 => have hu := hr3.units; (de_call c_tableX hr3 tk_lam (da_cons (dv 3) (da_cons (dv 5) da_nil)) (hk := h_tableX))) (.cons (LamX.lamS_by (sc := defScope st_law) (by decide +kernel)) (fun A3 outer3 s3 H3 E3 f3 c3 hr3 => have hu := hr3.units; (de_callK (ks := []) ck3_holdsX_ hr3 tk_lam (da_cons (dv 3) (da_cons (dv 5) (da_cons (de_lst (da_cons (de_tup (da_cons de_str (da_cons de_int (da_cons de_int da_nil)))) da_nil)) da_nil))) dk_nil (hk := hk3_holdsX_))) .nil)))) rfl nd (di_seq (dv 7)) (blkOk_by (N := N_law) (sc := defScope st_law) (own := [("_law_ask", 18)]) (by decide +kernel)) (fun _ _ _ _ _ => (dn_name nd)) (fun _ _ _ _ _ => pe_var rfl (by first | exact Or.inl rfl | exact Or.inr (Or.inl rfl) | exact Or.inr (Or.inr rfl))) (fun _ _ _ _ _ => rfl) rfl (by decide)) (da_cons (de_rep (de_lst (da_cons (dv 6) da_nil)) de_int) da_nil)) (hk := (Nat.le_trans h_like_L jle))))) (dss_one (ds_ret de_bl)) dss_nil)
  (dss_cons (ds_set (i := 8) nd de_non)
  (dss_cons (ds_for hp rfl (di_range1 (by rfl) m_range (de_blt call_len prim_len m_len PySem.boot_len (da_cons (dv 4) da_nil))) (dn_name nd) (dss_cons (ds_unp (de_ix (de_ix (dv 3) de_int) (dv 9)) (dn_tup rfl (dns_cons (dn_name nd) (dns_cons (dn_name nd) (dns_cons (dn_name nd) dns_nil)))))
  (dss_cons (ds_unp (de_ix (dv 4) (dv 9)) (dn_tup rfl (dns_cons (dn_name nd) (dns_cons (dn_name nd) dns_nil))))
  (dss_cons (ds_set (i := 15) nd (de_and (de_chain op_le prim_le op_lt prim_lt (dv 10) (dv 13) (dv 11)) (de_one (de_chain op_le prim_le op_lt prim_lt de_int (dv 14) (de_blt call_len prim_len m_len PySem.boot_len (da_cons (dv 12) da_nil))))))
  (dss_one (ds_if (DW.db (dw_and (db_cmpR op_isN prim_isN (dv 8) de_non (nomark _)) (dw_and1 (DW.db (dw_or (db_not (db_tru (dv 15))) (dw_or1 (db_cmpR op_isN prim_isN (de_call c_dates_L hr tk (da_cons (dv 3) (da_cons (dv 9) (da_cons (dv 14) (da_cons (dv 13) da_nil)))) (hk := (Nat.le_trans h_dates_L jle))) de_non (nomark _)))))))) (dss_one (ds_set (i := 8) nd (dv 9))) dss_nil))))))
  (dss_cons (ds_set (i := 16) nd (de_new (da_cons (de_lamQ l_spot_L tbL luL (hr.mono hjl) (LamX.lamS_by (sc := defScope st_law) (by decide +kernel)) (fun A3 outer3 s3 H3 E3 f3 c3 hr3 => have hu := hr3.units; (de_call c_end_ofX hr3 tk_lam (da_cons (dv 3) (da_cons (dv 4) da_nil)) (hk := h_end_ofX)))) da_nil)))
  (dss_cons (ds_expr (de_append (dv 16) (da_cons (de_lamQ l_spot_L tbL luL (hr.mono hjl) (LamX.lamS_by (sc := defScope st_law) (by decide +kernel)) (fun A3 outer3 s3 H3 E3 f3 c3 hr3 => have hu := hr3.units; (de_call c_tableX hr3 tk_lam (da_cons (dv 3) (da_cons (dv 4) da_nil)) (hk := h_tableX)))) da_nil)))
  (dss_one (ds_if (DW.db (dw_or (db_not (db_tru (de_call c_like_L hr tk (da_cons (dv 16) (da_cons (de_lst (da_cons (dv 8) (da_cons (dv 8) da_nil))) da_nil)) (hk := (Nat.le_trans h_like_L jle))))) (dw_or1 (db_cmpR op_notN prim_notN (de_lamQ l_spot_L tbL luL (hr.mono hjl) (LamX.lamS_by (sc := defScope st_law) (by decide +kernel)) (fun A3 outer3 s3 H3 E3 f3 c3 hr3 => have hu := hr3.units; (de_call c_brokenX hr3 tk_lam (da_cons (dv 3) (da_cons (dv 4) da_nil)) (hk := h_brokenX)))) de_non (nomark _))))) (dss_one (ds_ret de_bl)) dss_nil)))))))))))))))))
  (dss_one (ds_ret de_bl)))))
end Z
namespace Z
open PySem PySem.Spec PyProof.Rows L2 Y
local macro_rules | `(tactic| walk_at "y0") => `(tactic| first | with_reducible refine Step.go ?_ | ((with_reducible refine' s_var (s_opq ?h1 ?_)); (case h1 => rfl)) | ((with_reducible refine IxG.go ?_); first | ((with_reducible refine' s_ixP ?h1 ?h2 ?_); (case h1 => first | exact mset_same | (with_reducible assumption)); (case h2 => first | rfl | (with_reducible assumption))) | ((with_reducible refine' s_ixT ?h2 ?_); (case h2 => first | rfl | (with_reducible assumption))) | ((with_reducible refine' s_ixL ?h2 ?_); (case h2 => first | rfl | (with_reducible assumption)))) | ((with_reducible refine LenG.go ?_); ((with_reducible refine' s_lenP ?h1 ?_); (case h1 => first | exact mset_same | (with_reducible assumption)))) | ((with_reducible refine SeqG.go ?_); first | ((with_reducible refine' s_seqP ?h1 ?_); (case h1 => first | exact mset_same | (with_reducible assumption))) | ((with_reducible refine' s_cell ?h1 ?_); (case h1 => first | exact mset_same | (with_reducible assumption)))) | ((with_reducible refine ArG.go ?_); first | ((with_reducible refine' s_mulR ?h1 ?_); (case h1 => omega)) | ((with_reducible refine' s_mulL ?h1 ?_); (case h1 => omega)) | ((with_reducible refine' s_mod ?h1 ?_); (case h1 => omega)) | ((with_reducible refine' s_fdiv ?h1 ?h2 ?_); (case h1 => omega); (case h2 => omega)) | ((with_reducible refine' s_pow ?h1 ?_); (case h1 => decide))) | ((with_reducible refine AndG.go ?_); first | ((with_reducible refine' s_len ?h1 ?_); (case h1 => rfl)) | ((with_reducible refine' s_lenE ?h1 ?_); (case h1 => rfl))) | ((with_reducible refine IsiG.go ?_); first | ((with_reducible refine' s_isi (b := true) ?h1 ?h2 ?h3 ?_); (case h1 => first | rfl | (with_reducible exact ty_ptr mset_same) | (with_reducible exact ty_ptr (by assumption))); (case h2 => first | exact isi_int rfl | exact isi_bool rfl | exact isi_str rfl | exact isi_tuple rfl | exact isi_list rfl | exact isi_int (ty_ptr (by assumption)) | exact isi_bool (ty_ptr (by assumption)) | exact isi_str (ty_ptr (by assumption)) | exact isi_tuple (ty_ptr (by assumption)) | exact isi_list (ty_ptr (by assumption))); (case h3 => rfl)) | ((with_reducible refine' s_isi (b := false) ?h1 ?h2 ?h3 ?_); (case h1 => first | rfl | (with_reducible exact ty_ptr mset_same) | (with_reducible exact ty_ptr (by assumption))); (case h2 => first | exact isi_int rfl | exact isi_bool rfl | exact isi_str rfl | exact isi_tuple rfl | exact isi_list rfl | exact isi_int (ty_ptr (by assumption)) | exact isi_bool (ty_ptr (by assumption)) | exact isi_str (ty_ptr (by assumption)) | exact isi_tuple (ty_ptr (by assumption)) | exact isi_list (ty_ptr (by assumption))); (case h3 => rfl))) | ((with_reducible refine IfG.go ?_); first | ((with_reducible refine' s_nonF ?h1 ?_); (case h1 => rfl)) | ((with_reducible refine' s_nonT ?h1 ?_); (case h1 => rfl)) | ((with_reducible refine' s_notNonF ?h1 ?_); (case h1 => rfl)) | ((with_reducible refine' s_notNonT ?h1 ?_); (case h1 => rfl))) | ((with_reducible refine NatG.go ?_); ((with_reducible refine' s_ixN ?h1 ?_); (case h1 => first | rfl | (with_reducible assumption)))))
local macro_rules | `(tactic| walk_at "y1") => `(tactic| first | walk_at "y0" | dsimp only)
local macro_rules | `(tactic| walk_at "y") => `(tactic| repeat walk_at "y1")
local macro_rules | `(tactic| walk_at "pull") => `(tactic| ((refine ifD (fun g => ?_) (fun g => ?_)) <;> ((walk_at "y"); (refine ⟨_, Sub.refl, ?_⟩); (try simp only [mset_mset]))))
abbrev N_open_L : List Str := ["_law_script", "_law_seed", "_law_cell"]
abbrev P_open_L : List Str := ["_law_script"]
abbrev r_open_L_t0 : SD := (sSeq (sFor (dSeq (dSl (dVar 0) dNoP (dPart (dC (.int 63))))) (nNm 2) (sSet 1 (dOp modD (dOp addD (dOp addD (dOp mulD (dVar 1) (dC (.int 48271))) (dOp modD (dVar 2) (dC (.int 2147483629)))) (dC (.int 5))) (dC (.int 2147483647))))) (sRet (dNew (dCons (dCal listD (dCons (dSl (dVar 0) dNoP (dPart (dC (.int 63)))) dNil)) (dCons (dC (.int 0)) (dCons (dC (.int 0)) (dCons (dVar 1) dNil)))))))
def r_open_L : SD :=
  (sSeq (sSet 1 (dC (.int 7717))) r_open_L_t0)
abbrev r_pull_L_t0 : SD := (sSeq (sAsg (dOp modD (dOp addD (dOp addD (dOp mulD (dOp modD (dOp mulD (dVar 4) (dVar 4)) (dC (.int 2147483587))) (dC (.int 5))) (dOp mulD (dVar 4) (dC (.int 16807)))) (dC (.int 1013904229))) (dC (.int 2147483647))) (gSubD (dVar 0) (dC (.int 3)))) (sRet (dOp modD (dOp addD (dOp fdivD (dOp ixD (dVar 0) (dC (.int 3))) (dC (.int 53))) (dOp mulD (dOp modD (dOp ixD (dVar 0) (dC (.int 3))) (dC (.int 8191))) (dC (.int 31)))) (dVar 1))))
abbrev r_pull_L_t1 : SD := (sSeq (sSet 4 (dOp ixD (dVar 0) (dC (.int 3)))) r_pull_L_t0)
abbrev r_pull_L_t2 : SD := (sSeq (sAsg (dOp fdivD (dOp ixD (dVar 0) (dC (.int 2))) (dVar 1)) (gSubD (dVar 0) (dC (.int 2)))) (sRet (dVar 3)))
abbrev r_pull_L_t3 : SD := (sSeq (sSet 3 (dOp modD (dOp ixD (dVar 0) (dC (.int 2))) (dVar 1))) r_pull_L_t2)
abbrev r_pull_L_t4 : SD := (sSeq (sIf (dTest (dOp geD (dOp ixD (dVar 0) (dC (.int 2))) (dVar 1))) r_pull_L_t3 sNext) r_pull_L_t1)
abbrev r_pull_L_t5 : SD := (sSeq (sAsg (dC (.int 0)) (gSubD (dVar 0) (dC (.int 2)))) (sIf (dTest (dOp geD (dVar 2) (dOp powD (dC (.int 10)) (dC (.int 18))))) (sAsg (dVar 2) (gSubD (dVar 0) (dC (.int 2)))) (sAsg (dOp modD (dOp addD (dOp addD (dOp mulD (dOp ixD (dVar 0) (dC (.int 3))) (dC (.int 40692))) (dOp mulD (dOp modD (dVar 2) (dC (.int 2147483629))) (dC (.int 69621)))) (dC (.int 104729))) (dC (.int 2147483647))) (gSubD (dVar 0) (dC (.int 3))))))
abbrev r_pull_L_t6 : SD := (sSeq (sAsg (dOp addD (dOp ixD (dVar 0) (dC (.int 1))) (dC (.int 1))) (gSubD (dVar 0) (dC (.int 1)))) r_pull_L_t5)
abbrev r_pull_L_t7 : SD := (sSeq (sSet 2 (dOp ixD (dOp ixD (dVar 0) (dC (.int 0))) (dOp ixD (dVar 0) (dC (.int 1))))) r_pull_L_t6)
def r_pull_L : SD :=
  (sSeq (sIf (dAnd (dTest (dOp ltD (dOp ixD (dVar 0) (dC (.int 2))) (dVar 1))) (dTest (dOp ltD (dOp ixD (dVar 0) (dC (.int 1))) (dCal lenD (dCons (dOp ixD (dVar 0) (dC (.int 0))) dNil))))) r_pull_L_t7 sNext) r_pull_L_t4)
abbrev N_num_L : List Str := ["_law_found"]
abbrev P_num_L : List Str := ["_law_found"]
def r_num_L : SD :=
  (sRet (dAndV (dCal isiD (dCons (dVar 0) (dCons (dC (.ty "int")) dNil))) (dNotV (dCal isiD (dCons (dVar 0) (dCons (dC (.ty "bool")) dNil))))))
structure DrawOk (dr : List D) : Prop where
  ex : ∃ (cs : List Int) (i c s : Int), dr = [.lst (cs.map .int), .int i, .int c, .int s] ∧ cs.length ≤ 63 ∧ 0 ≤ i ∧ 0 ≤ c ∧ 0 ≤ s ∧ s < 2147483647
def sp_pull_L : DSp := fun ds μ Q _ => ∃ n t dr, ds = [.ptr n, .int t] ∧ μ n = some (.lst dr) ∧ DrawOk dr ∧ 0 < t ∧ t < 1073741824 ∧ ∀ k dr', 0 ≤ k → k < t → DrawOk dr' → Q (.int k) (mset μ n (.lst dr'))
/-- what is left of a call once a number is drawn -/
theorem draw_mk {cs : List Int} {i c s : Int} (h1 : cs.length ≤ 63) (h2 : 0 ≤ i) (h3 : 0 ≤ c) (h4 : 0 ≤ s) (h5 : s < 2147483647) : DrawOk [.lst (cs.map .int), .int i, .int c, .int s] := ⟨cs, i, c, s, rfl, h1, h2, h3, h4, h5⟩
theorem mod31 (x : Int) : 0 ≤ x % 2147483647 ∧ x % 2147483647 < 2147483647 := ⟨Int.emod_nonneg _ (by decide), Int.emod_lt_of_pos _ (by decide)⟩
theorem at_cell {cs : List Int} {i : Int} (h0 : 0 ≤ i) (h : i < (cs.map D.int).length) : atI (cs.map D.int) i = some (.int (cs.getD i.toNat 0)) := by
  have h' : i.toNat < cs.length := by
    rw [List.length_map] at h
    omega
  unfold atI ixN
  rw [if_pos h0, if_pos h]
  show (cs.map D.int)[i.toNat]? = _
  rw [List.getElem?_map, List.getElem?_eq_getElem h', List.getD_eq_getElem?_getD, List.getElem?_eq_getElem h']
  rfl
set_option maxHeartbeats 1000000 in
theorem k_pull_L : Keeps N_pull_L P_pull_L r_pull_L sp_pull_L := by
  rintro ds μ Q E ⟨n, t, dr, rfl, hm, ⟨cs, i, c, s, rfl, hcs, hi, hc, hs, hs2⟩, ht, ht2, h⟩
  refine ⟨rfl, ?_⟩
  rw [show startD N_pull_L [D.ptr n, D.int t] = [some (.ptr n), some (.int t), none, none, none] from rfl]
  unfold r_pull_L
  have fin : ∀ {x i' c' s' : Int}, 0 ≤ i' → 0 ≤ c' → 0 ≤ s' → s' < 2147483647 → Q (.int (x % t)) (mset μ n (.lst [.lst (cs.map .int), .int i', .int c', .int s'])) := fun h1 h2 h3 h4 =>
    h _ _ (Int.emod_nonneg _ (by omega)) (Int.emod_lt_of_pos _ ht) (draw_mk hcs h1 h2 h3 h4)
  walk_at "y"
  refine ifD (fun h1 => ?_) (fun h1 => ?_)
  · walk_at "y"
    refine ifD (fun h2 => ?_) (fun h2 => ?_)
    · walk_at "y"
      refine s_ixL (at_cell hi h2) ?_
      walk_at "y"
      refine ifD (fun h3 => ?_) (fun h3 => ?_)
      · have h4 : 0 ≤ cs.getD i.toNat 0 := Int.le_trans (by decide) h3
        walk_at "y"
        walk_at "pull"
        · exact fin (by omega) (Int.ediv_nonneg h4 (by omega)) hs hs2
        · exact fin (by omega) h4 (mod31 _).1 (mod31 _).2
      · walk_at "y"
        walk_at "pull"
        · exact fin (by omega) (Int.ediv_nonneg (by omega) (by omega)) (mod31 _).1 (mod31 _).2
        · exact fin (by omega) (by omega) (mod31 _).1 (mod31 _).2
    · walk_at "y"
      walk_at "pull"
      · exact fin hi (Int.ediv_nonneg hc (by omega)) hs hs2
      · exact fin hi hc (mod31 _).1 (mod31 _).2
  · walk_at "y"
    walk_at "pull"
    · exact fin hi (Int.ediv_nonneg hc (by omega)) hs hs2
    · exact fin hi hc (mod31 _).1 (mod31 _).2
/-- the draw at the start -/
def sp_open_L : DSp := fun ds μ Q _ => ∃ ns, ds = [.scr ns] ∧ ∀ n dr, μ n = none → DrawOk dr → Q (.ptr n) (mset μ n (.lst dr))
set_option maxHeartbeats 1000000 in
theorem k_open_L : Keeps N_open_L P_open_L r_open_L sp_open_L := by
  rintro ds μ Q E ⟨ns, rfl, h⟩
  refine ⟨rfl, ?_⟩
  rw [show startD N_open_L [D.scr ns] = [some (.scr ns), none, none] from rfl]
  unfold r_open_L
  walk_at "y"
  refine s_opq (z := .lst ((cutD ns none (some 63)).map .int)) rfl ?_
  walk_at "y"
  have hc : (cutD ns none (some 63)).length ≤ 63 := by
    unfold Y.cutD
    rw [List.length_take]
    have : HT.sIx ns.length ns.length (some 63) ≤ 63 := by
      have e := HT.sIx_nat ns.length ns.length 63
      have e : HT.sIx ns.length ns.length (some 63) = min 63 ns.length := e
      rw [e]
      exact Nat.min_le_left ..
    omega
  refine for_ind (fun r ρ μ' => μ' = μ ∧ ∃ (c : Option D) (s : Int) (is : List Int), r = is.map .int ∧ ρ = [some (.scr ns), some (.int s), c] ∧ 0 ≤ s ∧ s < 2147483647) (fun _ _ _ _ => trivial) ?_ ?_ _ _ _ ⟨rfl, none, 7717, _, rfl, rfl, by decide, by decide⟩
  · rintro d r ρ μ' N hN ⟨rfl, c, s, is, e, rfl, h1, h2⟩
    cases is with
    | nil => cases e
    | cons i is =>
      cases e
      walk_at "y"
      exact hN _ _ ⟨rfl, _, _, is, rfl, rfl, (mod31 _).1, (mod31 _).2⟩
  · rintro ρ μ' ⟨rfl, c, s, is, e, rfl, h1, h2⟩
    walk_at "y"
    refine s_opq (z := .lst ((cutD ns none (some 63)).map .int)) rfl ?_
    walk_at "y"
    refine s_opq (z := .lst ((cutD ns none (some 63)).map .int)) (list_of rfl ?_) ?_
    · rw [List.length_map, sizeLine_eq]
      omega
    walk_at "y"
    intro n hn
    exact ⟨_, Sub.refl, h n _ hn (draw_mk hc (by decide) (by decide) h1 h2)⟩
/-- is it an int and no bool? -/
def numB : D → Bool
  | .int _ => true
  | _ => false
def sp_num_L : DSp := fun ds μ Q _ => ∃ d, ds = [d] ∧ (tyD μ d).isSome ∧ Q (.bl (numB d)) μ
theorem k_num_L : Keeps N_num_L P_num_L r_num_L sp_num_L := by
  rintro ds μ Q E ⟨d, rfl, ht, h⟩
  refine ⟨rfl, ?_⟩
  rw [show startD N_num_L [d] = [some d] from rfl]
  unfold r_num_L
  cases d with
  | ptr n =>
    obtain ⟨t, ht⟩ := Option.isSome_iff_exists.mp ht
    have h1 : isiT t .int = false := by
      have ht : (match μ n with | some (.lst _) => some Ty.list | some (.dk _) => some .dict | _ => none) = some t := ht
      split at ht <;> cases ht <;> rfl
    walk_at "y"
    refine s_isi ht (isi_int ht) h1 ?_
    walk_at "y"
    exact ⟨_, Sub.refl, h⟩
  | scr _ => cases ht
  | glo _ => cases ht
  | ty _ => cases ht
  | fn _ _ _ => cases ht
  | _ =>
    walk_at "y"
    exact ⟨_, Sub.refl, h⟩
def r_like_L (sp_self : DSp) : SD :=
  (sSeq (sIf (dTest (dOp isND (dVar 1) (dC .non))) (sRet (dOp isND (dVar 0) (dC .non))) sNext)
  (sSeq (sIf (dTru (dCal isiD (dCons (dVar 1) (dCons (dC (.ty "bool")) dNil)))) (sRet (dAndV (dCal isiD (dCons (dVar 0) (dCons (dC (.ty "bool")) dNil))) (dOp eqD (dVar 0) (dVar 1)))) sNext)
  (sSeq (sIf (dTru (dCal isiD (dCons (dVar 1) (dCons (dC (.ty "int")) dNil)))) (sRet (dAndV (dCall sp_num_L [] (dCons (dVar 0) dNil)) (dOp eqD (dVar 0) (dVar 1)))) sNext)
  (sSeq (sIf (dTru (dCal isiD (dCons (dVar 1) (dCons (dC (.ty "str")) dNil)))) (sRet (dAndV (dCal isiD (dCons (dVar 0) (dCons (dC (.ty "str")) dNil))) (dOp eqD (dVar 0) (dVar 1)))) sNext)
  (sSeq (sIf (dOr (dTest (dOp neD (dCal isiD (dCons (dVar 1) (dCons (dC (.ty "tuple")) dNil))) (dCal isiD (dCons (dVar 0) (dCons (dC (.ty "tuple")) dNil))))) (dTest (dOp neD (dCal isiD (dCons (dVar 1) (dCons (dC (.ty "list")) dNil))) (dCal isiD (dCons (dVar 0) (dCons (dC (.ty "list")) dNil)))))) (sRet (dC (.bl false))) sNext)
  (sSeq (sIf (dTest (dOp neD (dCal lenD (dCons (dVar 0) dNil)) (dCal lenD (dCons (dVar 1) dNil)))) (sRet (dC (.bl false))) sNext)
  (sRet (dCal allD (dCons (dLc (dRange1 (dCal lenD (dCons (dVar 1) dNil))) (nNm 2) dYes (dCall sp_self [] (dCons (dOp ixD (dVar 0) (dVar 2)) (dCons (dOp ixD (dVar 1) (dVar 2)) dNil))) [2]) dNil)))))))))
/-- d stands for the tree t, of at most so many floors -/
inductive Is (μ : Mu) : Nat → D → D → Prop
  | non {n : Nat} : Is μ n .non .non
  | bl {n : Nat} (b : Bool) : Is μ n (.bl b) (.bl b)
  | int {n : Nat} (i : Int) : Is μ n (.int i) (.int i)
  | str {n : Nat} (x : Str) : Is μ n (.str x) (.str x)
  | tup {n : Nat} {ds ts : List D} : ds.length = ts.length → ds.length ≤ sizeLine → (∀ (i : Nat) (d t : D), ds[i]? = some d → ts[i]? = some t → Is μ n d t) → Is μ (n + 1) (.tup ds) (.tup ts)
  | lst {n : Nat} {ds ts : List D} : ds.length = ts.length → ds.length ≤ sizeLine → (∀ (i : Nat) (d t : D), ds[i]? = some d → ts[i]? = some t → Is μ n d t) → Is μ (n + 1) (.lst ds) (.lst ts)
  | ptr {n m : Nat} {ds ts : List D} : μ m = some (.lst ds) → ds.length = ts.length → ds.length ≤ sizeLine → (∀ (i : Nat) (d t : D), ds[i]? = some d → ts[i]? = some t → Is μ n d t) → Is μ (n + 1) (.ptr m) (.lst ts)
def spLk : Nat → DSp
  | 0 => spNo
  | n + 1 => fun ds μ Q _ => ∃ f d t, ds = [f, d] ∧ Is μ n f t ∧ Is μ n d t ∧ Q (.bl true) μ
def tail_like (sp_self : DSp) : SD :=
  (sSeq (sIf (dTest (dOp neD (dCal lenD (dCons (dVar 0) dNil)) (dCal lenD (dCons (dVar 1) dNil)))) (sRet (dC (.bl false))) sNext)
  (sRet (dCal allD (dCons (dLc (dRange1 (dCal lenD (dCons (dVar 1) dNil))) (nNm 2) dYes (dCall sp_self [] (dCons (dOp ixD (dVar 0) (dVar 2)) (dCons (dOp ixD (dVar 1) (dVar 2)) dNil))) [2]) dNil))))
def head_like (sp_self : DSp) : SD :=
  (sSeq (sIf (dTest (dOp isND (dVar 1) (dC .non))) (sRet (dOp isND (dVar 0) (dC .non))) sNext)
  (sSeq (sIf (dTru (dCal isiD (dCons (dVar 1) (dCons (dC (.ty "bool")) dNil)))) (sRet (dAndV (dCal isiD (dCons (dVar 0) (dCons (dC (.ty "bool")) dNil))) (dOp eqD (dVar 0) (dVar 1)))) sNext)
  (sSeq (sIf (dTru (dCal isiD (dCons (dVar 1) (dCons (dC (.ty "int")) dNil)))) (sRet (dAndV (dCall sp_num_L [] (dCons (dVar 0) dNil)) (dOp eqD (dVar 0) (dVar 1)))) sNext)
  (sSeq (sIf (dTru (dCal isiD (dCons (dVar 1) (dCons (dC (.ty "str")) dNil)))) (sRet (dAndV (dCal isiD (dCons (dVar 0) (dCons (dC (.ty "str")) dNil))) (dOp eqD (dVar 0) (dVar 1)))) sNext)
  (sSeq (sIf (dOr (dTest (dOp neD (dCal isiD (dCons (dVar 1) (dCons (dC (.ty "tuple")) dNil))) (dCal isiD (dCons (dVar 0) (dCons (dC (.ty "tuple")) dNil))))) (dTest (dOp neD (dCal isiD (dCons (dVar 1) (dCons (dC (.ty "list")) dNil))) (dCal isiD (dCons (dVar 0) (dCons (dC (.ty "list")) dNil)))))) (sRet (dC (.bl false))) sNext)
  (tail_like sp_self))))))
theorem head_eq (sp : DSp) : r_like_L sp = head_like sp := rfl
theorem like_tail {n : Nat} {μ : Mu} {Q : QD} {E : XQ} {f d : D} {fs ds ts : List D} (h1 : asQ μ f = some fs) (h2 : asQ μ d = some ds) (l1 : fs.length = ts.length) (l2 : ds.length = ts.length) (hz : ds.length ≤ sizeLine)
    (hf : ∀ (i : Nat) (d t : D), fs[i]? = some d → ts[i]? = some t → Is μ n d t) (hd : ∀ (i : Nat) (d t : D), ds[i]? = some d → ts[i]? = some t → Is μ n d t) (hq : Q (.bl true) μ) : tail_like (spLk (n + 1)) (bodyEnds Q E) [some f, some d, none] μ := by
  unfold tail_like
  walk_at "y"
  refine s_opq (as_len h1) ?_
  walk_at "y"
  refine s_opq (as_len h2) ?_
  walk_at "y"
  have e : decide ((fs.length : Int) = (ds.length : Int)) = true := decide_eq_true (by omega)
  rw [e]
  walk_at "y"
  refine s_opq (as_len h2) ?_
  walk_at "y"
  refine ⟨b62_nat hz, ?_⟩
  walk_at "y"
  refine ⟨by rw [range_len]; exact hz, ?_⟩
  refine lc_map (fun _ => .bl true) trivial ?_ ?_
  · intro x hx M hM
    obtain ⟨i, hi, rfl⟩ := range_get hx
    have hi : i < ds.length := hi
    have e0 : (0 : Int) + (i : Nat) = (i : Nat) := Int.zero_add _
    rw [e0]
    have g1 : fs[i]? = some (fs[i]'(by omega)) := List.getElem?_eq_getElem _
    have g2 : ds[i]? = some ds[i] := List.getElem?_eq_getElem _
    have g3 : ts[i]? = some (ts[i]'(by omega)) := List.getElem?_eq_getElem _
    walk_at "y"
    refine s_opq (as_ix h1 g1) ?_
    walk_at "y"
    refine s_opq (as_ix h2 g2) ?_
    walk_at "y"
    exact ⟨_, _, _, rfl, hf i _ _ g1 g3, hd i _ _ g2 g3, hM⟩
  · walk_at "y"
    refine s_opq (all_true fun d hd => ?_) ?_
    · obtain ⟨_, _, e⟩ := List.mem_map.mp hd
      exact e.symm
    walk_at "y"
    exact ⟨_, Sub.refl, hq⟩
set_option maxHeartbeats 2000000 in
theorem k_like_L (n : Nat) : Keeps N_like_L P_like_L (r_like_L (spLk n)) (spLk (n + 1)) := by
  rintro ds μ Q E ⟨f, d, t, rfl, hf, hd, hq⟩
  refine ⟨rfl, ?_⟩
  rw [show startD N_like_L [f, d] = [some f, some d, none] from rfl]
  rw [head_eq]
  unfold head_like
  cases hd with
  | non =>
    cases hf
    walk_at "y"
    exact ⟨_, Sub.refl, hq⟩
  | bl b =>
    cases hf
    walk_at "y"
    rw [show decide (b = b) = true from decide_eq_true rfl]
    exact ⟨_, Sub.refl, hq⟩
  | int i =>
    cases hf
    walk_at "y"
    refine ⟨_, rfl, rfl, ?_⟩
    rw [show numB (.int i) = true from rfl]
    walk_at "y"
    rw [show decide (i = i) = true from decide_eq_true rfl]
    exact ⟨_, Sub.refl, hq⟩
  | str x =>
    cases hf
    walk_at "y"
    rw [show decide (x = x) = true from decide_eq_true rfl]
    exact ⟨_, Sub.refl, hq⟩
  | tup l2 z2 a2 =>
    cases hf with
    | tup l1 z1 a1 =>
      walk_at "y"
      refine like_tail ?_ ?_ l1 l2 z2 a1 a2 hq <;> rfl
  | lst l2 z2 a2 =>
    cases hf with
    | lst l1 z1 a1 =>
      walk_at "y"
      refine like_tail ?_ ?_ l1 l2 z2 a1 a2 hq <;> rfl
    | ptr m1 l1 z1 a1 =>
      walk_at "y"
      refine like_tail (as_ptr m1) ?_ l1 l2 z2 a1 a2 hq <;> rfl
  | ptr m2 l2 z2 a2 =>
    cases hf with
    | lst l1 z1 a1 =>
      walk_at "y"
      refine like_tail ?_ (as_ptr m2) l1 l2 z2 a1 a2 hq <;> rfl
    | ptr m1 l1 z1 a1 =>
      walk_at "y"
      exact like_tail (as_ptr m1) (as_ptr m2) l1 l2 z2 a1 a2 hq
abbrev sp_like_L : DSp := spLk 8
end Z
namespace Z
open PySem PySem.Spec PyProof.Rows L2 Y
local macro_rules | `(tactic| walk_at "y0") => `(tactic| first | with_reducible refine Step.go ?_ | ((with_reducible refine' s_var (s_opq ?h1 ?_)); (case h1 => rfl)) | ((with_reducible refine IxG.go ?_); first | ((with_reducible refine' s_ixP ?h1 ?h2 ?_); (case h1 => first | exact mset_same | (with_reducible assumption)); (case h2 => first | rfl | (with_reducible assumption))) | ((with_reducible refine' s_ixT ?h2 ?_); (case h2 => first | rfl | (with_reducible assumption))) | ((with_reducible refine' s_ixL ?h2 ?_); (case h2 => first | rfl | (with_reducible assumption)))) | ((with_reducible refine LenG.go ?_); ((with_reducible refine' s_lenP ?h1 ?_); (case h1 => first | exact mset_same | (with_reducible assumption)))) | ((with_reducible refine SeqG.go ?_); first | ((with_reducible refine' s_seqP ?h1 ?_); (case h1 => first | exact mset_same | (with_reducible assumption))) | ((with_reducible refine' s_cell ?h1 ?_); (case h1 => first | exact mset_same | (with_reducible assumption)))) | ((with_reducible refine ArG.go ?_); first | ((with_reducible refine' s_mulR ?h1 ?_); (case h1 => omega)) | ((with_reducible refine' s_mulL ?h1 ?_); (case h1 => omega)) | ((with_reducible refine' s_mod ?h1 ?_); (case h1 => omega)) | ((with_reducible refine' s_fdiv ?h1 ?h2 ?_); (case h1 => omega); (case h2 => omega)) | ((with_reducible refine' s_pow ?h1 ?_); (case h1 => decide))) | ((with_reducible refine AndG.go ?_); first | ((with_reducible refine' s_len ?h1 ?_); (case h1 => rfl)) | ((with_reducible refine' s_lenE ?h1 ?_); (case h1 => rfl))) | ((with_reducible refine IsiG.go ?_); first | ((with_reducible refine' s_isi (b := true) ?h1 ?h2 ?h3 ?_); (case h1 => first | rfl | (with_reducible exact ty_ptr mset_same) | (with_reducible exact ty_ptr (by assumption))); (case h2 => first | exact isi_int rfl | exact isi_bool rfl | exact isi_str rfl | exact isi_tuple rfl | exact isi_list rfl | exact isi_int (ty_ptr (by assumption)) | exact isi_bool (ty_ptr (by assumption)) | exact isi_str (ty_ptr (by assumption)) | exact isi_tuple (ty_ptr (by assumption)) | exact isi_list (ty_ptr (by assumption))); (case h3 => rfl)) | ((with_reducible refine' s_isi (b := false) ?h1 ?h2 ?h3 ?_); (case h1 => first | rfl | (with_reducible exact ty_ptr mset_same) | (with_reducible exact ty_ptr (by assumption))); (case h2 => first | exact isi_int rfl | exact isi_bool rfl | exact isi_str rfl | exact isi_tuple rfl | exact isi_list rfl | exact isi_int (ty_ptr (by assumption)) | exact isi_bool (ty_ptr (by assumption)) | exact isi_str (ty_ptr (by assumption)) | exact isi_tuple (ty_ptr (by assumption)) | exact isi_list (ty_ptr (by assumption))); (case h3 => rfl))) | ((with_reducible refine IfG.go ?_); first | ((with_reducible refine' s_nonF ?h1 ?_); (case h1 => rfl)) | ((with_reducible refine' s_nonT ?h1 ?_); (case h1 => rfl)) | ((with_reducible refine' s_notNonF ?h1 ?_); (case h1 => rfl)) | ((with_reducible refine' s_notNonT ?h1 ?_); (case h1 => rfl))) | ((with_reducible refine NatG.go ?_); ((with_reducible refine' s_ixN ?h1 ?_); (case h1 => first | rfl | (with_reducible assumption)))))
local macro_rules | `(tactic| walk_at "y1") => `(tactic| first | walk_at "y0" | dsimp only)
local macro_rules | `(tactic| walk_at "y") => `(tactic| repeat walk_at "y1")
def intsT (ns : List Int) : D := .tup (ns.map .int)
structure Way where
  long : Int
  rests : Int
  needs : List Int
structure Work where
  low : Int
  high : Int
  ways : List Way
structure Tie where
  kind : Int
  one : Int
  other : Int
  gap : Int
structure Yard where
  days : Int
  shut : List Int
  stuffs : List (List Int)
  works : List Work
  ties : List Tie
def wayD (x : Way) : D := .tup [.int x.long, .int x.rests, intsT x.needs]
def workD (x : Work) : D := .tup [.int x.low, .int x.high, .tup (x.ways.map wayD)]
def tieD (x : Tie) : D := .tup [.int x.kind, .int x.one, .int x.other, .int x.gap]
def yardD (y : Yard) : D := .tup [.int y.days, intsT y.shut, .tup (y.stuffs.map intsT), .tup (y.works.map workD), .tup (y.ties.map tieD)]
/-- nothing is longer than a list may be -/
structure Small (y : Yard) : Prop where
  rows : ∀ r ∈ y.stuffs, r.length ≤ sizeLine
  ways : ∀ x ∈ y.works, x.ways.length ≤ sizeLine
  needs : ∀ x ∈ y.works, ∀ z ∈ x.ways, z.needs.length ≤ sizeLine
def betw (one least most : Int) : Bool := decide (least ≤ one) && decide (one ≤ most)
def sp_between : DSp := fun ds μ Q _ => ∃ a b c, ds = [.int a, .int b, .int c] ∧ Q (.bl (betw a b c)) μ
abbrev N_between : List Str := ["one", "least", "most"]
abbrev P_between : List Str := ["one", "least", "most"]
def r_between : SD :=
  (sRet (dChain leD leD (dVar 1) (dVar 0) (dVar 2)))
theorem k_between : Keeps N_between P_between r_between sp_between := by
  rintro ds μ Q E ⟨a, b, c, rfl, h⟩
  refine ⟨rfl, ?_⟩
  rw [show startD N_between [D.int a, D.int b, D.int c] = [some (.int a), some (.int b), some (.int c)] from rfl]
  unfold r_between
  unfold betw at h
  walk_at "y"
  refine if_both (fun e => ?_) (fun e => ?_)
  · rw [e] at h
    walk_at "y"
    exact ⟨_, Sub.refl, h⟩
  · rw [e] at h
    exact ⟨_, Sub.refl, h⟩
/-- the first day that does not rise or lies beyond -/
def shutW (days before : Int) : Nat → List Int → Option Nat
  | _, [] => none
  | i, d :: r => if before < d ∧ d < days then shutW days d (i + 1) r else some i
def natD : Option Nat → D
  | none => .non
  | some i => .int (i : Nat)
def sp_shut_wrong : DSp := fun ds μ Q _ => ∃ days shut, ds = [.int days, intsT shut] ∧ Q (natD (shutW days (-1) 0 shut)) μ
abbrev N_shut_wrong : List Str := ["days", "shut", "before", "at", "day"]
abbrev P_shut_wrong : List Str := ["days", "shut"]
def r_shut_wrong : SD :=
  (sSeq (sSet 2 (dUn negD (dC (.int 1))))
  (sSeq (sFor (dEnum (dVar 1)) (nTup 2 (nCons (nNm 3) (nCons (nNm 4) nNil))) (sSeq (sIf (dNot (dTest (dChain ltD ltD (dVar 2) (dVar 4) (dVar 0)))) (sRet (dVar 3)) sNext)
  (sSet 2 (dVar 4))))
  (sRet (dC .non))))
theorem k_shut_wrong : Keeps N_shut_wrong P_shut_wrong r_shut_wrong sp_shut_wrong := by
  rintro ds μ Q E ⟨days, shut, rfl, h⟩
  refine ⟨rfl, ?_⟩
  rw [show startD N_shut_wrong [D.int days, intsT shut] = [some (.int days), some (.tup (shut.map .int)), none, none, none] from rfl]
  unfold r_shut_wrong
  walk_at "y"
  refine for_ind (fun r ρ μ' => μ' = μ ∧ ∃ (i : Nat) (before : Int) (l : List Int) (a3 a4 : Option D), r = enumD i (l.map .int) ∧ ρ = [some (.int days), some (.tup (shut.map .int)), some (.int before), a3, a4] ∧ shutW days before i l = shutW days (-1) 0 shut) (fun _ _ _ _ => trivial) ?_ ?_ _ _ _ ⟨rfl, 0, -1, shut, _, _, rfl, rfl, rfl⟩
  · rintro d r ρ μ' N hN ⟨rfl, i, before, l, a3, a4, e, rfl, hw⟩
    cases l with
    | nil => cases e
    | cons x l =>
      cases e
      walk_at "y"
      refine ifD (fun e1 => ?_) (fun e1 => ?_)
      · walk_at "y"
        refine ifN (fun e2 => ?_) (fun e2 => ?_)
        · walk_at "y"
          refine ⟨_, Sub.refl, ?_⟩
          rw [← hw] at h
          unfold shutW at h
          rw [if_neg fun z => e2 z.2] at h
          exact h
        · walk_at "y"
          refine hN _ _ ⟨rfl, i + 1, x, l, _, _, rfl, rfl, ?_⟩
          rw [← hw, shutW, if_pos ⟨e1, e2⟩]
      · walk_at "y"
        refine ⟨_, Sub.refl, ?_⟩
        rw [← hw] at h
        unfold shutW at h
        rw [if_neg fun z => e1 z.1] at h
        exact h
  · rintro ρ μ' ⟨rfl, i, before, l, a3, a4, e, rfl, hw⟩
    cases l with
    | cons x l => cases e
    | nil =>
      walk_at "y"
      refine ⟨_, Sub.refl, ?_⟩
      rw [← hw] at h
      exact h
def stuffB (days : Int) (row : List Int) : Bool := decide ((row.length : Int) = days) && row.all fun x => betw x 0 9
def sp_is_stuff : DSp := fun ds μ Q _ => ∃ days row, ds = [.int days, intsT row] ∧ row.length ≤ sizeLine ∧ Q (.bl (stuffB days row)) μ
abbrev N_is_stuff : List Str := ["days", "row", "many"]
abbrev P_is_stuff : List Str := ["days", "row"]
def r_is_stuff : SD :=
  (sRet (dAndV (dOp eqD (dCal lenD (dCons (dVar 1) dNil)) (dVar 0)) (dCal allD (dCons (dLc (dSeq (dVar 1)) (nNm 2) dYes (dCall sp_between [] (dCons (dVar 2) (dCons (dC (.int 0)) (dCons (dC (.int (9))) dNil)))) [2]) dNil))))
theorem k_is_stuff : Keeps N_is_stuff P_is_stuff r_is_stuff sp_is_stuff := by
  rintro ds μ Q E ⟨days, row, rfl, hz, h⟩
  refine ⟨rfl, ?_⟩
  rw [show startD N_is_stuff [D.int days, intsT row] = [some (.int days), some (.tup (row.map .int)), none] from rfl]
  unfold r_is_stuff
  unfold stuffB at h
  walk_at "y"
  rw [List.length_map]
  refine ifD (fun e => ?_) (fun e => ?_)
  · rw [decide_eq_true e, Bool.true_and] at h
    walk_at "y"
    refine ⟨by rw [List.length_map]; exact hz, ?_⟩
    refine lc_mapT .int row (fun x => .bl (betw x 0 9)) trivial (fun x _ M hM => ?_) ?_
    · walk_at "y"
      exact ⟨x, 0, 9, rfl, hM⟩
    walk_at "y"
    refine s_all ?_
    exact ⟨_, Sub.refl, h⟩
  · rw [decide_eq_false e, Bool.false_and] at h
    walk_at "y"
    exact ⟨_, Sub.refl, h⟩
def wayB (stuffs : Int) (x : Way) : Bool := betw x.long 1 9 && (decide (x.rests ∈ [0, 1]) && (decide ((x.needs.length : Int) = stuffs) && x.needs.all fun z => betw z 0 9))
def sp_is_way : DSp := fun ds μ Q _ => ∃ stuffs x, ds = [.int stuffs, wayD x] ∧ x.needs.length ≤ sizeLine ∧ Q (.bl (wayB stuffs x)) μ
abbrev r_is_way_t0 : SD := (sSeq (sIf (dOr (dNot (dTru (dCall sp_between [] (dCons (dVar 2) (dCons (dC (.int 1)) (dCons (dC (.int (9))) dNil)))))) (dTest (dOp notInD (dVar 3) (dTup (dCons (dC (.int 0)) (dCons (dC (.int 1)) dNil)))))) (sRet (dC (.bl false))) sNext) (sRet (dAndV (dOp eqD (dCal lenD (dCons (dVar 4) dNil)) (dVar 0)) (dCal allD (dCons (dLc (dSeq (dVar 4)) (nNm 5) dYes (dCall sp_between [] (dCons (dVar 5) (dCons (dC (.int 0)) (dCons (dC (.int (9))) dNil)))) [5]) dNil)))))
def r_is_way : SD :=
  (sSeq (sUnp (dVar 1) (nTup 3 (nCons (nNm 2) (nCons (nNm 3) (nCons (nNm 4) nNil))))) r_is_way_t0)
theorem k_is_way : Keeps N_is_way P_is_way r_is_way sp_is_way := by
  rintro ds μ Q E ⟨stuffs, x, rfl, hz, h⟩
  refine ⟨rfl, ?_⟩
  rw [show startD N_is_way [D.int stuffs, wayD x] = [some (.int stuffs), some (.tup [.int x.long, .int x.rests, .tup (x.needs.map .int)]), none, none, none, none] from rfl]
  unfold r_is_way
  unfold wayB at h
  walk_at "y"
  refine ⟨_, _, _, rfl, ?_⟩
  walk_at "y"
  refine if_both (fun e => ?_) (fun e => ?_)
  · have e : betw x.long 1 9 = false := by simpa using e
    rw [e] at h
    walk_at "y"
    exact ⟨_, Sub.refl, h⟩
  have e : betw x.long 1 9 = true := by simpa using e
  rw [e, Bool.true_and] at h
  walk_at "y"
  refine s_notInI (ns := [0, 1]) rfl ?_
  walk_at "y"
  refine ifN (fun e => ?_) (fun e => ?_)
  · rw [decide_eq_false e] at h
    walk_at "y"
    exact ⟨_, Sub.refl, h⟩
  rw [decide_eq_true e, Bool.true_and] at h
  walk_at "y"
  rw [List.length_map]
  refine ifD (fun e => ?_) (fun e => ?_)
  · rw [decide_eq_true e, Bool.true_and] at h
    walk_at "y"
    refine ⟨by rw [List.length_map]; exact hz, ?_⟩
    refine lc_mapT .int x.needs (fun z => .bl (betw z 0 9)) trivial (fun z _ M hM => ?_) ?_
    · walk_at "y"
      exact ⟨z, 0, 9, rfl, hM⟩
    walk_at "y"
    refine s_all ?_
    exact ⟨_, Sub.refl, h⟩
  · rw [decide_eq_false e, Bool.false_and] at h
    walk_at "y"
    exact ⟨_, Sub.refl, h⟩
def workB (days stuffs : Int) (x : Work) : Bool := (decide (0 ≤ x.low) && (decide (x.low < x.high) && decide (x.high ≤ days))) && (betw (x.ways.length : Int) 1 3 && x.ways.all fun z => wayB stuffs z)
def sp_is_work : DSp := fun ds μ Q _ => ∃ days stuffs x, ds = [.int days, .int stuffs, workD x] ∧ x.ways.length ≤ sizeLine ∧ (∀ z ∈ x.ways, z.needs.length ≤ sizeLine) ∧ Q (.bl (workB days stuffs x)) μ
abbrev r_is_work_t0 : SD := (sSeq (sIf (dOr (dNot (dCh3 leD ltD leD (dC (.int 0)) (dVar 3) (dVar 4) (dVar 0))) (dNot (dTru (dCall sp_between [] (dCons (dCal lenD (dCons (dVar 5) dNil)) (dCons (dC (.int 1)) (dCons (dC (.int (3))) dNil))))))) (sRet (dC (.bl false))) sNext) (sRet (dCal allD (dCons (dLc (dSeq (dVar 5)) (nNm 6) dYes (dCall sp_is_way [] (dCons (dVar 1) (dCons (dVar 6) dNil))) [6]) dNil))))
def r_is_work : SD :=
  (sSeq (sUnp (dVar 2) (nTup 3 (nCons (nNm 3) (nCons (nNm 4) (nCons (nNm 5) nNil))))) r_is_work_t0)
theorem k_is_work : Keeps N_is_work P_is_work r_is_work sp_is_work := by
  rintro ds μ Q E ⟨days, stuffs, x, rfl, hz, hn, h⟩
  refine ⟨rfl, ?_⟩
  rw [show startD N_is_work [D.int days, .int stuffs, workD x] = [some (.int days), some (.int stuffs), some (.tup [.int x.low, .int x.high, .tup (x.ways.map wayD)]), none, none, none, none] from rfl]
  unfold r_is_work
  unfold workB at h
  walk_at "y"
  have no : (0 ≤ x.low ∧ x.low < x.high ∧ x.high ≤ days → False) → Q (.bl false) μ := fun e => by
    have e : (decide (0 ≤ x.low) && (decide (x.low < x.high) && decide (x.high ≤ days))) = false := by
      rw [← Bool.decide_and, ← Bool.decide_and]; exact decide_eq_false e
    rw [e] at h
    exact h
  refine ifD (fun e1 => ?_) (fun e1 => ?_)
  · walk_at "y"
    refine ifD (fun e2 => ?_) (fun e2 => ?_)
    · walk_at "y"
      refine ifN (fun e3 => ?_) (fun e3 => ?_)
      · walk_at "y"
        exact ⟨_, Sub.refl, no fun z => e3 z.2.2⟩
      · rw [decide_eq_true e1, decide_eq_true e2, decide_eq_true e3] at h
        walk_at "y"
        refine ⟨_, _, _, rfl, ?_⟩
        walk_at "y"
        rw [List.length_map]
        refine if_both (fun e => ?_) (fun e => ?_)
        · have e : betw (x.ways.length : Int) 1 3 = false := by simpa using e
          rw [e] at h
          walk_at "y"
          exact ⟨_, Sub.refl, h⟩
        have e : betw (x.ways.length : Int) 1 3 = true := by simpa using e
        rw [e, Bool.true_and, Bool.true_and, Bool.true_and] at h
        walk_at "y"
        refine ⟨by rw [List.length_map]; exact hz, ?_⟩
        refine lc_mapT wayD x.ways (fun z => .bl (wayB stuffs z)) trivial (fun z hz M hM => ?_) ?_
        · walk_at "y"
          exact ⟨_, z, rfl, hn z hz, hM⟩
        walk_at "y"
        refine s_all ?_
        exact ⟨_, Sub.refl, h⟩
    · walk_at "y"
      exact ⟨_, Sub.refl, no fun z => e2 z.2.1⟩
  · walk_at "y"
    exact ⟨_, Sub.refl, no fun z => e1 z.1⟩
def tieB (works : Int) (x : Tie) : Bool := decide (x.kind ∈ [0, 1]) && ((decide (0 ≤ x.one) && decide (x.one < works)) && ((decide (0 ≤ x.other) && decide (x.other < works)) && (!decide (x.one = x.other) && betw x.gap (-20) 20)))
def sp_is_tie : DSp := fun ds μ Q _ => ∃ works x, ds = [.int works, tieD x] ∧ Q (.bl (tieB works x)) μ
abbrev r_is_tie_t0 : SD := (sSeq (sIf (dOr (dTest (dOp notInD (dVar 2) (dTup (dCons (dC (.int (0))) (dCons (dC (.int (1))) dNil))))) (dOr (dNot (dTest (dChain leD ltD (dC (.int 0)) (dVar 3) (dVar 0)))) (dNot (dTest (dChain leD ltD (dC (.int 0)) (dVar 4) (dVar 0)))))) (sRet (dC (.bl false))) sNext) (sRet (dAndV (dOp neD (dVar 3) (dVar 4)) (dCall sp_between [] (dCons (dVar 5) (dCons (dUn negD (dC (.int (20)))) (dCons (dC (.int (20))) dNil)))))))
def r_is_tie : SD :=
  (sSeq (sUnp (dVar 1) (nTup 4 (nCons (nNm 2) (nCons (nNm 3) (nCons (nNm 4) (nCons (nNm 5) nNil)))))) r_is_tie_t0)
theorem k_is_tie : Keeps N_is_tie P_is_tie r_is_tie sp_is_tie := by
  rintro ds μ Q E ⟨works, x, rfl, h⟩
  refine ⟨rfl, ?_⟩
  rw [show startD N_is_tie [D.int works, tieD x] = [some (.int works), some (.tup [.int x.kind, .int x.one, .int x.other, .int x.gap]), none, none, none, none] from rfl]
  unfold r_is_tie
  unfold tieB at h
  walk_at "y"
  refine s_notInI (ns := [0, 1]) rfl ?_
  walk_at "y"
  refine ifN (fun e => ?_) (fun e => ?_)
  · rw [decide_eq_false e] at h
    walk_at "y"
    exact ⟨_, Sub.refl, h⟩
  rw [decide_eq_true e, Bool.true_and] at h
  walk_at "y"
  refine ifD (fun e1 => ?_) (fun e1 => ?_)
  · walk_at "y"
    refine ifN (fun e2 => ?_) (fun e2 => ?_)
    · rw [decide_eq_false e2, Bool.and_false] at h
      walk_at "y"
      exact ⟨_, Sub.refl, h⟩
    rw [decide_eq_true e1, decide_eq_true e2, Bool.true_and, Bool.true_and] at h
    walk_at "y"
    refine ifD (fun e3 => ?_) (fun e3 => ?_)
    · walk_at "y"
      refine ifN (fun e4 => ?_) (fun e4 => ?_)
      · rw [decide_eq_false e4, Bool.and_false] at h
        walk_at "y"
        exact ⟨_, Sub.refl, h⟩
      rw [decide_eq_true e3, decide_eq_true e4, Bool.true_and, Bool.true_and] at h
      walk_at "y"
      refine ifN (fun e5 => ?_) (fun e5 => ?_)
      · rw [decide_eq_false e5] at h
        walk_at "y"
        refine ⟨_, _, _, rfl, ?_⟩
        exact ⟨_, Sub.refl, h⟩
      · rw [decide_eq_true e5] at h
        walk_at "y"
        exact ⟨_, Sub.refl, h⟩
    · rw [decide_eq_false e3] at h
      walk_at "y"
      exact ⟨_, Sub.refl, by simpa using h⟩
  · rw [decide_eq_false e1] at h
    walk_at "y"
    exact ⟨_, Sub.refl, h⟩
/-- the first that is beyond the count or fails -/
def firstW {α : Type} (most : Nat) (ok : α → Bool) : Nat → List α → Option Nat
  | _, [] => none
  | i, x :: r => if i < most ∧ ok x = true then firstW most ok (i + 1) r else some i
def wrongOf (y : Yard) : Option (Str × Nat) :=
  if betw y.days 1 20 = true then
    match shutW y.days (-1) 0 y.shut with
    | some i => some ("shut", i)
    | none => match firstW 3 (stuffB y.days) 0 y.stuffs with
      | some i => some ("stuffs", i)
      | none => match firstW 6 (workB y.days (y.stuffs.length : Int)) 0 y.works with
        | some i => some ("works", i)
        | none => match firstW 12 (tieB (y.works.length : Int)) 0 y.ties with
          | some i => some ("ties", i)
          | none => none
  else some ("days", 0)
def wrongD : Option (Str × Nat) → D
  | none => .non
  | some (s, i) => .tup [.str s, .int (i : Nat)]
def sp_first_wrong : DSp := fun ds μ Q _ => ∃ y, ds = [yardD y] ∧ Small y ∧ Q (wrongD (wrongOf y)) μ
abbrev r_first_wrong_t0 : SD := (sSeq (sFor (dEnum (dVar 5)) (nTup 2 (nCons (nNm 6) (nCons (nNm 9) nNil))) (sIf (dOr (dTest (dOp geD (dVar 6) (dC (.int (12))))) (dNot (dTru (dCall sp_is_tie [] (dCons (dCal lenD (dCons (dVar 4) dNil)) (dCons (dVar 9) dNil)))))) (sRet (dTup (dCons (dC (.str "ties")) (dCons (dVar 6) dNil)))) sNext)) (sRet (dC .non)))
abbrev r_first_wrong_t1 : SD := (sSeq (sFor (dEnum (dVar 4)) (nTup 2 (nCons (nNm 6) (nCons (nNm 8) nNil))) (sIf (dOr (dTest (dOp geD (dVar 6) (dC (.int (6))))) (dNot (dTru (dCall sp_is_work [] (dCons (dVar 1) (dCons (dCal lenD (dCons (dVar 3) dNil)) (dCons (dVar 8) dNil))))))) (sRet (dTup (dCons (dC (.str "works")) (dCons (dVar 6) dNil)))) sNext)) r_first_wrong_t0)
abbrev r_first_wrong_t2 : SD := (sSeq (sFor (dEnum (dVar 3)) (nTup 2 (nCons (nNm 6) (nCons (nNm 7) nNil))) (sIf (dOr (dTest (dOp geD (dVar 6) (dC (.int (3))))) (dNot (dTru (dCall sp_is_stuff [] (dCons (dVar 1) (dCons (dVar 7) dNil)))))) (sRet (dTup (dCons (dC (.str "stuffs")) (dCons (dVar 6) dNil)))) sNext)) r_first_wrong_t1)
abbrev r_first_wrong_t3 : SD := (sSeq (sIf (dTest (dOp notND (dVar 6) (dC .non))) (sRet (dTup (dCons (dC (.str "shut")) (dCons (dVar 6) dNil)))) sNext) r_first_wrong_t2)
abbrev r_first_wrong_t4 : SD := (sSeq (sSet 6 (dCall sp_shut_wrong [] (dCons (dVar 1) (dCons (dVar 2) dNil)))) r_first_wrong_t3)
abbrev r_first_wrong_t5 : SD := (sSeq (sIf (dNot (dTru (dCall sp_between [] (dCons (dVar 1) (dCons (dC (.int 1)) (dCons (dC (.int (20))) dNil)))))) (sRet (dTup (dCons (dC (.str "days")) (dCons (dC (.int 0)) dNil)))) sNext) r_first_wrong_t4)
def r_first_wrong : SD :=
  (sSeq (sUnp (dVar 0) (nTup 5 (nCons (nNm 1) (nCons (nNm 2) (nCons (nNm 3) (nCons (nNm 4) (nCons (nNm 5) nNil))))))) r_first_wrong_t5)
theorem k_first_wrong : Keeps N_first_wrong P_first_wrong r_first_wrong sp_first_wrong := by
  rintro ds μ Q E ⟨y, rfl, hs, h⟩
  refine ⟨rfl, ?_⟩
  rw [show startD N_first_wrong [yardD y] = [some (.tup [.int y.days, intsT y.shut, .tup (y.stuffs.map intsT), .tup (y.works.map workD), .tup (y.ties.map tieD)]), none, none, none, none, none, none, none, none, none] from rfl]
  unfold r_first_wrong
  unfold wrongOf at h
  walk_at "y"
  refine ⟨_, _, _, rfl, ?_⟩
  walk_at "y"
  refine if_both (fun e => ?_) (fun e => ?_)
  · have e : betw y.days 1 20 = false := by simpa using e
    rw [e] at h
    walk_at "y"
    exact ⟨_, Sub.refl, h⟩
  have e : betw y.days 1 20 = true := by simpa using e
  rw [if_pos e] at h
  walk_at "y"
  refine ⟨_, _, rfl, ?_⟩
  walk_at "y"
  cases ew : shutW y.days (-1) 0 y.shut with
  | some i =>
    rw [ew] at h
    walk_at "y"
    exact ⟨_, Sub.refl, h⟩
  | none =>
  rw [ew] at h
  walk_at "y"
  refine for_ind (fun r ρ μ' => μ = μ' ∧ ∃ (i : Nat) (l : List _) (a6 a7 a8 a9 : Option D), r = enumD i (l.map intsT) ∧ (∀ x ∈ l, x ∈ y.stuffs) ∧ ρ = [some (yardD y), some (.int y.days), some (intsT y.shut), some (.tup (y.stuffs.map intsT)), some (.tup (y.works.map workD)), some (.tup (y.ties.map tieD)), a6, a7, a8, a9] ∧ firstW 3 (stuffB y.days) i l = firstW 3 (stuffB y.days) 0 y.stuffs) (fun _ _ _ _ => trivial) ?_ ?_ _ _ _ ⟨rfl, 0, y.stuffs, _, _, _, _, rfl, fun _ z => z, rfl, rfl⟩
  · rintro d r ρ μ' N hN ⟨rfl, i, l, a6, a7, a8, a9, e, hm, rfl, hw⟩
    cases l with
    | nil => cases e
    | cons x l =>
      cases e
      walk_at "y"
      refine ifD (fun e1 => ?_) (fun e1 => ?_)
      · have e2 : firstW 3 (stuffB y.days) 0 y.stuffs = some i := by
          rw [← hw, firstW, if_neg]
          intro z
          omega
        rw [e2] at h
        walk_at "y"
        exact ⟨_, Sub.refl, h⟩
      walk_at "y"
      refine ⟨_, x, rfl, hs.rows x (hm x (by simp)), ?_⟩
      walk_at "y"
      refine if_both (fun e3 => ?_) (fun e3 => ?_)
      · have e3 : stuffB y.days x = false := by simpa using e3
        have e2 : firstW 3 (stuffB y.days) 0 y.stuffs = some i := by
          rw [← hw, firstW, if_neg]
          intro z
          rw [e3] at z
          cases z.2
        rw [e2] at h
        walk_at "y"
        exact ⟨_, Sub.refl, h⟩
      · have e3 : stuffB y.days x = true := by simpa using e3
        walk_at "y"
        refine hN _ _ ⟨rfl, i + 1, l, _, _, _, _, rfl, fun z hz => hm z (by simp [hz]), rfl, ?_⟩
        rw [← hw, firstW, if_pos ⟨by omega, e3⟩]
  rintro ρ μ' ⟨rfl, i, l, a6, a7, a8, a9, e, _, rfl, hw⟩
  have e0 : firstW 3 (stuffB y.days) 0 y.stuffs = none := by
    cases l with
    | nil => exact hw.symm
    | cons x l => cases e
  rw [e0] at h
  clear hw e e0
  walk_at "y"
  refine for_ind (fun r ρ μ' => μ = μ' ∧ ∃ (i : Nat) (l : List _) (a6 a7 a8 a9 : Option D), r = enumD i (l.map workD) ∧ (∀ x ∈ l, x ∈ y.works) ∧ ρ = [some (yardD y), some (.int y.days), some (intsT y.shut), some (.tup (y.stuffs.map intsT)), some (.tup (y.works.map workD)), some (.tup (y.ties.map tieD)), a6, a7, a8, a9] ∧ firstW 6 (workB y.days (y.stuffs.length : Int)) i l = firstW 6 (workB y.days (y.stuffs.length : Int)) 0 y.works) (fun _ _ _ _ => trivial) ?_ ?_ _ _ _ ⟨rfl, 0, y.works, _, _, _, _, rfl, fun _ z => z, rfl, rfl⟩
  · rintro d r ρ μ' N hN ⟨rfl, i, l, a6, a7, a8, a9, e, hm, rfl, hw⟩
    cases l with
    | nil => cases e
    | cons x l =>
      cases e
      walk_at "y"
      refine ifD (fun e1 => ?_) (fun e1 => ?_)
      · have e2 : firstW 6 (workB y.days (y.stuffs.length : Int)) 0 y.works = some i := by
          rw [← hw, firstW, if_neg]
          intro z
          omega
        rw [e2] at h
        walk_at "y"
        exact ⟨_, Sub.refl, h⟩
      walk_at "y"
      rw [List.length_map]
      refine ⟨_, _, x, rfl, hs.ways x (hm x (by simp)), hs.needs x (hm x (by simp)), ?_⟩
      walk_at "y"
      refine if_both (fun e3 => ?_) (fun e3 => ?_)
      · have e3 : workB y.days (y.stuffs.length : Int) x = false := by simpa using e3
        have e2 : firstW 6 (workB y.days (y.stuffs.length : Int)) 0 y.works = some i := by
          rw [← hw, firstW, if_neg]
          intro z
          rw [e3] at z
          cases z.2
        rw [e2] at h
        walk_at "y"
        exact ⟨_, Sub.refl, h⟩
      · have e3 : workB y.days (y.stuffs.length : Int) x = true := by simpa using e3
        walk_at "y"
        refine hN _ _ ⟨rfl, i + 1, l, _, _, _, _, rfl, fun z hz => hm z (by simp [hz]), rfl, ?_⟩
        rw [← hw, firstW, if_pos ⟨by omega, e3⟩]
  rintro ρ μ' ⟨rfl, i, l, a6, a7, a8, a9, e, _, rfl, hw⟩
  have e0 : firstW 6 (workB y.days (y.stuffs.length : Int)) 0 y.works = none := by
    cases l with
    | nil => exact hw.symm
    | cons x l => cases e
  rw [e0] at h
  clear hw e e0
  walk_at "y"
  refine for_ind (fun r ρ μ' => μ = μ' ∧ ∃ (i : Nat) (l : List _) (a6 a7 a8 a9 : Option D), r = enumD i (l.map tieD) ∧ (∀ x ∈ l, x ∈ y.ties) ∧ ρ = [some (yardD y), some (.int y.days), some (intsT y.shut), some (.tup (y.stuffs.map intsT)), some (.tup (y.works.map workD)), some (.tup (y.ties.map tieD)), a6, a7, a8, a9] ∧ firstW 12 (tieB (y.works.length : Int)) i l = firstW 12 (tieB (y.works.length : Int)) 0 y.ties) (fun _ _ _ _ => trivial) ?_ ?_ _ _ _ ⟨rfl, 0, y.ties, _, _, _, _, rfl, fun _ z => z, rfl, rfl⟩
  · rintro d r ρ μ' N hN ⟨rfl, i, l, a6, a7, a8, a9, e, hm, rfl, hw⟩
    cases l with
    | nil => cases e
    | cons x l =>
      cases e
      walk_at "y"
      refine ifD (fun e1 => ?_) (fun e1 => ?_)
      · have e2 : firstW 12 (tieB (y.works.length : Int)) 0 y.ties = some i := by
          rw [← hw, firstW, if_neg]
          intro z
          omega
        rw [e2] at h
        walk_at "y"
        exact ⟨_, Sub.refl, h⟩
      walk_at "y"
      rw [List.length_map]
      refine ⟨_, x, rfl, ?_⟩
      walk_at "y"
      refine if_both (fun e3 => ?_) (fun e3 => ?_)
      · have e3 : tieB (y.works.length : Int) x = false := by simpa using e3
        have e2 : firstW 12 (tieB (y.works.length : Int)) 0 y.ties = some i := by
          rw [← hw, firstW, if_neg]
          intro z
          rw [e3] at z
          cases z.2
        rw [e2] at h
        walk_at "y"
        exact ⟨_, Sub.refl, h⟩
      · have e3 : tieB (y.works.length : Int) x = true := by simpa using e3
        walk_at "y"
        refine hN _ _ ⟨rfl, i + 1, l, _, _, _, _, rfl, fun z hz => hm z (by simp [hz]), rfl, ?_⟩
        rw [← hw, firstW, if_pos ⟨by omega, e3⟩]
  rintro ρ μ' ⟨rfl, i, l, a6, a7, a8, a9, e, _, rfl, hw⟩
  have e0 : firstW 12 (tieB (y.works.length : Int)) 0 y.ties = none := by
    cases l with
    | nil => exact hw.symm
    | cons x l => cases e
  rw [e0] at h
  clear hw e e0
  walk_at "y"
  exact ⟨_, Sub.refl, h⟩
def sp_need_yard : DSp := fun ds μ Q _ => ∃ y, ds = [yardD y] ∧ Small y ∧ wrongOf y = none ∧ Q .non μ
abbrev N_need_yard : List Str := ["yard", "wrong"]
abbrev P_need_yard : List Str := ["yard"]
def r_need_yard : SD :=
  (sSeq (sSet 1 (dCall sp_first_wrong [] (dCons (dVar 0) dNil)))
  (sIf (dTest (dOp notND (dVar 1) (dC .non))) sNo sNext))
theorem k_need_yard : Keeps N_need_yard P_need_yard r_need_yard sp_need_yard := by
  rintro ds μ Q E ⟨y, rfl, hs, hw, h⟩
  refine ⟨rfl, ?_⟩
  rw [show startD N_need_yard [yardD y] = [some (yardD y), none] from rfl]
  unfold r_need_yard
  walk_at "y"
  refine ⟨y, rfl, hs, ?_⟩
  rw [hw]
  walk_at "y"
  exact ⟨_, Sub.refl, h⟩
end Z
namespace Z
open PySem PySem.Spec PyProof.Rows L2 Y
local macro_rules | `(tactic| walk_at "y0") => `(tactic| first | with_reducible refine Step.go ?_ | ((with_reducible refine' s_var (s_opq ?h1 ?_)); (case h1 => rfl)) | ((with_reducible refine IxG.go ?_); first | ((with_reducible refine' s_ixP ?h1 ?h2 ?_); (case h1 => first | exact mset_same | (with_reducible assumption)); (case h2 => first | rfl | (with_reducible assumption))) | ((with_reducible refine' s_ixT ?h2 ?_); (case h2 => first | rfl | (with_reducible assumption))) | ((with_reducible refine' s_ixL ?h2 ?_); (case h2 => first | rfl | (with_reducible assumption)))) | ((with_reducible refine LenG.go ?_); ((with_reducible refine' s_lenP ?h1 ?_); (case h1 => first | exact mset_same | (with_reducible assumption)))) | ((with_reducible refine SeqG.go ?_); first | ((with_reducible refine' s_seqP ?h1 ?_); (case h1 => first | exact mset_same | (with_reducible assumption))) | ((with_reducible refine' s_cell ?h1 ?_); (case h1 => first | exact mset_same | (with_reducible assumption)))) | ((with_reducible refine ArG.go ?_); first | ((with_reducible refine' s_mulR ?h1 ?_); (case h1 => omega)) | ((with_reducible refine' s_mulL ?h1 ?_); (case h1 => omega)) | ((with_reducible refine' s_mod ?h1 ?_); (case h1 => omega)) | ((with_reducible refine' s_fdiv ?h1 ?h2 ?_); (case h1 => omega); (case h2 => omega)) | ((with_reducible refine' s_pow ?h1 ?_); (case h1 => decide))) | ((with_reducible refine AndG.go ?_); first | ((with_reducible refine' s_len ?h1 ?_); (case h1 => rfl)) | ((with_reducible refine' s_lenE ?h1 ?_); (case h1 => rfl))) | ((with_reducible refine IsiG.go ?_); first | ((with_reducible refine' s_isi (b := true) ?h1 ?h2 ?h3 ?_); (case h1 => first | rfl | (with_reducible exact ty_ptr mset_same) | (with_reducible exact ty_ptr (by assumption))); (case h2 => first | exact isi_int rfl | exact isi_bool rfl | exact isi_str rfl | exact isi_tuple rfl | exact isi_list rfl | exact isi_int (ty_ptr (by assumption)) | exact isi_bool (ty_ptr (by assumption)) | exact isi_str (ty_ptr (by assumption)) | exact isi_tuple (ty_ptr (by assumption)) | exact isi_list (ty_ptr (by assumption))); (case h3 => rfl)) | ((with_reducible refine' s_isi (b := false) ?h1 ?h2 ?h3 ?_); (case h1 => first | rfl | (with_reducible exact ty_ptr mset_same) | (with_reducible exact ty_ptr (by assumption))); (case h2 => first | exact isi_int rfl | exact isi_bool rfl | exact isi_str rfl | exact isi_tuple rfl | exact isi_list rfl | exact isi_int (ty_ptr (by assumption)) | exact isi_bool (ty_ptr (by assumption)) | exact isi_str (ty_ptr (by assumption)) | exact isi_tuple (ty_ptr (by assumption)) | exact isi_list (ty_ptr (by assumption))); (case h3 => rfl))) | ((with_reducible refine IfG.go ?_); first | ((with_reducible refine' s_nonF ?h1 ?_); (case h1 => rfl)) | ((with_reducible refine' s_nonT ?h1 ?_); (case h1 => rfl)) | ((with_reducible refine' s_notNonF ?h1 ?_); (case h1 => rfl)) | ((with_reducible refine' s_notNonT ?h1 ?_); (case h1 => rfl))) | ((with_reducible refine NatG.go ?_); ((with_reducible refine' s_ixN ?h1 ?_); (case h1 => first | rfl | (with_reducible assumption)))))
local macro_rules | `(tactic| walk_at "y1") => `(tactic| first | walk_at "y0" | dsimp only)
local macro_rules | `(tactic| walk_at "y") => `(tactic| repeat walk_at "y1")
def wkB (rests : Int) (shut : List Int) (d : Int) : Bool := decide (rests = 0) || !decide (d ∈ shut)
def daysL (days : Int) (shut : List Int) (z : Way) (b : Int) : Option (List Int) :=
  if z.rests ≠ 0 ∧ b ∈ shut then none
  else if ((((iota b (days - b).toNat).filter (wkB z.rests shut)).take z.long.toNat).length : Int) = z.long then some (((iota b (days - b).toNat).filter (wkB z.rests shut)).take z.long.toNat) else none
def optL : Option (List Int) → D
  | none => .non
  | some l => .lst (l.map .int)
/-- the way at these numbers -/
def wayAt (y : Yard) (i j : Int) (z : Way) : Prop := 0 ≤ i ∧ 0 ≤ j ∧ ∃ x, y.works[i.toNat]? = some x ∧ x.ways[j.toNat]? = some z
def near (b : Int) : Prop := -1000000 ≤ b ∧ b ≤ 1000000
def sp_days_of : DSp := fun ds μ Q _ => ∃ y i j b z, ds = [yardD y, .int i, .int j, .int b] ∧ wayAt y i j z ∧ 0 ≤ z.long ∧ near b ∧ near y.days ∧ Q (optL (daysL y.days y.shut z b)) μ
abbrev r_days_of_t0 : SD := (sSeq (sSet 9 (dSl (dLc (dRange2 (dVar 3) (dVar 4)) (nNm 10) (dOr (dNot (dTru (dVar 7))) (dTest (dOp notInD (dVar 10) (dVar 5)))) (dVar 10) [10]) dNoP (dPart (dVar 6)))) (sRet (dIf (dTest (dOp eqD (dCal lenD (dCons (dVar 9) dNil)) (dVar 6))) (dVar 9) (dC .non))))
abbrev r_days_of_t1 : SD := (sSeq (sIf (dAnd (dTru (dVar 7)) (dTest (dOp inD (dVar 3) (dVar 5)))) (sRet (dC .non)) sNext) r_days_of_t0)
abbrev r_days_of_t2 : SD := (sSeq (sUnp (dOp ixD (dOp ixD (dOp ixD (dOp ixD (dVar 0) (dC (.int 3))) (dVar 1)) (dC (.int 2))) (dVar 2)) (nTup 3 (nCons (nNm 6) (nCons (nNm 7) (nCons (nNm 8) nNil))))) r_days_of_t1)
def r_days_of : SD :=
  (sSeq (sUnp (dTup (dCons (dOp ixD (dVar 0) (dC (.int 0))) (dCons (dOp ixD (dVar 0) (dC (.int 1))) dNil))) (nTup 2 (nCons (nNm 4) (nCons (nNm 5) nNil)))) r_days_of_t2)
def rest_days_of : SD :=
  (sSeq (sSet 9 (dSl (dLc (dRange2 (dVar 3) (dVar 4)) (nNm 10) (dOr (dNot (dTru (dVar 7))) (dTest (dOp notInD (dVar 10) (dVar 5)))) (dVar 10) [10]) dNoP (dPart (dVar 6))))
  (sRet (dIf (dTest (dOp eqD (dCal lenD (dCons (dVar 9) dNil)) (dVar 6))) (dVar 9) (dC .non))))
theorem rest_days_of_eq : r_days_of =
  (sSeq (sUnp (dTup (dCons (dOp ixD (dVar 0) (dC (.int 0))) (dCons (dOp ixD (dVar 0) (dC (.int 1))) dNil))) (nTup 2 (nCons (nNm 4) (nCons (nNm 5) nNil))))
  (sSeq (sUnp (dOp ixD (dOp ixD (dOp ixD (dOp ixD (dVar 0) (dC (.int 3))) (dVar 1)) (dC (.int 2))) (dVar 2)) (nTup 3 (nCons (nNm 6) (nCons (nNm 7) (nCons (nNm 8) nNil)))))
  (sSeq (sIf (dAnd (dTru (dVar 7)) (dTest (dOp inD (dVar 3) (dVar 5)))) (sRet (dC .non)) sNext)
  rest_days_of))) := rfl
theorem near_b62 {b : Int} (h : near b) : b62 b = true := by
  unfold near at h
  unfold b62
  rw [decide_eq_true (by omega), decide_eq_true (by omega)]
  rfl
theorem get_map {α : Type} {enc : α → D} {xs : List α} {i : Nat} {x : α} (h : xs[i]? = some x) : (xs.map enc)[i]? = some (enc x) := by
  rw [List.getElem?_map, h]; rfl
set_option maxHeartbeats 1000000 in
theorem k_days_of : Keeps N_days_of P_days_of r_days_of sp_days_of := by
  rintro ds μ Q E ⟨y, i, j, b, z, rfl, ⟨hi, hj, x, hx, hz⟩, hl, nb, nd, h⟩
  refine ⟨rfl, ?_⟩
  rw [show startD N_days_of [yardD y, D.int i, .int j, .int b] = [some (.tup [.int y.days, intsT y.shut, .tup (y.stuffs.map intsT), .tup (y.works.map workD), .tup (y.ties.map tieD)]), some (.int i), some (.int j), some (.int b), none, none, none, none, none, none, none] from rfl]
  rw [rest_days_of_eq]
  unfold daysL at h
  walk_at "y"
  refine s_ixA rfl hi (get_map hx) ?_
  walk_at "y"
  refine s_ixA (d := workD x) rfl (by decide) (x := .tup (x.ways.map wayD)) rfl ?_
  walk_at "y"
  refine s_ixA rfl hj (get_map hz) ?_
  show (nTup 3 _) (.tup [.int z.long, .int z.rests, intsT z.needs]) _ _ _
  walk_at "y"
  have go : ¬ (z.rests ≠ 0 ∧ b ∈ y.shut) → rest_days_of (bodyEnds Q E) [some (.tup [.int y.days, intsT y.shut, .tup (y.stuffs.map intsT), .tup (y.works.map workD), .tup (y.ties.map tieD)]), some (.int i), some (.int j), some (.int b), some (.int y.days), some (.tup (y.shut.map .int)), some (.int z.long), some (.int z.rests), some (intsT z.needs), none, none] μ := fun e => by
    rw [if_neg e] at h
    unfold rest_days_of
    walk_at "y"
    refine ⟨by rw [near_b62 nb, near_b62 nd]; rfl, ?_⟩
    refine ⟨by rw [range_len, sizeLine_eq]; unfold near at nb nd; omega, ?_⟩
    rw [range_ints]
    refine lc_filtT .int _ (wkB z.rests y.shut) .int trivial (fun d _ M N h1 h2 => ?_) ?_
    · unfold wkB at h1 h2
      walk_at "y"
      refine if_both (fun e1 => ?_) (fun e1 => ?_)
      · have e1 : z.rests = 0 := by simpa using e1
        rw [decide_eq_true e1] at h1
        walk_at "y"
        exact h1 rfl
      · have e1 : ¬ z.rests = 0 := by simpa using e1
        rw [decide_eq_false e1, Bool.false_or] at h1 h2
        walk_at "y"
        refine s_notInI rfl ?_
        walk_at "y"
        refine if_both (fun e2 => ?_) (fun e2 => ?_)
        · walk_at "y"
          exact h1 e2
        · exact h2 e2
    · walk_at "y"
      refine s_opq (z := .lst ((((iota b (y.days - b).toNat).filter (wkB z.rests y.shut)).take z.long.toNat).map .int)) ?_ ?_
      · show some (D.lst (Y.cutD _ none (some z.long))) = _
        rw [cut_to _ hl, List.map_take]
      walk_at "y"
      rw [List.length_map]
      refine ifD (fun e2 => ?_) (fun e2 => ?_)
      · rw [if_pos e2] at h
        walk_at "y"
        exact ⟨_, Sub.refl, h⟩
      · rw [if_neg e2] at h
        walk_at "y"
        exact ⟨_, Sub.refl, h⟩
  refine if_both (fun e => ?_) (fun e => ?_)
  · have e : z.rests ≠ 0 := by simpa using e
    walk_at "y"
    refine s_inI rfl ?_
    walk_at "y"
    refine ifD (fun e2 => ?_) (fun e2 => ?_)
    · rw [if_pos ⟨e, e2⟩] at h
      walk_at "y"
      exact ⟨_, Sub.refl, h⟩
    · walk_at "y"
      exact go fun q => e2 q.2
  · have e : z.rests = 0 := by simpa using e
    walk_at "y"
    exact go fun q => q.1 e
/-- by the law: a new list, or none -/
def sp_dates_L : DSp := fun ds μ Q _ => ∃ y i j b z, ds = [yardD y, .int i, .int j, .int b] ∧ wayAt y i j z ∧ 0 ≤ z.long ∧ z.long ≤ 1000 ∧ (z.rests = 0 ∨ z.rests = 1) ∧
  match daysL y.days y.shut z b with
  | none => Q .non μ
  | some l => ∀ m, μ m = none → Q (.ptr m) (mset μ m (.lst (l.map .int)))
abbrev r_dates_L_t0 : SD := (sSeq (sIf (dOr (dTest (dOp eqD (dVar 5) (dC (.int 0)))) (dTest (dOp notInD (dVar 8) (dOp ixD (dVar 0) (dC (.int 1)))))) (sDrop (dAppend (dVar 7) (dCons (dVar 8) dNil))) sNext) (sSet 8 (dOp addD (dVar 8) (dC (.int 1)))))
abbrev r_dates_L_t1 : SD := (sSeq (sWhile (dAnd (dTest (dOp ltD (dVar 8) (dOp ixD (dVar 0) (dC (.int 0))))) (dTest (dOp ltD (dCal lenD (dCons (dVar 7) dNil)) (dVar 4)))) r_dates_L_t0) (sRet (dIf (dTest (dOp eqD (dCal lenD (dCons (dVar 7) dNil)) (dVar 4))) (dVar 7) (dC .non))))
abbrev r_dates_L_t2 : SD := (sSeq (sSet 8 (dVar 3)) r_dates_L_t1)
abbrev r_dates_L_t3 : SD := (sSeq (sSet 7 (dNew dNil)) r_dates_L_t2)
abbrev r_dates_L_t4 : SD := (sSeq (sIf (dAnd (dTest (dOp eqD (dVar 5) (dC (.int 1)))) (dTest (dOp inD (dVar 3) (dOp ixD (dVar 0) (dC (.int 1)))))) (sRet (dC .non)) sNext) r_dates_L_t3)
def r_dates_L : SD :=
  (sSeq (sUnp (dOp ixD (dOp ixD (dOp ixD (dOp ixD (dVar 0) (dC (.int 3))) (dVar 1)) (dC (.int 2))) (dVar 2)) (nTup 3 (nCons (nNm 4) (nCons (nNm 5) (nCons (nNm 6) nNil))))) r_dates_L_t4)
def rest_dates : SD :=
  (sSeq (sSet 7 (dNew dNil))
  (sSeq (sSet 8 (dVar 3))
  (sSeq (sWhile (dAnd (dTest (dOp ltD (dVar 8) (dOp ixD (dVar 0) (dC (.int 0))))) (dTest (dOp ltD (dCal lenD (dCons (dVar 7) dNil)) (dVar 4)))) (sSeq (sIf (dOr (dTest (dOp eqD (dVar 5) (dC (.int 0)))) (dTest (dOp notInD (dVar 8) (dOp ixD (dVar 0) (dC (.int 1)))))) (sDrop (dAppend (dVar 7) (dCons (dVar 8) dNil))) sNext)
  (sSet 8 (dOp addD (dVar 8) (dC (.int 1))))))
  (sRet (dIf (dTest (dOp eqD (dCal lenD (dCons (dVar 7) dNil)) (dVar 4))) (dVar 7) (dC .non))))))
theorem rest_dates_eq : r_dates_L =
  (sSeq (sUnp (dOp ixD (dOp ixD (dOp ixD (dOp ixD (dVar 0) (dC (.int 3))) (dVar 1)) (dC (.int 2))) (dVar 2)) (nTup 3 (nCons (nNm 4) (nCons (nNm 5) (nCons (nNm 6) nNil)))))
  (sSeq (sIf (dAnd (dTest (dOp eqD (dVar 5) (dC (.int 1)))) (dTest (dOp inD (dVar 3) (dOp ixD (dVar 0) (dC (.int 1)))))) (sRet (dC .non)) sNext)
  rest_dates)) := rfl
theorem iota_step {t days : Int} (h : t < days) : iota t (days - t).toNat = t :: iota (t + 1) (days - (t + 1)).toNat := by
  rw [show (days - t).toNat = (days - (t + 1)).toNat + 1 by omega]
  exact ints_cons
theorem iota_end {t days : Int} (h : ¬ t < days) : iota t (days - t).toNat = [] := by
  rw [show (days - t).toNat = 0 by omega]
  rfl
theorem sub_mset {μ μ' : Mu} {m : Nat} {o : MO} (h : μ m = none) : Sub μ (mset μ m o) := by
  intro n o' e
  have : n ≠ m := fun z => by rw [z, h] at e; cases e
  rw [mset_ne this]; exact e
set_option maxHeartbeats 1000000 in
theorem k_dates_L : Keeps N_dates_L P_dates_L r_dates_L sp_dates_L := by
  rintro ds μ Q E ⟨y, i, j, b, z, rfl, ⟨hi, hj, x, hx, hz⟩, hl, hl2, hr, h⟩
  refine ⟨rfl, ?_⟩
  rw [show startD N_dates_L [yardD y, D.int i, .int j, .int b] = [some (.tup [.int y.days, intsT y.shut, .tup (y.stuffs.map intsT), .tup (y.works.map workD), .tup (y.ties.map tieD)]), some (.int i), some (.int j), some (.int b), none, none, none, none, none] from rfl]
  rw [rest_dates_eq]
  unfold daysL at h
  walk_at "y"
  refine s_ixA rfl hi (get_map hx) ?_
  walk_at "y"
  refine s_ixA (d := workD x) rfl (by decide) (x := .tup (x.ways.map wayD)) rfl ?_
  walk_at "y"
  refine s_ixA rfl hj (get_map hz) ?_
  show (nTup 3 _) (.tup [.int z.long, .int z.rests, intsT z.needs]) _ _ _
  walk_at "y"
  have go : ¬ (z.rests ≠ 0 ∧ b ∈ y.shut) → rest_dates (bodyEnds Q E) [some (.tup [.int y.days, .tup (y.shut.map .int), .tup (y.stuffs.map intsT), .tup (y.works.map workD), .tup (y.ties.map tieD)]), some (.int i), some (.int j), some (.int b), some (.int z.long), some (.int z.rests), some (intsT z.needs), none, none] μ := fun e => by
    rw [if_neg e] at h
    unfold rest_dates
    walk_at "y"
    intro m hm
    walk_at "y"
    generalize hfs : ((iota b (y.days - b).toNat).filter (wkB z.rests y.shut)).take z.long.toNat = fs at h
    refine ⟨fun k ρ' μ' => ∃ (t : Int) (acc : List Int), ρ' = [some (.tup [.int y.days, .tup (y.shut.map .int), .tup (y.stuffs.map intsT), .tup (y.works.map workD), .tup (y.ties.map tieD)]), some (.int i), some (.int j), some (.int b), some (.int z.long), some (.int z.rests), some (intsT z.needs), some (.ptr m), some (.int t)] ∧
      μ' = mset μ m (.lst (acc.map .int)) ∧ k = (y.days - t).toNat ∧ acc ++ ((iota t (y.days - t).toNat).filter (wkB z.rests y.shut)).take (z.long.toNat - acc.length) = fs ∧ acc.length ≤ z.long.toNat, ⟨_, b, [], rfl, rfl, rfl, hfs, Nat.zero_le _⟩, ?_⟩
    rintro k ρ' μ' ⟨t, acc, rfl, rfl, rfl, hf, ha⟩
    have fin : (t < y.days → ¬ acc.length < z.long.toNat) → acc = fs := fun q => by
      by_cases ht : t < y.days
      · rw [show z.long.toNat - acc.length = 0 by have := q ht; omega, List.take_zero, List.append_nil] at hf
        exact hf
      · rw [iota_end ht, List.filter_nil, List.take_nil, List.append_nil] at hf
        exact hf
    have out : acc = fs → sRet (dIf (dTest (dOp eqD (dCal lenD (dCons (dVar 7) dNil)) (dVar 4))) (dVar 7) (dC D.non)) (bodyEnds Q E) [some (.tup [.int y.days, .tup (y.shut.map .int), .tup (y.stuffs.map intsT), .tup (y.works.map workD), .tup (y.ties.map tieD)]), some (.int i), some (.int j), some (.int b), some (.int z.long), some (.int z.rests), some (intsT z.needs), some (.ptr m), some (.int t)] (mset μ m (.lst (acc.map .int))) := fun q => by
      subst q
      walk_at "y"
      rw [List.length_map]
      refine ifD (fun e2 => ?_) (fun e2 => ?_)
      · rw [if_pos e2] at h
        walk_at "y"
        exact ⟨_, Sub.refl, h m hm⟩
      · rw [if_neg e2] at h
        walk_at "y"
        exact ⟨_, sub_mset (μ' := μ) hm, h⟩
    walk_at "y"
    refine ifD (fun e1 => ?_) (fun e1 => ?_)
    · walk_at "y"
      rw [List.length_map]
      refine ifD (fun e2 => ?_) (fun e2 => ?_)
      · have ea : z.long.toNat - acc.length = (z.long.toNat - (acc.length + 1)) + 1 := by omega
        have yes : wkB z.rests y.shut t = true → (acc ++ [t]) ++ ((iota (t + 1) (y.days - (t + 1)).toNat).filter (wkB z.rests y.shut)).take (z.long.toNat - (acc ++ [t]).length) = fs := fun q => by
          rw [← hf, iota_step e1, List.filter_cons_of_pos q, ea, List.take_succ_cons, List.length_append, List.append_assoc]
          rfl
        have no : wkB z.rests y.shut t = false → acc ++ ((iota (t + 1) (y.days - (t + 1)).toNat).filter (wkB z.rests y.shut)).take (z.long.toNat - acc.length) = fs := fun q => by
          rw [← hf, iota_step e1, List.filter_cons_of_neg (by rw [q]; exact Bool.false_ne_true)]
        have la : (acc ++ [t]).length ≤ z.long.toNat := by
          rw [List.length_append]
          show acc.length + 1 ≤ _
          omega
        have fz : fits ((acc.map D.int).length + 1) = true := fits_le.mpr (by rw [List.length_map, sizeLine_eq]; omega)
        have sm : mset (mset μ m (.lst (acc.map .int))) m (.lst (acc.map D.int ++ [.int t])) = mset μ m (.lst ((acc ++ [t]).map .int)) := by
          rw [mset_mset, List.map_append]; rfl
        walk_at "y"
        refine ifD (fun e3 => ?_) (fun e3 => ?_)
        · walk_at "y"
          refine ⟨fz, ?_⟩
          rw [sm]
          walk_at "y"
          exact ⟨_, by omega, t + 1, acc ++ [t], rfl, rfl, rfl, yes (by simp [wkB, e3]), la⟩
        · walk_at "y"
          refine s_notInI rfl ?_
          walk_at "y"
          refine ifN (fun e4 => ?_) (fun e4 => ?_)
          · walk_at "y"
            refine ⟨fz, ?_⟩
            rw [sm]
            walk_at "y"
            exact ⟨_, by omega, t + 1, acc ++ [t], rfl, rfl, rfl, yes (by simp [wkB, e4]), la⟩
          · walk_at "y"
            exact ⟨_, by omega, t + 1, acc, rfl, rfl, rfl, no (by simp [wkB, e3, e4]), ha⟩
      · exact out (fin fun _ => by omega)
    · exact out (fin fun q => absurd q e1)
  refine ifD (fun e => ?_) (fun e => ?_)
  · have e' : z.rests ≠ 0 := by omega
    walk_at "y"
    refine s_inI rfl ?_
    walk_at "y"
    refine ifD (fun e2 => ?_) (fun e2 => ?_)
    · rw [if_pos ⟨e', e2⟩] at h
      walk_at "y"
      exact ⟨_, Sub.refl, h⟩
    · walk_at "y"
      exact go fun q => e2 q.2
  · walk_at "y"
    exact go fun q => q.1 (by omega)
def betw_of {a b c : Int} (h1 : b ≤ a) (h2 : a ≤ c) : betw a b c = true := by
  unfold betw
  rw [decide_eq_true h1, decide_eq_true h2]; rfl
/-- days that rise, from behind lo to ahead of hi -/
def Rise (lo hi : Int) (l : List Int) : Prop := l.Pairwise (· < ·) ∧ ∀ d ∈ l, lo < d ∧ d < hi
theorem shutW_of : ∀ (l : List Int) (before hi : Int) (i : Nat), Rise before hi l → shutW hi before i l = none
  | [], _, _, _, _ => rfl
  | d :: r, before, hi, i, h => by
    obtain ⟨h1, h2⟩ := h
    rw [shutW, if_pos (h2 d (by simp))]
    have h1 := List.pairwise_cons.mp h1
    exact shutW_of r d hi (i + 1) ⟨h1.2, fun x hx => ⟨h1.1 x hx, (h2 x (by simp [hx])).2⟩⟩
theorem Rise.snoc {lo hi t : Int} {l : List Int} (h : Rise lo t l) (h1 : lo < t) (h2 : t < hi) : Rise lo hi (l ++ [t]) := by
  refine ⟨List.pairwise_append.mpr ⟨h.1, by simp, fun a ha b hb => ?_⟩, fun d hd => ?_⟩
  · have e : b = t := by simpa using hb
    rw [e]
    exact (h.2 a ha).2
  · rcases List.mem_append.mp hd with q | q
    · have := h.2 d q
      omega
    · have e : d = t := by simpa using q
      rw [e]
      exact ⟨h1, h2⟩
theorem Rise.wide {lo hi hi' : Int} {l : List Int} (h : Rise lo hi l) (q : hi ≤ hi') : Rise lo hi' l := ⟨h.1, fun d hd => by have := h.2 d hd; omega⟩
def sp_closed_L : DSp := fun ds μ Q _ => ∃ n span dr, ds = [.ptr n, .int span] ∧ μ n = some (.lst dr) ∧ DrawOk dr ∧ 0 ≤ span ∧ span ≤ 1000 ∧ ∀ l dr', Rise (-1) span l → DrawOk dr' → Q (intsT l) (mset μ n (.lst dr'))
def r_closed_L : SD :=
  (sSeq (sIf (dTest (dOp eqD (dCall sp_pull_L [] (dCons (dVar 0) (dCons (dC (.int 2)) dNil))) (dC (.int 0)))) (sRet (dTup dNil)) sNext)
  (sRet (dCal tupleD (dCons (dLc (dRange1 (dVar 1)) (nNm 2) (dTest (dOp eqD (dCall sp_pull_L [] (dCons (dVar 0) (dCons (dC (.int 4)) dNil))) (dC (.int 0)))) (dVar 2) [2]) dNil))))
theorem Rise.len {lo hi : Int} : ∀ {l : List Int}, Rise lo hi l → (l.length : Int) ≤ max 0 (hi - lo - 1)
  | [], _ => by simp; omega
  | d :: r, h => by
    obtain ⟨h1, h2⟩ := h
    have h1 := List.pairwise_cons.mp h1
    have hd := h2 d (by simp)
    have := Rise.len (lo := d) (hi := hi) (l := r) ⟨h1.2, fun x hx => ⟨h1.1 x hx, (h2 x (by simp [hx])).2⟩⟩
    simp only [List.length_cons]
    omega
theorem k_closed_L : Keeps N_closed_L P_closed_L r_closed_L sp_closed_L := by
  rintro ds μ Q E ⟨n, span, dr, rfl, hm, hdr, h0, h1, h⟩
  refine ⟨rfl, ?_⟩
  rw [show startD N_closed_L [D.ptr n, .int span] = [some (.ptr n), some (.int span), none] from rfl]
  unfold r_closed_L
  walk_at "y"
  refine ⟨n, 2, dr, rfl, hm, hdr, by decide, by decide, fun k dr1 hk0 hk1 hdr1 => ?_⟩
  walk_at "y"
  refine ifD (fun e => ?_) (fun e => ?_)
  · walk_at "y"
    exact ⟨_, Sub.refl, h [] dr1 ⟨.nil, fun _ q => nomatch q⟩ hdr1⟩
  walk_at "y"
  refine ⟨near_b62 ⟨by omega, by omega⟩, by rw [range_len, sizeLine_eq]; omega, ?_⟩
  refine lc_ind (fun r acc μ' => ∃ (t : Int) (l : List Int) (dr : List D), r = (iota t (span - t).toNat).map .int ∧ 0 ≤ t ∧ t ≤ span ∧ acc = l.map .int ∧ Rise (-1) t l ∧ μ' = mset μ n (.lst dr) ∧ DrawOk dr) (fun _ _ _ _ => trivial) ?_ ?_ _ _ _ ⟨0, [], dr1, by rw [range_ints, Int.sub_zero], Int.le_refl _, h0, rfl, ⟨.nil, fun _ q => nomatch q⟩, rfl, hdr1⟩
  · rintro d r acc μ' N hN ⟨t, l, dr2, e, ht, ht2, rfl, hr, rfl, hdr2⟩
    have hlt : t < span := by
      apply Classical.byContradiction
      intro hc
      rw [iota_end hc] at e
      cases e
    rw [iota_step hlt] at e
    cases e
    walk_at "y"
    refine ⟨n, 4, dr2, rfl, mset_same, hdr2, by decide, by decide, fun k dr3 hk0 hk1 hdr3 => ?_⟩
    walk_at "y"
    refine ifD (fun e => ?_) (fun e => ?_)
    · walk_at "y"
      exact hN _ _ ⟨t + 1, l ++ [t], dr3, rfl, by omega, by omega, by simp, hr.snoc (by omega) (by omega), mset_mset, hdr3⟩
    · exact hN _ _ ⟨t + 1, l, dr3, rfl, by omega, by omega, rfl, hr.wide (by omega), mset_mset, hdr3⟩
  · rintro acc μ' ⟨t, l, dr2, e, ht, ht2, rfl, hr, rfl, hdr2⟩
    walk_at "y"
    have hl := hr.len
    refine s_opq (tuple_of rfl (by rw [List.length_map, sizeLine_eq]; omega)) ?_
    exact ⟨_, Sub.refl, h l dr2 (hr.wide ht2) hdr2⟩
end Z
namespace Z
open PySem PySem.Spec PyProof.Rows L2 Y
local macro_rules | `(tactic| walk_at "y0") => `(tactic| first | with_reducible refine Step.go ?_ | ((with_reducible refine' s_var (s_opq ?h1 ?_)); (case h1 => rfl)) | ((with_reducible refine IxG.go ?_); first | ((with_reducible refine' s_ixP ?h1 ?h2 ?_); (case h1 => first | exact mset_same | (with_reducible assumption)); (case h2 => first | rfl | (with_reducible assumption))) | ((with_reducible refine' s_ixT ?h2 ?_); (case h2 => first | rfl | (with_reducible assumption))) | ((with_reducible refine' s_ixL ?h2 ?_); (case h2 => first | rfl | (with_reducible assumption)))) | ((with_reducible refine LenG.go ?_); ((with_reducible refine' s_lenP ?h1 ?_); (case h1 => first | exact mset_same | (with_reducible assumption)))) | ((with_reducible refine SeqG.go ?_); first | ((with_reducible refine' s_seqP ?h1 ?_); (case h1 => first | exact mset_same | (with_reducible assumption))) | ((with_reducible refine' s_cell ?h1 ?_); (case h1 => first | exact mset_same | (with_reducible assumption)))) | ((with_reducible refine ArG.go ?_); first | ((with_reducible refine' s_mulR ?h1 ?_); (case h1 => omega)) | ((with_reducible refine' s_mulL ?h1 ?_); (case h1 => omega)) | ((with_reducible refine' s_mod ?h1 ?_); (case h1 => omega)) | ((with_reducible refine' s_fdiv ?h1 ?h2 ?_); (case h1 => omega); (case h2 => omega)) | ((with_reducible refine' s_pow ?h1 ?_); (case h1 => decide))) | ((with_reducible refine AndG.go ?_); first | ((with_reducible refine' s_len ?h1 ?_); (case h1 => rfl)) | ((with_reducible refine' s_lenE ?h1 ?_); (case h1 => rfl))) | ((with_reducible refine IsiG.go ?_); first | ((with_reducible refine' s_isi (b := true) ?h1 ?h2 ?h3 ?_); (case h1 => first | rfl | (with_reducible exact ty_ptr mset_same) | (with_reducible exact ty_ptr (by assumption))); (case h2 => first | exact isi_int rfl | exact isi_bool rfl | exact isi_str rfl | exact isi_tuple rfl | exact isi_list rfl | exact isi_int (ty_ptr (by assumption)) | exact isi_bool (ty_ptr (by assumption)) | exact isi_str (ty_ptr (by assumption)) | exact isi_tuple (ty_ptr (by assumption)) | exact isi_list (ty_ptr (by assumption))); (case h3 => rfl)) | ((with_reducible refine' s_isi (b := false) ?h1 ?h2 ?h3 ?_); (case h1 => first | rfl | (with_reducible exact ty_ptr mset_same) | (with_reducible exact ty_ptr (by assumption))); (case h2 => first | exact isi_int rfl | exact isi_bool rfl | exact isi_str rfl | exact isi_tuple rfl | exact isi_list rfl | exact isi_int (ty_ptr (by assumption)) | exact isi_bool (ty_ptr (by assumption)) | exact isi_str (ty_ptr (by assumption)) | exact isi_tuple (ty_ptr (by assumption)) | exact isi_list (ty_ptr (by assumption))); (case h3 => rfl))) | ((with_reducible refine IfG.go ?_); first | ((with_reducible refine' s_nonF ?h1 ?_); (case h1 => rfl)) | ((with_reducible refine' s_nonT ?h1 ?_); (case h1 => rfl)) | ((with_reducible refine' s_notNonF ?h1 ?_); (case h1 => rfl)) | ((with_reducible refine' s_notNonT ?h1 ?_); (case h1 => rfl))) | ((with_reducible refine NatG.go ?_); ((with_reducible refine' s_ixN ?h1 ?_); (case h1 => first | rfl | (with_reducible assumption)))))
local macro_rules | `(tactic| walk_at "y1") => `(tactic| first | walk_at "y0" | dsimp only)
local macro_rules | `(tactic| walk_at "y") => `(tactic| repeat walk_at "y1")
/-- all as it was, but the draw (and what is new) -/
def Ov (μ : Mu) (n : Nat) (dr : List D) (μ' : Mu) : Prop := μ' n = some (.lst dr) ∧ ∀ k o, k ≠ n → μ k = some o → μ' k = some o
section
variable {μ μ' : Mu} {n m : Nat} {dr dr' : List D} {o : MO}
theorem Ov.sub (h : Ov μ n dr μ') : Sub (mset μ n (.lst dr)) μ' := by
  intro k o e
  by_cases hk : k = n
  · subst hk
    rw [mset_same] at e
    cases e
    exact h.1
  · rw [mset_ne hk] at e
    exact h.2 k o hk e
theorem Ov.refl (h : μ n = some (.lst dr)) : Ov μ n dr μ := ⟨h, fun _ _ _ e => e⟩
theorem Ov.pull (h : Ov μ n dr μ') : Ov μ n dr' (mset μ' n (.lst dr')) := ⟨mset_same, fun k o hk e => by rw [mset_ne hk]; exact h.2 k o hk e⟩
theorem Ov.new (h : Ov μ n dr μ') (hm : μ' m = none) : Ov μ n dr (mset μ' m o) := by
  have hn : n ≠ m := fun e => by rw [← e, h.1] at hm; cases hm
  refine ⟨by rw [mset_ne hn]; exact h.1, fun k o hk e => ?_⟩
  have e := h.2 k o hk e
  rw [mset_ne fun z => by rw [z, hm] at e; cases e]
  exact e
theorem Ov.put (h : Ov μ n dr μ') (hm : μ m = none) (hn : n ≠ m) : Ov μ n dr (mset μ' m o) := by
  refine ⟨by rw [mset_ne hn]; exact h.1, fun k o hk e => ?_⟩
  rw [mset_ne fun z => by rw [z, hm] at e; cases e]
  exact h.2 k o hk e
end
theorem ix_nat {n : Nat} {k : Int} (h0 : 0 ≤ k) (h1 : k < n) : ixN n k = some k.toNat := by
  unfold ixN
  rw [if_pos h0, if_pos h1]
def Nines (l : List Int) : Prop := ∀ x ∈ l, 0 ≤ x ∧ x ≤ 9
theorem Nines.all {l : List Int} (h : Nines l) : (l.all fun x => betw x 0 9) = true := List.all_eq_true.mpr fun x hx => betw_of (h x hx).1 (h x hx).2
theorem Nines.snoc {l : List Int} {x : Int} (h : Nines l) (h0 : 0 ≤ x) (h1 : x ≤ 9) : Nines (l ++ [x]) := fun z hz => by
  rcases List.mem_append.mp hz with q | q
  · exact h z q
  · have e : z = x := by simpa using q
    rw [e]
    exact ⟨h0, h1⟩
theorem Nines.set {l : List Int} {x : Int} (i : Nat) (h : Nines l) (h0 : 0 ≤ x) (h1 : x ≤ 9) : Nines (l.set i x) := fun z hz => by
  rcases List.mem_or_eq_of_mem_set hz with q | q
  · exact h z q
  · rw [q]; exact ⟨h0, h1⟩
def sp_good_row_L : DSp := fun ds μ Q _ => ∃ n span dr, ds = [.ptr n, .int span] ∧ μ n = some (.lst dr) ∧ DrawOk dr ∧ 0 ≤ span ∧ span ≤ 1000 ∧ ∀ l dr', (l.length : Int) = span → Nines l → DrawOk dr' → Q (intsT l) (mset μ n (.lst dr'))
def r_good_row_L : SD :=
  (sSeq (sSet 2 (dOp addD (dC (.int 1)) (dCall sp_pull_L [] (dCons (dVar 0) (dCons (dC (.int 4)) dNil)))))
  (sRet (dCal tupleD (dCons (dLc (dRange1 (dVar 1)) (nNm 3) dYes (dOp ixD (dLst (dCons (dVar 2) (dCons (dVar 2) (dCons (dVar 2) (dCons (dCall sp_pull_L [] (dCons (dVar 0) (dCons (dC (.int 10)) dNil))) dNil))))) (dCall sp_pull_L [] (dCons (dVar 0) (dCons (dC (.int 4)) dNil)))) [3]) dNil))))
theorem k_good_row_L : Keeps N_good_row_L P_good_row_L r_good_row_L sp_good_row_L := by
  rintro ds μ Q E ⟨n, span, dr, rfl, hm, hdr, h0, h1, h⟩
  refine ⟨rfl, ?_⟩
  rw [show startD N_good_row_L [D.ptr n, .int span] = [some (.ptr n), some (.int span), none, none] from rfl]
  unfold r_good_row_L
  walk_at "y"
  refine ⟨n, 4, dr, rfl, hm, hdr, by decide, by decide, fun k dr1 hk0 hk1 hdr1 => ?_⟩
  walk_at "y"
  refine ⟨near_b62 ⟨by omega, by omega⟩, by rw [range_len, sizeLine_eq]; omega, ?_⟩
  refine lc_ind (fun r acc μ' => ∃ (l : List Int) (dr : List D), (l.length : Int) + r.length = span ∧ acc = l.map .int ∧ Nines l ∧ μ' = mset μ n (.lst dr) ∧ DrawOk dr) (fun _ _ _ _ => trivial) ?_ ?_ _ _ _ ⟨[], dr1, by rw [range_len]; show (0 : Int) + _ = _; omega, rfl, (fun _ q => nomatch q), rfl, hdr1⟩
  · rintro d r acc μ' N hN ⟨l, dr2, hl, rfl, hn, rfl, hdr2⟩
    walk_at "y"
    refine ⟨n, 10, dr2, rfl, mset_same, hdr2, by decide, by decide, fun u dr3 hu0 hu1 hdr3 => ?_⟩
    walk_at "y"
    refine ⟨n, 4, dr3, rfl, mset_same, hdr3, by decide, by decide, fun v dr4 hv0 hv1 hdr4 => ?_⟩
    have go : ∀ x : Int, 0 ≤ x → x ≤ 9 → N (l.map D.int ++ [.int x]) (mset (mset (mset μ n (.lst dr2)) n (.lst dr3)) n (.lst dr4)) := fun x hx0 hx1 => by
      refine hN _ _ ⟨l ++ [x], dr4, ?_, by simp, hn.snoc hx0 hx1, by rw [mset_mset, mset_mset], hdr4⟩
      rw [← hl, List.length_append]
      simp only [List.length_cons, List.length_nil]
      omega
    have hv : v = 0 ∨ v = 1 ∨ v = 2 ∨ v = 3 := by omega
    rcases hv with rfl | rfl | rfl | rfl
    · walk_at "y"
      exact go _ (by omega) (by omega)
    · walk_at "y"
      exact go _ (by omega) (by omega)
    · walk_at "y"
      exact go _ (by omega) (by omega)
    · walk_at "y"
      exact go _ (by omega) (by omega)
  · rintro acc μ' ⟨l, dr2, hl, rfl, hn, rfl, hdr2⟩
    have hl : (l.length : Int) = span := by simpa using hl
    walk_at "y"
    refine s_opq (tuple_of rfl (by rw [List.length_map, sizeLine_eq]; omega)) ?_
    exact ⟨_, Sub.refl, h l dr2 hl hn hdr2⟩
/-- a good way -/
structure WayOk (goods : Int) (x : Way) : Prop where
  l0 : 1 ≤ x.long
  l1 : x.long ≤ 9
  rs : x.rests = 0 ∨ x.rests = 1
  nl : (x.needs.length : Int) = goods
  nn : Nines x.needs
theorem WayOk.wayB {goods : Int} {x : Way} (h : WayOk goods x) : wayB goods x = true := by
  unfold Z.wayB
  rw [betw_of h.l0 h.l1, decide_eq_true h.nl, h.nn.all]
  have : x.rests ∈ [0, 1] := by simpa using h.rs
  rw [decide_eq_true this]; rfl
def sp_mode_L : DSp := fun ds μ Q _ => ∃ n span goods dr, ds = [.ptr n, .int span, .int goods] ∧ μ n = some (.lst dr) ∧ DrawOk dr ∧ 1 ≤ span ∧ span ≤ 1000 ∧ 0 ≤ goods ∧ goods ≤ 1000 ∧ ∀ x dr', WayOk goods x → DrawOk dr' → Q (wayD x) (mset μ n (.lst dr'))
abbrev r_mode_L_t0 : SD := (sSeq (sIf (dAnd (dTest (dOp gtD (dVar 2) (dC (.int 0)))) (dTest (dOp eqD (dCall sp_pull_L [] (dCons (dVar 0) (dCons (dC (.int 12)) dNil))) (dC (.int 0))))) (sAsg (dCall sp_pull_L [] (dCons (dVar 0) (dCons (dC (.int 10)) dNil))) (gSubD (dVar 4) (dCall sp_pull_L [] (dCons (dVar 0) (dCons (dVar 2) dNil))))) sNext) (sRet (dTup (dCons (dVar 3) (dCons (dCall sp_pull_L [] (dCons (dVar 0) (dCons (dC (.int 2)) dNil))) (dCons (dCal tupleD (dCons (dVar 4) dNil)) dNil))))))
abbrev r_mode_L_t1 : SD := (sSeq (sSet 4 (dLcN (dRange1 (dVar 2)) (nNm 5) dYes (dOp ixD (dLst (dCons (dC (.int 0)) (dCons (dC (.int 1)) (dCons (dC (.int 1)) (dCons (dC (.int 2)) (dCons (dC (.int 3)) dNil)))))) (dCall sp_pull_L [] (dCons (dVar 0) (dCons (dC (.int 5)) dNil)))) [5])) r_mode_L_t0)
abbrev r_mode_L_t2 : SD := (sSeq (sIf (dTest (dOp eqD (dCall sp_pull_L [] (dCons (dVar 0) (dCons (dC (.int 12)) dNil))) (dC (.int 0)))) (sSet 3 (dOp addD (dC (.int 1)) (dCall sp_pull_L [] (dCons (dVar 0) (dCons (dC (.int 9)) dNil))))) sNext) r_mode_L_t1)
def r_mode_L : SD :=
  (sSeq (sSet 3 (dOp addD (dC (.int 1)) (dCall sp_pull_L [] (dCons (dVar 0) (dCons (dCal min2D (dCons (dC (.int 4)) (dCons (dVar 1) dNil))) dNil))))) r_mode_L_t2)
def rest_mode : SD :=
  (sSeq (sSet 4 (dLcN (dRange1 (dVar 2)) (nNm 5) dYes (dOp ixD (dLst (dCons (dC (.int 0)) (dCons (dC (.int 1)) (dCons (dC (.int 1)) (dCons (dC (.int 2)) (dCons (dC (.int 3)) dNil)))))) (dCall sp_pull_L [] (dCons (dVar 0) (dCons (dC (.int 5)) dNil)))) [5]))
  (sSeq (sIf (dAnd (dTest (dOp gtD (dVar 2) (dC (.int 0)))) (dTest (dOp eqD (dCall sp_pull_L [] (dCons (dVar 0) (dCons (dC (.int 12)) dNil))) (dC (.int 0))))) (sAsg (dCall sp_pull_L [] (dCons (dVar 0) (dCons (dC (.int 10)) dNil))) (gSubD (dVar 4) (dCall sp_pull_L [] (dCons (dVar 0) (dCons (dVar 2) dNil))))) sNext)
  (sRet (dTup (dCons (dVar 3) (dCons (dCall sp_pull_L [] (dCons (dVar 0) (dCons (dC (.int 2)) dNil))) (dCons (dCal tupleD (dCons (dVar 4) dNil)) dNil)))))))
theorem rest_mode_eq : r_mode_L =
  (sSeq (sSet 3 (dOp addD (dC (.int 1)) (dCall sp_pull_L [] (dCons (dVar 0) (dCons (dCal min2D (dCons (dC (.int 4)) (dCons (dVar 1) dNil))) dNil)))))
  (sSeq (sIf (dTest (dOp eqD (dCall sp_pull_L [] (dCons (dVar 0) (dCons (dC (.int 12)) dNil))) (dC (.int 0)))) (sSet 3 (dOp addD (dC (.int 1)) (dCall sp_pull_L [] (dCons (dVar 0) (dCons (dC (.int 9)) dNil))))) sNext)
  rest_mode)) := rfl
set_option maxHeartbeats 1000000 in
theorem k_mode_L : Keeps N_mode_L P_mode_L r_mode_L sp_mode_L := by
  rintro ds μ Q E ⟨n, span, goods, dr, rfl, hm, hdr, h0, h1, h2, h3, h⟩
  refine ⟨rfl, ?_⟩
  rw [show startD N_mode_L [D.ptr n, .int span, .int goods] = [some (.ptr n), some (.int span), some (.int goods), none, none, none] from rfl]
  rw [rest_mode_eq]
  have go : ∀ (long : Int) (dr : List D), 1 ≤ long → long ≤ 9 → DrawOk dr → rest_mode (bodyEnds Q E) [some (.ptr n), some (.int span), some (.int goods), some (.int long), none, none] (mset μ n (.lst dr)) := fun long dr hl0 hl1 hdr => by
    unfold rest_mode
    walk_at "y"
    refine ⟨near_b62 ⟨by omega, by omega⟩, by rw [range_len, sizeLine_eq]; omega, ?_⟩
    refine lc_ind (fun r acc μ' => ∃ (l : List Int) (dr : List D), (l.length : Int) + r.length = goods ∧ acc = l.map .int ∧ Nines l ∧ μ' = mset μ n (.lst dr) ∧ DrawOk dr) (fun _ _ _ _ => trivial) ?_ ?_ _ _ _ ⟨[], dr, by rw [range_len]; show (0 : Int) + _ = _; omega, rfl, (fun _ q => nomatch q), rfl, hdr⟩
    · rintro d r acc μ' N hN ⟨l, dr2, hl, rfl, hn, rfl, hdr2⟩
      walk_at "y"
      refine ⟨n, 5, dr2, rfl, mset_same, hdr2, by decide, by decide, fun v dr4 hv0 hv1 hdr4 => ?_⟩
      have go : ∀ x : Int, 0 ≤ x → x ≤ 9 → N (l.map D.int ++ [.int x]) (mset (mset μ n (.lst dr2)) n (.lst dr4)) := fun x hx0 hx1 => by
        refine hN _ _ ⟨l ++ [x], dr4, ?_, by simp, hn.snoc hx0 hx1, by rw [mset_mset], hdr4⟩
        rw [← hl, List.length_append]
        simp only [List.length_cons, List.length_nil]
        omega
      have hv : v = 0 ∨ v = 1 ∨ v = 2 ∨ v = 3 ∨ v = 4 := by omega
      rcases hv with rfl | rfl | rfl | rfl | rfl
      · walk_at "y"
        exact go _ (by decide) (by decide)
      · walk_at "y"
        exact go _ (by decide) (by decide)
      · walk_at "y"
        exact go _ (by decide) (by decide)
      · walk_at "y"
        exact go _ (by decide) (by decide)
      · walk_at "y"
        exact go _ (by decide) (by decide)
    · rintro acc μ' ⟨l, dr2, hl, rfl, hn, rfl, hdr2⟩
      have hl : (l.length : Int) = goods := by simpa using hl
      intro m hmn
      have hnm : n ≠ m := fun e => by rw [e, mset_same] at hmn; cases hmn
      have hm0 : μ m = none := (mset_ne (μ := μ) (o := .lst dr2) hnm.symm).symm.trans hmn
      have ov : Ov μ n dr2 (mset (mset μ n (.lst dr2)) m (.lst (l.map .int))) := (Ov.refl (μ := mset μ n (.lst dr2)) mset_same |>.new hmn |> fun q => ⟨q.1, fun k o hk e => q.2 k o hk (by rw [mset_ne hk]; exact e)⟩)
      have hz : ∀ l' : List Int, (l'.length : Int) = goods → (l'.map D.int).length ≤ sizeLine := fun l' e => by
        rw [List.length_map, sizeLine_eq]
        omega
      walk_at "y"
      refine ifD (fun e => ?_) (fun e => ?_)
      · walk_at "y"
        refine ⟨n, 12, dr2, rfl, ov.1, hdr2, by decide, by decide, fun u dr3 hu0 hu1 hdr3 => ?_⟩
        walk_at "y"
        refine ifD (fun e2 => ?_) (fun e2 => ?_)
        · walk_at "y"
          refine ⟨n, 10, dr3, rfl, mset_same, hdr3, by decide, by decide, fun v dr4 hv0 hv1 hdr4 => ?_⟩
          walk_at "y"
          refine ⟨n, goods, dr4, rfl, mset_same, hdr4, by omega, by omega, fun q dr5 hq0 hq1 hdr5 => ?_⟩
          have hc : mset (mset (mset (mset (mset μ n (.lst dr2)) m (.lst (l.map .int))) n (.lst dr3)) n (.lst dr4)) n (.lst dr5) m = some (.lst (l.map .int)) := by
            rw [mset_ne hnm.symm, mset_ne hnm.symm, mset_ne hnm.symm]; exact mset_same
          walk_at "y"
          refine s_ixN (j := q.toNat) (ix_nat hq0 (by rw [List.length_map]; omega)) ?_
          walk_at "y"
          have es : (l.map D.int).set q.toNat (.int v) = (l.set q.toNat v).map .int := by rw [List.map_set]
          rw [es]
          have ov5 := (ov.pull (dr' := dr3) |>.pull (dr' := dr4) |>.pull (dr' := dr5) |>.put (o := .lst ((l.set q.toNat v).map .int)) hm0 hnm)
          refine ⟨n, 2, dr5, rfl, ov5.1, hdr5, by decide, by decide, fun r dr' hr0 hr1 hdr' => ?_⟩
          walk_at "y"
          have hl' : ((l.set q.toNat v).length : Int) = goods := by rw [List.length_set]; exact hl
          refine s_opq (tuple_of (as_ptr (by rw [mset_ne hnm.symm]; exact mset_same)) (hz _ hl')) ?_
          walk_at "y"
          exact ⟨_, ov5.pull.sub, h ⟨long, r, l.set q.toNat v⟩ dr' ⟨hl0, hl1, by show r = 0 ∨ r = 1; omega, hl', hn.set _ hv0 (by omega)⟩ hdr'⟩
        · walk_at "y"
          refine ⟨n, 2, dr3, rfl, mset_same, hdr3, by decide, by decide, fun r dr' hr0 hr1 hdr' => ?_⟩
          walk_at "y"
          refine s_opq (tuple_of (as_ptr (by rw [mset_ne hnm.symm, mset_ne hnm.symm]; exact mset_same)) (hz l hl)) ?_
          walk_at "y"
          exact ⟨_, ov.pull.pull.sub, h ⟨long, r, l⟩ dr' ⟨hl0, hl1, by show r = 0 ∨ r = 1; omega, hl, hn⟩ hdr'⟩
      · walk_at "y"
        refine ⟨n, 2, dr2, rfl, ov.1, hdr2, by decide, by decide, fun r dr' hr0 hr1 hdr' => ?_⟩
        walk_at "y"
        refine s_opq (tuple_of (as_ptr (by rw [mset_ne hnm.symm]; exact mset_same)) (hz l hl)) ?_
        walk_at "y"
        exact ⟨_, ov.pull.sub, h ⟨long, r, l⟩ dr' ⟨hl0, hl1, by show r = 0 ∨ r = 1; omega, hl, hn⟩ hdr'⟩
  walk_at "y"
  refine ⟨n, (if span < 4 then span else 4), dr, rfl, hm, hdr, by split <;> omega, by split <;> omega, fun k dr1 hk0 hk1 hdr1 => ?_⟩
  have hk4 : k < 4 := by
    split at hk1 <;> omega
  walk_at "y"
  refine ⟨n, 12, dr1, rfl, mset_same, hdr1, by decide, by decide, fun u dr2 hu0 hu1 hdr2 => ?_⟩
  walk_at "y"
  refine ifD (fun e => ?_) (fun e => ?_)
  · walk_at "y"
    refine ⟨n, 9, dr2, rfl, mset_same, hdr2, by decide, by decide, fun v dr3 hv0 hv1 hdr3 => ?_⟩
    walk_at "y"
    rw [mset_mset, mset_mset]
    exact go (1 + v) dr3 (by omega) (by omega) hdr3
  · walk_at "y"
    rw [mset_mset]
    exact go (1 + k) dr2 (by omega) (by omega) hdr2
end Z
namespace Z
open PySem PySem.Spec PyProof.Rows L2 Y
local macro_rules | `(tactic| walk_at "y0") => `(tactic| first | with_reducible refine Step.go ?_ | ((with_reducible refine' s_var (s_opq ?h1 ?_)); (case h1 => rfl)) | ((with_reducible refine IxG.go ?_); first | ((with_reducible refine' s_ixP ?h1 ?h2 ?_); (case h1 => first | exact mset_same | (with_reducible assumption)); (case h2 => first | rfl | (with_reducible assumption))) | ((with_reducible refine' s_ixT ?h2 ?_); (case h2 => first | rfl | (with_reducible assumption))) | ((with_reducible refine' s_ixL ?h2 ?_); (case h2 => first | rfl | (with_reducible assumption)))) | ((with_reducible refine LenG.go ?_); ((with_reducible refine' s_lenP ?h1 ?_); (case h1 => first | exact mset_same | (with_reducible assumption)))) | ((with_reducible refine SeqG.go ?_); first | ((with_reducible refine' s_seqP ?h1 ?_); (case h1 => first | exact mset_same | (with_reducible assumption))) | ((with_reducible refine' s_cell ?h1 ?_); (case h1 => first | exact mset_same | (with_reducible assumption)))) | ((with_reducible refine ArG.go ?_); first | ((with_reducible refine' s_mulR ?h1 ?_); (case h1 => omega)) | ((with_reducible refine' s_mulL ?h1 ?_); (case h1 => omega)) | ((with_reducible refine' s_mod ?h1 ?_); (case h1 => omega)) | ((with_reducible refine' s_fdiv ?h1 ?h2 ?_); (case h1 => omega); (case h2 => omega)) | ((with_reducible refine' s_pow ?h1 ?_); (case h1 => decide))) | ((with_reducible refine AndG.go ?_); first | ((with_reducible refine' s_len ?h1 ?_); (case h1 => rfl)) | ((with_reducible refine' s_lenE ?h1 ?_); (case h1 => rfl))) | ((with_reducible refine IsiG.go ?_); first | ((with_reducible refine' s_isi (b := true) ?h1 ?h2 ?h3 ?_); (case h1 => first | rfl | (with_reducible exact ty_ptr mset_same) | (with_reducible exact ty_ptr (by assumption))); (case h2 => first | exact isi_int rfl | exact isi_bool rfl | exact isi_str rfl | exact isi_tuple rfl | exact isi_list rfl | exact isi_int (ty_ptr (by assumption)) | exact isi_bool (ty_ptr (by assumption)) | exact isi_str (ty_ptr (by assumption)) | exact isi_tuple (ty_ptr (by assumption)) | exact isi_list (ty_ptr (by assumption))); (case h3 => rfl)) | ((with_reducible refine' s_isi (b := false) ?h1 ?h2 ?h3 ?_); (case h1 => first | rfl | (with_reducible exact ty_ptr mset_same) | (with_reducible exact ty_ptr (by assumption))); (case h2 => first | exact isi_int rfl | exact isi_bool rfl | exact isi_str rfl | exact isi_tuple rfl | exact isi_list rfl | exact isi_int (ty_ptr (by assumption)) | exact isi_bool (ty_ptr (by assumption)) | exact isi_str (ty_ptr (by assumption)) | exact isi_tuple (ty_ptr (by assumption)) | exact isi_list (ty_ptr (by assumption))); (case h3 => rfl))) | ((with_reducible refine IfG.go ?_); first | ((with_reducible refine' s_nonF ?h1 ?_); (case h1 => rfl)) | ((with_reducible refine' s_nonT ?h1 ?_); (case h1 => rfl)) | ((with_reducible refine' s_notNonF ?h1 ?_); (case h1 => rfl)) | ((with_reducible refine' s_notNonT ?h1 ?_); (case h1 => rfl))) | ((with_reducible refine NatG.go ?_); ((with_reducible refine' s_ixN ?h1 ?_); (case h1 => first | rfl | (with_reducible assumption)))))
local macro_rules | `(tactic| walk_at "y1") => `(tactic| first | walk_at "y0" | dsimp only)
local macro_rules | `(tactic| walk_at "y") => `(tactic| repeat walk_at "y1")
structure WorkOk (span goods modes : Int) (x : Work) : Prop where
  l0 : 0 ≤ x.low
  lh : x.low < x.high
  h1 : x.high ≤ span
  w0 : 1 ≤ x.ways.length
  w1 : (x.ways.length : Int) ≤ modes
  ws : ∀ z ∈ x.ways, WayOk goods z
def sp_job_L : DSp := fun ds μ Q _ => ∃ n span goods modes dr, ds = [.ptr n, .int span, .int goods, .int modes] ∧ μ n = some (.lst dr) ∧ DrawOk dr ∧ 1 ≤ span ∧ span ≤ 1000 ∧ 0 ≤ goods ∧ goods ≤ 1000 ∧ 1 ≤ modes ∧ modes ≤ 1000 ∧
  ∀ x dr', WorkOk span goods modes x → DrawOk dr' → Q (workD x) (mset μ n (.lst dr'))
abbrev r_job_L_t0 : SD := (sSeq (sSet 4 (dCall sp_pull_L [] (dCons (dVar 0) (dCons (dVar 1) dNil)))) (sSet 5 (dOp addD (dOp addD (dVar 4) (dC (.int 1))) (dCall sp_pull_L [] (dCons (dVar 0) (dCons (dOp subD (dVar 1) (dVar 4)) dNil))))))
abbrev r_job_L_t1 : SD := (sSeq (sIf (dTest (dOp eqD (dCall sp_pull_L [] (dCons (dVar 0) (dCons (dC (.int 4)) dNil))) (dC (.int 0)))) r_job_L_t0 sNext) (sRet (dTup (dCons (dVar 4) (dCons (dVar 5) (dCons (dCal tupleD (dCons (dLc (dRange1 (dOp addD (dC (.int 1)) (dCall sp_pull_L [] (dCons (dVar 0) (dCons (dVar 3) dNil))))) (nNm 6) dYes (dCall sp_mode_L [] (dCons (dVar 0) (dCons (dVar 1) (dCons (dVar 2) dNil)))) [6]) dNil)) dNil))))))
def r_job_L : SD :=
  (sSeq (sPar 4 5 (dCons (dC (.int 0)) (dCons (dVar 1) dNil))) r_job_L_t1)
def rest_job : SD :=
  (sRet (dTup (dCons (dVar 4) (dCons (dVar 5) (dCons (dCal tupleD (dCons (dLc (dRange1 (dOp addD (dC (.int 1)) (dCall sp_pull_L [] (dCons (dVar 0) (dCons (dVar 3) dNil))))) (nNm 6) dYes (dCall sp_mode_L [] (dCons (dVar 0) (dCons (dVar 1) (dCons (dVar 2) dNil)))) [6]) dNil)) dNil)))))
theorem rest_job_eq : r_job_L =
  (sSeq (sPar 4 5 (dCons (dC (.int 0)) (dCons (dVar 1) dNil)))
  (sSeq (sIf (dTest (dOp eqD (dCall sp_pull_L [] (dCons (dVar 0) (dCons (dC (.int 4)) dNil))) (dC (.int 0)))) (sSeq (sSet 4 (dCall sp_pull_L [] (dCons (dVar 0) (dCons (dVar 1) dNil))))
  (sSet 5 (dOp addD (dOp addD (dVar 4) (dC (.int 1))) (dCall sp_pull_L [] (dCons (dVar 0) (dCons (dOp subD (dVar 1) (dVar 4)) dNil)))))) sNext)
  rest_job)) := rfl
set_option maxHeartbeats 1000000 in
theorem k_job_L : Keeps N_job_L P_job_L r_job_L sp_job_L := by
  rintro ds μ Q E ⟨n, span, goods, modes, dr, rfl, hm, hdr, h0, h1, h2, h3, h4, h5, h⟩
  refine ⟨rfl, ?_⟩
  rw [show startD N_job_L [D.ptr n, .int span, .int goods, .int modes] = [some (.ptr n), some (.int span), some (.int goods), some (.int modes), none, none, none] from rfl]
  rw [rest_job_eq]
  have go : ∀ (lo hi : Int) (dr : List D), 0 ≤ lo → lo < hi → hi ≤ span → DrawOk dr → rest_job (bodyEnds Q E) [some (.ptr n), some (.int span), some (.int goods), some (.int modes), some (.int lo), some (.int hi), none] (mset μ n (.lst dr)) := fun lo hi dr e1 e2 e3 hdr => by
    unfold rest_job
    walk_at "y"
    refine ⟨n, modes, dr, rfl, mset_same, hdr, by omega, by omega, fun k dr1 hk0 hk1 hdr1 => ?_⟩
    walk_at "y"
    refine ⟨near_b62 ⟨by omega, by omega⟩, by rw [range_len, sizeLine_eq]; omega, ?_⟩
    refine lc_ind (fun r acc μ' => ∃ (l : List Way) (dr : List D), (l.length : Int) + r.length = 1 + k ∧ acc = l.map wayD ∧ (∀ z ∈ l, WayOk goods z) ∧ μ' = mset μ n (.lst dr) ∧ DrawOk dr) (fun _ _ _ _ => trivial) ?_ ?_ _ _ _ ⟨[], dr1, by rw [range_len]; show (0 : Int) + _ = _; omega, rfl, (fun _ q => nomatch q), mset_mset, hdr1⟩
    · rintro d r acc μ' N hN ⟨l, dr2, hl, rfl, hn, rfl, hdr2⟩
      walk_at "y"
      refine ⟨n, span, goods, dr2, rfl, mset_same, hdr2, h0, h1, h2, h3, fun x dr3 hx hdr3 => ?_⟩
      refine hN _ _ ⟨l ++ [x], dr3, ?_, by simp, fun z hz => ?_, mset_mset, hdr3⟩
      · rw [← hl, List.length_append]
        simp only [List.length_cons, List.length_nil]
        omega
      · rcases List.mem_append.mp hz with q | q
        · exact hn z q
        · have e : z = x := by simpa using q
          rw [e]; exact hx
    · rintro acc μ' ⟨l, dr2, hl, rfl, hn, rfl, hdr2⟩
      have hl : (l.length : Int) = 1 + k := by simpa using hl
      walk_at "y"
      refine s_opq (tuple_of rfl (by rw [List.length_map, sizeLine_eq]; omega)) ?_
      walk_at "y"
      exact ⟨_, Sub.refl, h ⟨lo, hi, l⟩ dr2 ⟨e1, e2, e3, by show 1 ≤ l.length; omega, by show (l.length : Int) ≤ modes; omega, hn⟩ hdr2⟩
  walk_at "y"
  refine ⟨n, 4, dr, rfl, hm, hdr, by decide, by decide, fun k dr1 hk0 hk1 hdr1 => ?_⟩
  walk_at "y"
  refine ifD (fun e => ?_) (fun e => ?_)
  · walk_at "y"
    refine ⟨n, span, dr1, rfl, mset_same, hdr1, by omega, by omega, fun u dr2 hu0 hu1 hdr2 => ?_⟩
    walk_at "y"
    refine ⟨n, span - u, dr2, rfl, mset_same, hdr2, by omega, by omega, fun v dr3 hv0 hv1 hdr3 => ?_⟩
    walk_at "y"
    rw [mset_mset, mset_mset]
    exact go u (u + 1 + v) dr3 hu0 (by omega) (by omega) hdr3
  · walk_at "y"
    exact go 0 span dr1 (by decide) (by omega) (by omega) hdr1
structure TieOk (jobs : Int) (x : Tie) : Prop where
  kd : x.kind = 0 ∨ x.kind = 1
  o0 : 0 ≤ x.one
  o1 : x.one < jobs
  t0 : 0 ≤ x.other
  t1 : x.other < jobs
  ne : x.one ≠ x.other
  g0 : -20 ≤ x.gap
  g1 : x.gap ≤ 20
theorem turn_mod {a u j : Int} (h0 : 0 ≤ a) (h1 : a < j) (h2 : 0 ≤ u) (h3 : u < j - 1) : 0 ≤ (a + 1 + u) % j ∧ (a + 1 + u) % j < j ∧ a ≠ (a + 1 + u) % j := by
  refine ⟨Int.emod_nonneg _ (by omega), Int.emod_lt_of_pos _ (by omega), ?_⟩
  by_cases h : a + 1 + u < j
  · rw [Int.emod_eq_of_lt (by omega) h]; omega
  · have e : (a + 1 + u) % j = (a + 1 + u - j) % j := by rw [Int.sub_emod, Int.emod_self, Int.sub_zero, Int.emod_emod]
    rw [e, Int.emod_eq_of_lt (by omega) (by omega)]
    omega
def sp_link_L : DSp := fun ds μ Q _ => ∃ n jobs dr, ds = [.ptr n, .int jobs] ∧ μ n = some (.lst dr) ∧ DrawOk dr ∧ 2 ≤ jobs ∧ jobs ≤ 1000 ∧ ∀ x dr', TieOk jobs x → DrawOk dr' → Q (tieD x) (mset μ n (.lst dr'))
abbrev r_link_L_t0 : SD := (sSeq (sSet 4 (dOp ixD (dLst (dCons (dC (.int 0)) (dCons (dC (.int 0)) (dCons (dC (.int 0)) (dCons (dC (.int 1)) (dCons (dUn negD (dC (.int 1))) (dCons (dOp subD (dCall sp_pull_L [] (dCons (dVar 0) (dCons (dC (.int 7)) dNil))) (dC (.int 3))) (dCons (dOp subD (dCall sp_pull_L [] (dCons (dVar 0) (dCons (dC (.int 41)) dNil))) (dC (.int 20))) dNil)))))))) (dCall sp_pull_L [] (dCons (dVar 0) (dCons (dC (.int 7)) dNil))))) (sRet (dTup (dCons (dCall sp_pull_L [] (dCons (dVar 0) (dCons (dC (.int 2)) dNil))) (dCons (dVar 2) (dCons (dVar 3) (dCons (dVar 4) dNil)))))))
abbrev r_link_L_t1 : SD := (sSeq (sSet 3 (dOp modD (dOp addD (dOp addD (dVar 2) (dC (.int 1))) (dCall sp_pull_L [] (dCons (dVar 0) (dCons (dOp subD (dVar 1) (dC (.int 1))) dNil)))) (dVar 1))) r_link_L_t0)
def r_link_L : SD :=
  (sSeq (sSet 2 (dCall sp_pull_L [] (dCons (dVar 0) (dCons (dVar 1) dNil)))) r_link_L_t1)
def rest_link : SD :=
  (sRet (dTup (dCons (dCall sp_pull_L [] (dCons (dVar 0) (dCons (dC (.int 2)) dNil))) (dCons (dVar 2) (dCons (dVar 3) (dCons (dVar 4) dNil))))))
theorem rest_link_eq : r_link_L =
  (sSeq (sSet 2 (dCall sp_pull_L [] (dCons (dVar 0) (dCons (dVar 1) dNil))))
  (sSeq (sSet 3 (dOp modD (dOp addD (dOp addD (dVar 2) (dC (.int 1))) (dCall sp_pull_L [] (dCons (dVar 0) (dCons (dOp subD (dVar 1) (dC (.int 1))) dNil)))) (dVar 1)))
  (sSeq (sSet 4 (dOp ixD (dLst (dCons (dC (.int 0)) (dCons (dC (.int 0)) (dCons (dC (.int 0)) (dCons (dC (.int 1)) (dCons (dUn negD (dC (.int 1))) (dCons (dOp subD (dCall sp_pull_L [] (dCons (dVar 0) (dCons (dC (.int 7)) dNil))) (dC (.int 3))) (dCons (dOp subD (dCall sp_pull_L [] (dCons (dVar 0) (dCons (dC (.int 41)) dNil))) (dC (.int 20))) dNil)))))))) (dCall sp_pull_L [] (dCons (dVar 0) (dCons (dC (.int 7)) dNil)))))
  rest_link))) := rfl
set_option maxHeartbeats 1000000 in
theorem k_link_L : Keeps N_link_L P_link_L r_link_L sp_link_L := by
  rintro ds μ Q E ⟨n, jobs, dr, rfl, hm, hdr, h0, h1, h⟩
  refine ⟨rfl, ?_⟩
  rw [show startD N_link_L [D.ptr n, .int jobs] = [some (.ptr n), some (.int jobs), none, none, none] from rfl]
  rw [rest_link_eq]
  walk_at "y"
  refine ⟨n, jobs, dr, rfl, hm, hdr, by omega, by omega, fun a dr1 ha0 ha1 hdr1 => ?_⟩
  walk_at "y"
  refine ⟨n, jobs - 1, dr1, rfl, mset_same, hdr1, by omega, by omega, fun u dr2 hu0 hu1 hdr2 => ?_⟩
  obtain ⟨m0, m1, m2⟩ := turn_mod ha0 ha1 hu0 hu1
  walk_at "y"
  refine ⟨n, 7, dr2, rfl, mset_same, hdr2, by decide, by decide, fun p dr3 hp0 hp1 hdr3 => ?_⟩
  walk_at "y"
  refine ⟨n, 41, dr3, rfl, mset_same, hdr3, by decide, by decide, fun q dr4 hq0 hq1 hdr4 => ?_⟩
  walk_at "y"
  refine ⟨n, 7, dr4, rfl, mset_same, hdr4, by decide, by decide, fun v dr5 hv0 hv1 hdr5 => ?_⟩
  have go : ∀ (gap : Int), -20 ≤ gap → gap ≤ 20 → rest_link (bodyEnds Q E) [some (.ptr n), some (.int jobs), some (.int a), some (.int ((a + 1 + u) % jobs)), some (.int gap)] (mset (mset (mset (mset (mset μ n (.lst dr1)) n (.lst dr2)) n (.lst dr3)) n (.lst dr4)) n (.lst dr5)) := fun gap g0 g1 => by
    unfold rest_link
    walk_at "y"
    refine ⟨n, 2, dr5, rfl, mset_same, hdr5, by decide, by decide, fun k dr6 hk0 hk1 hdr6 => ?_⟩
    walk_at "y"
    rw [mset_mset, mset_mset, mset_mset, mset_mset, mset_mset]
    exact ⟨_, Sub.refl, h ⟨k, a, (a + 1 + u) % jobs, gap⟩ dr6 ⟨by show k = 0 ∨ k = 1; omega, ha0, ha1, m0, m1, m2, g0, g1⟩ hdr6⟩
  have hv : v = 0 ∨ v = 1 ∨ v = 2 ∨ v = 3 ∨ v = 4 ∨ v = 5 ∨ v = 6 := by omega
  rcases hv with rfl | rfl | rfl | rfl | rfl | rfl | rfl
  · walk_at "y"
    exact go _ (by omega) (by omega)
  · walk_at "y"
    exact go _ (by omega) (by omega)
  · walk_at "y"
    exact go _ (by omega) (by omega)
  · walk_at "y"
    exact go _ (by omega) (by omega)
  · walk_at "y"
    exact go _ (by omega) (by omega)
  · walk_at "y"
    exact go _ (by omega) (by omega)
  · walk_at "y"
    exact go _ (by omega) (by omega)
/-- a yard as the law draws it -/
structure NetOk (sm jm md gm lm : Int) (y : Yard) : Prop where
  d0 : 1 ≤ y.days
  d1 : y.days ≤ sm
  sh : Rise (-1) y.days y.shut
  gl : (y.stuffs.length : Int) ≤ gm
  gs : ∀ r ∈ y.stuffs, (r.length : Int) = y.days ∧ Nines r
  jl : (y.works.length : Int) ≤ jm
  js : ∀ x ∈ y.works, WorkOk y.days (y.stuffs.length : Int) md x
  tl : (y.ties.length : Int) ≤ lm
  ts : ∀ t ∈ y.ties, TieOk (y.works.length : Int) t
def sp_net_L : DSp := fun ds μ Q _ => ∃ n sm jm md gm lm dr, ds = [.ptr n, .int sm, .int jm, .int md, .int gm, .int lm] ∧ μ n = some (.lst dr) ∧ DrawOk dr ∧ 1 ≤ sm ∧ sm ≤ 20 ∧ 0 ≤ jm ∧ jm ≤ 6 ∧ 1 ≤ md ∧ md ≤ 3 ∧ 0 ≤ gm ∧ gm ≤ 3 ∧ 0 ≤ lm ∧ lm ≤ 12 ∧
  ∀ y dr', NetOk sm jm md gm lm y → DrawOk dr' → Q (yardD y) (mset μ n (.lst dr'))
abbrev r_net_L_t0 : SD := (sSeq (sIf (dTest (dOp gtD (dVar 9) (dC (.int 1)))) (sSet 11 (dCal tupleD (dCons (dLc (dRange1 (dCall sp_pull_L [] (dCons (dVar 0) (dCons (dOp addD (dVar 5) (dC (.int 1))) dNil)))) (nNm 12) dYes (dCall sp_link_L [] (dCons (dVar 0) (dCons (dVar 9) dNil))) [12]) dNil))) sNext) (sRet (dTup (dCons (dVar 6) (dCons (dVar 7) (dCons (dVar 8) (dCons (dVar 10) (dCons (dVar 11) dNil))))))))
abbrev r_net_L_t1 : SD := (sSeq (sSet 11 (dTup dNil)) r_net_L_t0)
abbrev r_net_L_t2 : SD := (sSeq (sSet 10 (dCal tupleD (dCons (dLc (dRange1 (dVar 9)) (nNm 12) dYes (dCall sp_job_L [] (dCons (dVar 0) (dCons (dVar 6) (dCons (dCal lenD (dCons (dVar 8) dNil)) (dCons (dVar 3) dNil))))) [12]) dNil))) r_net_L_t1)
abbrev r_net_L_t3 : SD := (sSeq (sSet 9 (dCall sp_pull_L [] (dCons (dVar 0) (dCons (dOp addD (dVar 2) (dC (.int 1))) dNil)))) r_net_L_t2)
abbrev r_net_L_t4 : SD := (sSeq (sSet 8 (dCal tupleD (dCons (dLc (dRange1 (dCall sp_pull_L [] (dCons (dVar 0) (dCons (dOp addD (dVar 4) (dC (.int 1))) dNil)))) (nNm 12) dYes (dCall sp_good_row_L [] (dCons (dVar 0) (dCons (dVar 6) dNil))) [12]) dNil))) r_net_L_t3)
abbrev r_net_L_t5 : SD := (sSeq (sSet 7 (dCall sp_closed_L [] (dCons (dVar 0) (dCons (dVar 6) dNil)))) r_net_L_t4)
def r_net_L : SD :=
  (sSeq (sSet 6 (dOp addD (dC (.int 1)) (dCall sp_pull_L [] (dCons (dVar 0) (dCons (dVar 1) dNil))))) r_net_L_t5)
def rest_net : SD :=
  (sSeq (sIf (dTest (dOp gtD (dVar 9) (dC (.int 1)))) (sSet 11 (dCal tupleD (dCons (dLc (dRange1 (dCall sp_pull_L [] (dCons (dVar 0) (dCons (dOp addD (dVar 5) (dC (.int 1))) dNil)))) (nNm 12) dYes (dCall sp_link_L [] (dCons (dVar 0) (dCons (dVar 9) dNil))) [12]) dNil))) sNext)
  (sRet (dTup (dCons (dVar 6) (dCons (dVar 7) (dCons (dVar 8) (dCons (dVar 10) (dCons (dVar 11) dNil))))))))
theorem rest_net_eq : r_net_L =
  (sSeq (sSet 6 (dOp addD (dC (.int 1)) (dCall sp_pull_L [] (dCons (dVar 0) (dCons (dVar 1) dNil)))))
  (sSeq (sSet 7 (dCall sp_closed_L [] (dCons (dVar 0) (dCons (dVar 6) dNil))))
  (sSeq (sSet 8 (dCal tupleD (dCons (dLc (dRange1 (dCall sp_pull_L [] (dCons (dVar 0) (dCons (dOp addD (dVar 4) (dC (.int 1))) dNil)))) (nNm 12) dYes (dCall sp_good_row_L [] (dCons (dVar 0) (dCons (dVar 6) dNil))) [12]) dNil)))
  (sSeq (sSet 9 (dCall sp_pull_L [] (dCons (dVar 0) (dCons (dOp addD (dVar 2) (dC (.int 1))) dNil))))
  (sSeq (sSet 10 (dCal tupleD (dCons (dLc (dRange1 (dVar 9)) (nNm 12) dYes (dCall sp_job_L [] (dCons (dVar 0) (dCons (dVar 6) (dCons (dCal lenD (dCons (dVar 8) dNil)) (dCons (dVar 3) dNil))))) [12]) dNil)))
  (sSeq (sSet 11 (dTup dNil))
  rest_net)))))) := rfl
theorem mem_snoc {α : Type} {P : α → Prop} {l : List α} {x : α} (h : ∀ z ∈ l, P z) (hx : P x) : ∀ z ∈ l ++ [x], P z := fun z hz => by
  rcases List.mem_append.mp hz with q | q
  · exact h z q
  · have e : z = x := by simpa using q
    rw [e]; exact hx
theorem len_snoc {α : Type} {l : List α} {x : α} {r : List D} {d : D} {k : Int} (h : (l.length : Int) + (d :: r).length = k) : ((l ++ [x]).length : Int) + r.length = k := by
  rw [← h, List.length_append]
  simp only [List.length_cons, List.length_nil]
  omega
theorem len_start {α : Type} {n : Int} (h : 0 ≤ n) : (([] : List α).length : Int) + (rangeD 0 n.toNat).length = n := by
  rw [range_len]
  show (0 : Int) + _ = _
  omega
set_option maxHeartbeats 1000000 in
theorem k_net_L : Keeps N_net_L P_net_L r_net_L sp_net_L := by
  rintro ds μ Q E ⟨n, sm, jm, md, gm, lm, dr, rfl, hm, hdr, s0, s1, j0, j1, m0, m1, g0, g1, l0, l1, h⟩
  refine ⟨rfl, ?_⟩
  rw [show startD N_net_L [D.ptr n, .int sm, .int jm, .int md, .int gm, .int lm] = [some (.ptr n), some (.int sm), some (.int jm), some (.int md), some (.int gm), some (.int lm), none, none, none, none, none, none, none] from rfl]
  rw [rest_net_eq]
  walk_at "y"
  refine ⟨n, sm, dr, rfl, hm, hdr, by omega, by omega, fun k dr1 hk0 hk1 hdr1 => ?_⟩
  walk_at "y"
  refine ⟨n, 1 + k, dr1, rfl, mset_same, hdr1, by omega, by omega, fun sh dr2 hsh hdr2 => ?_⟩
  walk_at "y"
  refine ⟨n, gm + 1, dr2, rfl, mset_same, hdr2, by omega, by omega, fun gc dr3 hg0 hg1 hdr3 => ?_⟩
  walk_at "y"
  refine ⟨near_b62 ⟨by omega, by omega⟩, by rw [range_len, sizeLine_eq]; omega, ?_⟩
  refine lc_ind (fun r acc μ' => ∃ (l : List (List Int)) (dr : List D), (l.length : Int) + r.length = gc ∧ acc = l.map intsT ∧ (∀ z ∈ l, (z.length : Int) = 1 + k ∧ Nines z) ∧ μ' = mset μ n (.lst dr) ∧ DrawOk dr) (fun _ _ _ _ => trivial) ?_ ?_ _ _ _ ⟨[], dr3, len_start hg0, rfl, (fun _ q => nomatch q), by rw [mset_mset, mset_mset], hdr3⟩
  · rintro d r acc μ' N hN ⟨l, dr4, hl, rfl, hn, rfl, hdr4⟩
    walk_at "y"
    refine ⟨n, 1 + k, dr4, rfl, mset_same, hdr4, by omega, by omega, fun x dr5 hx1 hx2 hdr5 => ?_⟩
    exact hN _ _ ⟨l ++ [x], dr5, len_snoc hl, by simp, mem_snoc hn ⟨hx1, hx2⟩, mset_mset, hdr5⟩
  rintro acc μ' ⟨gs, dr4, hgl, rfl, hgs, rfl, hdr4⟩
  have hgl : (gs.length : Int) = gc := by simpa using hgl
  walk_at "y"
  refine s_opq (tuple_of rfl (by rw [List.length_map, sizeLine_eq]; omega)) ?_
  walk_at "y"
  refine ⟨n, jm + 1, dr4, rfl, mset_same, hdr4, by omega, by omega, fun jc dr5 hj0 hj1 hdr5 => ?_⟩
  walk_at "y"
  refine ⟨near_b62 ⟨by omega, by omega⟩, by rw [range_len, sizeLine_eq]; omega, ?_⟩
  refine lc_ind (fun r acc μ' => ∃ (l : List Work) (dr : List D), (l.length : Int) + r.length = jc ∧ acc = l.map workD ∧ (∀ z ∈ l, WorkOk (1 + k) (gs.length : Int) md z) ∧ μ' = mset μ n (.lst dr) ∧ DrawOk dr) (fun _ _ _ _ => trivial) ?_ ?_ _ _ _ ⟨[], dr5, len_start hj0, rfl, (fun _ q => nomatch q), mset_mset, hdr5⟩
  · rintro d r acc μ' N hN ⟨l, dr6, hl, rfl, hn, rfl, hdr6⟩
    walk_at "y"
    rw [List.length_map]
    refine ⟨n, 1 + k, _, md, dr6, rfl, mset_same, hdr6, by omega, by omega, by omega, by omega, m0, by omega, fun x dr7 hx hdr7 => ?_⟩
    exact hN _ _ ⟨l ++ [x], dr7, len_snoc hl, by simp, mem_snoc hn hx, mset_mset, hdr7⟩
  rintro acc μ' ⟨js, dr6, hjl, rfl, hjs, rfl, hdr6⟩
  have hjl : (js.length : Int) = jc := by simpa using hjl
  walk_at "y"
  refine s_opq (tuple_of rfl (by rw [List.length_map, sizeLine_eq]; omega)) ?_
  walk_at "y"
  have go : ∀ (ts : List Tie) (dr : List D) (a12 : Option D), (ts.length : Int) ≤ lm → (∀ t ∈ ts, TieOk (js.length : Int) t) → DrawOk dr → Q (.tup [.int (1 + k), intsT sh, .tup (gs.map intsT), .tup (js.map workD), .tup (ts.map tieD)]) (mset μ n (.lst dr)) := fun ts dr a12 h1 h2 hdr => by
    refine h ⟨1 + k, sh, gs, js, ts⟩ dr ⟨?_, ?_, hsh, ?_, hgs, ?_, hjs, h1, h2⟩ hdr
    · show 1 ≤ 1 + k
      omega
    · show 1 + k ≤ sm
      omega
    · show (gs.length : Int) ≤ gm
      omega
    · show (js.length : Int) ≤ jm
      omega
  unfold rest_net
  walk_at "y"
  refine ifD (fun e => ?_) (fun e => ?_)
  · walk_at "y"
    refine ⟨n, lm + 1, dr6, rfl, mset_same, hdr6, by omega, by omega, fun tc dr7 ht0 ht1 hdr7 => ?_⟩
    walk_at "y"
    refine ⟨near_b62 ⟨by omega, by omega⟩, by rw [range_len, sizeLine_eq]; omega, ?_⟩
    refine lc_ind (fun r acc μ' => ∃ (l : List Tie) (dr : List D), (l.length : Int) + r.length = tc ∧ acc = l.map tieD ∧ (∀ z ∈ l, TieOk (js.length : Int) z) ∧ μ' = mset μ n (.lst dr) ∧ DrawOk dr) (fun _ _ _ _ => trivial) ?_ ?_ _ _ _ ⟨[], dr7, len_start ht0, rfl, (fun _ q => nomatch q), mset_mset, hdr7⟩
    · rintro d r acc μ' N hN ⟨l, dr8, hl, rfl, hn, rfl, hdr8⟩
      walk_at "y"
      refine ⟨n, jc, dr8, rfl, mset_same, hdr8, by omega, by omega, fun x dr9 hx hdr9 => ?_⟩
      rw [← hjl] at hx
      exact hN _ _ ⟨l ++ [x], dr9, len_snoc hl, by simp, mem_snoc hn hx, mset_mset, hdr9⟩
    rintro acc μ' ⟨ts, dr8, htl, rfl, hts, rfl, hdr8⟩
    have htl : (ts.length : Int) = tc := by simpa using htl
    walk_at "y"
    refine s_opq (tuple_of rfl (by rw [List.length_map, sizeLine_eq]; omega)) ?_
    walk_at "y"
    exact ⟨_, Sub.refl, go ts dr8 none (by omega) hts hdr8⟩
  · walk_at "y"
    exact ⟨_, Sub.refl, go [] dr6 none (by show (0 : Int) ≤ lm; omega) (fun _ q => nomatch q) hdr6⟩
theorem firstW_none {α : Type} {most : Nat} {ok : α → Bool} : ∀ (l : List α) (i : Nat), i + l.length ≤ most → (∀ x ∈ l, ok x = true) → firstW most ok i l = none
  | [], _, _, _ => rfl
  | x :: r, i, h, h2 => by
    simp only [List.length_cons] at h
    rw [firstW, if_pos ⟨by omega, h2 x (by simp)⟩]
    exact firstW_none r (i + 1) (by omega) fun z hz => h2 z (by simp [hz])
theorem NetOk.wrong {sm jm md gm lm : Int} {y : Yard} (h : NetOk sm jm md gm lm y) (s1 : sm ≤ 20) (j1 : jm ≤ 6) (m1 : md ≤ 3) (g1 : gm ≤ 3) (l1 : lm ≤ 12) : wrongOf y = none := by
  have a1 := h.d0
  have a2 := h.d1
  have a3 := h.gl
  have a4 := h.jl
  have a5 := h.tl
  unfold wrongOf
  rw [if_pos (betw_of a1 (by omega)), shutW_of _ _ _ _ h.sh, firstW_none (most := 3) _ 0 (by omega), firstW_none (most := 6) _ 0 (by omega), firstW_none (most := 12) _ 0 (by omega)]
  · intro t ht
    have q := h.ts t ht
    unfold tieB
    have k : t.kind ∈ [0, 1] := by simpa using q.kd
    rw [decide_eq_true k, decide_eq_true q.o0, decide_eq_true q.o1, decide_eq_true q.t0, decide_eq_true q.t1, decide_eq_false q.ne, betw_of q.g0 q.g1]
    rfl
  · intro x hx
    have q := h.js x hx
    have q1 := q.w1
    have q0 := q.w0
    unfold workB
    rw [decide_eq_true q.l0, decide_eq_true q.lh, decide_eq_true q.h1, betw_of (by omega) (by omega), List.all_eq_true.mpr fun z hz => (q.ws z hz).wayB]
    rfl
  · intro r hr
    have q := h.gs r hr
    unfold stuffB
    rw [decide_eq_true q.1, q.2.all]
    rfl
theorem NetOk.small {sm jm md gm lm : Int} {y : Yard} (h : NetOk sm jm md gm lm y) (s1 : sm ≤ 1000) (m1 : md ≤ 1000) (g1 : gm ≤ 1000) : Small y := by
  have a2 := h.d1
  have a3 := h.gl
  refine ⟨fun r hr => ?_, fun x hx => ?_, fun x hx z hz => ?_⟩
  · have := (h.gs r hr).1
    rw [sizeLine_eq]
    omega
  · have := (h.js x hx).w1
    rw [sizeLine_eq]
    omega
  · have := ((h.js x hx).ws z hz).nl
    rw [sizeLine_eq]
    omega
end Z
namespace Z
open PySem PySem.Spec PyProof.Rows L2 Y
local macro_rules | `(tactic| walk_at "y0") => `(tactic| first | with_reducible refine Step.go ?_ | ((with_reducible refine' s_var (s_opq ?h1 ?_)); (case h1 => rfl)) | ((with_reducible refine IxG.go ?_); first | ((with_reducible refine' s_ixP ?h1 ?h2 ?_); (case h1 => first | exact mset_same | (with_reducible assumption)); (case h2 => first | rfl | (with_reducible assumption))) | ((with_reducible refine' s_ixT ?h2 ?_); (case h2 => first | rfl | (with_reducible assumption))) | ((with_reducible refine' s_ixL ?h2 ?_); (case h2 => first | rfl | (with_reducible assumption)))) | ((with_reducible refine LenG.go ?_); ((with_reducible refine' s_lenP ?h1 ?_); (case h1 => first | exact mset_same | (with_reducible assumption)))) | ((with_reducible refine SeqG.go ?_); first | ((with_reducible refine' s_seqP ?h1 ?_); (case h1 => first | exact mset_same | (with_reducible assumption))) | ((with_reducible refine' s_cell ?h1 ?_); (case h1 => first | exact mset_same | (with_reducible assumption)))) | ((with_reducible refine ArG.go ?_); first | ((with_reducible refine' s_mulR ?h1 ?_); (case h1 => omega)) | ((with_reducible refine' s_mulL ?h1 ?_); (case h1 => omega)) | ((with_reducible refine' s_mod ?h1 ?_); (case h1 => omega)) | ((with_reducible refine' s_fdiv ?h1 ?h2 ?_); (case h1 => omega); (case h2 => omega)) | ((with_reducible refine' s_pow ?h1 ?_); (case h1 => decide))) | ((with_reducible refine AndG.go ?_); first | ((with_reducible refine' s_len ?h1 ?_); (case h1 => rfl)) | ((with_reducible refine' s_lenE ?h1 ?_); (case h1 => rfl))) | ((with_reducible refine IsiG.go ?_); first | ((with_reducible refine' s_isi (b := true) ?h1 ?h2 ?h3 ?_); (case h1 => first | rfl | (with_reducible exact ty_ptr mset_same) | (with_reducible exact ty_ptr (by assumption))); (case h2 => first | exact isi_int rfl | exact isi_bool rfl | exact isi_str rfl | exact isi_tuple rfl | exact isi_list rfl | exact isi_int (ty_ptr (by assumption)) | exact isi_bool (ty_ptr (by assumption)) | exact isi_str (ty_ptr (by assumption)) | exact isi_tuple (ty_ptr (by assumption)) | exact isi_list (ty_ptr (by assumption))); (case h3 => rfl)) | ((with_reducible refine' s_isi (b := false) ?h1 ?h2 ?h3 ?_); (case h1 => first | rfl | (with_reducible exact ty_ptr mset_same) | (with_reducible exact ty_ptr (by assumption))); (case h2 => first | exact isi_int rfl | exact isi_bool rfl | exact isi_str rfl | exact isi_tuple rfl | exact isi_list rfl | exact isi_int (ty_ptr (by assumption)) | exact isi_bool (ty_ptr (by assumption)) | exact isi_str (ty_ptr (by assumption)) | exact isi_tuple (ty_ptr (by assumption)) | exact isi_list (ty_ptr (by assumption))); (case h3 => rfl))) | ((with_reducible refine IfG.go ?_); first | ((with_reducible refine' s_nonF ?h1 ?_); (case h1 => rfl)) | ((with_reducible refine' s_nonT ?h1 ?_); (case h1 => rfl)) | ((with_reducible refine' s_notNonF ?h1 ?_); (case h1 => rfl)) | ((with_reducible refine' s_notNonT ?h1 ?_); (case h1 => rfl))) | ((with_reducible refine NatG.go ?_); ((with_reducible refine' s_ixN ?h1 ?_); (case h1 => first | rfl | (with_reducible assumption)))))
local macro_rules | `(tactic| walk_at "y1") => `(tactic| first | walk_at "y0" | dsimp only)
local macro_rules | `(tactic| walk_at "y") => `(tactic| repeat walk_at "y1")
section
variable {μ : Mu} {y : Yard} {x : Work} {z : Way} {K : D → Prop}
instance : StepX (opQ (ixD μ (yardD y) (.int 0)) K) (K (.int y.days)) := ⟨fun h => h⟩
instance : StepX (opQ (ixD μ (yardD y) (.int 1)) K) (K (.tup (y.shut.map .int))) := ⟨fun h => h⟩
instance : StepX (opQ (ixD μ (yardD y) (.int 2)) K) (K (.tup (y.stuffs.map intsT))) := ⟨fun h => h⟩
instance : StepX (opQ (ixD μ (yardD y) (.int 3)) K) (K (.tup (y.works.map workD))) := ⟨fun h => h⟩
instance : StepX (opQ (ixD μ (yardD y) (.int 4)) K) (K (.tup (y.ties.map tieD))) := ⟨fun h => h⟩
instance : StepX (opQ (ixD μ (workD x) (.int 0)) K) (K (.int x.low)) := ⟨fun h => h⟩
instance : StepX (opQ (ixD μ (workD x) (.int 1)) K) (K (.int x.high)) := ⟨fun h => h⟩
instance : StepX (opQ (ixD μ (workD x) (.int 2)) K) (K (.tup (x.ways.map wayD))) := ⟨fun h => h⟩
instance : StepX (opQ (ixD μ (wayD z) (.int 0)) K) (K (.int z.long)) := ⟨fun h => h⟩
instance : StepX (opQ (ixD μ (wayD z) (.int 1)) K) (K (.int z.rests)) := ⟨fun h => h⟩
instance : StepX (opQ (ixD μ (wayD z) (.int 2)) K) (K (.tup (z.needs.map .int))) := ⟨fun h => h⟩
end
/-- the days, as a new list -/
def newL (μ : Mu) (Q : QD) : Option (List Int) → Prop
  | none => Q .non μ
  | some l => ∀ m, μ m = none → Q (.ptr m) (mset μ m (.lst (l.map .int)))
theorem dates_new {ds : List D} {μ : Mu} {Q : QD} {E : XQ} (h : ∃ y i j b z, ds = [yardD y, .int i, .int j, .int b] ∧ wayAt y i j z ∧ 0 ≤ z.long ∧ z.long ≤ 1000 ∧ (z.rests = 0 ∨ z.rests = 1) ∧ newL μ Q (daysL y.days y.shut z b)) : sp_dates_L ds μ Q E := by
  obtain ⟨y, i, j, b, z, h1, h2, h3, h4, h5, h6⟩ := h
  refine ⟨y, i, j, b, z, h1, h2, h3, h4, h5, ?_⟩
  cases e : daysL y.days y.shut z b with
  | none => rw [e] at h6; exact h6
  | some l => rw [e] at h6; exact h6
theorem daysL_len {days : Int} {shut : List Int} {z : Way} {b : Int} {l : List Int} (h : daysL days shut z b = some l) : (l.length : Int) = z.long := by
  unfold daysL at h
  split at h
  · cases h
  · split at h
    · rename_i e
      cases h
      exact e
    · cases h
theorem ne_cell {μ : Mu} {a b : Nat} {o : MO} (h : μ a = some o) (h' : μ b = none) : a ≠ b := fun e => by rw [e, h'] at h; cases h
/-- a way of a drawn yard, by its numbers -/
theorem NetOk.at {sm jm md gm lm : Int} {y : Yard} (h : NetOk sm jm md gm lm y) {i j : Nat} (hi : i < y.works.length) (hj : j < (y.works[i]).ways.length) : wayAt y i j ((y.works[i]).ways[j]) ∧ WayOk (y.stuffs.length : Int) ((y.works[i]).ways[j]) := by
  refine ⟨⟨Int.natCast_nonneg _, Int.natCast_nonneg _, y.works[i], ?_, ?_⟩, (h.js _ (List.getElem_mem hi)).ws _ (List.getElem_mem hj)⟩
  · rw [Int.toNat_natCast]; exact List.getElem?_eq_getElem hi
  · rw [Int.toNat_natCast]; exact List.getElem?_eq_getElem hj
end Z
namespace Z
open PySem PySem.Spec PyProof.Rows L2 Y
local macro_rules | `(tactic| walk_at "y0") => `(tactic| first | with_reducible refine Step.go ?_ | ((with_reducible refine' s_var (s_opq ?h1 ?_)); (case h1 => rfl)) | ((with_reducible refine IxG.go ?_); first | ((with_reducible refine' s_ixP ?h1 ?h2 ?_); (case h1 => first | exact mset_same | (with_reducible assumption)); (case h2 => first | rfl | (with_reducible assumption))) | ((with_reducible refine' s_ixT ?h2 ?_); (case h2 => first | rfl | (with_reducible assumption))) | ((with_reducible refine' s_ixL ?h2 ?_); (case h2 => first | rfl | (with_reducible assumption)))) | ((with_reducible refine LenG.go ?_); ((with_reducible refine' s_lenP ?h1 ?_); (case h1 => first | exact mset_same | (with_reducible assumption)))) | ((with_reducible refine SeqG.go ?_); first | ((with_reducible refine' s_seqP ?h1 ?_); (case h1 => first | exact mset_same | (with_reducible assumption))) | ((with_reducible refine' s_cell ?h1 ?_); (case h1 => first | exact mset_same | (with_reducible assumption)))) | ((with_reducible refine ArG.go ?_); first | ((with_reducible refine' s_mulR ?h1 ?_); (case h1 => omega)) | ((with_reducible refine' s_mulL ?h1 ?_); (case h1 => omega)) | ((with_reducible refine' s_mod ?h1 ?_); (case h1 => omega)) | ((with_reducible refine' s_fdiv ?h1 ?h2 ?_); (case h1 => omega); (case h2 => omega)) | ((with_reducible refine' s_pow ?h1 ?_); (case h1 => decide))) | ((with_reducible refine AndG.go ?_); first | ((with_reducible refine' s_len ?h1 ?_); (case h1 => rfl)) | ((with_reducible refine' s_lenE ?h1 ?_); (case h1 => rfl))) | ((with_reducible refine IsiG.go ?_); first | ((with_reducible refine' s_isi (b := true) ?h1 ?h2 ?h3 ?_); (case h1 => first | rfl | (with_reducible exact ty_ptr mset_same) | (with_reducible exact ty_ptr (by assumption))); (case h2 => first | exact isi_int rfl | exact isi_bool rfl | exact isi_str rfl | exact isi_tuple rfl | exact isi_list rfl | exact isi_int (ty_ptr (by assumption)) | exact isi_bool (ty_ptr (by assumption)) | exact isi_str (ty_ptr (by assumption)) | exact isi_tuple (ty_ptr (by assumption)) | exact isi_list (ty_ptr (by assumption))); (case h3 => rfl)) | ((with_reducible refine' s_isi (b := false) ?h1 ?h2 ?h3 ?_); (case h1 => first | rfl | (with_reducible exact ty_ptr mset_same) | (with_reducible exact ty_ptr (by assumption))); (case h2 => first | exact isi_int rfl | exact isi_bool rfl | exact isi_str rfl | exact isi_tuple rfl | exact isi_list rfl | exact isi_int (ty_ptr (by assumption)) | exact isi_bool (ty_ptr (by assumption)) | exact isi_str (ty_ptr (by assumption)) | exact isi_tuple (ty_ptr (by assumption)) | exact isi_list (ty_ptr (by assumption))); (case h3 => rfl))) | ((with_reducible refine IfG.go ?_); first | ((with_reducible refine' s_nonF ?h1 ?_); (case h1 => rfl)) | ((with_reducible refine' s_nonT ?h1 ?_); (case h1 => rfl)) | ((with_reducible refine' s_notNonF ?h1 ?_); (case h1 => rfl)) | ((with_reducible refine' s_notNonT ?h1 ?_); (case h1 => rfl))) | ((with_reducible refine NatG.go ?_); ((with_reducible refine' s_ixN ?h1 ?_); (case h1 => first | rfl | (with_reducible assumption)))))
local macro_rules | `(tactic| walk_at "y1") => `(tactic| first | walk_at "y0" | dsimp only)
local macro_rules | `(tactic| walk_at "y") => `(tactic| repeat walk_at "y1")
local macro_rules | `(tactic| walk_at "yy1") => `(tactic| first | walk_at "y0" | with_reducible refine StepX.go ?_ | dsimp only)
local macro_rules | `(tactic| walk_at "yy") => `(tactic| repeat walk_at "yy1")
def fl (days : Int) (shut : List Int) (rests b : Int) : List Int := (iota b (days - b).toNat).filter (wkB rests shut)
theorem daysL_some {days : Int} {shut : List Int} {z : Way} {b : Int} {l : List Int} (h : daysL days shut z b = some l) : l = (fl days shut z.rests b).take z.long.toNat ∧ (l.length : Int) = z.long := by
  refine ⟨?_, daysL_len h⟩
  unfold daysL at h
  split at h
  · cases h
  · split at h
    · cases h; rfl
    · cases h
def lastI (l : List Int) : Int := l.getLastD 0
theorem mem_last {l : List Int} (h : l ≠ []) : lastI l ∈ l := by
  unfold lastI
  cases e : l.getLast? with
  | none => rw [List.getLast?_eq_none_iff] at e; exact absurd e h
  | some x =>
    rw [List.getLastD_eq_getLast?, e]
    exact List.mem_of_getLast? e
theorem daysL_last {days : Int} {shut : List Int} {z : Way} {b : Int} {l : List Int} (hz : 1 ≤ z.long) (h : daysL days shut z b = some l) : b ≤ lastI l ∧ lastI l < days ∧ l ≠ [] := by
  obtain ⟨e1, n1⟩ := daysL_some h
  have ne : l ≠ [] := fun e => by
    rw [e] at n1
    simp at n1
    omega
  have m0 : ∀ x ∈ l, x ∈ fl days shut z.rests b := fun x hx => by rw [e1] at hx; exact List.mem_of_mem_take hx
  have m := mem_ints.mp (List.mem_filter.mp (m0 _ (mem_last ne))).1
  have : (0 : Int) ≤ ((days - b).toNat : Int) := by omega
  refine ⟨m.1, ?_, ne⟩
  by_cases hd : b < days
  · omega
  · omega
def optI : Option Int → D
  | none => .non
  | some i => .int i
theorem s_last {μ : Mu} {d : D} {l : List Int} {K : D → Prop} (e : asQ μ d = some (l.map .int)) (h : l ≠ []) (k : K (.int (lastI l))) : opQ (ixD μ d (.int (-1))) K := by
  have ea : atI (l.map D.int) (-1) = some (.int (lastI l)) := by
    have hl : 0 < l.length := List.length_pos_iff.mpr h
    unfold atI ixN
    rw [if_neg (by decide), if_pos (by rw [List.length_map]; omega)]
    show (l.map D.int)[(-1 + ((l.map D.int).length : Int)).toNat]? = _
    rw [List.length_map, List.getElem?_map, show (-1 + (l.length : Int)).toNat = l.length - 1 by omega, ← List.getLast?_eq_getElem?]
    unfold lastI
    rw [List.getLastD_eq_getLast?]
    cases e : l.getLast? with
    | none => rw [List.getLast?_eq_none_iff] at e; exact absurd e h
    | some x => rfl
  have e2 : ixD μ d (.int (-1)) = some (.int (lastI l)) := by
    cases d <;> first | (cases e; done) | (cases e; exact ea) | (show (asQ μ (.ptr _)).bind _ = _; rw [e]; exact ea) | (have e := Option.some.inj e; show atI _ (-1) = _; rw [e]; exact ea)
  rw [e2]; exact k
end Z
namespace Z
open PySem PySem.Spec PyProof.Rows L2 Y
local macro_rules | `(tactic| walk_at "y0") => `(tactic| first | with_reducible refine Step.go ?_ | ((with_reducible refine' s_var (s_opq ?h1 ?_)); (case h1 => rfl)) | ((with_reducible refine IxG.go ?_); first | ((with_reducible refine' s_ixP ?h1 ?h2 ?_); (case h1 => first | exact mset_same | (with_reducible assumption)); (case h2 => first | rfl | (with_reducible assumption))) | ((with_reducible refine' s_ixT ?h2 ?_); (case h2 => first | rfl | (with_reducible assumption))) | ((with_reducible refine' s_ixL ?h2 ?_); (case h2 => first | rfl | (with_reducible assumption)))) | ((with_reducible refine LenG.go ?_); ((with_reducible refine' s_lenP ?h1 ?_); (case h1 => first | exact mset_same | (with_reducible assumption)))) | ((with_reducible refine SeqG.go ?_); first | ((with_reducible refine' s_seqP ?h1 ?_); (case h1 => first | exact mset_same | (with_reducible assumption))) | ((with_reducible refine' s_cell ?h1 ?_); (case h1 => first | exact mset_same | (with_reducible assumption)))) | ((with_reducible refine ArG.go ?_); first | ((with_reducible refine' s_mulR ?h1 ?_); (case h1 => omega)) | ((with_reducible refine' s_mulL ?h1 ?_); (case h1 => omega)) | ((with_reducible refine' s_mod ?h1 ?_); (case h1 => omega)) | ((with_reducible refine' s_fdiv ?h1 ?h2 ?_); (case h1 => omega); (case h2 => omega)) | ((with_reducible refine' s_pow ?h1 ?_); (case h1 => decide))) | ((with_reducible refine AndG.go ?_); first | ((with_reducible refine' s_len ?h1 ?_); (case h1 => rfl)) | ((with_reducible refine' s_lenE ?h1 ?_); (case h1 => rfl))) | ((with_reducible refine IsiG.go ?_); first | ((with_reducible refine' s_isi (b := true) ?h1 ?h2 ?h3 ?_); (case h1 => first | rfl | (with_reducible exact ty_ptr mset_same) | (with_reducible exact ty_ptr (by assumption))); (case h2 => first | exact isi_int rfl | exact isi_bool rfl | exact isi_str rfl | exact isi_tuple rfl | exact isi_list rfl | exact isi_int (ty_ptr (by assumption)) | exact isi_bool (ty_ptr (by assumption)) | exact isi_str (ty_ptr (by assumption)) | exact isi_tuple (ty_ptr (by assumption)) | exact isi_list (ty_ptr (by assumption))); (case h3 => rfl)) | ((with_reducible refine' s_isi (b := false) ?h1 ?h2 ?h3 ?_); (case h1 => first | rfl | (with_reducible exact ty_ptr mset_same) | (with_reducible exact ty_ptr (by assumption))); (case h2 => first | exact isi_int rfl | exact isi_bool rfl | exact isi_str rfl | exact isi_tuple rfl | exact isi_list rfl | exact isi_int (ty_ptr (by assumption)) | exact isi_bool (ty_ptr (by assumption)) | exact isi_str (ty_ptr (by assumption)) | exact isi_tuple (ty_ptr (by assumption)) | exact isi_list (ty_ptr (by assumption))); (case h3 => rfl))) | ((with_reducible refine IfG.go ?_); first | ((with_reducible refine' s_nonF ?h1 ?_); (case h1 => rfl)) | ((with_reducible refine' s_nonT ?h1 ?_); (case h1 => rfl)) | ((with_reducible refine' s_notNonF ?h1 ?_); (case h1 => rfl)) | ((with_reducible refine' s_notNonT ?h1 ?_); (case h1 => rfl))) | ((with_reducible refine NatG.go ?_); ((with_reducible refine' s_ixN ?h1 ?_); (case h1 => first | rfl | (with_reducible assumption)))))
local macro_rules | `(tactic| walk_at "y1") => `(tactic| first | walk_at "y0" | dsimp only)
local macro_rules | `(tactic| walk_at "y") => `(tactic| repeat walk_at "y1")
local macro_rules | `(tactic| walk_at "yy1") => `(tactic| first | walk_at "y0" | with_reducible refine StepX.go ?_ | dsimp only)
local macro_rules | `(tactic| walk_at "yy") => `(tactic| repeat walk_at "yy1")
def inS (first past d : Int) : Bool := decide (first ≤ d) && decide (d < past)
def heldL (many : Int) (o : Option (List Int)) (first past : Int) : Option Int := o.map fun l => many * ((l.filter (inS first past)).length : Int)
def sp_held_by : DSp := fun ds μ Q _ => ∃ y i j b s f p z, ds = [yardD y, .int i, .int j, .int b, .int s, .int f, .int p] ∧ wayAt y i j z ∧ 0 ≤ z.long ∧ z.long ≤ 1000 ∧ near b ∧ near y.days ∧ 0 ≤ s ∧ (∃ v, z.needs[s.toNat]? = some v ∧ Q (optI (heldL v (daysL y.days y.shut z b) f p)) μ)
abbrev r_held_by_t0 : SD := (sSeq (sIf (dTest (dOp isND (dVar 7) (dC .non))) (sRet (dC .non)) sNext) (sRet (dOp mulD (dOp ixD (dOp ixD (dOp ixD (dOp ixD (dOp ixD (dOp ixD (dVar 0) (dC (.int 3))) (dVar 1)) (dC (.int 2))) (dVar 2)) (dC (.int 2))) (dVar 4)) (dCal lenD (dCons (dLc (dSeq (dVar 7)) (nNm 8) (dTest (dChain leD ltD (dVar 5) (dVar 8) (dVar 6))) (dVar 8) [8]) dNil)))))
def r_held_by : SD :=
  (sSeq (sSet 7 (dCall sp_days_of [] (dCons (dVar 0) (dCons (dVar 1) (dCons (dVar 2) (dCons (dVar 3) dNil)))))) r_held_by_t0)
theorem filter_inS {l : List Int} {f p : Int} : (l.filter (inS f p)).length ≤ l.length := List.length_filter_le _ _
set_option maxHeartbeats 1000000 in
theorem k_held_by : Keeps N_held_by P_held_by r_held_by sp_held_by := by
  rintro ds μ Q E ⟨y, i, j, b, s, f, p, z, rfl, ha, hl0, hl1, nb, nd, hs, v, hv, h⟩
  refine ⟨rfl, ?_⟩
  rw [show startD N_held_by [yardD y, D.int i, .int j, .int b, .int s, .int f, .int p] = [some (yardD y), some (.int i), some (.int j), some (.int b), some (.int s), some (.int f), some (.int p), none, none] from rfl]
  unfold r_held_by
  walk_at "yy"
  refine ⟨y, i, j, b, z, rfl, ha, hl0, nb, nd, ?_⟩
  obtain ⟨hi, hj, x, hx, hz⟩ := ha
  cases hL : daysL y.days y.shut z b with
  | none =>
    rw [hL] at h
    walk_at "yy"
    exact ⟨_, Sub.refl, h⟩
  | some l =>
    rw [hL] at h
    have hll := daysL_len hL
    show sSeq _ _ _ (List.set _ _ (some (.lst (l.map .int)))) _
    walk_at "yy"
    refine s_ixA rfl hi (get_map hx) ?_
    walk_at "yy"
    refine s_ixA rfl hj (get_map hz) ?_
    walk_at "yy"
    refine s_ixA rfl hs (get_map hv) ?_
    walk_at "yy"
    refine ⟨by rw [List.length_map, sizeLine_eq]; omega, ?_⟩
    refine lc_filtT .int l (inS f p) .int trivial (fun d _ M N h1 h2 => ?_) ?_
    · unfold inS at h1 h2
      walk_at "yy"
      refine if_both (fun e => ?_) (fun e => ?_)
      · rw [e, Bool.true_and] at h1 h2
        walk_at "yy"
        refine if_both (fun e2 => ?_) (fun e2 => ?_)
        · walk_at "yy"
          exact h1 e2
        · exact h2 e2
      · rw [e, Bool.false_and] at h2
        exact h2 rfl
    walk_at "yy"
    rw [List.length_map]
    have := filter_inS (l := l) (f := f) (p := p)
    refine s_mulR (by omega) ?_
    exact ⟨_, Sub.refl, h⟩
section
variable {μ : Mu}
theorem nb_map {α : Type} {k : Nat} {enc : α → D} (xs : List α) (h : ∀ x ∈ xs, nb μ k (enc x) = true) : nb μ (k + 1) (.tup (xs.map enc)) = true := by
  show (xs.map enc).all (nb μ k) = true
  rw [List.all_eq_true]
  intro d hd
  obtain ⟨x, hx, rfl⟩ := List.mem_map.mp hd
  exact h x hx
theorem der_nil {α : Type} {k : Nat} {enc : α → D} {xs : List α} : (der μ (k + 1) (.tup (xs.map enc)) = der μ (k + 1) (.tup [])) ↔ xs = [] := by
  show (D.tup ((xs.map enc).map (der μ k)) = .tup []) ↔ _
  cases xs <;> simp
end
end Z
namespace Z
open PySem PySem.Spec PyProof.Rows L2 Y
local macro_rules | `(tactic| walk_at "y0") => `(tactic| first | with_reducible refine Step.go ?_ | ((with_reducible refine' s_var (s_opq ?h1 ?_)); (case h1 => rfl)) | ((with_reducible refine IxG.go ?_); first | ((with_reducible refine' s_ixP ?h1 ?h2 ?_); (case h1 => first | exact mset_same | (with_reducible assumption)); (case h2 => first | rfl | (with_reducible assumption))) | ((with_reducible refine' s_ixT ?h2 ?_); (case h2 => first | rfl | (with_reducible assumption))) | ((with_reducible refine' s_ixL ?h2 ?_); (case h2 => first | rfl | (with_reducible assumption)))) | ((with_reducible refine LenG.go ?_); ((with_reducible refine' s_lenP ?h1 ?_); (case h1 => first | exact mset_same | (with_reducible assumption)))) | ((with_reducible refine SeqG.go ?_); first | ((with_reducible refine' s_seqP ?h1 ?_); (case h1 => first | exact mset_same | (with_reducible assumption))) | ((with_reducible refine' s_cell ?h1 ?_); (case h1 => first | exact mset_same | (with_reducible assumption)))) | ((with_reducible refine ArG.go ?_); first | ((with_reducible refine' s_mulR ?h1 ?_); (case h1 => omega)) | ((with_reducible refine' s_mulL ?h1 ?_); (case h1 => omega)) | ((with_reducible refine' s_mod ?h1 ?_); (case h1 => omega)) | ((with_reducible refine' s_fdiv ?h1 ?h2 ?_); (case h1 => omega); (case h2 => omega)) | ((with_reducible refine' s_pow ?h1 ?_); (case h1 => decide))) | ((with_reducible refine AndG.go ?_); first | ((with_reducible refine' s_len ?h1 ?_); (case h1 => rfl)) | ((with_reducible refine' s_lenE ?h1 ?_); (case h1 => rfl))) | ((with_reducible refine IsiG.go ?_); first | ((with_reducible refine' s_isi (b := true) ?h1 ?h2 ?h3 ?_); (case h1 => first | rfl | (with_reducible exact ty_ptr mset_same) | (with_reducible exact ty_ptr (by assumption))); (case h2 => first | exact isi_int rfl | exact isi_bool rfl | exact isi_str rfl | exact isi_tuple rfl | exact isi_list rfl | exact isi_int (ty_ptr (by assumption)) | exact isi_bool (ty_ptr (by assumption)) | exact isi_str (ty_ptr (by assumption)) | exact isi_tuple (ty_ptr (by assumption)) | exact isi_list (ty_ptr (by assumption))); (case h3 => rfl)) | ((with_reducible refine' s_isi (b := false) ?h1 ?h2 ?h3 ?_); (case h1 => first | rfl | (with_reducible exact ty_ptr mset_same) | (with_reducible exact ty_ptr (by assumption))); (case h2 => first | exact isi_int rfl | exact isi_bool rfl | exact isi_str rfl | exact isi_tuple rfl | exact isi_list rfl | exact isi_int (ty_ptr (by assumption)) | exact isi_bool (ty_ptr (by assumption)) | exact isi_str (ty_ptr (by assumption)) | exact isi_tuple (ty_ptr (by assumption)) | exact isi_list (ty_ptr (by assumption))); (case h3 => rfl))) | ((with_reducible refine IfG.go ?_); first | ((with_reducible refine' s_nonF ?h1 ?_); (case h1 => rfl)) | ((with_reducible refine' s_nonT ?h1 ?_); (case h1 => rfl)) | ((with_reducible refine' s_notNonF ?h1 ?_); (case h1 => rfl)) | ((with_reducible refine' s_notNonT ?h1 ?_); (case h1 => rfl))) | ((with_reducible refine NatG.go ?_); ((with_reducible refine' s_ixN ?h1 ?_); (case h1 => first | rfl | (with_reducible assumption)))))
local macro_rules | `(tactic| walk_at "y1") => `(tactic| first | walk_at "y0" | dsimp only)
local macro_rules | `(tactic| walk_at "y") => `(tactic| repeat walk_at "y1")
local macro_rules | `(tactic| walk_at "yy1") => `(tactic| first | walk_at "y0" | with_reducible refine StepX.go ?_ | dsimp only)
local macro_rules | `(tactic| walk_at "yy") => `(tactic| repeat walk_at "yy1")
local macro_rules | `(tactic| walk_at "sz") => `(tactic| first | omega | (simp only [List.length_map, List.length_append, List.length_cons, List.length_nil, range_len, ints_len, List.length_range, Int.toNat_natCast]; omega))
local macro_rules | `(tactic| walk_at "w1") => `(tactic| first | with_reducible refine RunS.go ?_ | with_reducible refine StepW.go ?_ | with_reducible refine Step.go ?_ | ((with_reducible refine' s_var (s_opq ?h1 ?_)); (case h1 => rfl)) | ((with_reducible refine IxG.go ?_); first | with_reducible refine StepX.go ?_ | ((with_reducible refine' s_ixP ?h1 ?h2 ?_); (case h1 => first | exact mset_same | (with_reducible assumption)); (case h2 => first | rfl | (with_reducible assumption))) | ((with_reducible refine' s_ixT ?h2 ?_); (case h2 => first | rfl | (with_reducible assumption))) | ((with_reducible refine' s_ixL ?h2 ?_); (case h2 => first | rfl | (with_reducible assumption))) | ((with_reducible refine' s_ixGT ?a ?b ?_); (case a => first | omega | assumption); (case b => first | assumption | rfl)) | ((with_reducible refine' s_ixGN ?b ?_); (case b => first | assumption | rfl)) | ((with_reducible refine' s_ixGL ?a ?b ?_); (case a => first | omega | assumption); (case b => first | assumption | rfl)) | ((with_reducible refine' s_ixGP ?a ?b ?c ?_); (case a => first | exact mset_same | assumption); (case b => first | omega | assumption); (case c => first | assumption | rfl))) | ((with_reducible refine LenG.go ?_); first | ((with_reducible refine' s_lenMP ?a ?_); (case a => first | exact mset_same | assumption)) | ((with_reducible refine' s_lenP ?h1 ?_); (case h1 => first | exact mset_same | (with_reducible assumption)))) | ((with_reducible refine SeqG.go ?_); first | ((with_reducible refine' s_seqP ?h1 ?_); (case h1 => first | exact mset_same | (with_reducible assumption))) | ((with_reducible refine' s_cell ?h1 ?_); (case h1 => first | exact mset_same | (with_reducible assumption)))) | ((with_reducible refine ArG.go ?_); first | ((with_reducible refine' s_mulR ?h1 ?_); (case h1 => omega)) | ((with_reducible refine' s_mulL ?h1 ?_); (case h1 => omega)) | ((with_reducible refine' s_mod ?h1 ?_); (case h1 => omega)) | ((with_reducible refine' s_fdiv ?h1 ?h2 ?_); (case h1 => omega); (case h2 => omega)) | ((with_reducible refine' s_pow ?h1 ?_); (case h1 => decide))) | ((with_reducible refine AndG.go ?_); first | ((with_reducible refine' s_len ?h1 ?_); (case h1 => rfl)) | ((with_reducible refine' s_lenE ?h1 ?_); (case h1 => rfl)) | ((with_reducible refine' z_rng ?a ?_); (case a => walk_at "sz")) | ((with_reducible refine' z_map ?a ?_); (case a => walk_at "sz")) | ((with_reducible refine' z_b62 ?a ?b ?_); (case a => walk_at "sz"); (case b => walk_at "sz")) | ((with_reducible refine' z_b622 ?a ?b ?c ?d ?_); (case a => walk_at "sz"); (case b => walk_at "sz"); (case c => walk_at "sz"); (case d => walk_at "sz")) | ((with_reducible refine' z_fits ?a ?_); (case a => walk_at "sz"))) | ((with_reducible refine IsiG.go ?_); first | ((with_reducible refine' s_isi (b := true) ?h1 ?h2 ?h3 ?_); (case h1 => first | rfl | (with_reducible exact ty_ptr mset_same) | (with_reducible exact ty_ptr (by assumption))); (case h2 => first | exact isi_int rfl | exact isi_bool rfl | exact isi_str rfl | exact isi_tuple rfl | exact isi_list rfl | exact isi_int (ty_ptr (by assumption)) | exact isi_bool (ty_ptr (by assumption)) | exact isi_str (ty_ptr (by assumption)) | exact isi_tuple (ty_ptr (by assumption)) | exact isi_list (ty_ptr (by assumption))); (case h3 => rfl)) | ((with_reducible refine' s_isi (b := false) ?h1 ?h2 ?h3 ?_); (case h1 => first | rfl | (with_reducible exact ty_ptr mset_same) | (with_reducible exact ty_ptr (by assumption))); (case h2 => first | exact isi_int rfl | exact isi_bool rfl | exact isi_str rfl | exact isi_tuple rfl | exact isi_list rfl | exact isi_int (ty_ptr (by assumption)) | exact isi_bool (ty_ptr (by assumption)) | exact isi_str (ty_ptr (by assumption)) | exact isi_tuple (ty_ptr (by assumption)) | exact isi_list (ty_ptr (by assumption))); (case h3 => rfl))) | ((with_reducible refine IfG.go ?_); first | ((with_reducible refine' s_nonF ?h1 ?_); (case h1 => rfl)) | ((with_reducible refine' s_nonT ?h1 ?_); (case h1 => rfl)) | ((with_reducible refine' s_notNonF ?h1 ?_); (case h1 => rfl)) | ((with_reducible refine' s_notNonT ?h1 ?_); (case h1 => rfl))) | ((with_reducible refine NatG.go ?_); ((with_reducible refine' s_ixN ?h1 ?_); (case h1 => first | rfl | (with_reducible assumption)))) | dsimp only)
local macro_rules | `(tactic| walk_at "w") => `(tactic| repeat walk_at "w1")
local macro_rules | `(tactic| walk_at "wi1") => `(tactic| first | walk_at "w1" | ((with_reducible refine' z_ifT ?a ?_); (case a => omega)) | ((with_reducible refine' z_ifF ?a ?_); (case a => omega)) | ((with_reducible refine' z_ifNT ?a ?_); (case a => omega)) | ((with_reducible refine' z_ifNF ?a ?_); (case a => omega)))
local macro_rules | `(tactic| walk_at "wi") => `(tactic| repeat walk_at "wi1")
section
variable {μ : Mu} {K : D → Prop} {α : Type} {enc : α → D} {xs : List α} {x : α} {A B : Prop}
theorem s_lenMT (h : K (.int (xs.length : Nat))) : opQ (lenD μ [.tup (xs.map enc)]) K := by
  show K (.int ((xs.map enc).length : Nat))
  rw [List.length_map]; exact h
theorem s_lenML (h : K (.int (xs.length : Nat))) : opQ (lenD μ [.lst (xs.map enc)]) K := by
  show K (.int ((xs.map enc).length : Nat))
  rw [List.length_map]; exact h
instance : StepW (opQ (lenD μ [.tup (xs.map enc)]) K) (K (.int (xs.length : Nat))) := ⟨s_lenMT⟩
instance : StepW (opQ (lenD μ [.lst (xs.map enc)]) K) (K (.int (xs.length : Nat))) := ⟨s_lenML⟩
theorem s_lenMP {n : Nat} (e : μ n = some (.lst (xs.map enc))) (h : K (.int (xs.length : Nat))) : opQ (lenD μ [.ptr n]) K := s_lenA (as_ptr e) (by rw [List.length_map]; exact h)
theorem s_ixGT {i : Int} (h0 : 0 ≤ i) (hx : xs[i.toNat]? = some x) (h : K (enc x)) : opQ (ixD μ (.tup (xs.map enc)) (.int i)) K := s_ixA rfl h0 (get_map hx) h
theorem s_ixGN {i : Nat} (hx : xs[i]? = some x) (h : K (enc x)) : opQ (ixD μ (.tup (xs.map enc)) (.int (i : Nat))) K := s_ixA rfl (Int.natCast_nonneg _) (by rw [Int.toNat_natCast]; exact get_map hx) h
theorem s_ixGL {i : Int} (h0 : 0 ≤ i) (hx : xs[i.toNat]? = some x) (h : K (enc x)) : opQ (ixD μ (.lst (xs.map enc)) (.int i)) K := s_ixA rfl h0 (get_map hx) h
theorem s_ixGP {n : Nat} {i : Int} (e : μ n = some (.lst (xs.map enc))) (h0 : 0 ≤ i) (hx : xs[i.toNat]? = some x) (h : K (enc x)) : opQ (ixD μ (.ptr n) (.int i)) K := s_ixA (as_ptr e) h0 (get_map hx) h
theorem z_rng {lo : Int} {n : Nat} (h : (n : Int) ≤ 1000000) (a : A) : (rangeD lo n).length ≤ sizeLine ∧ A := ⟨by rw [range_len, sizeLine_eq]; omega, a⟩
theorem z_map {f : α → D} (h : (xs.length : Int) ≤ 1000000) (a : A) : (xs.map f).length ≤ sizeLine ∧ A := ⟨by rw [List.length_map, sizeLine_eq]; omega, a⟩
theorem z_b62 {n : Int} (h1 : -1000000 ≤ n) (h2 : n ≤ 1000000) (a : A) : b62 n = true ∧ A := ⟨near_b62 ⟨h1, h2⟩, a⟩
theorem z_b622 {n m : Int} (h1 : -1000000 ≤ n) (h2 : n ≤ 1000000) (h3 : -1000000 ≤ m) (h4 : m ≤ 1000000) (a : A) : (b62 n && b62 m) = true ∧ A := ⟨by rw [near_b62 ⟨h1, h2⟩, near_b62 ⟨h3, h4⟩]; rfl, a⟩
theorem z_fits {n : Nat} (h : (n : Int) ≤ 1000000) (a : A) : fits n = true ∧ A := ⟨fits_le.mpr (by rw [sizeLine_eq]; omega), a⟩
theorem z_ifT {p : Prop} [Decidable p] (h : p) (a : A) : ifB (decide p) A B := by rw [decide_eq_true h]; exact a
theorem z_ifF {p : Prop} [Decidable p] (h : ¬ p) (a : B) : ifB (decide p) A B := by rw [decide_eq_false h]; exact a
theorem z_ifNT {p : Prop} [Decidable p] (h : ¬ p) (a : A) : ifB (!decide p) A B := by rw [decide_eq_false h]; exact a
theorem z_ifNF {p : Prop} [Decidable p] (h : p) (a : B) : ifB (!decide p) A B := by rw [decide_eq_true h]; exact a
end
/-- the draw at n is as a draw is -/
def Dr (n : Nat) (μ : Mu) : Prop := ∃ dr, μ n = some (.lst dr) ∧ DrawOk dr
/-- all stands but the draw, which is a draw still -/
structure Up (n : Nat) (μ μ' : Mu) : Prop where
  dr : Dr n μ'
  keep : ∀ {k : Nat} {o : MO}, k ≠ n → μ k = some o → μ' k = some o
section
variable {n m : Nat} {μ μ' μ'' : Mu} {o : MO} {Q : QD} {E : XQ}
theorem Up.refl (h : Dr n μ) : Up n μ μ := ⟨h, fun _ e => e⟩
theorem Up.trans (h : Up n μ μ') (h' : Up n μ' μ'') : Up n μ μ'' := ⟨h'.dr, fun hk e => h'.keep hk (h.keep hk e)⟩
theorem Dr.new (h : Dr n μ) (hm : μ m = none) : Dr n (mset μ m o) := by
  obtain ⟨dr, e, q⟩ := h
  exact ⟨dr, (mset_ne (ne_cell e hm)).trans e, q⟩
theorem Up.new (h : Up n μ μ') (hm : μ' m = none) : Up n μ (mset μ' m o) :=
  ⟨h.dr.new hm, fun hk e => (mset_ne (ne_cell (h.keep hk e) hm)).trans (h.keep hk e)⟩
theorem Up.put (h : Up n μ μ') (hm : μ m = none) (hn : n ≠ m) : Up n μ (mset μ' m o) := by
  obtain ⟨dr, e, q⟩ := h.dr
  exact ⟨⟨dr, (mset_ne hn).trans e, q⟩, fun hk e => (mset_ne (ne_cell e hm)).trans (h.keep hk e)⟩
theorem Up.set {dr : List D} (h : DrawOk dr) : Up n μ (mset μ n (.lst dr)) := ⟨⟨dr, mset_same, h⟩, fun hk e => (mset_ne hk).trans e⟩
/-- what is promised of the draw alone is kept where more stands -/
theorem Up.sub (h : Up n μ μ') : ∃ dr, DrawOk dr ∧ Sub (mset μ n (.lst dr)) μ' := by
  obtain ⟨dr, e, q⟩ := h.dr
  refine ⟨dr, q, fun k o' ek => ?_⟩
  by_cases hk : k = n
  · subst hk
    rw [mset_same] at ek
    cases ek
    exact e
  · rw [mset_ne hk] at ek
    exact h.keep hk ek
theorem z_pull {t : Int} (hd : Dr n μ) (h0 : 0 < t) (h1 : t < 1073741824) (h : ∀ k μ', 0 ≤ k → k < t → Up n μ μ' → Q (.int k) μ') : sp_pull_L [.ptr n, .int t] μ Q E := by
  obtain ⟨dr, e, q⟩ := hd
  exact ⟨n, t, dr, rfl, e, q, h0, h1, fun k dr' hk0 hk1 hdr => h k _ hk0 hk1 (.set hdr)⟩
theorem z_open {ns : List Int} (h : ∀ n μ', μ n = none → Dr n μ' → Q (.ptr n) μ') : sp_open_L [.scr ns] μ Q E :=
  ⟨ns, rfl, fun n dr hn hdr => h n _ hn ⟨dr, mset_same, hdr⟩⟩
theorem z_net {sm jm md gm lm : Int} (hd : Dr n μ) (h1 : 1 ≤ sm) (h2 : sm ≤ 20) (h3 : 0 ≤ jm) (h4 : jm ≤ 6) (h5 : 1 ≤ md) (h6 : md ≤ 3) (h7 : 0 ≤ gm) (h8 : gm ≤ 3) (h9 : 0 ≤ lm) (h10 : lm ≤ 12)
    (h : ∀ y μ', NetOk sm jm md gm lm y → Up n μ μ' → Q (yardD y) μ') : sp_net_L [.ptr n, .int sm, .int jm, .int md, .int gm, .int lm] μ Q E := by
  obtain ⟨dr, e, q⟩ := hd
  exact ⟨n, sm, jm, md, gm, lm, dr, rfl, e, q, h1, h2, h3, h4, h5, h6, h7, h8, h9, h10, fun y dr' hy hdr => h y _ hy (.set hdr)⟩
end
abbrev Pair := Int × Int
def pairD (p : Pair) : D := .tup [.int p.1, .int p.2]
/-- the days of a work's pair -/
def dayP (y : Yard) (x : Work) (p : Pair) : Option (List Int) := if 0 ≤ p.2 then (x.ways[p.2.toNat]?).bind fun z => daysL y.days y.shut z p.1 else none
def aloneW (y : Yard) (x : Work) (p : Pair) : Bool := (decide (x.low ≤ p.1) && decide (p.1 < x.high)) && ((decide (0 ≤ p.2) && decide (p.2 < (x.ways.length : Int))) && (dayP y x p).isSome)
section
variable {K : List D → Prop} {x : Work} {z : Way} {t : Tie} {p : Pair} {μ : Mu} {K' : D → Prop}
instance : StepW (onTup (workD x) K) (K [.int x.low, .int x.high, .tup (x.ways.map wayD)]) := ⟨fun h => h⟩
instance : StepW (onTup (wayD z) K) (K [.int z.long, .int z.rests, .tup (z.needs.map .int)]) := ⟨fun h => h⟩
instance : StepW (onTup (tieD t) K) (K [.int t.kind, .int t.one, .int t.other, .int t.gap]) := ⟨fun h => h⟩
instance : StepW (onTup (pairD p) K) (K [.int p.1, .int p.2]) := ⟨fun h => h⟩
instance : StepW (opQ (ixD μ (pairD p) (.int 0)) K') (K' (.int p.1)) := ⟨fun h => h⟩
instance : StepW (opQ (ixD μ (pairD p) (.int 1)) K') (K' (.int p.2)) := ⟨fun h => h⟩
theorem s_seqA {d : D} {ds : List D} {R : List D → Prop} (e : asQ μ d = some ds) (h : R ds) : opQ (asQ μ d) R := by rw [e]; exact h
theorem st_of {d : D} {ds : List D} (e : asQ μ d = some ds) : stOf μ d μ := by
  cases d with
  | ptr n => exact rfl
  | _ => trivial
end
/-- days and bounds are small, ways are long enough -/
structure Tame (y : Yard) : Prop where
  d0 : 0 ≤ y.days
  d1 : y.days ≤ 1000
  lo : ∀ x ∈ y.works, 0 ≤ x.low ∧ x.high ≤ y.days
  wl : ∀ x ∈ y.works, ∀ z ∈ x.ways, 1 ≤ z.long ∧ z.long ≤ 9 ∧ (z.rests = 0 ∨ z.rests = 1) ∧ z.needs.length = y.stuffs.length
theorem NetOk.tame {sm jm md gm lm : Int} {y : Yard} (h : NetOk sm jm md gm lm y) (s1 : sm ≤ 1000) : Tame y := by
  have a1 := h.d0
  have a2 := h.d1
  refine ⟨by omega, by omega, fun x hx => ⟨(h.js x hx).l0, (h.js x hx).h1⟩, fun x hx z hz => ?_⟩
  have q := (h.js x hx).ws z hz
  have := q.nl
  exact ⟨q.l0, q.l1, q.rs, by omega⟩
end Z
namespace Z
open PySem PySem.Spec PyProof.Rows L2 Y
local macro_rules | `(tactic| walk_at "y0") => `(tactic| first | with_reducible refine Step.go ?_ | ((with_reducible refine' s_var (s_opq ?h1 ?_)); (case h1 => rfl)) | ((with_reducible refine IxG.go ?_); first | ((with_reducible refine' s_ixP ?h1 ?h2 ?_); (case h1 => first | exact mset_same | (with_reducible assumption)); (case h2 => first | rfl | (with_reducible assumption))) | ((with_reducible refine' s_ixT ?h2 ?_); (case h2 => first | rfl | (with_reducible assumption))) | ((with_reducible refine' s_ixL ?h2 ?_); (case h2 => first | rfl | (with_reducible assumption)))) | ((with_reducible refine LenG.go ?_); ((with_reducible refine' s_lenP ?h1 ?_); (case h1 => first | exact mset_same | (with_reducible assumption)))) | ((with_reducible refine SeqG.go ?_); first | ((with_reducible refine' s_seqP ?h1 ?_); (case h1 => first | exact mset_same | (with_reducible assumption))) | ((with_reducible refine' s_cell ?h1 ?_); (case h1 => first | exact mset_same | (with_reducible assumption)))) | ((with_reducible refine ArG.go ?_); first | ((with_reducible refine' s_mulR ?h1 ?_); (case h1 => omega)) | ((with_reducible refine' s_mulL ?h1 ?_); (case h1 => omega)) | ((with_reducible refine' s_mod ?h1 ?_); (case h1 => omega)) | ((with_reducible refine' s_fdiv ?h1 ?h2 ?_); (case h1 => omega); (case h2 => omega)) | ((with_reducible refine' s_pow ?h1 ?_); (case h1 => decide))) | ((with_reducible refine AndG.go ?_); first | ((with_reducible refine' s_len ?h1 ?_); (case h1 => rfl)) | ((with_reducible refine' s_lenE ?h1 ?_); (case h1 => rfl))) | ((with_reducible refine IsiG.go ?_); first | ((with_reducible refine' s_isi (b := true) ?h1 ?h2 ?h3 ?_); (case h1 => first | rfl | (with_reducible exact ty_ptr mset_same) | (with_reducible exact ty_ptr (by assumption))); (case h2 => first | exact isi_int rfl | exact isi_bool rfl | exact isi_str rfl | exact isi_tuple rfl | exact isi_list rfl | exact isi_int (ty_ptr (by assumption)) | exact isi_bool (ty_ptr (by assumption)) | exact isi_str (ty_ptr (by assumption)) | exact isi_tuple (ty_ptr (by assumption)) | exact isi_list (ty_ptr (by assumption))); (case h3 => rfl)) | ((with_reducible refine' s_isi (b := false) ?h1 ?h2 ?h3 ?_); (case h1 => first | rfl | (with_reducible exact ty_ptr mset_same) | (with_reducible exact ty_ptr (by assumption))); (case h2 => first | exact isi_int rfl | exact isi_bool rfl | exact isi_str rfl | exact isi_tuple rfl | exact isi_list rfl | exact isi_int (ty_ptr (by assumption)) | exact isi_bool (ty_ptr (by assumption)) | exact isi_str (ty_ptr (by assumption)) | exact isi_tuple (ty_ptr (by assumption)) | exact isi_list (ty_ptr (by assumption))); (case h3 => rfl))) | ((with_reducible refine IfG.go ?_); first | ((with_reducible refine' s_nonF ?h1 ?_); (case h1 => rfl)) | ((with_reducible refine' s_nonT ?h1 ?_); (case h1 => rfl)) | ((with_reducible refine' s_notNonF ?h1 ?_); (case h1 => rfl)) | ((with_reducible refine' s_notNonT ?h1 ?_); (case h1 => rfl))) | ((with_reducible refine NatG.go ?_); ((with_reducible refine' s_ixN ?h1 ?_); (case h1 => first | rfl | (with_reducible assumption)))))
local macro_rules | `(tactic| walk_at "y1") => `(tactic| first | walk_at "y0" | dsimp only)
local macro_rules | `(tactic| walk_at "y") => `(tactic| repeat walk_at "y1")
local macro_rules | `(tactic| walk_at "yy1") => `(tactic| first | walk_at "y0" | with_reducible refine StepX.go ?_ | dsimp only)
local macro_rules | `(tactic| walk_at "yy") => `(tactic| repeat walk_at "yy1")
local macro_rules | `(tactic| walk_at "sz") => `(tactic| first | omega | (simp only [List.length_map, List.length_append, List.length_cons, List.length_nil, range_len, ints_len, List.length_range, Int.toNat_natCast]; omega))
local macro_rules | `(tactic| walk_at "w1") => `(tactic| first | with_reducible refine RunS.go ?_ | with_reducible refine StepW.go ?_ | with_reducible refine Step.go ?_ | ((with_reducible refine' s_var (s_opq ?h1 ?_)); (case h1 => rfl)) | ((with_reducible refine IxG.go ?_); first | with_reducible refine StepX.go ?_ | ((with_reducible refine' s_ixP ?h1 ?h2 ?_); (case h1 => first | exact mset_same | (with_reducible assumption)); (case h2 => first | rfl | (with_reducible assumption))) | ((with_reducible refine' s_ixT ?h2 ?_); (case h2 => first | rfl | (with_reducible assumption))) | ((with_reducible refine' s_ixL ?h2 ?_); (case h2 => first | rfl | (with_reducible assumption))) | ((with_reducible refine' s_ixGT ?a ?b ?_); (case a => first | omega | assumption); (case b => first | assumption | rfl)) | ((with_reducible refine' s_ixGN ?b ?_); (case b => first | assumption | rfl)) | ((with_reducible refine' s_ixGL ?a ?b ?_); (case a => first | omega | assumption); (case b => first | assumption | rfl)) | ((with_reducible refine' s_ixGP ?a ?b ?c ?_); (case a => first | exact mset_same | assumption); (case b => first | omega | assumption); (case c => first | assumption | rfl))) | ((with_reducible refine LenG.go ?_); first | ((with_reducible refine' s_lenMP ?a ?_); (case a => first | exact mset_same | assumption)) | ((with_reducible refine' s_lenP ?h1 ?_); (case h1 => first | exact mset_same | (with_reducible assumption)))) | ((with_reducible refine SeqG.go ?_); first | ((with_reducible refine' s_seqP ?h1 ?_); (case h1 => first | exact mset_same | (with_reducible assumption))) | ((with_reducible refine' s_cell ?h1 ?_); (case h1 => first | exact mset_same | (with_reducible assumption)))) | ((with_reducible refine ArG.go ?_); first | ((with_reducible refine' s_mulR ?h1 ?_); (case h1 => omega)) | ((with_reducible refine' s_mulL ?h1 ?_); (case h1 => omega)) | ((with_reducible refine' s_mod ?h1 ?_); (case h1 => omega)) | ((with_reducible refine' s_fdiv ?h1 ?h2 ?_); (case h1 => omega); (case h2 => omega)) | ((with_reducible refine' s_pow ?h1 ?_); (case h1 => decide))) | ((with_reducible refine AndG.go ?_); first | ((with_reducible refine' s_len ?h1 ?_); (case h1 => rfl)) | ((with_reducible refine' s_lenE ?h1 ?_); (case h1 => rfl)) | ((with_reducible refine' z_rng ?a ?_); (case a => walk_at "sz")) | ((with_reducible refine' z_map ?a ?_); (case a => walk_at "sz")) | ((with_reducible refine' z_b62 ?a ?b ?_); (case a => walk_at "sz"); (case b => walk_at "sz")) | ((with_reducible refine' z_b622 ?a ?b ?c ?d ?_); (case a => walk_at "sz"); (case b => walk_at "sz"); (case c => walk_at "sz"); (case d => walk_at "sz")) | ((with_reducible refine' z_fits ?a ?_); (case a => walk_at "sz"))) | ((with_reducible refine IsiG.go ?_); first | ((with_reducible refine' s_isi (b := true) ?h1 ?h2 ?h3 ?_); (case h1 => first | rfl | (with_reducible exact ty_ptr mset_same) | (with_reducible exact ty_ptr (by assumption))); (case h2 => first | exact isi_int rfl | exact isi_bool rfl | exact isi_str rfl | exact isi_tuple rfl | exact isi_list rfl | exact isi_int (ty_ptr (by assumption)) | exact isi_bool (ty_ptr (by assumption)) | exact isi_str (ty_ptr (by assumption)) | exact isi_tuple (ty_ptr (by assumption)) | exact isi_list (ty_ptr (by assumption))); (case h3 => rfl)) | ((with_reducible refine' s_isi (b := false) ?h1 ?h2 ?h3 ?_); (case h1 => first | rfl | (with_reducible exact ty_ptr mset_same) | (with_reducible exact ty_ptr (by assumption))); (case h2 => first | exact isi_int rfl | exact isi_bool rfl | exact isi_str rfl | exact isi_tuple rfl | exact isi_list rfl | exact isi_int (ty_ptr (by assumption)) | exact isi_bool (ty_ptr (by assumption)) | exact isi_str (ty_ptr (by assumption)) | exact isi_tuple (ty_ptr (by assumption)) | exact isi_list (ty_ptr (by assumption))); (case h3 => rfl))) | ((with_reducible refine IfG.go ?_); first | ((with_reducible refine' s_nonF ?h1 ?_); (case h1 => rfl)) | ((with_reducible refine' s_nonT ?h1 ?_); (case h1 => rfl)) | ((with_reducible refine' s_notNonF ?h1 ?_); (case h1 => rfl)) | ((with_reducible refine' s_notNonT ?h1 ?_); (case h1 => rfl))) | ((with_reducible refine NatG.go ?_); ((with_reducible refine' s_ixN ?h1 ?_); (case h1 => first | rfl | (with_reducible assumption)))) | dsimp only)
local macro_rules | `(tactic| walk_at "w") => `(tactic| repeat walk_at "w1")
local macro_rules | `(tactic| walk_at "wi1") => `(tactic| first | walk_at "w1" | ((with_reducible refine' z_ifT ?a ?_); (case a => omega)) | ((with_reducible refine' z_ifF ?a ?_); (case a => omega)) | ((with_reducible refine' z_ifNT ?a ?_); (case a => omega)) | ((with_reducible refine' z_ifNF ?a ?_); (case a => omega)))
local macro_rules | `(tactic| walk_at "wi") => `(tactic| repeat walk_at "wi1")
local macro_rules | `(tactic| walk_at "ws") => `(tactic| repeat' (first | walk_at "w1" | refine ifD (fun _ => ?_) (fun _ => ?_) | refine ifN (fun _ => ?_) (fun _ => ?_)))
local macro_rules | `(tactic| walk_at "cell") => `(tactic| first | exact mset_same | (with_reducible assumption) | ((with_reducible refine mset_ne' ?_ ?_); (first | (with_reducible assumption) | omega); walk_at "cell"))
local macro_rules | `(tactic| walk_at "o1") => `(tactic| first | with_reducible refine RunS.go ?_ | ((with_reducible refine ObjG.go ?_); first | ((with_reducible refine' s_fld ?h1 ?h2 ?_); (case h1 => walk_at "cell"); (case h2 => rfl)) | ((with_reducible refine' s_putF ?h1 ?h2 ?_); (case h1 => walk_at "cell"); (case h2 => exact Nat.le_of_ble_eq_true rfl)) | ((with_reducible refine' s_isObj ?h1 ?h2 ?_); (case h1 => walk_at "cell"); (case h2 => rfl))) | ((with_reducible refine TruG.go ?_); ((with_reducible refine' s_truP ?h1 ?_); (case h1 => walk_at "cell"))) | walk_at "w1" | ((with_reducible refine LenG.go ?_); ((with_reducible refine' s_lenP ?h1 ?_); (case h1 => walk_at "cell"))) | ((with_reducible refine SeqG.go ?_); first | ((with_reducible refine' s_seqP ?h1 ?_); (case h1 => walk_at "cell")) | ((with_reducible refine' s_cell ?h1 ?_); (case h1 => walk_at "cell"))) | ((with_reducible refine IxG.go ?_); ((with_reducible refine' s_ixGP ?a ?b ?c ?_); (case a => walk_at "cell"); (case b => first | omega | assumption); (case c => first | assumption | rfl))))
local macro_rules | `(tactic| walk_at "o") => `(tactic| repeat walk_at "o1")
local macro_rules | `(tactic| walk_at "os") => `(tactic| repeat' (first | walk_at "o1" | refine ifD (fun _ => ?_) (fun _ => ?_) | refine ifN (fun _ => ?_) (fun _ => ?_)))
def sp_works_alone : DSp := fun ds μ Q _ => ∃ y i p x, ds = [yardD y, .int i, pairD p] ∧ 0 ≤ i ∧ y.works[i.toNat]? = some x ∧ Tame y ∧ Q (.bl (aloneW y x p)) μ
abbrev N_works_alone : List Str := ["yard", "work", "pair", "begin", "way", "low", "high", "ways"]
abbrev P_works_alone : List Str := ["yard", "work", "pair"]
abbrev r_works_alone_t0 : SD := (sSeq (sUnp (dOp ixD (dOp ixD (dVar 0) (dC (.int 3))) (dVar 1)) (nTup 3 (nCons (nNm 5) (nCons (nNm 6) (nCons (nNm 7) nNil))))) (sRet (dAndV (dChain leD ltD (dVar 5) (dVar 3) (dVar 6)) (dAndV (dChain leD ltD (dC (.int 0)) (dVar 4) (dCal lenD (dCons (dVar 7) dNil))) (dOp notND (dCall sp_days_of [] (dCons (dVar 0) (dCons (dVar 1) (dCons (dVar 4) (dCons (dVar 3) dNil))))) (dC .non))))))
def r_works_alone : SD :=
  (sSeq (sUnp (dVar 2) (nTup 2 (nCons (nNm 3) (nCons (nNm 4) nNil)))) r_works_alone_t0)
theorem aloneW_f1 {y : Yard} {x : Work} {p : Pair} (h : ¬ (x.low ≤ p.1 ∧ p.1 < x.high)) : aloneW y x p = false := by
  unfold aloneW
  rw [← Bool.decide_and, decide_eq_false h]; rfl
theorem aloneW_f2 {y : Yard} {x : Work} {p : Pair} (h : ¬ (0 ≤ p.2 ∧ p.2 < (x.ways.length : Int))) : aloneW y x p = false := by
  unfold aloneW
  rw [← Bool.decide_and (0 ≤ p.2), decide_eq_false h, Bool.false_and, Bool.and_false]
theorem dayP_at {y : Yard} {x : Work} {p : Pair} {z : Way} (h0 : 0 ≤ p.2) (hz : x.ways[p.2.toNat]? = some z) : dayP y x p = daysL y.days y.shut z p.1 := by
  unfold dayP
  rw [if_pos h0, hz]; rfl
set_option maxHeartbeats 1000000 in
theorem k_works_alone : Keeps N_works_alone P_works_alone r_works_alone sp_works_alone := by
  rintro ds μ Q E ⟨y, i, ⟨b, w⟩, x, rfl, hi, hx, ht, h⟩
  refine ⟨rfl, ?_⟩
  rw [show startD N_works_alone [yardD y, D.int i, pairD (b, w)] = [some (yardD y), some (.int i), some (.tup [.int b, .int w]), none, none, none, none, none] from rfl]
  unfold r_works_alone
  walk_at "w"
  have hm := List.mem_of_getElem? hx
  have hlo := ht.lo x hm
  have d0 := ht.d0
  have d1 := ht.d1
  refine ifD (fun e1 => ?_) (fun e1 => ?_)
  · walk_at "w"
    refine ifD (fun e2 => ?_) (fun e2 => ?_)
    · walk_at "w"
      refine ifD (fun e3 => ?_) (fun e3 => ?_)
      · walk_at "w"
        refine ifD (fun e4 => ?_) (fun e4 => ?_)
        · walk_at "w"
          have hw : w.toNat < x.ways.length := by omega
          have hz : x.ways[w.toNat]? = some x.ways[w.toNat] := List.getElem?_eq_getElem hw
          have hwl := ht.wl x hm _ (List.getElem_mem hw)
          generalize x.ways[w.toNat] = z at hz hwl
          refine ⟨y, i, w, b, z, rfl, ⟨hi, e3, x, hx, hz⟩, by omega, ⟨by omega, by omega⟩, ⟨by omega, by omega⟩, ?_⟩
          have ea : aloneW y x (b, w) = (daysL y.days y.shut z b).isSome := by
            unfold aloneW
            rw [dayP_at (p := (b, w)) e3 hz, decide_eq_true e1, decide_eq_true e2, decide_eq_true e3, decide_eq_true e4]; rfl
          rw [ea] at h
          cases hL : daysL y.days y.shut z b with
          | none =>
            rw [hL] at h
            walk_at "w"
            exact ⟨_, Sub.refl, h⟩
          | some l =>
            rw [hL] at h
            refine ⟨_, Sub.refl, h⟩
        · rw [aloneW_f2 (fun q => e4 q.2)] at h
          walk_at "w"
          exact ⟨_, Sub.refl, h⟩
      · rw [aloneW_f2 (fun q => e3 q.1)] at h
        walk_at "w"
        exact ⟨_, Sub.refl, h⟩
    · rw [aloneW_f1 (fun q => e2 q.2)] at h
      walk_at "w"
      exact ⟨_, Sub.refl, h⟩
  · rw [aloneW_f1 (fun q => e1 q.1)] at h
    walk_at "w"
    exact ⟨_, Sub.refl, h⟩
/-- each work may begin so -/
def PlanOk (y : Yard) (pl : List Pair) : Prop := pl.length = y.works.length ∧ ∀ (i : Nat) (p : Pair) (x : Work), pl[i]? = some p → y.works[i]? = some x → aloneW y x p = true
theorem PlanOk.at {y : Yard} {pl : List Pair} (h : PlanOk y pl) {i : Nat} {p : Pair} (hp : pl[i]? = some p) : ∃ x z l, y.works[i]? = some x ∧ 0 ≤ p.2 ∧ x.ways[p.2.toNat]? = some z ∧ daysL y.days y.shut z p.1 = some l ∧ x.low ≤ p.1 ∧ p.1 < x.high := by
  have hi : i < y.works.length := by rw [← h.1]; exact (List.getElem?_eq_some_iff.mp hp).1
  have hx : y.works[i]? = some y.works[i] := List.getElem?_eq_getElem hi
  have ha := h.2 i p _ hp hx
  generalize y.works[i] = x at hx ha
  unfold aloneW at ha
  simp only [Bool.and_eq_true, decide_eq_true_eq] at ha
  obtain ⟨⟨a1, a2⟩, ⟨a3, a4⟩, a5⟩ := ha
  have hw : p.2.toNat < x.ways.length := by omega
  have hz : x.ways[p.2.toNat]? = some x.ways[p.2.toNat] := List.getElem?_eq_getElem hw
  rw [dayP_at a3 hz] at a5
  obtain ⟨l, hl⟩ := Option.isSome_iff_exists.mp a5
  exact ⟨x, _, l, hx, a3, hz, hl, a1, a2⟩
/-- what a work of a plan holds of a stuff on a day -/
def heldP (y : Yard) (i : Nat) (p : Pair) (s d : Int) : Int := (((y.works[i]?).bind fun x => (x.ways[p.2.toNat]?).bind fun z => (z.needs[s.toNat]?).bind fun v => heldL v (daysL y.days y.shut z p.1) d (d + 1))).getD 0
def usedP (y : Yard) (pl : List Pair) (s d : Int) : Int := ((List.range pl.length).map fun i => heldP y i (pl.getD i (0, 0)) s d).sum
def sp_used : DSp := fun ds μ Q _ => ∃ (y : Yard) (d : D) (pl : List Pair) (s t : Int), ds = [yardD y, d, .int s, .int t] ∧ Tame y ∧ asQ μ d = some (pl.map pairD) ∧ PlanOk y pl ∧ pl.length ≤ 1000 ∧ 0 ≤ s ∧ s < y.stuffs.length ∧ Q (.int (usedP y pl s t)) μ
abbrev N_used : List Str := ["yard", "plan", "stuff", "day", "at", "begin", "way"]
abbrev P_used : List Str := ["yard", "plan", "stuff", "day"]
def r_used : SD :=
  (sRet (dCal sumD (dCons (dLc (dEnum (dVar 1)) (nTup 2 (nCons (nNm 4) (nCons (nTup 2 (nCons (nNm 5) (nCons (nNm 6) nNil))) nNil))) dYes (dCall sp_held_by [] (dCons (dVar 0) (dCons (dVar 4) (dCons (dVar 6) (dCons (dVar 5) (dCons (dVar 2) (dCons (dVar 3) (dCons (dOp addD (dVar 3) (dC (.int 1))) dNil)))))))) [4, 5, 6]) dNil)))
theorem enum_pairs {α : Type} {enc : α → D} {dflt : α} : ∀ (pl : List α) (lo : Nat), enumD lo (pl.map enc) = (List.range pl.length).map fun i => D.tup [.int ((lo + i : Nat) : Int), enc (pl.getD i dflt)] := by
  intro pl lo
  apply List.ext_getElem?
  intro i
  rw [enumD_get, List.getElem?_map, List.getElem?_map]
  by_cases hi : i < pl.length
  · rw [List.getElem?_eq_getElem hi, List.getElem?_range hi]
    simp [List.getD_eq_getElem?_getD, List.getElem?_eq_getElem hi]
  · rw [List.getElem?_eq_none (by omega), List.getElem?_eq_none (by simpa using hi)]
    rfl
theorem getD_at {α : Type} {xs : List α} {i : Nat} {d : α} (h : i < xs.length) : xs[i]? = some (xs.getD i d) := by
  rw [List.getD_eq_getElem?_getD, List.getElem?_eq_getElem h]; rfl
set_option maxHeartbeats 1000000 in
theorem k_used : Keeps N_used P_used r_used sp_used := by
  rintro ds μ Q E ⟨y, d, pl, s, t, rfl, hT, hd, hp, hl, hs0, hs1, h⟩
  refine ⟨rfl, ?_⟩
  rw [show startD N_used [yardD y, d, D.int s, .int t] = [some (yardD y), some d, some (.int s), some (.int t), none, none, none] from rfl]
  unfold r_used
  walk_at "w"
  refine s_seqA hd ?_
  rw [enum_pairs (dflt := (0, 0))]
  refine z_map (by rw [List.length_range]; omega) ?_
  refine lc_mapT _ _ (fun i => .int (heldP y i (pl.getD i (0, 0)) s t)) (st_of hd) (fun i hi M hM => ?_) ?_
  · have hi : i < pl.length := by simpa using hi
    obtain ⟨x, z, l, hx, h2, hz, hl, _, hb⟩ := hp.at (getD_at (d := (0, 0)) hi)
    generalize pl.getD i (0, 0) = p at *
    have hxm := List.mem_of_getElem? hx
    have hwl := hT.wl x hxm z (List.mem_of_getElem? hz)
    have hlo := hT.lo x hxm
    have d0 := hT.d0
    have d1 := hT.d1
    have hv : s.toNat < z.needs.length := by omega
    walk_at "w"
    refine ⟨y, _, _, _, s, t, t + 1, z, rfl, ⟨by omega, h2, x, ?_, hz⟩, by omega, by omega, ⟨by omega, by omega⟩, ⟨by omega, by omega⟩, hs0, z.needs[s.toNat], List.getElem?_eq_getElem hv, ?_⟩
    · simpa using hx
    · unfold heldP at hM
      rw [hx] at hM
      simp only [Option.bind_some, hz, List.getElem?_eq_getElem hv, hl, heldL, Option.map_some, Option.getD_some] at hM
      rw [hl]
      exact hM
  · walk_at "w"
    rw [show (List.map (fun i => D.int (heldP y i (pl.getD i (0, 0)) s t)) (List.range pl.length)) = ((List.range pl.length).map fun i => heldP y i (pl.getD i (0, 0)) s t).map .int by rw [List.map_map]; rfl]
    refine s_sumI ?_
    exact ⟨_, Sub.refl, h⟩
def rowOf (y : Yard) (pl : List Pair) (s : Int) : D := .lst ((iota 0 y.days.toNat).map fun t => .int (usedP y pl s t))
def endsP (y : Yard) (pl : List Pair) : List Int := (List.range pl.length).map fun i => (((y.works[i]?).bind fun x => (dayP y x (pl.getD i (0, 0))).map fun l => lastI l + 1)).getD 0
def endP (y : Yard) (pl : List Pair) : Int := (maxI (endsP y pl)).getD 0
/-- the days stand as none or in a cell -/
def HasD (o : Option (List Int)) (dD : D) (μ : Mu) : Prop := match o with
  | none => dD = .non
  | some l => ∃ m, dD = .ptr m ∧ μ m = some (.lst (l.map .int))
structure GotD (o : Option (List Int)) (dD : D) (μ μ' : Mu) : Prop where
  keep : ∀ {k : Nat} {c : MO}, μ k = some c → μ' k = some c
  has : HasD o dD μ'
theorem newL_of {μ : Mu} {Q : QD} {o : Option (List Int)} (h : ∀ dD μ', GotD o dD μ μ' → Q dD μ') : newL μ Q o := by
  cases o with
  | none => exact h .non μ ⟨fun e => e, rfl⟩
  | some l =>
    intro m hm
    refine h (.ptr m) _ ⟨fun {k c} e => ?_, m, rfl, mset_same⟩
    rw [mset_ne fun z => by rw [z, hm] at e; cases e]
    exact e
theorem HasD.put {o : Option (List Int)} {dD : D} {μ : Mu} {k : Nat} {c : MO} (h : HasD o dD μ) (hk : ∀ m, dD = .ptr m → m ≠ k) : HasD o dD (mset μ k c) := by
  cases o with
  | none => exact h
  | some l =>
    obtain ⟨m, e, hm⟩ := h
    exact ⟨m, e, (mset_ne (hk m e)).trans hm⟩
theorem HasD.mono {o : Option (List Int)} {dD : D} {μ : Mu} {k : Nat} {c : MO} (h : HasD o dD μ) (hk : μ k = none) : HasD o dD (mset μ k c) := by
  cases o with
  | none => exact h
  | some l =>
    obtain ⟨m, e, hm⟩ := h
    exact ⟨m, e, (mset_ne (ne_cell hm hk)).trans hm⟩
theorem z_dates {y : Yard} {i j b : Int} {z : Way} {μ : Mu} {Q : QD} {E : XQ} (ha : wayAt y i j z) (h0 : 0 ≤ z.long) (h1 : z.long ≤ 1000) (hr : z.rests = 0 ∨ z.rests = 1) (h : ∀ dD μ', Sub μ μ' → HasD (daysL y.days y.shut z b) dD μ' → Q dD μ') :
    sp_dates_L [yardD y, .int i, .int j, .int b] μ Q E := dates_new ⟨y, i, j, b, z, rfl, ha, h0, h1, hr, newL_of fun dD μ' g => h dD μ' (fun _ _ e => g.keep e) g.has⟩
theorem _root_.Y.Sub.trans {μ1 μ2 μ3 : Mu} (a : Sub μ1 μ2) (b : Sub μ2 μ3) : Sub μ1 μ3 := fun n o e => b n o (a n o e)
theorem Dr.sub {n : Nat} {μ μ' : Mu} (h : Dr n μ) (s : Sub μ μ') : Dr n μ' := let ⟨dr, e, q⟩ := h; ⟨dr, s _ _ e, q⟩
theorem HasD.non {o : Option (List Int)} {dD : D} {μ : Mu} (h : HasD o dD μ) : isNon dD = o.isNone := by
  cases o with
  | none => have e : dD = .non := h; rw [e]; rfl
  | some l => obtain ⟨m, e, _⟩ := h; rw [e]; rfl
def scan {α β : Type} (f : Nat → α → Option β) : Nat → List α → Option β
  | _, [] => none
  | i, x :: r => match f i x with
    | some b => some b
    | none => scan f (i + 1) r
theorem scan_drop {α β : Type} {f : Nat → α → Option β} {xs : List α} {i : Nat} {x : α} (h : xs[i]? = some x) : scan f i (xs.drop i) = match f i x with | some b => some b | none => scan f (i + 1) (xs.drop (i + 1)) := by
  obtain ⟨hi, e⟩ := List.getElem?_eq_some_iff.mp h
  rw [List.drop_eq_getElem_cons hi, e]
  rfl
theorem scan_end {α β : Type} {f : Nat → α → Option β} {xs : List α} : scan f xs.length (xs.drop xs.length) = none := by rw [List.drop_length]; rfl
theorem scan_none {α β : Type} {f : Nat → α → Option β} : ∀ {xs : List α} {k : Nat}, scan f k xs = none ↔ ∀ (i : Nat) (x : α), xs[i]? = some x → f (k + i) x = none
  | [], k => by simp [scan]
  | x :: r, k => by
    rw [scan]
    constructor
    · intro h
      split at h
      · cases h
      · rename_i e
        intro i y hy
        cases i with
        | zero => have : x = y := by simpa using hy
                  rw [← this]; exact e
        | succ i =>
          have := scan_none.mp h i y (by simpa using hy)
          rw [show k + (i + 1) = k + 1 + i by omega]; exact this
    · intro h
      have h0 := h 0 x rfl
      rw [Nat.add_zero] at h0
      rw [h0]
      exact scan_none.mpr fun i y hy => by
        have := h (i + 1) y (by simpa using hy)
        rw [show k + 1 + i = k + (i + 1) by omega]; exact this
inductive Rule where
  | work (i : Nat) | tie (i : Nat) | stuff (s d : Nat)
def ruleD : Option Rule → D
  | none => .non
  | some (.work i) => .tup [.str "work", .int (i : Nat)]
  | some (.tie i) => .tup [.str "tie", .int (i : Nat)]
  | some (.stuff s d) => .tup [.str "stuff", .int (s : Nat), .int (d : Nat)]
def aloneAt (y : Yard) (i : Nat) (p : Pair) : Bool := match y.works[i]? with
  | some x => aloneW y x p
  | none => false
/-- from which day on a tie lets the other one begin -/
def aheadP (y : Yard) (t : Tie) (pl : List Pair) : Int := if t.kind = 1 then (((y.works[t.one.toNat]?).bind fun x => (dayP y x (pl.getD t.one.toNat (0, 0))).map fun l => lastI l + 1)).getD 0 else (pl.getD t.one.toNat (0, 0)).1
def tieP (y : Yard) (t : Tie) (pl : List Pair) : Bool := decide ((pl.getD t.other.toNat (0, 0)).1 ≥ aheadP y t pl + t.gap)
def brokenP (y : Yard) (pl : List Pair) : Option Rule := match scan (fun i p => if aloneAt y i p = true then none else some (Rule.work i)) 0 pl with
  | some r => some r
  | none => match scan (fun i t => if tieP y t pl = true then none else some (Rule.tie i)) 0 y.ties with
    | some r => some r
    | none => scan (fun s row => scan (fun d many => if usedP y pl (s : Nat) (d : Nat) > many then some (Rule.stuff s d) else none) 0 row) 0 y.stuffs
theorem planOk_of {y : Yard} {pl : List Pair} (hl : pl.length = y.works.length) (h : scan (fun i p => if aloneAt y i p = true then none else some (Rule.work i)) 0 pl = none) : PlanOk y pl := by
  refine ⟨hl, fun i p x hp hx => ?_⟩
  have := scan_none.mp h i p hp
  rw [Nat.zero_add] at this
  split at this
  · rename_i e
    unfold aloneAt at e
    rw [hx] at e
    exact e
  · cases this
/-- ties join works that are there -/
def TiesIn (y : Yard) : Prop := ∀ t ∈ y.ties, 0 ≤ t.one ∧ t.one < y.works.length ∧ 0 ≤ t.other ∧ t.other < y.works.length ∧ (t.kind = 0 ∨ t.kind = 1)
theorem NetOk.tiesIn {sm jm md gm lm : Int} {y : Yard} (h : NetOk sm jm md gm lm y) : TiesIn y := fun t ht => let q := h.ts t ht; ⟨q.o0, q.o1, q.t0, q.t1, q.kd⟩
def sp_tie_kept : DSp := fun ds μ Q _ => ∃ (y : Yard) (t : Tie) (d : D) (pl : List Pair), ds = [yardD y, tieD t, d] ∧ Tame y ∧ t ∈ y.ties ∧ TiesIn y ∧ asQ μ d = some (pl.map pairD) ∧ PlanOk y pl ∧ Q (.bl (tieP y t pl)) μ
abbrev r_tie_kept_t0 : SD := (sSeq (sSet 9 (dIf (dTest (dOp eqD (dVar 3) (dC (.int (1))))) (dOp addD (dOp ixD (dCall sp_days_of [] (dCons (dVar 0) (dCons (dVar 4) (dCons (dVar 8) (dCons (dVar 7) dNil))))) (dUn negD (dC (.int 1)))) (dC (.int 1))) (dVar 7))) (sRet (dOp geD (dOp ixD (dOp ixD (dVar 2) (dVar 5)) (dC (.int 0))) (dOp addD (dVar 9) (dVar 6)))))
abbrev r_tie_kept_t1 : SD := (sSeq (sUnp (dOp ixD (dVar 2) (dVar 4)) (nTup 2 (nCons (nNm 7) (nCons (nNm 8) nNil)))) r_tie_kept_t0)
def r_tie_kept : SD :=
  (sSeq (sUnp (dVar 1) (nTup 4 (nCons (nNm 3) (nCons (nNm 4) (nCons (nNm 5) (nCons (nNm 6) nNil)))))) r_tie_kept_t1)
set_option maxHeartbeats 1000000 in
theorem k_tie_kept : Keeps N_tie_kept P_tie_kept r_tie_kept sp_tie_kept := by
  rintro ds μ Q E ⟨y, t, d, pl, rfl, hT, ht, hti, hd, hp, h⟩
  refine ⟨rfl, ?_⟩
  rw [show startD N_tie_kept [yardD y, tieD t, d] = [some (yardD y), some (tieD t), some d, none, none, none, none, none, none, none] from rfl]
  unfold r_tie_kept
  obtain ⟨o0, o1, t0, t1, hk⟩ := hti t ht
  have hl := hp.1
  have d0 := hT.d0
  have d1 := hT.d1
  have h1 : t.one.toNat < pl.length := by omega
  have h2 : t.other.toNat < pl.length := by omega
  have g1 := getD_at (d := ((0, 0) : Pair)) h1
  have g2 := getD_at (d := ((0, 0) : Pair)) h2
  obtain ⟨x, z, l, hx, hw, hz, hL, hb, hb2⟩ := hp.at g1
  unfold tieP aheadP at h
  rw [hx] at h
  simp only [Option.bind_some, dayP_at hw hz, hL, Option.map_some, Option.getD_some] at h
  generalize pl.getD t.one.toNat (0, 0) = p at *
  generalize pl.getD t.other.toNat (0, 0) = q at *
  have hxm := List.mem_of_getElem? hx
  have hwl := hT.wl x hxm z (List.mem_of_getElem? hz)
  have hlo := hT.lo x hxm
  walk_at "w"
  refine s_ixA hd o0 (get_map g1) ?_
  walk_at "w"
  refine ifD (fun e => ?_) (fun e => ?_)
  · rw [if_pos e] at h
    walk_at "w"
    refine ⟨y, _, _, _, z, rfl, ⟨o0, hw, x, hx, hz⟩, by omega, ⟨by omega, by omega⟩, ⟨by omega, by omega⟩, ?_⟩
    rw [hL]
    obtain ⟨_, _, ne⟩ := daysL_last hwl.1 hL
    show opQ (ixD μ (.lst (l.map .int)) _) _
    walk_at "w"
    refine s_last rfl ne ?_
    walk_at "w"
    refine s_ixA hd t0 (get_map g2) ?_
    walk_at "w"
    exact ⟨_, Sub.refl, h⟩
  · rw [if_neg e] at h
    walk_at "w"
    refine s_ixA hd t0 (get_map g2) ?_
    walk_at "w"
    exact ⟨_, Sub.refl, h⟩
def sp_first_broken : DSp := fun ds μ Q _ => ∃ (y : Yard) (d : D) (pl : List Pair), ds = [yardD y, d] ∧ Tame y ∧ TiesIn y ∧ asQ μ d = some (pl.map pairD) ∧ pl.length = y.works.length ∧ pl.length ≤ 1000 ∧ Q (ruleD (brokenP y pl)) μ
abbrev r_first_broken_t0 : SD := (sSeq (sFor (dEnum (dOp ixD (dVar 0) (dC (.int 2)))) (nTup 2 (nCons (nNm 5) (nCons (nNm 6) nNil))) (sFor (dEnum (dVar 6)) (nTup 2 (nCons (nNm 7) (nCons (nNm 8) nNil))) (sIf (dTest (dOp gtD (dCall sp_used [] (dCons (dVar 0) (dCons (dVar 1) (dCons (dVar 5) (dCons (dVar 7) dNil))))) (dVar 8))) (sRet (dTup (dCons (dC (.str "stuff")) (dCons (dVar 5) (dCons (dVar 7) dNil))))) sNext))) (sRet (dC .non)))
abbrev r_first_broken_t1 : SD := (sSeq (sFor (dEnum (dOp ixD (dVar 0) (dC (.int 4)))) (nTup 2 (nCons (nNm 2) (nCons (nNm 4) nNil))) (sIf (dNot (dTru (dCall sp_tie_kept [] (dCons (dVar 0) (dCons (dVar 4) (dCons (dVar 1) dNil)))))) (sRet (dTup (dCons (dC (.str "tie")) (dCons (dVar 2) dNil)))) sNext)) r_first_broken_t0)
def r_first_broken : SD :=
  (sSeq (sFor (dEnum (dVar 1)) (nTup 2 (nCons (nNm 2) (nCons (nNm 3) nNil))) (sIf (dNot (dTru (dCall sp_works_alone [] (dCons (dVar 0) (dCons (dVar 2) (dCons (dVar 3) dNil)))))) (sRet (dTup (dCons (dC (.str "work")) (dCons (dVar 2) dNil)))) sNext)) r_first_broken_t1)
set_option maxHeartbeats 2000000 in
theorem k_first_broken : Keeps N_first_broken P_first_broken r_first_broken sp_first_broken := by
  rintro ds μ Q E ⟨y, d, pl, rfl, hT, hti, hd, hl, hl2, h⟩
  refine ⟨rfl, ?_⟩
  rw [show startD N_first_broken [yardD y, d] = [some (yardD y), some d, none, none, none, none, none, none, none] from rfl]
  unfold r_first_broken
  unfold brokenP at h
  walk_at "w"
  refine s_seqA hd ?_
  refine for_enum (fun i ρ μ' => μ' = μ ∧ ∃ a2 a3, ρ = [some (yardD y), some d, a2, a3, none, none, none, none, none] ∧ scan (fun i p => if aloneAt y i p = true then none else some (Rule.work i)) i (pl.drop i) = scan (fun i p => if aloneAt y i p = true then none else some (Rule.work i)) 0 pl) (fun _ _ μ' q => by rw [q.1]; exact st_of hd) ?_ ?_ ⟨rfl, _, _, rfl, rfl⟩
  · rintro i p ρ μ' N hp hN ⟨rfl, a2, a3, rfl, hw⟩
    have hi : i < y.works.length := by rw [← hl]; exact (List.getElem?_eq_some_iff.mp hp).1
    have hx : y.works[i]? = some y.works[i] := List.getElem?_eq_getElem hi
    rw [scan_drop hp] at hw
    have ea : aloneAt y i p = aloneW y y.works[i] p := by unfold aloneAt; rw [hx]
    walk_at "w"
    refine ⟨y, _, p, y.works[i], rfl, by omega, by rw [Int.toNat_natCast]; exact hx, hT, ?_⟩
    walk_at "w"
    refine if_both (fun e => ?_) (fun e => ?_)
    · have e : aloneAt y i p = false := by rw [ea]; simpa using e
      rw [if_neg (by rw [e]; exact Bool.false_ne_true)] at hw
      rw [← hw] at h
      walk_at "w"
      exact ⟨_, Sub.refl, h⟩
    · have e : aloneAt y i p = true := by rw [ea]; simpa using e
      rw [if_pos e] at hw
      walk_at "w"
      exact hN _ _ ⟨rfl, _, _, rfl, hw⟩
  rintro ρ μ' ⟨rfl, a2, a3, rfl, hw⟩
  rw [scan_end] at hw
  have hp := planOk_of hl hw.symm
  rw [← hw] at h
  clear hw
  walk_at "w"
  refine for_enum (fun i ρ μ'' => μ'' = μ' ∧ ∃ a2 a4, ρ = [some (yardD y), some d, a2, a3, a4, none, none, none, none] ∧ scan (fun i t => if tieP y t pl = true then none else some (Rule.tie i)) i (y.ties.drop i) = scan (fun i t => if tieP y t pl = true then none else some (Rule.tie i)) 0 y.ties) (fun _ _ _ _ => trivial) ?_ ?_ ⟨rfl, _, _, rfl, rfl⟩
  · rintro i t ρ μ'' N ht hN ⟨rfl, a2, a4, rfl, hw⟩
    rw [scan_drop ht] at hw
    walk_at "w"
    refine ⟨y, t, d, pl, rfl, hT, List.mem_of_getElem? ht, hti, hd, hp, ?_⟩
    walk_at "w"
    refine if_both (fun e => ?_) (fun e => ?_)
    · have e : tieP y t pl = false := by simpa using e
      rw [if_neg (by rw [e]; exact Bool.false_ne_true)] at hw
      rw [← hw] at h
      walk_at "w"
      exact ⟨_, Sub.refl, h⟩
    · have e : tieP y t pl = true := by simpa using e
      rw [if_pos e] at hw
      walk_at "w"
      exact hN _ _ ⟨rfl, _, _, rfl, hw⟩
  rintro ρ μ'' ⟨rfl, a2, a4, rfl, hw⟩
  rw [scan_end] at hw
  rw [← hw] at h
  clear hw
  walk_at "w"
  generalize hF : (fun (s : Nat) (row : List Int) => scan (fun d many => if usedP y pl (s : Nat) (d : Nat) > many then some (Rule.stuff s d) else none) 0 row) = F at h
  refine for_enum (fun i ρ μ' => μ' = μ'' ∧ ∃ a5 a6 a7 a8, ρ = [some (yardD y), some d, a2, a3, a4, a5, a6, a7, a8] ∧ scan F i (y.stuffs.drop i) = scan F 0 y.stuffs) (fun _ _ _ _ => trivial) ?_ ?_ ⟨rfl, _, _, _, _, rfl, rfl⟩
  · rintro s row ρ μ' N hrow hN ⟨rfl, a5, a6, a7, a8, rfl, hw⟩
    rw [scan_drop hrow] at hw
    have hsl := (List.getElem?_eq_some_iff.mp hrow).1
    show nTup 2 _ (.tup [.int (s : Nat), .tup (row.map .int)]) _ _ _
    walk_at "w"
    have eF : F s row = scan (fun d many => if usedP y pl (s : Nat) (d : Nat) > many then some (Rule.stuff s d) else none) 0 row := by rw [← hF]
    generalize hG : (fun (d : Nat) (many : Int) => if usedP y pl (s : Nat) (d : Nat) > many then some (Rule.stuff s d) else none) = G at eF
    refine for_enum (fun i ρ μ'' => μ'' = μ' ∧ ∃ a7 a8, ρ = [some (yardD y), some d, a2, a3, a4, some (.int (s : Nat)), some (.tup (row.map .int)), a7, a8] ∧ scan G i (row.drop i) = scan G 0 row) (fun _ _ _ _ => trivial) ?_ ?_ ⟨rfl, _, _, rfl, rfl⟩
    · rintro t many ρ μ'' N' hmany hN' ⟨rfl, a7, a8, rfl, hw'⟩
      rw [scan_drop hmany] at hw'
      have eG : G t many = if usedP y pl (s : Nat) (t : Nat) > many then some (Rule.stuff s t) else none := by rw [← hG]
      walk_at "w"
      refine ⟨y, d, pl, _, _, rfl, hT, hd, hp, hl2, by omega, by omega, ?_⟩
      walk_at "w"
      refine ifD (fun e => ?_) (fun e => ?_)
      · rw [if_pos e] at eG
        rw [eG] at hw'
        rw [eF, ← hw'] at hw
        rw [← hw] at h
        walk_at "w"
        exact ⟨_, Sub.refl, h⟩
      · rw [if_neg e] at eG
        rw [eG] at hw'
        walk_at "w"
        exact hN' _ _ ⟨rfl, _, _, rfl, hw'⟩
    · rintro ρ μ'' ⟨rfl, a7, a8, rfl, hw'⟩
      rw [scan_end] at hw'
      rw [eF, ← hw'] at hw
      exact hN _ _ ⟨rfl, _, _, _, _, rfl, hw⟩
  rintro ρ μ' ⟨rfl, a5, a6, a7, a8, rfl, hw⟩
  rw [scan_end] at hw
  rw [← hw] at h
  walk_at "w"
  exact ⟨_, Sub.refl, h⟩
structure Say where
  word : Str
  work : Int
  thing : Int
def sayD (s : Say) : D := .tup [.str s.word, .int s.work, .int s.thing]
def wFA (w : Str) : Bool := decide (w = "from" ∨ w = "ahead")
def wWN (w : Str) : Bool := decide (w = "way" ∨ w = "not")
def waysAt (y : Yard) (i : Int) : Int := ((y.works[i.toNat]?).map fun x => (x.ways.length : Int)).getD 0
def sayB (y : Yard) (s : Say) : Bool :=
  (tab_OTHER.lookup s.word).isSome && ((decide (0 ≤ s.work) && decide (s.work < (y.works.length : Int))) && if wFA s.word then decide (0 ≤ s.thing) && decide (s.thing ≤ y.days) else if wWN s.word then decide (0 ≤ s.thing) && decide (s.thing < waysAt y s.work) else decide (s.thing = 0))
section
variable {μ : Mu} {K : D → Prop} {KL : List D → Prop} {s : Say}
theorem s_onS (h : KL [.str s.word, .int s.work, .int s.thing]) : onTup (sayD s) KL := h
theorem s_inS2 {w a b : Str} (h : K (.bl (decide (w = a ∨ w = b)))) : opQ (inD μ (.str w) (.tup [.str a, .str b])) K := by
  have e : inD μ (.str w) (.tup [.str a, .str b]) = some (.bl (decide (w = a ∨ w = b))) := by
    show some (D.bl ((a == w) || ((b == w) || false))) = _
    by_cases h1 : a = w
    · subst h1; simp
    · by_cases h2 : b = w
      · subst h2; simp
      · have h3 : ¬ w = a := fun e => h1 e.symm
        have h4 : ¬ w = b := fun e => h2 e.symm
        simp [h1, h2, h3, h4]
  rw [e]; exact h
end
theorem ifN {p : Prop} [Decidable p] {A B : Prop} (h1 : p → B) (h2 : ¬ p → A) : ifB (!decide p) A B := by
  by_cases h : p
  · rw [decide_eq_true h]; exact h1 h
  · rw [decide_eq_false h]; exact h2 h
def sp_is_saying : DSp := fun ds μ Q _ => ∃ (y : Yard) (s : Say), ds = [yardD y, sayD s] ∧ Q (.bl (sayB y s)) μ
abbrev r_is_saying_t0 : SD := (sSeq (sIf (dTest (dOp inD (dVar 2) (dTup (dCons (dC (.str "way")) (dCons (dC (.str "not")) dNil))))) (sRet (dChain leD ltD (dC (.int 0)) (dVar 4) (dCal lenD (dCons (dOp ixD (dOp ixD (dOp ixD (dVar 0) (dC (.int 3))) (dVar 3)) (dC (.int 2))) dNil)))) sNext) (sRet (dOp eqD (dVar 4) (dC (.int 0)))))
abbrev r_is_saying_t1 : SD := (sSeq (sIf (dTest (dOp inD (dVar 2) (dTup (dCons (dC (.str "from")) (dCons (dC (.str "ahead")) dNil))))) (sRet (dChain leD leD (dC (.int 0)) (dVar 4) (dOp ixD (dVar 0) (dC (.int 0))))) sNext) r_is_saying_t0)
abbrev r_is_saying_t2 : SD := (sSeq (sIf (dOr (dTest (dOp (notInTab "OTHER" tab_OTHER) (dVar 2) (dC (.glo "OTHER")))) (dNot (dTest (dChain leD ltD (dC (.int 0)) (dVar 3) (dCal lenD (dCons (dOp ixD (dVar 0) (dC (.int 3))) dNil)))))) (sRet (dC (.bl false))) sNext) r_is_saying_t1)
def r_is_saying : SD :=
  (sSeq (sUnp (dVar 1) (nTup 3 (nCons (nNm 2) (nCons (nNm 3) (nCons (nNm 4) nNil))))) r_is_saying_t2)
theorem k_is_saying : Keeps N_is_saying P_is_saying r_is_saying sp_is_saying := by
  rintro ds μ Q E ⟨y, s, rfl, h⟩
  refine ⟨rfl, ?_⟩
  rw [show startD N_is_saying [yardD y, sayD s] = [some (yardD y), some (sayD s), none, none, none] from rfl]
  unfold r_is_saying
  unfold sayB at h
  walk_at "w"
  refine s_onS ?_
  walk_at "w"
  refine s_notInTab ?_
  cases hw : (tab_OTHER.lookup s.word).isSome with
  | false =>
    rw [hw] at h
    walk_at "w"
    exact ⟨_, Sub.refl, h⟩
  | true =>
    rw [hw] at h
    walk_at "w"
    refine ifD (fun e1 => ?_) (fun e1 => ?_)
    · walk_at "w"
      refine ifN (fun e2 => ?_) (fun e2 => ?_)
      · rw [decide_eq_true e1, decide_eq_true e2] at h
        have hx : y.works[s.work.toNat]? = some y.works[s.work.toNat] := List.getElem?_eq_getElem (by omega)
        walk_at "w"
        refine s_inS2 ?_
        walk_at "w"
        refine if_both (fun e3 => ?_) (fun e3 => ?_)
        · rw [show wFA s.word = true from e3] at h
          walk_at "w"
          refine ifD (fun e4 => ?_) (fun e4 => ?_)
          · rw [decide_eq_true e4] at h
            walk_at "w"
            exact ⟨_, Sub.refl, h⟩
          · rw [decide_eq_false e4] at h
            walk_at "w"
            exact ⟨_, Sub.refl, h⟩
        · rw [show wFA s.word = false from e3] at h
          walk_at "w"
          refine s_inS2 ?_
          walk_at "w"
          refine if_both (fun e3 => ?_) (fun e3 => ?_)
          · rw [show wWN s.word = true from e3] at h
            unfold waysAt at h
            rw [hx] at h
            walk_at "w"
            refine ifD (fun e4 => ?_) (fun e4 => ?_)
            · rw [decide_eq_true e4] at h
              walk_at "w"
              exact ⟨_, Sub.refl, h⟩
            · rw [decide_eq_false e4] at h
              walk_at "w"
              exact ⟨_, Sub.refl, h⟩
          · rw [show wWN s.word = false from e3] at h
            walk_at "w"
            exact ⟨_, Sub.refl, h⟩
      · rw [decide_eq_false e2, Bool.and_false] at h
        walk_at "w"
        exact ⟨_, Sub.refl, h⟩
    · rw [decide_eq_false e1] at h
      walk_at "w"
      exact ⟨_, Sub.refl, h⟩
def SayOk (y : Yard) (ss : List Say) : Prop := ∀ s ∈ ss, sayB y s = true
def keptD : Option Pair → D
  | none => .non
  | some p => pairD p
theorem nb_pairD {μ : Mu} (k : Nat) (p : Pair) : nb μ (k + 1) (pairD p) = true := by cases k <;> rfl
theorem nb_keptD {μ : Mu} (k : Nat) (o : Option Pair) : nb μ (k + 1) (keptD o) = true := by
  cases o with
  | none => cases k <;> rfl
  | some p => exact nb_pairD k p
theorem der_pairD {μ : Mu} (k : Nat) (p : Pair) : der μ (k + 1) (pairD p) = pairD p := by cases k <;> rfl
theorem pairD_inj {p q : Pair} (h : pairD p = pairD q) : p = q := by
  obtain ⟨a, b⟩ := p
  obtain ⟨c, d⟩ := q
  simpa [pairD] using h
theorem s_neNilT {μ : Mu} {α : Type} {enc : α → D} {xs : List α} {K : D → Prop} (hx : nb μ 32 (.tup (xs.map enc)) = true) (h1 : xs = [] → K (.bl false)) (h2 : xs ≠ [] → K (.bl true)) : opQ (neD μ (.tup (xs.map enc)) (.tup [])) K := by
  refine s_neT hx rfl fun b hb => ?_
  cases b with
  | true => exact h1 (der_nil.mp (hb.mp rfl))
  | false => exact h2 fun e => by have := hb.mpr (der_nil.mpr e); cases this
theorem s_eqPair {μ : Mu} {p q : Pair} {K : D → Prop} (h : K (.bl (decide (q = p)))) : opQ (eqD μ (pairD q) (.tup [.int p.1, .int p.2])) K := by
  refine s_eqT (nb_pairD 31 q) (nb_pairD 31 p) fun b hb => ?_
  rw [show der μ 32 (pairD q) = pairD q from der_pairD 31 q, show der μ 32 (.tup [.int p.1, .int p.2]) = pairD p from der_pairD 31 p] at hb
  have e : b = decide (q = p) := by
    by_cases hq : q = p
    · rw [decide_eq_true hq]; exact hb.mpr (by rw [hq])
    · rw [decide_eq_false hq]
      cases b with
      | false => rfl
      | true => exact absurd (pairD_inj (hb.mp rfl)) hq
  rw [e]; exact h
def staysB (ks : List (Option Pair)) (i : Int) (p : Pair) : Bool := decide (ks ≠ [] ∧ ks[i.toNat]? = some (some p))
def sayS (pl : List Pair) (ks : List (Option Pair)) (s : Say) : Bool :=
  let p := (pl[s.work.toNat]?).getD (0, 0)
  if wFA s.word then decide (decide (p.1 ≥ s.thing) = decide (s.word = "from")) else if wWN s.word then decide (decide (p.2 = s.thing) = decide (s.word = "way")) else decide (staysB ks s.work p = decide (s.word = "stays"))
def sp_says_so : DSp := fun ds μ Q _ => ∃ (d : D) (pl : List Pair) (ks : List (Option Pair)) (s : Say), ds = [d, .tup (ks.map keptD), sayD s] ∧ asQ μ d = some (pl.map pairD) ∧ 0 ≤ s.work ∧ s.work < pl.length ∧ (ks = [] ∨ ks.length = pl.length) ∧ Q (.bl (sayS pl ks s)) μ
abbrev r_says_so_t0 : SD := (sSeq (sSet 8 (dAndV (dOp neD (dVar 1) (dTup dNil)) (dAndV (dOp notND (dOp ixD (dVar 1) (dVar 4)) (dC .non)) (dOp eqD (dCal tupleD (dCons (dOp ixD (dVar 1) (dVar 4)) dNil)) (dTup (dCons (dVar 6) (dCons (dVar 7) dNil))))))) (sRet (dOp eqD (dVar 8) (dOp eqD (dVar 3) (dC (.str "stays"))))))
abbrev r_says_so_t1 : SD := (sSeq (sIf (dTest (dOp inD (dVar 3) (dTup (dCons (dC (.str "way")) (dCons (dC (.str "not")) dNil))))) (sRet (dOp eqD (dOp eqD (dVar 7) (dVar 5)) (dOp eqD (dVar 3) (dC (.str "way"))))) sNext) r_says_so_t0)
abbrev r_says_so_t2 : SD := (sSeq (sIf (dTest (dOp inD (dVar 3) (dTup (dCons (dC (.str "from")) (dCons (dC (.str "ahead")) dNil))))) (sRet (dOp eqD (dOp geD (dVar 6) (dVar 5)) (dOp eqD (dVar 3) (dC (.str "from"))))) sNext) r_says_so_t1)
abbrev r_says_so_t3 : SD := (sSeq (sUnp (dOp ixD (dVar 0) (dVar 4)) (nTup 2 (nCons (nNm 6) (nCons (nNm 7) nNil)))) r_says_so_t2)
def r_says_so : SD :=
  (sSeq (sUnp (dVar 2) (nTup 3 (nCons (nNm 3) (nCons (nNm 4) (nCons (nNm 5) nNil))))) r_says_so_t3)
theorem k_says_so : Keeps N_says_so P_says_so r_says_so sp_says_so := by
  rintro ds μ Q E ⟨d, pl, ks, s, rfl, hd, h0, h1, hk, h⟩
  refine ⟨rfl, ?_⟩
  rw [show startD N_says_so [d, .tup (ks.map keptD), sayD s] = [some d, some (.tup (ks.map keptD)), some (sayD s), none, none, none, none, none, none] from rfl]
  unfold r_says_so
  unfold sayS at h
  walk_at "w"
  refine s_onS ?_
  walk_at "w"
  have hp : pl[s.work.toNat]? = some pl[s.work.toNat] := List.getElem?_eq_getElem (by omega)
  rw [hp] at h
  generalize pl[s.work.toNat] = p at hp h
  refine s_ixA hd h0 (get_map hp) ?_
  walk_at "w"
  refine s_inS2 ?_
  walk_at "w"
  refine if_both (fun e3 => ?_) (fun e3 => ?_)
  · rw [show wFA s.word = true from e3] at h
    walk_at "w"
    exact ⟨_, Sub.refl, h⟩
  rw [show wFA s.word = false from e3] at h
  walk_at "w"
  refine s_inS2 ?_
  walk_at "w"
  refine if_both (fun e3 => ?_) (fun e3 => ?_)
  · rw [show wWN s.word = true from e3] at h
    walk_at "w"
    exact ⟨_, Sub.refl, h⟩
  rw [show wWN s.word = false from e3] at h
  walk_at "w"
  refine s_neNilT (nb_map ks fun x _ => nb_keptD 30 x) (fun e4 => ?_) (fun e4 => ?_)
  · subst e4
    walk_at "w"
    exact ⟨_, Sub.refl, h⟩
  · have hk : ks.length = pl.length := by
      rcases hk with hk | hk
      · exact absurd hk e4
      · exact hk
    have hx : ks[s.work.toNat]? = some ks[s.work.toNat] := List.getElem?_eq_getElem (by omega)
    generalize ks[s.work.toNat] = o at hx
    have h : Q (.bl (decide (staysB ks s.work p = decide (s.word = "stays")))) μ := h
    walk_at "w"
    cases o with
    | none =>
      have e5 : staysB ks s.work p = false := by unfold staysB; rw [hx]; simp
      rw [e5] at h
      refine if_false' rfl ?_
      walk_at "w"
      exact ⟨_, Sub.refl, h⟩
    | some q =>
      have e5 : staysB ks s.work p = decide (q = p) := by
        unfold staysB
        rw [hx]
        by_cases e : q = p
        · subst e; simp [e4]
        · simp [e]
      rw [e5] at h
      refine if_true' rfl ?_
      walk_at "w"
      refine s_opq (tuple_of (ds := [.int q.1, .int q.2]) rfl (by rw [sizeLine_eq]; exact Nat.le_of_ble_eq_true rfl)) ?_
      walk_at "w"
      refine s_eqPair (q := q) ?_
      walk_at "w"
      exact ⟨_, Sub.refl, h⟩
theorem s_seqQ2 {μ : Mu} {d : D} {ds : List D} {K : List D → Prop} (h : asQ μ d = some ds) (k : K ds) : opQ (seqOf μ d) K := by
  cases d with
  | lst es => cases h; exact k
  | tup es => cases h; exact k
  | ptr n => have e : seqOf μ (.ptr n) = some ds := h
             rw [e]; exact k
  | scr ns => have e : seqOf μ (.scr ns) = some ds := h
              rw [e]; exact k
  | _ => cases h
theorem sayB_work {y : Yard} {s : Say} (h : sayB y s = true) : 0 ≤ s.work ∧ s.work < (y.works.length : Int) := by
  unfold sayB at h
  simp only [Bool.and_eq_true, decide_eq_true_eq] at h
  exact h.2.1
def Plain (y : Yard) : Prop := 1 ≤ y.days ∧ y.days ≤ 1000 ∧ (y.works.length : Int) ≤ 1000 ∧ ∀ x ∈ y.works, 1 ≤ x.ways.length ∧ x.ways.length ≤ 1000
theorem NetOk.plain {sm jm md gm lm : Int} {y : Yard} (h : NetOk sm jm md gm lm y) (s1 : sm ≤ 1000) (j1 : jm ≤ 1000) (m1 : md ≤ 1000) : Plain y := by
  have d1 := h.d1
  have jl := h.jl
  refine ⟨h.d0, by omega, by omega, fun x hx => ?_⟩
  have w := h.js x hx
  have := w.w0
  have := w.w1
  omega
def xBad (c w f : Str) (i : Int) : XD := ⟨c, [(f, .int i), ("word", .str w)]⟩
theorem s_raise {x : Str} {n : Nat} {fl : Fl} {U : TL} {De : EndsD} {ρ : Rho} {μ : Mu} (h : U ρ μ (fun ds μ1 => ds.length = n ∧ De.ex ⟨x, fldD fl.reverse ds⟩ ρ μ1) (exAt De ρ)) : sRaise x n fl U De ρ μ := h
abbrev fl_BadSaying : Fl := [("word", .inl "badsaying"), ("at", .inr 0)]
abbrev fl_BadPlan : Fl := [("word", .inl "badplan"), ("at", .inr 0)]
/-- the place of the first that is no saying -/
def badS (y : Yard) (ss : List Say) : Option Nat := ss.findIdx? fun s => !sayB y s
theorem badS_some {y : Yard} {ss : List Say} {i : Nat} {s : Say} (hx : ss[i]? = some s) (hb : sayB y s = false) (h : ∀ (j : Nat) (t : Say), j < i → ss[j]? = some t → sayB y t = true) : badS y ss = some i := by
  obtain ⟨hi, e⟩ := List.getElem?_eq_some_iff.mp hx
  refine List.findIdx?_eq_some_iff_getElem.mpr ⟨hi, by rw [e, hb]; rfl, fun j hj => ?_⟩
  rw [h j ss[j] hj (List.getElem?_eq_getElem _)]; decide
theorem badS_none {y : Yard} {ss : List Say} (h : ∀ s ∈ ss, sayB y s = true) : badS y ss = none := by
  refine List.findIdx?_eq_none_iff.mpr fun s hs => ?_
  rw [h s hs]; rfl
theorem badS_ok {y : Yard} {ss : List Say} (h : badS y ss = none) : SayOk y ss := fun s hs => by
  have := List.findIdx?_eq_none_iff.mp h s hs
  cases e : sayB y s with
  | true => rfl
  | false => rw [e] at this; cases this
def sp_need_sayingsX : DSp := fun ds μ Q E => ∃ (y : Yard) (d : D) (ss : List Say), ds = [yardD y, d] ∧ Small y ∧ wrongOf y = none ∧ asQ μ d = some (ss.map sayD) ∧ (∀ i : Nat, badS y ss = some i → E (xBad "BadSaying" "badsaying" "at" i) μ) ∧ (badS y ss = none → Q .non μ)
abbrev N_need_sayingsX : List Str := ["yard", "sayings", "at", "saying"]
abbrev P_need_sayingsX : List Str := ["yard", "sayings"]
def r_need_sayingsX : SD :=
  (sSeq (sDrop (dCall sp_need_yard [] (dCons (dVar 0) dNil)))
  (sFor (dEnum (dVar 1)) (nTup 2 (nCons (nNm 2) (nCons (nNm 3) nNil))) (sIf (dNot (dTru (dCall sp_is_saying [] (dCons (dVar 0) (dCons (dVar 3) dNil))))) (sRaise "BadSaying" 1 fl_BadSaying (dCons (dVar 2) dNil)) sNext)))
theorem k_need_sayingsX : Keeps N_need_sayingsX P_need_sayingsX r_need_sayingsX sp_need_sayingsX := by
  rintro ds μ Q E ⟨y, d, ss, rfl, hs, hw, hd, hx, h⟩
  refine ⟨rfl, ?_⟩
  rw [show startD N_need_sayingsX [yardD y, d] = [some (yardD y), some d, none, none] from rfl]
  unfold r_need_sayingsX
  walk_at "w"
  refine ⟨y, rfl, hs, hw, ?_⟩
  walk_at "w"
  refine s_seqA hd ?_
  refine for_enum (enc := sayD) (xs := ss) (fun i ρ μ' => μ' = μ ∧ (∀ (j : Nat) (t : Say), j < i → ss[j]? = some t → sayB y t = true) ∧ ∃ a2 a3, ρ = [some (yardD y), some d, a2, a3]) ?_ ?_ ?_ ⟨rfl, fun j t hj => absurd hj (Nat.not_lt_zero _), _, _, rfl⟩
  · rintro _ _ _ ⟨rfl, _⟩
    exact st_of hd
  · rintro i x ρ μ1 N hx' hN ⟨rfl, hb, a2, a3, rfl⟩
    walk_at "w"
    refine ⟨y, x, rfl, ?_⟩
    cases e : sayB y x with
    | true =>
      walk_at "w"
      refine hN _ _ ⟨rfl, fun j t hj ht => ?_, _, _, rfl⟩
      by_cases z : j = i
      · subst z; rw [hx'] at ht; cases ht; exact e
      · exact hb j t (by omega) ht
    | false =>
      walk_at "w"
      refine s_raise ?_
      walk_at "w"
      exact ⟨_, Sub.refl, hx i (badS_some hx' e hb)⟩
  · rintro ρ μ1 ⟨rfl, hb, a2, a3, rfl⟩
    refine ⟨_, Sub.refl, h (badS_none fun s hs => ?_)⟩
    obtain ⟨j, hj, e⟩ := List.getElem_of_mem hs
    exact hb j s hj (by rw [List.getElem?_eq_getElem hj, e])
def sp_need_planX : DSp := fun ds μ Q E => ∃ (y : Yard) (d : D) (pl : List Pair), ds = [yardD y, d] ∧ Small y ∧ wrongOf y = none ∧ asQ μ d = some (pl.map pairD) ∧ (pl.length ≠ y.works.length → E (xBad "BadPlan" "badplan" "at" (min (pl.length : Int) (y.works.length : Int))) μ) ∧ (pl.length = y.works.length → Q .non μ)
abbrev N_need_planX : List Str := ["yard", "plan"]
abbrev P_need_planX : List Str := ["yard", "plan"]
def r_need_planX : SD :=
  (sSeq (sDrop (dCall sp_need_yard [] (dCons (dVar 0) dNil)))
  (sIf (dTest (dOp neD (dCal lenD (dCons (dVar 1) dNil)) (dCal lenD (dCons (dOp ixD (dVar 0) (dC (.int 3))) dNil)))) (sRaise "BadPlan" 1 fl_BadPlan (dCons (dCal min2D (dCons (dCal lenD (dCons (dVar 1) dNil)) (dCons (dCal lenD (dCons (dOp ixD (dVar 0) (dC (.int 3))) dNil)) dNil))) dNil)) sNext))
theorem k_need_planX : Keeps N_need_planX P_need_planX r_need_planX sp_need_planX := by
  rintro ds μ Q E ⟨y, d, pl, rfl, hs, hw, hd, hx, h⟩
  refine ⟨rfl, ?_⟩
  rw [show startD N_need_planX [yardD y, d] = [some (yardD y), some d] from rfl]
  unfold r_need_planX
  walk_at "w"
  refine ⟨y, rfl, hs, hw, ?_⟩
  walk_at "w"
  refine s_lenA hd ?_
  walk_at "w"
  rw [List.length_map]
  by_cases e : pl.length = y.works.length
  · refine z_ifNF (by omega) ?_
    walk_at "w"
    exact ⟨_, Sub.refl, h e⟩
  · refine z_ifNT (by omega) ?_
    refine s_raise ?_
    walk_at "w"
    refine s_lenA hd ?_
    walk_at "w"
    rw [List.length_map]
    have em : (if (y.works.length : Int) < (pl.length : Int) then (y.works.length : Int) else (pl.length : Int)) = min (pl.length : Int) (y.works.length : Int) := by
      split <;> omega
    rw [em]
    exact ⟨_, Sub.refl, hx e⟩
def kS (s : Say) : Ky := [.text s.word, .num s.work, .num s.thing]
theorem kS_inj {s t : Say} (h : kS s = kS t) : s = t := by
  cases s
  cases t
  simp only [kS, List.cons.injEq, Leaf.text.injEq, Leaf.num.injEq, and_true] at h
  obtain ⟨rfl, rfl, rfl⟩ := h
  rfl
instance : DecidableEq Say := fun s t => decidable_of_iff (kS s = kS t) ⟨kS_inj, fun e => by rw [e]⟩
def sp_holdsX : DSp := fun ds μ Q E => ∃ (y : Yard) (d e : D) (pl : List Pair) (ks : List (Option Pair)) (ss : List Say), ds = [yardD y, d, e, .tup (ks.map keptD)] ∧ Small y ∧ wrongOf y = none ∧ asQ μ d = some (pl.map pairD) ∧ asQ μ e = some (ss.map sayD) ∧ ss.length ≤ 1000 ∧
  (pl.length ≠ y.works.length → E (xBad "BadPlan" "badplan" "at" (min (pl.length : Int) (y.works.length : Int))) μ) ∧ (pl.length = y.works.length → (∀ i : Nat, badS y ss = some i → E (xBad "BadSaying" "badsaying" "at" i) μ) ∧ (badS y ss = none → (ks = [] ∨ ks.length = pl.length) ∧ Q (.bl (ss.any (sayS pl ks))) μ))
def r_holdsX : SD :=
  (sSeq (sDrop (dCall sp_need_planX [] (dCons (dVar 0) (dCons (dVar 1) dNil))))
  (sSeq (sDrop (dCall sp_need_sayingsX [] (dCons (dVar 0) (dCons (dVar 2) dNil))))
  (sRet (dCal anyD (dCons (dLc (dSeq (dVar 2)) (nNm 4) dYes (dCall sp_says_so [] (dCons (dVar 1) (dCons (dVar 3) (dCons (dVar 4) dNil)))) [4]) dNil)))))
theorem k_holdsX : Keeps N_holdsX P_holdsX r_holdsX sp_holdsX := by
  rintro ds μ Q E ⟨y, d, e, pl, ks, ss, rfl, hs, hw, hd, he, hz, hx, h⟩
  refine ⟨rfl, ?_⟩
  rw [show startD N_holdsX [yardD y, d, e, .tup (ks.map keptD)] = [some (yardD y), some d, some e, some (.tup (ks.map keptD)), none] from rfl]
  unfold r_holdsX
  walk_at "w"
  refine ⟨y, d, pl, rfl, hs, hw, hd, fun hn => ⟨_, Sub.refl, hx hn⟩, fun hl => ?_⟩
  obtain ⟨h1, h2⟩ := h hl
  walk_at "w"
  refine ⟨y, e, ss, rfl, hs, hw, he, fun i hi => ⟨_, Sub.refl, h1 i hi⟩, fun hn => ?_⟩
  obtain ⟨hk, h3⟩ := h2 hn
  have ho := badS_ok hn
  walk_at "w"
  refine s_seqQ2 he ?_
  walk_at "w"
  refine lc_mapT sayD ss (fun s => .bl (sayS pl ks s)) (st_of he) (fun s hs M hM => ?_) ?_
  · have := sayB_work (ho s hs)
    walk_at "w"
    exact ⟨d, pl, ks, s, rfl, hd, this.1, by omega, hk, hM⟩
  walk_at "w"
  refine s_any ?_
  exact ⟨_, Sub.refl, h3⟩
/-- plain data of few floors -/
def flD : Nat → D → Bool
  | _, .non => true
  | _, .bl _ => true
  | _, .int _ => true
  | _, .str _ => true
  | k + 1, .tup ds => fits ds.length && ds.all (flD k)
  | k + 1, .lst ds => fits ds.length && ds.all (flD k)
  | _, _ => false
theorem is_refl {μ : Mu} : ∀ (k : Nat) (d : D), flD k d = true → Is μ k d d
  | k, .non, _ => by cases k <;> exact .non
  | k, .bl b, _ => by cases k <;> exact .bl b
  | k, .int i, _ => by cases k <;> exact .int i
  | k, .str x, _ => by cases k <;> exact .str x
  | k + 1, .tup ds, h => by
    obtain ⟨h1, h2⟩ := He.ba (show (fits ds.length && ds.all (flD k)) = true from h)
    refine .tup rfl (fits_le.mp h1) fun i d t e1 e2 => ?_
    rw [e1] at e2
    cases e2
    exact is_refl k d (List.all_eq_true.mp h2 d (List.mem_of_getElem? e1))
  | k + 1, .lst ds, h => by
    obtain ⟨h1, h2⟩ := He.ba (show (fits ds.length && ds.all (flD k)) = true from h)
    refine .lst rfl (fits_le.mp h1) fun i d t e1 e2 => ?_
    rw [e1] at e2
    cases e2
    exact is_refl k d (List.all_eq_true.mp h2 d (List.mem_of_getElem? e1))
  | 0, .tup _, h => by cases h
  | 0, .lst _, h => by cases h
  | k, .scr _, h => by cases k <;> cases h
  | k, .ptr _, h => by cases k <;> cases h
  | k, .glo _, h => by cases k <;> cases h
  | k, .ty _, h => by cases k <;> cases h
  | k, .fn _ _ _, h => by cases k <;> cases h
/-- found and due are the same plain thing -/
theorem z_like {μ : Mu} {d e : D} {Q : QD} {E : XQ} (he : d = e) (h : flD 7 e = true) (q : Q (.bl true) μ) : sp_like_L [d, e] μ Q E := by
  subst he
  exact ⟨_, _, d, rfl, is_refl 7 d h, is_refl 7 d h, q⟩
/-- .. found a list that may be changed -/
theorem z_likeP {μ : Mu} {n : Nat} {ds : List D} {Q : QD} {E : XQ} (hn : μ n = some (.lst ds)) (h : flD 7 (.lst ds) = true) (q : Q (.bl true) μ) : sp_like_L [.ptr n, .lst ds] μ Q E := by
  obtain ⟨h1, h2⟩ := He.ba (show (fits ds.length && ds.all (flD 6)) = true from h)
  refine ⟨_, _, .lst ds, rfl, .ptr hn rfl (fits_le.mp h1) fun i d t e1 e2 => ?_, is_refl 7 _ h, q⟩
  rw [e1] at e2
  cases e2
  exact is_refl 6 d (List.all_eq_true.mp h2 d (List.mem_of_getElem? e1))
section
variable {μ : Mu} {K : D → Prop}
theorem eqNil_b {ds : List D} {x : D} (hx : nb μ 32 x = true) (ex : der μ 32 x = .lst (ds.map (der μ 31))) : ∃ b, eqB μ x (.lst []) = some b ∧ (b = true ↔ ds = []) := by
  obtain ⟨b, h1, h2⟩ := eqB_nb (y := .lst []) hx rfl
  refine ⟨b, h1, h2.trans ?_⟩
  rw [ex]
  show (D.lst (ds.map (der μ 31)) = .lst []) ↔ _
  cases ds <;> simp
theorem s_neLN {ds : List D} (hd : ds.all (nb μ 31) = true) (h : ∀ b : Bool, (b = false ↔ ds = []) → K (.bl b)) : opQ (neD μ (.lst ds) (.lst [])) K := by
  obtain ⟨b, e2, q⟩ := eqNil_b (x := .lst ds) (ds := ds) hd rfl
  unfold neD
  rw [e2]
  exact h (!b) (by rw [← q]; cases b <;> simp)
theorem all_map {α : Type} {enc : α → D} {p : D → Bool} {xs : List α} (h : ∀ x ∈ xs, p (enc x) = true) : (xs.map enc).all p = true := by
  rw [List.all_eq_true]
  intro d hd
  obtain ⟨x, hx, rfl⟩ := List.mem_map.mp hd
  exact h x hx
end
/-- the first work that can't begin so -/
def FirstB (y : Yard) (pl : List Pair) (i : Nat) : Prop := ∃ p x, pl[i]? = some p ∧ y.works[i]? = some x ∧ aloneW y x p = false ∧ ∀ (j : Nat) (q : Pair) (z : Work), j < i → pl[j]? = some q → y.works[j]? = some z → aloneW y z q = true
abbrev planE (y : Yard) (pl : List Pair) (μ : Mu) (E : XQ) (Q : Prop) : Prop := (pl.length ≠ y.works.length → E (xBad "BadPlan" "badplan" "at" (min (pl.length : Int) (y.works.length : Int))) μ) ∧ (pl.length = y.works.length → (∀ i : Nat, FirstB y pl i → E (xBad "BadPlan" "badplan" "at" i) μ) ∧ (PlanOk y pl → Q))
def sp_need_daysX : DSp := fun ds μ Q E => ∃ (y : Yard) (d : D) (pl : List Pair), ds = [yardD y, d] ∧ Small y ∧ wrongOf y = none ∧ Tame y ∧ asQ μ d = some (pl.map pairD) ∧ planE y pl μ E (Q .non μ)
abbrev N_need_daysX : List Str := ["yard", "plan", "at", "pair"]
abbrev P_need_daysX : List Str := ["yard", "plan"]
def r_need_daysX : SD :=
  (sSeq (sDrop (dCall sp_need_planX [] (dCons (dVar 0) (dCons (dVar 1) dNil))))
  (sFor (dEnum (dVar 1)) (nTup 2 (nCons (nNm 2) (nCons (nNm 3) nNil))) (sIf (dNot (dTru (dCall sp_works_alone [] (dCons (dVar 0) (dCons (dVar 2) (dCons (dVar 3) dNil)))))) (sRaise "BadPlan" 1 fl_BadPlan (dCons (dVar 2) dNil)) sNext)))
theorem k_need_daysX : Keeps N_need_daysX P_need_daysX r_need_daysX sp_need_daysX := by
  rintro ds μ Q E ⟨y, d, pl, rfl, hs, hw, hT, hd, hx, h⟩
  refine ⟨rfl, ?_⟩
  rw [show startD N_need_daysX [yardD y, d] = [some (yardD y), some d, none, none] from rfl]
  unfold r_need_daysX
  walk_at "w"
  refine ⟨y, d, pl, rfl, hs, hw, hd, fun hn => ⟨_, Sub.refl, hx hn⟩, fun hl => ?_⟩
  obtain ⟨h1, h2⟩ := h hl
  walk_at "w"
  refine s_seqA hd ?_
  refine for_enum (enc := pairD) (xs := pl) (fun i ρ μ' => μ' = μ ∧ (∀ (j : Nat) (q : Pair) (z : Work), j < i → pl[j]? = some q → y.works[j]? = some z → aloneW y z q = true) ∧ ∃ a2 a3, ρ = [some (yardD y), some d, a2, a3]) ?_ ?_ ?_ ⟨rfl, fun j q z hj => absurd hj (Nat.not_lt_zero _), _, _, rfl⟩
  · rintro _ _ _ ⟨rfl, _⟩
    exact st_of hd
  · rintro i p ρ μ1 N hp hN ⟨rfl, hb, a2, a3, rfl⟩
    have hi : i < y.works.length := by rw [← hl]; exact (List.getElem?_eq_some_iff.mp hp).1
    have hx' : y.works[i]? = some y.works[i] := List.getElem?_eq_getElem hi
    generalize y.works[i] = x at hx'
    walk_at "w"
    refine ⟨y, _, p, x, rfl, by omega, by simpa using hx', hT, ?_⟩
    cases e : aloneW y x p with
    | true =>
      walk_at "w"
      refine hN _ _ ⟨rfl, fun j q z hj hq hz => ?_, _, _, rfl⟩
      by_cases w : j = i
      · subst w; rw [hp] at hq; cases hq; rw [hx'] at hz; cases hz; exact e
      · exact hb j q z (by omega) hq hz
    | false =>
      walk_at "w"
      refine s_raise ?_
      walk_at "w"
      exact ⟨_, Sub.refl, h1 i ⟨p, x, hp, hx', e, hb⟩⟩
  · rintro ρ μ1 ⟨rfl, hb, a2, a3, rfl⟩
    exact ⟨_, Sub.refl, h2 ⟨hl, fun i p x hp hx' => hb i p x (by rw [hl]; exact (List.getElem?_eq_some_iff.mp hx').1) hp hx'⟩⟩
def sp_end_ofX : DSp := fun ds μ Q E => ∃ (y : Yard) (d : D) (pl : List Pair), ds = [yardD y, d] ∧ Small y ∧ wrongOf y = none ∧ Tame y ∧ asQ μ d = some (pl.map pairD) ∧ pl.length ≤ 1000 ∧ planE y pl μ E (Q (.int (endP y pl)) μ)
def r_end_ofX : SD :=
  (sSeq (sDrop (dCall sp_need_daysX [] (dCons (dVar 0) (dCons (dVar 1) dNil)))) (sRet (dMostF (dCons (dLc (dEnum (dVar 1)) (nTup 2 (nCons (nNm 2) (nCons (nTup 2 (nCons (nNm 3) (nCons (nNm 4) nNil))) nNil))) dYes (dOp addD (dOp ixD (dCall sp_days_of [] (dCons (dVar 0) (dCons (dVar 2) (dCons (dVar 4) (dCons (dVar 3) dNil))))) (dUn negD (dC (.int 1)))) (dC (.int 1))) [2, 3, 4]) dNil) (dCons (dC (.int 0)) dNil))))
set_option maxHeartbeats 1000000 in
theorem k_end_ofX : Keeps N_end_ofX P_end_ofX r_end_ofX sp_end_ofX := by
  rintro ds μ Q E ⟨y, d, pl, rfl, hs, hw, hT, hd, hpl, hx0, h⟩
  refine ⟨rfl, ?_⟩
  rw [show startD N_end_ofX [yardD y, d] = [some (yardD y), some d, none, none, none] from rfl]
  unfold r_end_ofX
  have d0 := hT.d0
  have d1 := hT.d1
  walk_at "w"
  refine ⟨y, d, pl, rfl, hs, hw, hT, hd, fun hn => ⟨_, Sub.refl, hx0 hn⟩, fun hl => ⟨fun i hi => ⟨_, Sub.refl, (h hl).1 i hi⟩, fun hp => ?_⟩⟩
  replace h := (h hl).2 hp
  walk_at "w"
  refine s_seqA hd ?_
  rw [enum_pairs (dflt := (0, 0))]
  refine z_map (by rw [List.length_range]; omega) ?_
  refine lc_mapT _ _ (fun i => .int ((((y.works[i]?).bind fun x => (dayP y x (pl.getD i (0, 0))).map fun l => lastI l + 1)).getD 0)) (st_of hd) (fun i hi M hM => ?_) ?_
  · have hi : i < pl.length := by simpa using hi
    obtain ⟨x, z, l, hx, h2, hz, hl, _, hb⟩ := hp.at (getD_at (d := (0, 0)) hi)
    generalize pl.getD i (0, 0) = p at *
    have hxm := List.mem_of_getElem? hx
    have hwl := hT.wl x hxm z (List.mem_of_getElem? hz)
    have hlo := hT.lo x hxm
    walk_at "w"
    refine ⟨y, _, _, _, z, rfl, ⟨by omega, h2, x, by simpa using hx, hz⟩, by omega, ⟨by omega, by omega⟩, ⟨by omega, by omega⟩, ?_⟩
    rw [hx] at hM
    simp only [Option.bind_some, dayP_at h2 hz, hl, Option.map_some, Option.getD_some] at hM
    rw [hl]
    obtain ⟨_, _, ne⟩ := daysL_last hwl.1 hl
    show opQ (ixD μ (.lst (l.map .int)) _) _
    walk_at "w"
    refine s_last rfl ne ?_
    walk_at "w"
    exact hM
  · walk_at "w"
    rw [show (List.map (fun i => D.int ((((y.works[i]?).bind fun x => (dayP y x (pl.getD i (0, 0))).map fun l => lastI l + 1)).getD 0)) (List.range pl.length)) = (endsP y pl).map .int by unfold endsP; rw [List.map_map]; rfl]
    unfold endP at h
    refine s_mostI (fun e => ?_) (fun m e => ?_)
    · rw [e] at h
      exact ⟨_, Sub.refl, h⟩
    · rw [e] at h
      exact ⟨_, Sub.refl, h⟩
def sp_tableX : DSp := fun ds μ Q E => ∃ (y : Yard) (d : D) (pl : List Pair), ds = [yardD y, d] ∧ Small y ∧ wrongOf y = none ∧ Tame y ∧ asQ μ d = some (pl.map pairD) ∧ y.stuffs.length ≤ 1000 ∧ pl.length ≤ 1000 ∧ planE y pl μ E (Q (.lst ((iota 0 y.stuffs.length).map (rowOf y pl))) μ)
def r_tableX : SD :=
  (sSeq (sDrop (dCall sp_need_daysX [] (dCons (dVar 0) (dCons (dVar 1) dNil))))
  (sRet (dLc (dRange1 (dCal lenD (dCons (dOp ixD (dVar 0) (dC (.int 2))) dNil))) (nNm 2) dYes (dLc (dRange1 (dOp ixD (dVar 0) (dC (.int 0)))) (nNm 3) dYes (dCall sp_used [] (dCons (dVar 0) (dCons (dVar 1) (dCons (dVar 2) (dCons (dVar 3) dNil))))) [3]) [2])))
set_option maxHeartbeats 1000000 in
theorem k_tableX : Keeps N_tableX P_tableX r_tableX sp_tableX := by
  rintro ds μ Q E ⟨y, d, pl, rfl, hs, hw, hT, hd, hsl, hpl, hx0, h⟩
  refine ⟨rfl, ?_⟩
  rw [show startD N_tableX [yardD y, d] = [some (yardD y), some d, none, none] from rfl]
  unfold r_tableX
  have d0 := hT.d0
  have d1 := hT.d1
  walk_at "w"
  refine ⟨y, d, pl, rfl, hs, hw, hT, hd, fun hn => ⟨_, Sub.refl, hx0 hn⟩, fun hl => ⟨fun i hi => ⟨_, Sub.refl, (h hl).1 i hi⟩, fun hp => ?_⟩⟩
  replace h := (h hl).2 hp
  walk_at "w"
  rw [range_ints]
  refine lc_mapT .int _ (rowOf y pl) trivial (fun s hs' M hM => ?_) ?_
  · have hs' := mem_ints.mp hs'
    walk_at "w"
    rw [range_ints]
    refine lc_mapT .int _ (fun t => .int (usedP y pl s t)) trivial (fun t _ M' hM' => ?_) ?_
    · walk_at "w"
      exact ⟨y, d, pl, s, t, rfl, hT, hd, hp, hpl, by omega, by simp at hs'; omega, hM'⟩
    · exact hM
  · walk_at "w"
    exact ⟨_, Sub.refl, h⟩
def sp_brokenX : DSp := fun ds μ Q E => ∃ (y : Yard) (d : D) (pl : List Pair), ds = [yardD y, d] ∧ Small y ∧ wrongOf y = none ∧ Tame y ∧ TiesIn y ∧ asQ μ d = some (pl.map pairD) ∧ pl.length ≤ 1000 ∧ (pl.length ≠ y.works.length → E (xBad "BadPlan" "badplan" "at" (min (pl.length : Int) (y.works.length : Int))) μ) ∧ (pl.length = y.works.length → Q (ruleD (brokenP y pl)) μ)
abbrev N_brokenX : List Str := ["yard", "plan"]
abbrev P_brokenX : List Str := ["yard", "plan"]
def r_brokenX : SD :=
  (sSeq (sDrop (dCall sp_need_planX [] (dCons (dVar 0) (dCons (dVar 1) dNil))))
  (sRet (dCall sp_first_broken [] (dCons (dVar 0) (dCons (dVar 1) dNil)))))
theorem k_brokenX : Keeps N_brokenX P_brokenX r_brokenX sp_brokenX := by
  rintro ds μ Q E ⟨y, d, pl, rfl, hs, hw, hT, hti, hd, hl2, hx0, h⟩
  refine ⟨rfl, ?_⟩
  rw [show startD N_brokenX [yardD y, d] = [some (yardD y), some d] from rfl]
  unfold r_brokenX
  walk_at "w"
  refine ⟨y, d, pl, rfl, hs, hw, hd, fun hn => ⟨_, Sub.refl, hx0 hn⟩, fun hl => ?_⟩
  walk_at "w"
  exact ⟨y, d, pl, rfl, hT, hti, hd, hl, hl2, ⟨_, Sub.refl, h hl⟩⟩
def sp_law : DSp := fun ds μ Q _ => ∃ ns, ds = [.scr ns] ∧ ∀ μ', Q (.bl true) μ'
abbrev N_spot_L : List Str := ["_law_ask", "_law_found", "e"]
abbrev P_spot_L : List Str := ["_law_ask"]
abbrev cl_spot_L_0 : ClD := ⟨[("BadPlan", true), ("BadSaying", false)], 2, 1, .one (.fld "at")⟩
abbrev cl_spot_L : List ClD := [cl_spot_L_0]
def U_spot_L : SD :=
  (sRet (dVar 1))
abbrev sp_spot_L : LSp := spCatch 3 [(1, none)] none cl_spot_L U_spot_L
abbrev r_law_t0 : SD := (sSeq (sDrop (dAppend (dVar 16) (dCons (dLam sp_spot_L (dCall sp_tableX [] (dCons (dVar 3) (dCons (dVar 4) dNil)))) dNil))) (sIf (dOr (dNot (dTru (dCall sp_like_L [] (dCons (dVar 16) (dCons (dLst (dCons (dVar 8) (dCons (dVar 8) dNil))) dNil))))) (dTest (dOp notND (dLam sp_spot_L (dCall sp_brokenX [] (dCons (dVar 3) (dCons (dVar 4) dNil)))) (dC .non)))) (sRet (dC (.bl false))) sNext))
abbrev r_law_t1 : SD := (sSeq (sSet 16 (dNew (dCons (dLam sp_spot_L (dCall sp_end_ofX [] (dCons (dVar 3) (dCons (dVar 4) dNil)))) dNil))) r_law_t0)
abbrev r_law_t2 : SD := (sSeq (sSet 15 (dAndV (dChain leD ltD (dVar 10) (dVar 13) (dVar 11)) (dChain leD ltD (dC (.int 0)) (dVar 14) (dCal lenD (dCons (dVar 12) dNil))))) (sIf (dAnd (dTest (dOp isND (dVar 8) (dC .non))) (dOr (dNot (dTru (dVar 15))) (dTest (dOp isND (dCall sp_dates_L [] (dCons (dVar 3) (dCons (dVar 9) (dCons (dVar 14) (dCons (dVar 13) dNil))))) (dC .non))))) (sSet 8 (dVar 9)) sNext))
abbrev r_law_t3 : SD := (sSeq (sUnp (dOp ixD (dVar 4) (dVar 9)) (nTup 2 (nCons (nNm 13) (nCons (nNm 14) nNil)))) r_law_t2)
abbrev r_law_t4 : SD := (sSeq (sUnp (dOp ixD (dOp ixD (dVar 3) (dC (.int 3))) (dVar 9)) (nTup 3 (nCons (nNm 10) (nCons (nNm 11) (nCons (nNm 12) nNil))))) r_law_t3)
abbrev r_law_t5 : SD := (sSeq (sFor (dRange1 (dCal lenD (dCons (dVar 4) dNil))) (nNm 9) r_law_t4) r_law_t1)
abbrev r_law_t6 : SD := (sSeq (sSet 8 (dC .non)) r_law_t5)
abbrev r_law_t7 (LT : LTag) : SD := (sSeq (sIf (dNot (dTru (dCall sp_like_L [] (dCons (dSpots sp_spot_L LT [(dCall sp_brokenX [] (dCons (dVar 3) (dCons (dVar 5) dNil))), (dCall sp_end_ofX [] (dCons (dVar 3) (dCons (dVar 5) dNil))), (dCall sp_tableX [] (dCons (dVar 3) (dCons (dVar 5) dNil))), (dCallK sp_holdsX 3 0 (fun ds es => pick [0, 1, 2, 3] (ds ++ es ++ [.tup []])) (dCons (dVar 3) (dCons (dVar 5) (dCons (dLst (dCons (dTup (dCons (dC (.str "odd")) (dCons (dC (.int 9)) (dCons (dC (.int 9)) dNil)))) dNil)) dNil))) dNil)] (dSeq (dVar 7)) 18 (nNm 18) [18]) (dCons (dRep (dLst (dCons (dVar 6) dNil)) (dC (.int 4))) dNil))))) (sRet (dC (.bl false))) sNext) r_law_t6)
abbrev r_law_t8 (LT : LTag) : SD := (sSeq (sDrop (dAppend (dVar 7) (dCons (dMkLam LT 3) dNil))) (r_law_t7 LT))
abbrev r_law_t9 (LT : LTag) : SD := (sSeq (sDrop (dAppend (dVar 7) (dCons (dMkLam LT 2) dNil))) (r_law_t8 LT))
abbrev r_law_t10 (LT : LTag) : SD := (sSeq (sDrop (dAppend (dVar 7) (dCons (dMkLam LT 1) dNil))) (r_law_t9 LT))
abbrev r_law_t11 (LT : LTag) : SD := (sSeq (sSet 7 (dNew (dCons (dMkLam LT 0) dNil))) (r_law_t10 LT))
abbrev r_law_t12 (LT : LTag) : SD := (sSeq (sSet 6 (dCal min2D (dCons (dCal lenD (dCons (dVar 5) dNil)) (dCons (dCal lenD (dCons (dOp ixD (dVar 3) (dC (.int 3))) dNil)) dNil)))) (r_law_t11 LT))
abbrev r_law_t13 (LT : LTag) : SD := (sJoin (sIf (dAnd (dTest (dOp neD (dVar 4) (dLst dNil))) (dTest (dOp eqD (dCall sp_pull_L [] (dCons (dVar 1) (dCons (dC (.int 2)) dNil))) (dC (.int 0))))) (sSet 5 (dSl (dVar 4) dNoP (dPart (dCall sp_pull_L [] (dCons (dVar 1) (dCons (dCal lenD (dCons (dVar 4) dNil)) dNil)))))) sNext) (r_law_t12 LT))
abbrev r_law_t14 (LT : LTag) : SD := (sSeq (sSet 5 (dOp addD (dVar 4) (dRep (dLst (dCons (dTup (dCons (dC (.int 0)) (dCons (dC (.int 0)) dNil))) dNil)) (dOp addD (dC (.int 1)) (dCall sp_pull_L [] (dCons (dVar 1) (dCons (dC (.int 3)) dNil))))))) (r_law_t13 LT))
abbrev r_law_t15 (LT : LTag) : SD := (sSeq (sSet 4 (dLc (dRange1 (dCal lenD (dCons (dOp ixD (dVar 3) (dC (.int 3))) dNil))) (nNm 17) dYes (dTup (dCons (dOp subD (dCall sp_pull_L [] (dCons (dVar 1) (dCons (dOp addD (dOp ixD (dVar 3) (dC (.int 0))) (dC (.int 2))) dNil))) (dC (.int 1))) (dCons (dOp subD (dCall sp_pull_L [] (dCons (dVar 1) (dCons (dC (.int 4)) dNil))) (dC (.int 1))) dNil))) [17])) (r_law_t14 LT))
abbrev r_law_t16 (LT : LTag) : SD := (sSeq (sSet 3 (dCall sp_net_L [] (dCons (dVar 1) (dCons (dC (.int 8)) (dCons (dC (.int 5)) (dCons (dC (.int 2)) (dCons (dC (.int 2)) (dCons (dC (.int 3)) dNil)))))))) (r_law_t15 LT))
abbrev r_law_t17 (LT : LTag) : SD := (sSeq (sFor (dRange1 (dC (.int 3))) (nNm 2) (r_law_t16 LT)) (sRet (dC (.bl true))))
def r_law : SD :=
  (sLams fun LT => (sSeq (sSet 1 (dCall sp_open_L [] (dCons (dVar 0) dNil))) (r_law_t17 LT)))
def dueI : Option Int → D
  | none => .non
  | some i => .int i
theorem z_spot {A : LA} {μ : Mu} {Q : QD} (o : Option Int) (hA : ∀ (Q' : QD) (E' : XQ), (∀ i : Int, o = some i → E' (xBad "BadPlan" "badplan" "at" i) μ) → (o = none → ∀ r, Q' r μ) → A μ Q' E') (h : Q (dueI o) μ) : sp_spot_L A μ Q := by
  refine hA _ _ (fun i e => ?_) fun e r => ?_
  · subst e
    exact ⟨by decide, _, Sub.refl, h⟩
  · subst e
    exact ⟨_, Sub.refl, h⟩
theorem fl_due (k : Nat) (o : Option Int) : flD k (dueI o) = true := by cases o <;> cases k <;> rfl
/-- items that all give the same -/
theorem lcx_all {st : Mu → Prop} {n : D → Rho → Mu → (Rho → Mu → Prop) → Prop} {T : TD} {E : XQ} {ρ : Rho} {μ : Mu} {Q : List D → Mu → Prop} (z : D) (h0 : st μ) : ∀ (ds acc : List D), (∀ d ∈ ds, ∀ M : QD, M z μ → n d ρ μ fun ρ' μ1 => T ρ' μ1 M E) → Q (acc ++ List.replicate ds.length z) μ → lcDX st n T E ρ Q ds acc μ
  | [], acc, _, hq => ⟨h0, by rwa [List.length_nil, List.replicate_zero, List.append_nil] at hq⟩
  | d :: ds, acc, hs, hq => ⟨h0, hs d List.mem_cons_self _ (lcx_all z h0 ds (acc ++ [z]) (fun e he => hs e (List.mem_cons_of_mem _ he)) (by rw [List.append_assoc]; exact hq))⟩
theorem FirstB.same {y : Yard} {pl : List Pair} {i j : Nat} (a : FirstB y pl i) (b : FirstB y pl j) : i = j := by
  obtain ⟨p, x, h1, h2, h3, h4⟩ := a
  obtain ⟨q, z, k1, k2, k3, k4⟩ := b
  rcases Nat.lt_trichotomy i j with w | w | w
  · rw [k4 i p x w h1 h2] at h3; cases h3
  · exact w
  · rw [h4 j q z w k1 k2] at k3; cases k3
/-- the first work ahead of i that can't begin so -/
def DueAt (y : Yard) (pl : List Pair) (i : Nat) (o : Option Nat) : Prop := (∀ j, o = some j → FirstB y pl j) ∧ (o = none → ∀ (j : Nat) (q : Pair) (z : Work), j < i → pl[j]? = some q → y.works[j]? = some z → aloneW y z q = true)
theorem DueAt.ok {y : Yard} {pl : List Pair} {i : Nat} {p : Pair} {x : Work} {o : Option Nat} (h : DueAt y pl i o) (hp : pl[i]? = some p) (hx : y.works[i]? = some x) (ha : o = none → aloneW y x p = true) : DueAt y pl (i + 1) o := by
  refine ⟨h.1, fun e j q z hj hq hz => ?_⟩
  by_cases w : j = i
  · subst w; rw [hp] at hq; cases hq; rw [hx] at hz; cases hz; exact ha e
  · exact h.2 e j q z (by omega) hq hz
theorem DueAt.bad {y : Yard} {pl : List Pair} {i : Nat} {p : Pair} {x : Work} (h : DueAt y pl i none) (hp : pl[i]? = some p) (hx : y.works[i]? = some x) (ha : aloneW y x p = false) : DueAt y pl (i + 1) (some i) :=
  ⟨fun j e => by cases e; exact ⟨p, x, hp, hx, ha, h.2 rfl⟩, fun e => by cases e⟩
def dueN (o : Option Nat) : Option Int := o.map fun i => (i : Int)
set_option maxHeartbeats 4000000 in
theorem k_law : Keeps N_law P_law r_law sp_law := by
  rintro ds μ Q E ⟨ns, rfl, h⟩
  refine ⟨rfl, ?_⟩
  rw [show startD N_law [D.scr ns] = [some (.scr ns), none, none, none, none, none, none, none, none, none, none, none, none, none, none, none, none, none, none] from rfl]
  unfold r_law
  refine fun LT => ?_
  walk_at "w"
  refine z_open fun n μ0 hn hd => ?_
  walk_at "w"
  refine for_rng (fun _ ρ μ' => Dr n μ' ∧ ∃ a2 a3 a4 a5 a6 a7 a8 a9 a10 a11 a12 a13 a14 a15 a16 a17 a18, ρ = [some (.scr ns), some (.ptr n), a2, a3, a4, a5, a6, a7, a8, a9, a10, a11, a12, a13, a14, a15, a16, a17, a18]) (fun _ _ _ _ => trivial) ?_ ?_ ⟨hd, _, _, _, _, _, _, _, _, _, _, _, _, _, _, _, _, _, rfl⟩
  · rintro i ρ μ3 N hi hN ⟨hd3, a2, a3, a4, a5, a6, a7, a8, a9, a10, a11, a12, a13, a14, a15, a16, a17, a18, rfl⟩
    clear hi
    walk_at "w"
    refine z_net hd3 (by decide) (by decide) (by decide) (by decide) (by decide) (by decide) (by decide) (by decide) (by decide) (by decide) fun y μ1 hy u1 => ?_
    have hw := hy.wrong (by decide) (by decide) (by decide) (by decide) (by decide)
    have hs := hy.small (by decide) (by decide) (by decide)
    have hT := hy.tame (by decide)
    have hti := hy.tiesIn
    have hd1 := hy.d1
    have hd0 := hy.d0
    have hjl := hy.jl
    have hgl := hy.gl
    walk_at "w"
    refine lc_rng (fun i acc μ' => Dr n μ' ∧ ∃ cs : List Pair, acc = cs.map pairD ∧ cs.length = i ∧ ∀ p ∈ cs, -1 ≤ p.1 ∧ p.1 ≤ 20 ∧ -1 ≤ p.2 ∧ p.2 ≤ 20) (fun _ _ _ _ => trivial) ?_ ?_ ⟨u1.dr, [], rfl, rfl, fun _ q => nomatch q⟩
    · rintro t acc μ4 N4 ht hN4 ⟨hd4, cs, rfl, hcl, hcs⟩
      walk_at "w"
      refine z_pull hd4 (by omega) (by omega) fun k μ5 k0 k1 u5 => ?_
      walk_at "w"
      refine z_pull u5.dr (by omega) (by omega) fun m μ6 m0 m1 u6 => ?_
      walk_at "w"
      exact hN4 _ _ ⟨u6.dr, cs ++ [((k - 1, m - 1) : Pair)], by rw [List.map_append]; rfl, by simp [hcl], mem_snoc hcs ⟨by show -1 ≤ k - 1; omega, by show k - 1 ≤ 20; omega, by show -1 ≤ m - 1; omega, by show m - 1 ≤ 20; omega⟩⟩
    rintro acc μ4 ⟨hd4, cs, rfl, hcl, hcs⟩
    rw [Int.toNat_natCast] at hcl
    walk_at "w"
    refine z_pull hd4 (by decide) (by decide) fun k μ5 k0 k1 u5 => ?_
    walk_at "w"
    refine s_repP (by omega) (by omega) (by show 1 * _ ≤ 1000000; omega) ?_
    rw [repL_one]
    have repP : List.replicate (1 + k).toNat (D.tup [.int 0, .int 0]) = (List.replicate (1 + k).toNat ((0, 0) : Pair)).map pairD := by rw [List.map_replicate]; rfl
    rw [repP]
    refine s_catL (by rw [List.length_map, List.length_map, List.length_replicate]; omega) ?_
    rw [← List.map_append]
    walk_at "w"
    refine s_join (fun ρ' μ' => Dr n μ' ∧ ∃ bs : List Pair, bs.length ≠ y.works.length ∧ bs.length ≤ 8 ∧ ρ' = [some (.scr ns), some (.ptr n), some (.int (i : Nat)), some (yardD y), some (.lst (cs.map pairD)), some (.lst (bs.map pairD)), a6, a7, a8, a9, a10, a11, a12, a13, a14, a15, a16, a17, a18]) ?_ ?_
    · have nbC : (cs.map pairD).all (nb μ5 31) = true := all_map fun _ _ => rfl
      walk_at "w"
      refine s_neLN nbC fun b hb => ?_
      walk_at "w"
      have other : ∀ μ' : Mu, Dr n μ' → Dr n μ' ∧ ∃ bs : List Pair, bs.length ≠ y.works.length ∧ bs.length ≤ 8 ∧ [some (.scr ns), some (.ptr n), some (.int (i : Nat)), some (yardD y), some (.lst (cs.map pairD)), some (.lst ((cs ++ List.replicate (1 + k).toNat ((0, 0) : Pair)).map pairD)), a6, a7, a8, a9, a10, a11, a12, a13, a14, a15, a16, a17, a18] = [some (.scr ns), some (.ptr n), some (.int (i : Nat)), some (yardD y), some (.lst (cs.map pairD)), some (.lst (bs.map pairD)), a6, a7, a8, a9, a10, a11, a12, a13, a14, a15, a16, a17, a18] :=
        fun μ' hd' => ⟨hd', cs ++ List.replicate (1 + k).toNat ((0, 0) : Pair), by rw [List.length_append, List.length_replicate]; omega, by rw [List.length_append, List.length_replicate]; omega, rfl⟩
      cases b with
      | false =>
        walk_at "w"
        exact other _ u5.dr
      | true =>
        have hne : 0 < cs.length := List.length_pos_iff.mpr fun e => by have := hb.mpr (by rw [e]; rfl); cases this
        walk_at "w"
        refine z_pull u5.dr (by decide) (by decide) fun m μ6 m0 m1 u6 => ?_
        walk_at "w"
        refine ifD (fun e => ?_) (fun e => ?_)
        · walk_at "w"
          refine z_pull u6.dr (by omega) (by omega) fun q μ7 q0 q1 u7 => ?_
          walk_at "w"
          show opQ (some (D.lst (Y.cutD (cs.map pairD) none (some q)))) _
          rw [Y.cut_to _ q0, ← List.map_take]
          walk_at "w"
          exact ⟨u7.dr, cs.take q.toNat, by rw [List.length_take]; omega, by rw [List.length_take]; omega, rfl⟩
        · walk_at "w"
          exact other _ u6.dr
    rintro ρ' μ5 ⟨hd5, bs, hbl, hb8, rfl⟩
    walk_at "w"
    refine fun o0 c0 q0 h0 => ?_
    walk_at "w"
    intro c7 hc7
    walk_at "w"
    refine fun o1 c1 q1 h1 => ?_
    walk_at "w"
    refine fun o2 c2 q2 h2 => ?_
    walk_at "w"
    refine fun o3 c3 q3 h3 => ?_
    walk_at "w"
    have n7 : n ≠ c7 := by obtain ⟨dr, e, _⟩ := hd5; exact ne_cell e hc7
    have hcM : ∀ {μ' : Mu} {o : MO}, mset μ' c7 o c7 = some o := fun {μ' o} => mset_same
    have hdM : Dr n (mset (mset (mset (mset μ5 c7 (.lst [D.fn o0 c0 q0])) c7 (.lst ([D.fn o0 c0 q0] ++ [D.fn o1 c1 q1]))) c7 (.lst ([D.fn o0 c0 q0] ++ [D.fn o1 c1 q1] ++ [D.fn o2 c2 q2]))) c7 (.lst ([D.fn o0 c0 q0] ++ [D.fn o1 c1 q1] ++ [D.fn o2 c2 q2] ++ [D.fn o3 c3 q3]))) := by
      obtain ⟨dr, e, q⟩ := hd5
      exact ⟨dr, by rw [mset_ne n7, mset_ne n7, mset_ne n7, mset_ne n7]; exact e, q⟩
    have hc8 := hcM (μ' := mset (mset (mset μ5 c7 (.lst [D.fn o0 c0 q0])) c7 (.lst ([D.fn o0 c0 q0] ++ [D.fn o1 c1 q1]))) c7 (.lst ([D.fn o0 c0 q0] ++ [D.fn o1 c1 q1] ++ [D.fn o2 c2 q2]))) (o := .lst ([D.fn o0 c0 q0] ++ [D.fn o1 c1 q1] ++ [D.fn o2 c2 q2] ++ [D.fn o3 c3 q3]))
    generalize mset (mset (mset (mset μ5 c7 (.lst [D.fn o0 c0 q0])) c7 (.lst ([D.fn o0 c0 q0] ++ [D.fn o1 c1 q1]))) c7 (.lst ([D.fn o0 c0 q0] ++ [D.fn o1 c1 q1] ++ [D.fn o2 c2 q2]))) c7 (.lst ([D.fn o0 c0 q0] ++ [D.fn o1 c1 q1] ++ [D.fn o2 c2 q2] ++ [D.fn o3 c3 q3])) = μ6 at hdM hc8
    have em : (if (y.works.length : Int) < (bs.length : Int) then (y.works.length : Int) else (bs.length : Int)) = min (bs.length : Int) (y.works.length : Int) := by
      split <;> omega
    rw [em]
    show dSeq (dVar 7) _ _ _ _
    walk_at "w"
    have hcl8 : bs.length ≤ 1000 := by omega
    have hgl8 : y.stuffs.length ≤ 1000 := by omega
    refine lcx_all (.int (min (bs.length : Int) (y.works.length : Int))) (st_of (as_ptr hc8)) _ _ (fun d hd M hM => ?_) ?_
    · simp only [List.mem_append, List.mem_singleton] at hd
      rcases hd with ((rfl | rfl) | rfl) | rfl
      · walk_at "w"
        refine ⟨o0, c0, q0, 0, _, rfl, h0, rfl, ?_⟩
        refine z_spot (some (min (bs.length : Int) (y.works.length : Int))) (fun Q' E' hx hq => ?_) hM
        walk_at "w"
        exact ⟨y, _, bs, rfl, hs, hw, hT, hti, rfl, hcl8, fun _ => hx _ rfl, fun e => absurd e hbl⟩
      · walk_at "w"
        refine ⟨o1, c1, q1, 1, _, rfl, h1, rfl, ?_⟩
        refine z_spot (some (min (bs.length : Int) (y.works.length : Int))) (fun Q' E' hx hq => ?_) hM
        walk_at "w"
        exact ⟨y, _, bs, rfl, hs, hw, hT, rfl, hcl8, fun _ => hx _ rfl, fun e => absurd e hbl⟩
      · walk_at "w"
        refine ⟨o2, c2, q2, 2, _, rfl, h2, rfl, ?_⟩
        refine z_spot (some (min (bs.length : Int) (y.works.length : Int))) (fun Q' E' hx hq => ?_) hM
        walk_at "w"
        exact ⟨y, _, bs, rfl, hs, hw, hT, rfl, hgl8, hcl8, fun _ => hx _ rfl, fun e => absurd e hbl⟩
      · walk_at "w"
        refine ⟨o3, c3, q3, 3, _, rfl, h3, rfl, ?_⟩
        refine z_spot (some (min (bs.length : Int) (y.works.length : Int))) (fun Q' E' hx hq => ?_) hM
        walk_at "w"
        exact ⟨y, _, _, bs, [], [⟨"odd", 9, 9⟩], rfl, hs, hw, rfl, rfl, by decide, fun _ => hx _ rfl, fun e => absurd e hbl⟩
    walk_at "w"
    refine s_repP (by decide) (by decide) (by show 1 * 4 ≤ 1000000; decide) ?_
    walk_at "w"
    refine z_like (by rw [repL_one]; rfl) (by rw [repL_one]; rfl) ?_
    walk_at "w"
    refine for_rng (fun k ρ μ' => Dr n μ' ∧ ∃ (o : Option Nat) (a9 a10 a11 a12 a13 a14 a15 : Option D), DueAt y cs k o ∧ ρ = [some (.scr ns), some (.ptr n), some (.int (i : Nat)), some (yardD y), some (.lst (cs.map pairD)), some (.lst (bs.map pairD)), some (.int (min (bs.length : Int) (y.works.length : Int))), some (.ptr c7), some (dueI (dueN o)), a9, a10, a11, a12, a13, a14, a15, a16, a17, a18]) (fun _ _ _ _ => trivial) ?_ ?_ ⟨hdM, none, _, _, _, _, _, _, _, ⟨fun j e => (by cases e), fun _ j q z hj => absurd hj (Nat.not_lt_zero _)⟩, rfl⟩
    · rintro k ρ μ7 N7 hk hN7 ⟨hd7, o, b9, b10, b11, b12, b13, b14, b15, hdue, rfl⟩
      have hk1 : k < cs.length := by simpa using hk
      have hk2 : k < y.works.length := by omega
      have hx : y.works[k]? = some y.works[k] := List.getElem?_eq_getElem hk2
      have hwo := hy.js _ (List.getElem_mem hk2)
      generalize y.works[k] = x at hx hwo
      have hp : cs[k]? = some cs[k] := List.getElem?_eq_getElem hk1
      have hpb := hcs _ (List.getElem_mem hk1)
      generalize cs[k] = p at hp hpb
      obtain ⟨b, w⟩ := p
      walk_at "w"
      refine ifD (fun e1 => ?_) (fun e1 => ?_)
      · walk_at "w"
        refine ifD (fun e2 => ?_) (fun e2 => ?_)
        · walk_at "w"
          refine ifD (fun e3 => ?_) (fun e3 => ?_)
          · walk_at "w"
            by_cases e4 : w < (x.ways.length : Int)
            · rw [decide_eq_true e4]
              cases o with
              | some j =>
                walk_at "w"
                exact hN7 _ _ ⟨hd7, some j, _, _, _, _, _, _, _, hdue.ok hp hx (fun e => by cases e), rfl⟩
              | none =>
                walk_at "w"
                have hwl : w.toNat < x.ways.length := by omega
                have hz : x.ways[w.toNat]? = some x.ways[w.toNat] := List.getElem?_eq_getElem hwl
                have hok := hwo.ws _ (List.getElem_mem hwl)
                generalize x.ways[w.toNat] = z at hz hok
                have hl0 := hok.l0
                have hl1 := hok.l1
                have ea : aloneW y x (b, w) = (daysL y.days y.shut z b).isSome := by
                  unfold aloneW
                  rw [dayP_at (p := (b, w)) e3 hz, decide_eq_true e1, decide_eq_true e2, decide_eq_true e3, decide_eq_true e4]; rfl
                refine z_dates (z := z) ⟨by omega, by omega, x, by simpa using hx, hz⟩ (by omega) (by omega) hok.rs fun dD μ8 su8 hD => ?_
                have hNn := hD.non
                walk_at "w"
                rw [hNn]
                cases hL : daysL y.days y.shut z b with
                | none =>
                  rw [hL] at ea
                  show ifB true _ _
                  walk_at "w"
                  exact hN7 _ _ ⟨hd7.sub su8, some k, _, _, _, _, _, _, _, hdue.bad hp hx ea, rfl⟩
                | some l =>
                  rw [hL] at ea
                  show ifB false _ _
                  walk_at "w"
                  exact hN7 _ _ ⟨hd7.sub su8, none, _, _, _, _, _, _, _, hdue.ok hp hx (fun _ => ea), rfl⟩
            · have ea : aloneW y x (b, w) = false := aloneW_f2 fun q => e4 q.2
              rw [decide_eq_false e4]
              cases o with
              | none =>
                walk_at "w"
                exact hN7 _ _ ⟨hd7, some k, _, _, _, _, _, _, _, hdue.bad hp hx ea, rfl⟩
              | some j =>
                walk_at "w"
                exact hN7 _ _ ⟨hd7, some j, _, _, _, _, _, _, _, hdue.ok hp hx (fun e => by cases e), rfl⟩
          · have ea : aloneW y x (b, w) = false := aloneW_f2 fun q => e3 q.1
            walk_at "w"
            cases o with
            | none =>
              walk_at "w"
              exact hN7 _ _ ⟨hd7, some k, _, _, _, _, _, _, _, hdue.bad hp hx ea, rfl⟩
            | some j =>
              walk_at "w"
              exact hN7 _ _ ⟨hd7, some j, _, _, _, _, _, _, _, hdue.ok hp hx (fun e => by cases e), rfl⟩
        · have ea : aloneW y x (b, w) = false := aloneW_f1 fun q => e2 q.2
          walk_at "w"
          cases o with
          | none =>
            walk_at "w"
            exact hN7 _ _ ⟨hd7, some k, _, _, _, _, _, _, _, hdue.bad hp hx ea, rfl⟩
          | some j =>
            walk_at "w"
            exact hN7 _ _ ⟨hd7, some j, _, _, _, _, _, _, _, hdue.ok hp hx (fun e => by cases e), rfl⟩
      · have ea : aloneW y x (b, w) = false := aloneW_f1 fun q => e1 q.1
        walk_at "w"
        cases o with
        | none =>
          walk_at "w"
          exact hN7 _ _ ⟨hd7, some k, _, _, _, _, _, _, _, hdue.bad hp hx ea, rfl⟩
        | some j =>
          walk_at "w"
          exact hN7 _ _ ⟨hd7, some j, _, _, _, _, _, _, _, hdue.ok hp hx (fun e => by cases e), rfl⟩
    rintro ρ μ7 ⟨hd7, o, b9, b10, b11, b12, b13, b14, b15, hdue, rfl⟩
    rw [Int.toNat_natCast] at hdue
    have hcl9 : cs.length ≤ 1000 := by omega
    have bad : ∀ j : Nat, FirstB y cs j → dueN o = some (j : Int) := fun j hj => by
      cases o with
      | none =>
        obtain ⟨p, x, k1, k2, k3, _⟩ := hj
        rw [hdue.2 rfl j p x (List.getElem?_eq_some_iff.mp k1).1 k1 k2] at k3
        cases k3
      | some i' => rw [(hdue.1 i' rfl).same hj]; rfl
    have good : PlanOk y cs → dueN o = none := fun hp => by
      cases o with
      | none => rfl
      | some i' =>
        obtain ⟨p, x, k1, k2, k3, _⟩ := hdue.1 i' rfl
        rw [hp.2 i' p x k1 k2] at k3
        cases k3
    walk_at "w"
    refine s_lam ?_
    refine z_spot (dueN o) (fun Q' E' hx hq => ?_) ?_
    · walk_at "w"
      exact ⟨y, _, cs, rfl, hs, hw, hT, rfl, hcl9, fun e => absurd hcl e, fun _ => ⟨fun j hj => hx _ (bad j hj), fun hp => hq (good hp) _⟩⟩
    walk_at "w"
    intro c16 hc16
    walk_at "w"
    refine s_lam ?_
    refine z_spot (dueN o) (fun Q' E' hx hq => ?_) ?_
    · walk_at "w"
      exact ⟨y, _, cs, rfl, hs, hw, hT, rfl, hgl8, hcl9, fun e => absurd hcl e, fun _ => ⟨fun j hj => hx _ (bad j hj), fun hp => hq (good hp) _⟩⟩
    walk_at "w"
    refine z_likeP mset_same (by
      show (true && ((flD 6 (dueI (dueN o))) && ((flD 6 (dueI (dueN o))) && true))) = true
      rw [fl_due]; rfl) ?_
    walk_at "w"
    refine s_lam ?_
    refine z_spot none (fun Q' E' hx hq => ?_) ?_
    · walk_at "w"
      exact ⟨y, _, cs, rfl, hs, hw, hT, hti, rfl, hcl9, fun e => absurd hcl e, fun _ => hq rfl _⟩
    walk_at "w"
    have n16 : n ≠ c16 := by obtain ⟨dr, e, _⟩ := hd7; exact ne_cell e hc16
    refine hN _ _ ⟨?_, _, _, _, _, _, _, _, _, _, _, _, _, _, _, _, _, _, rfl⟩
    obtain ⟨dr, e, q⟩ := hd7
    exact ⟨dr, by rw [mset_ne n16, mset_ne n16]; exact e, q⟩
  · rintro ρ μ3 ⟨hd3, a2, a3, a4, a5, a6, a7, a8, a9, a10, a11, a12, a13, a14, a15, a16, a17, a18, rfl⟩
    walk_at "w"
    exact ⟨_, Sub.refl, h _⟩
theorem law_ok (ns : List Int) : sp_law [.scr ns] (fun _ => none) (fun d _ => d = .bl true) (fun _ _ => False) := ⟨ns, rfl, fun _ => rfl⟩
theorem sc_spot_L : FnScope N_spot_L P_spot_L (defScope st_spot_L) := ⟨rfl, rfl, rfl, by decide +kernel, rfl, by decide +kernel, by decide +kernel⟩
theorem b_spot_L {P : Program} {w : World} {K : PySem.W.Frag} {mg : Str → Option Value} {base : Heap} (m0 : mg "BadPlan" = some (.ref (He.ga K "BadPlan"))) (o0 : ClOk K mg cl_spot_L_0 (He.ga K "BadPlan")) : ∀ (X : Cx) (q : Str) (cdv : Value), X.prog = P → X.w = w → X.K = K → X.mg = mg → X.base = base → GivesS X N_spot_L "_law_spot" (defScope st_spot_L) (He.fAd K ("_law_spot", none)) cdv (defBody st_spot_L) "_law_ask" q (liftL ⟨K, mg, w⟩ sp_spot_L) := by
  rintro X q cdv rfl rfl rfl rfl rfl
  have nd := sc_spot_L.nd
  exact gives_catch (pre := (defBody st_spot_L).take 1) (cs := [(1, none)]) (o := none) (cl := [(cl_spot_L_0, [He.ga X.K "BadPlan"])]) (U := U_spot_L) nd (List.cons_ne_nil _ _) (by decide) (fun s H => (.cons pe_non .nil rfl (by first | exact Or.inl rfl | exact Or.inr rfl) rfl (by first | exact .inl rfl | exact .inr rfl))) (fun s H pn xe => row_expr rfl) (fun s H => (.cons (c := cl_spot_L_0) (cv := He.ga X.K "BadPlan") m0 o0 (.one (.fld rfl (by first | exact Or.inl rfl | exact Or.inr (Or.inl rfl)) (by decide) (by decide) rfl)) .nil)) (fun s H => (dss_one (ds_ret (dv 1))))
theorem sc_between : FnScope N_between P_between (defScope st_between) := ⟨rfl, rfl, rfl, by decide +kernel, rfl, by decide +kernel, by decide +kernel⟩
theorem b_between {P : Program} {w : World} {K : PySem.W.Frag} {mg : Str → Option Value} {base : Heap} {f : Addr} {j : Nat}  :
    BodyOk P w K mg base N_between "between" (defScope st_between) (defBody st_between) f j (r_between) := fun cdv A outer s H E hr =>
  have nd := sc_between.nd
  have hu := hr.units
  have tk := tk_of (P := P) (w := w) (K := K) (mg := mg) (base := base) (N := N_between) (qual := "between") (scope := defScope st_between) (f := f) (cdv := cdv) (A := A) (outer := outer) (s := s) (H := H) (E := E)
  have hp := hp_of (P := P) (w := w) (K := K) (mg := mg) (base := base) (N := N_between) (qual := "between") (scope := defScope st_between) (f := f) (cdv := cdv) (A := A) (outer := outer) (s := s) (H := H) (E := E)
  (dss_one (ds_ret (de_chain op_le prim_le op_le prim_le (dv 1) (dv 0) (dv 2))))
theorem sc_shut_wrong : FnScope N_shut_wrong P_shut_wrong (defScope st_shut_wrong) := ⟨rfl, rfl, rfl, by decide +kernel, rfl, by decide +kernel, by decide +kernel⟩
theorem b_shut_wrong {P : Program} {w : World} {K : PySem.W.Frag} {mg : Str → Option Value} {base : Heap} {f : Addr} {j : Nat} (m_enumerate : mg "enumerate" = none) :
    BodyOk P w K mg base N_shut_wrong "shut_wrong" (defScope st_shut_wrong) (defBody st_shut_wrong) f j (r_shut_wrong) := fun cdv A outer s H E hr =>
  have nd := sc_shut_wrong.nd
  have hu := hr.units
  have tk := tk_of (P := P) (w := w) (K := K) (mg := mg) (base := base) (N := N_shut_wrong) (qual := "shut_wrong") (scope := defScope st_shut_wrong) (f := f) (cdv := cdv) (A := A) (outer := outer) (s := s) (H := H) (E := E)
  have hp := hp_of (P := P) (w := w) (K := K) (mg := mg) (base := base) (N := N_shut_wrong) (qual := "shut_wrong") (scope := defScope st_shut_wrong) (f := f) (cdv := cdv) (A := A) (outer := outer) (s := s) (H := H) (E := E)
  (dss_cons (ds_set (i := 2) nd (de_un un_neg prim_neg de_int))
  (dss_cons (ds_for hp rfl (di_enum (by rfl) m_enumerate (dv 1)) (dn_tup rfl (dns_cons (dn_name nd) (dns_cons (dn_name nd) dns_nil))) (dss_cons (ds_if (db_not (db_chain op_lt prim_lt op_lt prim_lt (dv 2) (dv 4) (dv 0))) (dss_one (ds_ret (dv 3))) dss_nil)
  (dss_one (ds_set (i := 2) nd (dv 4)))))
  (dss_one (ds_ret de_non))))
theorem sc_is_stuff : FnScope N_is_stuff P_is_stuff (defScope st_is_stuff) := ⟨rfl, rfl, rfl, by decide +kernel, rfl, by decide +kernel, by decide +kernel⟩
theorem b_is_stuff {P : Program} {w : World} {K : PySem.W.Frag} {mg : Str → Option Value} {base : Heap} {f : Addr} {j : Nat} {k_between : Nat} (h_between : k_between ≤ j) (c_between : CalD P w K mg base k_between "between" sp_between []) (m_all : mg "all" = none) (m_len : mg "len" = none) {t_MOST_MANY : Tok} (g_MOST_MANY : mg "MOST_MANY" = some (.int (9) t_MOST_MANY)) :
    BodyOk P w K mg base N_is_stuff "is_stuff" (defScope st_is_stuff) (defBody st_is_stuff) f j (r_is_stuff) := fun cdv A outer s H E hr =>
  have nd := sc_is_stuff.nd
  have hu := hr.units
  have tk := tk_of (P := P) (w := w) (K := K) (mg := mg) (base := base) (N := N_is_stuff) (qual := "is_stuff") (scope := defScope st_is_stuff) (f := f) (cdv := cdv) (A := A) (outer := outer) (s := s) (H := H) (E := E)
  have hp := hp_of (P := P) (w := w) (K := K) (mg := mg) (base := base) (N := N_is_stuff) (qual := "is_stuff") (scope := defScope st_is_stuff) (f := f) (cdv := cdv) (A := A) (outer := outer) (s := s) (H := H) (E := E)
  (dss_one (ds_ret (de_and (de_cmpR (op_eqU hu) prim_eq (de_blt call_len prim_len m_len PySem.boot_len (da_cons (dv 1) da_nil)) (dv 0) (nomark _)) (de_one (de_blt (cr_all rfl) prim_all m_all boot_all (da_cons (de_lc1 rfl nd (di_seq (dv 1)) (blkOk_by (N := N_is_stuff) (sc := defScope st_is_stuff) (own := [("many", 2)]) (by decide +kernel)) (blk0 (fun _ _ _ _ _ => (dn_name nd)) (fun _ _ _ _ _ => (de_call c_between hr (takes_no rfl) (da_cons (dv 2) (da_cons de_int (da_cons (de_glob g_MOST_MANY) da_nil))) (hk := h_between)))) rfl (by decide)) da_nil))))))
theorem sc_need_yard : FnScope N_need_yard P_need_yard (defScope st_need_yard) := ⟨rfl, rfl, rfl, by decide +kernel, rfl, by decide +kernel, by decide +kernel⟩
theorem b_need_yard {P : Program} {w : World} {K : PySem.W.Frag} {mg : Str → Option Value} {base : Heap} {f : Addr} {j : Nat} {k_first_wrong : Nat} (h_first_wrong : k_first_wrong ≤ j) (c_first_wrong : CalD P w K mg base k_first_wrong "first_wrong" sp_first_wrong []) :
    BodyOk P w K mg base N_need_yard "need_yard" (defScope st_need_yard) (defBody st_need_yard) f j (r_need_yard) := fun cdv A outer s H E hr =>
  have nd := sc_need_yard.nd
  have hu := hr.units
  have tk := tk_of (P := P) (w := w) (K := K) (mg := mg) (base := base) (N := N_need_yard) (qual := "need_yard") (scope := defScope st_need_yard) (f := f) (cdv := cdv) (A := A) (outer := outer) (s := s) (H := H) (E := E)
  have hp := hp_of (P := P) (w := w) (K := K) (mg := mg) (base := base) (N := N_need_yard) (qual := "need_yard") (scope := defScope st_need_yard) (f := f) (cdv := cdv) (A := A) (outer := outer) (s := s) (H := H) (E := E)
  (dss_cons (ds_set (i := 1) nd (de_call c_first_wrong hr tk (da_cons (dv 0) da_nil) (hk := h_first_wrong)))
  (dss_one (ds_if (db_cmpR op_notN prim_notN (dv 1) de_non (nomark _)) (dss_one ds_no) dss_nil)))
theorem sc_need_planX : FnScope N_need_planX P_need_planX (defScope st_need_planX) := ⟨rfl, rfl, rfl, by decide +kernel, rfl, by decide +kernel, by decide +kernel⟩
theorem b_need_planX {P : Program} {w : World} {K : PySem.W.Frag} {mg : Str → Option Value} {base : Heap} {f : Addr} {j : Nat} {k_need_yard : Nat} (h_need_yard : k_need_yard ≤ j) (c_need_yard : CalD P w K mg base k_need_yard "need_yard" sp_need_yard []) {k_BadPlan : Nat} (q_BadPlan : k_BadPlan + 1 ≤ j) (e_BadPlan : ExcD P w K mg base k_BadPlan "BadPlan" 1 fl_BadPlan) (m_len : mg "len" = none) (m_min : mg "min" = none) :
    BodyOk P w K mg base N_need_planX "need_plan" (defScope st_need_planX) (defBody st_need_planX) f j (r_need_planX) := fun cdv A outer s H E hr =>
  have nd := sc_need_planX.nd
  have hu := hr.units
  have tk := tk_of (P := P) (w := w) (K := K) (mg := mg) (base := base) (N := N_need_planX) (qual := "need_plan") (scope := defScope st_need_planX) (f := f) (cdv := cdv) (A := A) (outer := outer) (s := s) (H := H) (E := E)
  have hp := hp_of (P := P) (w := w) (K := K) (mg := mg) (base := base) (N := N_need_planX) (qual := "need_plan") (scope := defScope st_need_planX) (f := f) (cdv := cdv) (A := A) (outer := outer) (s := s) (H := H) (E := E)
  (dss_cons (ds_expr (de_call c_need_yard hr tk (da_cons (dv 0) da_nil) (hk := h_need_yard)))
  (dss_one (ds_if (db_cmpR (op_neU hu) prim_ne (de_blt call_len prim_len m_len PySem.boot_len (da_cons (dv 1) da_nil)) (de_blt call_len prim_len m_len PySem.boot_len (da_cons (de_ix (dv 0) de_int) da_nil)) (nomark _)) (dss_one (ds_raise e_BadPlan (by decide) rfl hr tk (da_cons (de_blt (call_min2 rfl) prim_min2 m_min PyProof.Rows.boot_min (da_cons (de_blt call_len prim_len m_len PySem.boot_len (da_cons (dv 1) da_nil)) (da_cons (de_blt call_len prim_len m_len PySem.boot_len (da_cons (de_ix (dv 0) de_int) da_nil)) da_nil))) da_nil) (hk := q_BadPlan))) dss_nil)))
theorem sc_works_alone : FnScope N_works_alone P_works_alone (defScope st_works_alone) := ⟨rfl, rfl, rfl, by decide +kernel, rfl, by decide +kernel, by decide +kernel⟩
theorem b_works_alone {P : Program} {w : World} {K : PySem.W.Frag} {mg : Str → Option Value} {base : Heap} {f : Addr} {j : Nat} {k_days_of : Nat} (h_days_of : k_days_of ≤ j) (c_days_of : CalD P w K mg base k_days_of "days_of" sp_days_of []) (m_len : mg "len" = none) :
    BodyOk P w K mg base N_works_alone "works_alone" (defScope st_works_alone) (defBody st_works_alone) f j (r_works_alone) := fun cdv A outer s H E hr =>
  have nd := sc_works_alone.nd
  have hu := hr.units
  have tk := tk_of (P := P) (w := w) (K := K) (mg := mg) (base := base) (N := N_works_alone) (qual := "works_alone") (scope := defScope st_works_alone) (f := f) (cdv := cdv) (A := A) (outer := outer) (s := s) (H := H) (E := E)
  have hp := hp_of (P := P) (w := w) (K := K) (mg := mg) (base := base) (N := N_works_alone) (qual := "works_alone") (scope := defScope st_works_alone) (f := f) (cdv := cdv) (A := A) (outer := outer) (s := s) (H := H) (E := E)
  (dss_cons (ds_unp (dv 2) (dn_tup rfl (dns_cons (dn_name nd) (dns_cons (dn_name nd) dns_nil))))
  (dss_cons (ds_unp (de_ix (de_ix (dv 0) de_int) (dv 1)) (dn_tup rfl (dns_cons (dn_name nd) (dns_cons (dn_name nd) (dns_cons (dn_name nd) dns_nil)))))
  (dss_one (ds_ret (de_and (de_chain op_le prim_le op_lt prim_lt (dv 5) (dv 3) (dv 6)) (de_and (de_chain op_le prim_le op_lt prim_lt de_int (dv 4) (de_blt call_len prim_len m_len PySem.boot_len (da_cons (dv 7) da_nil))) (de_one (de_cmpR op_notN prim_notN (de_call c_days_of hr tk (da_cons (dv 0) (da_cons (dv 1) (da_cons (dv 4) (da_cons (dv 3) da_nil)))) (hk := h_days_of)) de_non (nomark _)))))))))
theorem sc_used : FnScope N_used P_used (defScope st_used) := ⟨rfl, rfl, rfl, by decide +kernel, rfl, by decide +kernel, by decide +kernel⟩
theorem b_used {P : Program} {w : World} {K : PySem.W.Frag} {mg : Str → Option Value} {base : Heap} {f : Addr} {j : Nat} {k_held_by : Nat} (h_held_by : k_held_by ≤ j) (c_held_by : CalD P w K mg base k_held_by "held_by" sp_held_by []) (m_enumerate : mg "enumerate" = none) (m_sum : mg "sum" = none) :
    BodyOk P w K mg base N_used "used" (defScope st_used) (defBody st_used) f j (r_used) := fun cdv A outer s H E hr =>
  have nd := sc_used.nd
  have hu := hr.units
  have tk := tk_of (P := P) (w := w) (K := K) (mg := mg) (base := base) (N := N_used) (qual := "used") (scope := defScope st_used) (f := f) (cdv := cdv) (A := A) (outer := outer) (s := s) (H := H) (E := E)
  have hp := hp_of (P := P) (w := w) (K := K) (mg := mg) (base := base) (N := N_used) (qual := "used") (scope := defScope st_used) (f := f) (cdv := cdv) (A := A) (outer := outer) (s := s) (H := H) (E := E)
  (dss_one (ds_ret (de_blt (cr_sum rfl) prim_sum m_sum boot_sum (da_cons (de_lc1 rfl nd (di_enum (by rfl) m_enumerate (dv 1)) (blkOk_by (N := N_used) (sc := defScope st_used) (own := [("at", 4), ("begin", 5), ("way", 6)]) (by decide +kernel)) (blk0 (fun _ _ _ _ _ => (dn_tup rfl (dns_cons (dn_name nd) (dns_cons (dn_tup rfl (dns_cons (dn_name nd) (dns_cons (dn_name nd) dns_nil))) dns_nil)))) (fun _ _ _ _ _ => (de_call c_held_by hr (takes_no rfl) (da_cons (dv 0) (da_cons (dv 4) (da_cons (dv 6) (da_cons (dv 5) (da_cons (dv 2) (da_cons (dv 3) (da_cons (de_op op_addU prim_add (dv 3) de_int) da_nil))))))) (hk := h_held_by)))) rfl (by decide)) da_nil))))
theorem sc_brokenX : FnScope N_brokenX P_brokenX (defScope st_brokenX) := ⟨rfl, rfl, rfl, by decide +kernel, rfl, by decide +kernel, by decide +kernel⟩
theorem b_brokenX {P : Program} {w : World} {K : PySem.W.Frag} {mg : Str → Option Value} {base : Heap} {f : Addr} {j : Nat} {k_first_broken : Nat} (h_first_broken : k_first_broken ≤ j) (c_first_broken : CalD P w K mg base k_first_broken "first_broken" sp_first_broken []) {k_need_planX : Nat} (h_need_planX : k_need_planX ≤ j) (c_need_planX : CalD P w K mg base k_need_planX "need_plan" sp_need_planX []) :
    BodyOk P w K mg base N_brokenX "broken" (defScope st_brokenX) (defBody st_brokenX) f j (r_brokenX) := fun cdv A outer s H E hr =>
  have nd := sc_brokenX.nd
  have hu := hr.units
  have tk := tk_of (P := P) (w := w) (K := K) (mg := mg) (base := base) (N := N_brokenX) (qual := "broken") (scope := defScope st_brokenX) (f := f) (cdv := cdv) (A := A) (outer := outer) (s := s) (H := H) (E := E)
  have hp := hp_of (P := P) (w := w) (K := K) (mg := mg) (base := base) (N := N_brokenX) (qual := "broken") (scope := defScope st_brokenX) (f := f) (cdv := cdv) (A := A) (outer := outer) (s := s) (H := H) (E := E)
  (dss_cons (ds_expr (de_call c_need_planX hr tk (da_cons (dv 0) (da_cons (dv 1) da_nil)) (hk := h_need_planX)))
  (dss_one (ds_ret (de_call c_first_broken hr tk (da_cons (dv 0) (da_cons (dv 1) da_nil)) (hk := h_first_broken)))))
theorem sc_need_daysX : FnScope N_need_daysX P_need_daysX (defScope st_need_daysX) := ⟨rfl, rfl, rfl, by decide +kernel, rfl, by decide +kernel, by decide +kernel⟩
theorem b_need_daysX {P : Program} {w : World} {K : PySem.W.Frag} {mg : Str → Option Value} {base : Heap} {f : Addr} {j : Nat} {k_need_planX : Nat} (h_need_planX : k_need_planX ≤ j) (c_need_planX : CalD P w K mg base k_need_planX "need_plan" sp_need_planX []) {k_works_alone : Nat} (h_works_alone : k_works_alone ≤ j) (c_works_alone : CalD P w K mg base k_works_alone "works_alone" sp_works_alone []) {k_BadPlan : Nat} (q_BadPlan : k_BadPlan + 1 ≤ j) (e_BadPlan : ExcD P w K mg base k_BadPlan "BadPlan" 1 fl_BadPlan) (m_enumerate : mg "enumerate" = none) :
    BodyOk P w K mg base N_need_daysX "need_days" (defScope st_need_daysX) (defBody st_need_daysX) f j (r_need_daysX) := fun cdv A outer s H E hr =>
  have nd := sc_need_daysX.nd
  have hu := hr.units
  have tk := tk_of (P := P) (w := w) (K := K) (mg := mg) (base := base) (N := N_need_daysX) (qual := "need_days") (scope := defScope st_need_daysX) (f := f) (cdv := cdv) (A := A) (outer := outer) (s := s) (H := H) (E := E)
  have hp := hp_of (P := P) (w := w) (K := K) (mg := mg) (base := base) (N := N_need_daysX) (qual := "need_days") (scope := defScope st_need_daysX) (f := f) (cdv := cdv) (A := A) (outer := outer) (s := s) (H := H) (E := E)
  (dss_cons (ds_expr (de_call c_need_planX hr tk (da_cons (dv 0) (da_cons (dv 1) da_nil)) (hk := h_need_planX)))
  (dss_one (ds_for hp rfl (di_enum (by rfl) m_enumerate (dv 1)) (dn_tup rfl (dns_cons (dn_name nd) (dns_cons (dn_name nd) dns_nil))) (dss_one (ds_if (db_not (db_tru (de_call c_works_alone hr tk (da_cons (dv 0) (da_cons (dv 2) (da_cons (dv 3) da_nil))) (hk := h_works_alone)))) (dss_one (ds_raise e_BadPlan (by decide) rfl hr tk (da_cons (dv 2) da_nil) (hk := q_BadPlan))) dss_nil)))))
theorem sc_need_sayingsX : FnScope N_need_sayingsX P_need_sayingsX (defScope st_need_sayingsX) := ⟨rfl, rfl, rfl, by decide +kernel, rfl, by decide +kernel, by decide +kernel⟩
theorem b_need_sayingsX {P : Program} {w : World} {K : PySem.W.Frag} {mg : Str → Option Value} {base : Heap} {f : Addr} {j : Nat} {k_is_saying : Nat} (h_is_saying : k_is_saying ≤ j) (c_is_saying : CalD P w K mg base k_is_saying "is_saying" sp_is_saying []) {k_need_yard : Nat} (h_need_yard : k_need_yard ≤ j) (c_need_yard : CalD P w K mg base k_need_yard "need_yard" sp_need_yard []) {k_BadSaying : Nat} (q_BadSaying : k_BadSaying + 1 ≤ j) (e_BadSaying : ExcD P w K mg base k_BadSaying "BadSaying" 1 fl_BadSaying) (m_enumerate : mg "enumerate" = none) :
    BodyOk P w K mg base N_need_sayingsX "need_sayings" (defScope st_need_sayingsX) (defBody st_need_sayingsX) f j (r_need_sayingsX) := fun cdv A outer s H E hr =>
  have nd := sc_need_sayingsX.nd
  have hu := hr.units
  have tk := tk_of (P := P) (w := w) (K := K) (mg := mg) (base := base) (N := N_need_sayingsX) (qual := "need_sayings") (scope := defScope st_need_sayingsX) (f := f) (cdv := cdv) (A := A) (outer := outer) (s := s) (H := H) (E := E)
  have hp := hp_of (P := P) (w := w) (K := K) (mg := mg) (base := base) (N := N_need_sayingsX) (qual := "need_sayings") (scope := defScope st_need_sayingsX) (f := f) (cdv := cdv) (A := A) (outer := outer) (s := s) (H := H) (E := E)
  (dss_cons (ds_expr (de_call c_need_yard hr tk (da_cons (dv 0) da_nil) (hk := h_need_yard)))
  (dss_one (ds_for hp rfl (di_enum (by rfl) m_enumerate (dv 1)) (dn_tup rfl (dns_cons (dn_name nd) (dns_cons (dn_name nd) dns_nil))) (dss_one (ds_if (db_not (db_tru (de_call c_is_saying hr tk (da_cons (dv 0) (da_cons (dv 3) da_nil)) (hk := h_is_saying)))) (dss_one (ds_raise e_BadSaying (by decide) rfl hr tk (da_cons (dv 2) da_nil) (hk := q_BadSaying))) dss_nil)))))
theorem sc_open_L : FnScope N_open_L P_open_L (defScope st_open_L) := ⟨rfl, rfl, rfl, by decide +kernel, rfl, by decide +kernel, by decide +kernel⟩
theorem b_open_L {P : Program} {w : World} {K : PySem.W.Frag} {mg : Str → Option Value} {base : Heap} {f : Addr} {j : Nat} (m_list : mg "list" = none) :
    BodyOk P w K mg base N_open_L "_law_open" (defScope st_open_L) (defBody st_open_L) f j (r_open_L) := fun cdv A outer s H E hr =>
  have nd := sc_open_L.nd
  have hu := hr.units
  have tk := tk_of (P := P) (w := w) (K := K) (mg := mg) (base := base) (N := N_open_L) (qual := "_law_open") (scope := defScope st_open_L) (f := f) (cdv := cdv) (A := A) (outer := outer) (s := s) (H := H) (E := E)
  have hp := hp_of (P := P) (w := w) (K := K) (mg := mg) (base := base) (N := N_open_L) (qual := "_law_open") (scope := defScope st_open_L) (f := f) (cdv := cdv) (A := A) (outer := outer) (s := s) (H := H) (E := E)
  (dss_cons (ds_set (i := 1) nd de_int)
  (dss_cons (ds_for hp rfl (di_seq (de_slice (dv 0) do_none (do_some de_int))) (dn_name nd) (dss_one (ds_set (i := 1) nd (de_op op_mod prim_mod (de_op op_addU prim_add (de_op op_addU prim_add (de_op op_mul prim_mul (dv 1) de_int) (de_op op_mod prim_mod (dv 2) de_int)) de_int) de_int))))
  (dss_one (ds_ret (de_new (da_cons (de_tyc call_list_of prim_list m_list boot_list (da_cons (de_slice (dv 0) do_none (do_some de_int)) da_nil)) (da_cons de_int (da_cons de_int (da_cons (dv 1) da_nil)))))))))
theorem sc_num_L : FnScope N_num_L P_num_L (defScope st_num_L) := ⟨rfl, rfl, rfl, by decide +kernel, rfl, by decide +kernel, by decide +kernel⟩
theorem b_num_L {P : Program} {w : World} {K : PySem.W.Frag} {mg : Str → Option Value} {base : Heap} {f : Addr} {j : Nat} (m_bool : mg "bool" = none) (m_int : mg "int" = none) (m_isinstance : mg "isinstance" = none) :
    BodyOk P w K mg base N_num_L "_law_num" (defScope st_num_L) (defBody st_num_L) f j (r_num_L) := fun cdv A outer s H E hr =>
  have nd := sc_num_L.nd
  have hu := hr.units
  have tk := tk_of (P := P) (w := w) (K := K) (mg := mg) (base := base) (N := N_num_L) (qual := "_law_num") (scope := defScope st_num_L) (f := f) (cdv := cdv) (A := A) (outer := outer) (s := s) (H := H) (E := E)
  have hp := hp_of (P := P) (w := w) (K := K) (mg := mg) (base := base) (N := N_num_L) (qual := "_law_num") (scope := defScope st_num_L) (f := f) (cdv := cdv) (A := A) (outer := outer) (s := s) (H := H) (E := E)
  (dss_one (ds_ret (de_and (de_blt call_isi prim_isi m_isinstance boot_isinstance (da_cons (dv 0) (da_cons (de_ty m_int boot_int) da_nil))) (de_one (de_not (de_blt call_isi prim_isi m_isinstance boot_isinstance (da_cons (dv 0) (da_cons (de_ty m_bool boot_bool) da_nil))))))))
theorem sc_BadPlan_init : FnScope ["self", "at"] ["self", "at"] (defScope st_BadPlan_init) := ⟨rfl, rfl, rfl, by decide +kernel, rfl, by decide +kernel, by decide +kernel⟩
theorem sc_BadSaying_init : FnScope ["self", "at"] ["self", "at"] (defScope st_BadSaying_init) := ⟨rfl, rfl, rfl, by decide +kernel, rfl, by decide +kernel, by decide +kernel⟩
theorem ex_at {K : PySem.W.Frag} (h : exL K = true) (i : Nat) {b : Bool} (e : (exLs K)[i]? = some b) : b = true := List.all_eq_true.mp h b (List.mem_of_getElem? e)
section
variable {P : Program} {w : World} {K : PySem.W.Frag} {mg : Str → Option Value} {base : Heap}
/-- what the module's names are -/
structure Names (w : World) (K : PySem.W.Frag) (mg : Str → Option Value) : Prop where
  f_between : ∃ fd, FunD K "between" "between" (defArgs st_between) (defBody st_between) (defScope st_between) [] [] (He.fAd K ("between", none)) fd
  g_between : mg "between" = some (.ref (He.fAd K ("between", none)))
  f_shut_wrong : ∃ fd, FunD K "shut_wrong" "shut_wrong" (defArgs st_shut_wrong) (defBody st_shut_wrong) (defScope st_shut_wrong) [] [] (He.fAd K ("shut_wrong", none)) fd
  g_shut_wrong : mg "shut_wrong" = some (.ref (He.fAd K ("shut_wrong", none)))
  f_is_stuff : ∃ fd, FunD K "is_stuff" "is_stuff" (defArgs st_is_stuff) (defBody st_is_stuff) (defScope st_is_stuff) [] [] (He.fAd K ("is_stuff", none)) fd
  g_is_stuff : mg "is_stuff" = some (.ref (He.fAd K ("is_stuff", none)))
  f_is_way : ∃ fd, FunD K "is_way" "is_way" (defArgs st_is_way) (defBody st_is_way) (defScope st_is_way) [] [] (He.fAd K ("is_way", none)) fd
  g_is_way : mg "is_way" = some (.ref (He.fAd K ("is_way", none)))
  f_is_work : ∃ fd, FunD K "is_work" "is_work" (defArgs st_is_work) (defBody st_is_work) (defScope st_is_work) [] [] (He.fAd K ("is_work", none)) fd
  g_is_work : mg "is_work" = some (.ref (He.fAd K ("is_work", none)))
  f_is_tie : ∃ fd, FunD K "is_tie" "is_tie" (defArgs st_is_tie) (defBody st_is_tie) (defScope st_is_tie) [] [] (He.fAd K ("is_tie", none)) fd
  g_is_tie : mg "is_tie" = some (.ref (He.fAd K ("is_tie", none)))
  f_first_wrong : ∃ fd, FunD K "first_wrong" "first_wrong" (defArgs st_first_wrong) (defBody st_first_wrong) (defScope st_first_wrong) [] [] (He.fAd K ("first_wrong", none)) fd
  g_first_wrong : mg "first_wrong" = some (.ref (He.fAd K ("first_wrong", none)))
  f_need_yard : ∃ fd, FunD K "need_yard" "need_yard" (defArgs st_need_yard) (defBody st_need_yard) (defScope st_need_yard) [] [] (He.fAd K ("need_yard", none)) fd
  g_need_yard : mg "need_yard" = some (.ref (He.fAd K ("need_yard", none)))
  f_days_of : ∃ fd, FunD K "days_of" "days_of" (defArgs st_days_of) (defBody st_days_of) (defScope st_days_of) [] [] (He.fAd K ("days_of", none)) fd
  g_days_of : mg "days_of" = some (.ref (He.fAd K ("days_of", none)))
  f_held_by : ∃ fd, FunD K "held_by" "held_by" (defArgs st_held_by) (defBody st_held_by) (defScope st_held_by) [] [] (He.fAd K ("held_by", none)) fd
  g_held_by : mg "held_by" = some (.ref (He.fAd K ("held_by", none)))
  f_need_planX : ∃ fd, FunD K "need_plan" "need_plan" (defArgs st_need_planX) (defBody st_need_planX) (defScope st_need_planX) [] [] (He.fAd K ("need_plan", none)) fd
  g_need_planX : mg "need_plan" = some (.ref (He.fAd K ("need_plan", none)))
  f_works_alone : ∃ fd, FunD K "works_alone" "works_alone" (defArgs st_works_alone) (defBody st_works_alone) (defScope st_works_alone) [] [] (He.fAd K ("works_alone", none)) fd
  g_works_alone : mg "works_alone" = some (.ref (He.fAd K ("works_alone", none)))
  f_tie_kept : ∃ fd, FunD K "tie_kept" "tie_kept" (defArgs st_tie_kept) (defBody st_tie_kept) (defScope st_tie_kept) [] [] (He.fAd K ("tie_kept", none)) fd
  g_tie_kept : mg "tie_kept" = some (.ref (He.fAd K ("tie_kept", none)))
  f_used : ∃ fd, FunD K "used" "used" (defArgs st_used) (defBody st_used) (defScope st_used) [] [] (He.fAd K ("used", none)) fd
  g_used : mg "used" = some (.ref (He.fAd K ("used", none)))
  f_first_broken : ∃ fd, FunD K "first_broken" "first_broken" (defArgs st_first_broken) (defBody st_first_broken) (defScope st_first_broken) [] [] (He.fAd K ("first_broken", none)) fd
  g_first_broken : mg "first_broken" = some (.ref (He.fAd K ("first_broken", none)))
  f_brokenX : ∃ fd, FunD K "broken" "broken" (defArgs st_brokenX) (defBody st_brokenX) (defScope st_brokenX) [] [] (He.fAd K ("broken", none)) fd
  g_brokenX : mg "broken" = some (.ref (He.fAd K ("broken", none)))
  f_need_daysX : ∃ fd, FunD K "need_days" "need_days" (defArgs st_need_daysX) (defBody st_need_daysX) (defScope st_need_daysX) [] [] (He.fAd K ("need_days", none)) fd
  g_need_daysX : mg "need_days" = some (.ref (He.fAd K ("need_days", none)))
  f_end_ofX : ∃ fd, FunD K "end_of" "end_of" (defArgs st_end_ofX) (defBody st_end_ofX) (defScope st_end_ofX) [] [] (He.fAd K ("end_of", none)) fd
  g_end_ofX : mg "end_of" = some (.ref (He.fAd K ("end_of", none)))
  f_tableX : ∃ fd, FunD K "table" "table" (defArgs st_tableX) (defBody st_tableX) (defScope st_tableX) [] [] (He.fAd K ("table", none)) fd
  g_tableX : mg "table" = some (.ref (He.fAd K ("table", none)))
  f_is_saying : ∃ fd, FunD K "is_saying" "is_saying" (defArgs st_is_saying) (defBody st_is_saying) (defScope st_is_saying) [] [] (He.fAd K ("is_saying", none)) fd
  g_is_saying : mg "is_saying" = some (.ref (He.fAd K ("is_saying", none)))
  f_need_sayingsX : ∃ fd, FunD K "need_sayings" "need_sayings" (defArgs st_need_sayingsX) (defBody st_need_sayingsX) (defScope st_need_sayingsX) [] [] (He.fAd K ("need_sayings", none)) fd
  g_need_sayingsX : mg "need_sayings" = some (.ref (He.fAd K ("need_sayings", none)))
  f_says_so : ∃ fd, FunD K "says_so" "says_so" (defArgs st_says_so) (defBody st_says_so) (defScope st_says_so) [] [] (He.fAd K ("says_so", none)) fd
  g_says_so : mg "says_so" = some (.ref (He.fAd K ("says_so", none)))
  f_holdsX : ∃ fd, FunD K "holds" "holds" (defArgs st_holdsX) (defBody st_holdsX) (defScope st_holdsX) [] [("kept", .ref (Y.kwAt ("holds", none) "kept" K))] (He.fAd K ("holds", none)) fd
  g_holdsX : mg "holds" = some (.ref (He.fAd K ("holds", none)))
  f_open_L : ∃ fd, FunD K "_law_open" "_law_open" (defArgs st_open_L) (defBody st_open_L) (defScope st_open_L) [] [] (He.fAd K ("_law_open", none)) fd
  g_open_L : mg "_law_open" = some (.ref (He.fAd K ("_law_open", none)))
  f_pull_L : ∃ fd, FunD K "_law_pull" "_law_pull" (defArgs st_pull_L) (defBody st_pull_L) (defScope st_pull_L) [] [] (He.fAd K ("_law_pull", none)) fd
  g_pull_L : mg "_law_pull" = some (.ref (He.fAd K ("_law_pull", none)))
  f_num_L : ∃ fd, FunD K "_law_num" "_law_num" (defArgs st_num_L) (defBody st_num_L) (defScope st_num_L) [] [] (He.fAd K ("_law_num", none)) fd
  g_num_L : mg "_law_num" = some (.ref (He.fAd K ("_law_num", none)))
  f_like_L : ∃ fd, FunD K "_law_like" "_law_like" (defArgs st_like_L) (defBody st_like_L) (defScope st_like_L) [] [] (He.fAd K ("_law_like", none)) fd
  g_like_L : mg "_law_like" = some (.ref (He.fAd K ("_law_like", none)))
  f_good_row_L : ∃ fd, FunD K "_law_good_row" "_law_good_row" (defArgs st_good_row_L) (defBody st_good_row_L) (defScope st_good_row_L) [] [] (He.fAd K ("_law_good_row", none)) fd
  g_good_row_L : mg "_law_good_row" = some (.ref (He.fAd K ("_law_good_row", none)))
  f_mode_L : ∃ fd, FunD K "_law_mode" "_law_mode" (defArgs st_mode_L) (defBody st_mode_L) (defScope st_mode_L) [] [] (He.fAd K ("_law_mode", none)) fd
  g_mode_L : mg "_law_mode" = some (.ref (He.fAd K ("_law_mode", none)))
  f_job_L : ∃ fd, FunD K "_law_job" "_law_job" (defArgs st_job_L) (defBody st_job_L) (defScope st_job_L) [] [] (He.fAd K ("_law_job", none)) fd
  g_job_L : mg "_law_job" = some (.ref (He.fAd K ("_law_job", none)))
  f_link_L : ∃ fd, FunD K "_law_link" "_law_link" (defArgs st_link_L) (defBody st_link_L) (defScope st_link_L) [] [] (He.fAd K ("_law_link", none)) fd
  g_link_L : mg "_law_link" = some (.ref (He.fAd K ("_law_link", none)))
  f_closed_L : ∃ fd, FunD K "_law_closed" "_law_closed" (defArgs st_closed_L) (defBody st_closed_L) (defScope st_closed_L) [] [] (He.fAd K ("_law_closed", none)) fd
  g_closed_L : mg "_law_closed" = some (.ref (He.fAd K ("_law_closed", none)))
  f_net_L : ∃ fd, FunD K "_law_net" "_law_net" (defArgs st_net_L) (defBody st_net_L) (defScope st_net_L) [] [] (He.fAd K ("_law_net", none)) fd
  g_net_L : mg "_law_net" = some (.ref (He.fAd K ("_law_net", none)))
  f_dates_L : ∃ fd, FunD K "_law_dates" "_law_dates" (defArgs st_dates_L) (defBody st_dates_L) (defScope st_dates_L) [] [] (He.fAd K ("_law_dates", none)) fd
  g_dates_L : mg "_law_dates" = some (.ref (He.fAd K ("_law_dates", none)))
  f_law : ∃ fd, FunD K "law" "law" (defArgs st_law) (defBody st_law) (defScope st_law) [] [] (He.fAd K ("law", none)) fd
  g_law : mg "law" = some (.ref (He.fAd K ("law", none)))
  m_all : mg "all" = none
  m_any : mg "any" = none
  m_bool : mg "bool" = none
  m_enumerate : mg "enumerate" = none
  m_int : mg "int" = none
  m_isinstance : mg "isinstance" = none
  m_len : mg "len" = none
  m_list : mg "list" = none
  m_max : mg "max" = none
  m_min : mg "min" = none
  m_range : mg "range" = none
  m_str : mg "str" = none
  m_sum : mg "sum" = none
  m_tuple : mg "tuple" = none
  i_END : ∃ t, mg "END" = some (.int (1) t)
  i_MOST_DAYS : ∃ t, mg "MOST_DAYS" = some (.int (20) t)
  i_MOST_GAP : ∃ t, mg "MOST_GAP" = some (.int (20) t)
  i_MOST_LONG : ∃ t, mg "MOST_LONG" = some (.int (9) t)
  i_MOST_MANY : ∃ t, mg "MOST_MANY" = some (.int (9) t)
  i_MOST_STUFFS : ∃ t, mg "MOST_STUFFS" = some (.int (3) t)
  i_MOST_TIES : ∃ t, mg "MOST_TIES" = some (.int (12) t)
  i_MOST_WAYS : ∃ t, mg "MOST_WAYS" = some (.int (3) t)
  i_MOST_WORKS : ∃ t, mg "MOST_WORKS" = some (.int (6) t)
  i_START : ∃ t, mg "START" = some (.int (0) t)
  t_OTHER : KTab K w mg "OTHER" tab_OTHER
  z_holdsX_kept : ∀ H, SqT K H (Y.kwAt ("holds", none) "kept" K) []
  f_spot_L : ∃ fd, FunD K "_law_spot" "_law_spot" (defArgs st_spot_L) (defBody st_spot_L) (defScope st_spot_L) [] [] (He.fAd K ("_law_spot", none)) fd
  g_spot_L : mg "_law_spot" = some (.ref (He.fAd K ("_law_spot", none)))
  f_BadPlan_init : ∃ fd, FunD K "__init__" "BadPlan.__init__" (defArgs st_BadPlan_init) (defBody st_BadPlan_init) (defScope st_BadPlan_init) [] [] (He.fAd K ("BadPlan", some "__init__")) fd
  x_BadPlan : ExcF K "BadPlan" ["word", "at"]
  f_BadSaying_init : ∃ fd, FunD K "__init__" "BadSaying.__init__" (defArgs st_BadSaying_init) (defBody st_BadSaying_init) (defScope st_BadSaying_init) [] [] (He.fAd K ("BadSaying", some "__init__")) fd
  x_BadSaying : ExcF K "BadSaying" ["word", "at"]
  g_BadPlan : mg "BadPlan" = some (.ref (He.ga K "BadPlan"))
  g_BadSaying : mg "BadSaying" = some (.ref (He.ga K "BadSaying"))
  xm_BadPlan_BadPlan : PySem.W.exmOne K (.ref (He.ga K "BadPlan")) (.ref (He.ga K "BadPlan")) = some true
  xm_BadSaying_BadPlan : PySem.W.exmOne K (.ref (He.ga K "BadSaying")) (.ref (He.ga K "BadPlan")) = some false
  lu_law : ((He.cT K ("law", none)).2, ("law" : Str) ++ ".<locals>." ++ "<lambda>") ∈ lamT K ∧ ∀ p ∈ lamT K, p.1 = (He.cT K ("law", none)).2 → p.2 = ("law" : Str) ++ ".<locals>." ++ "<lambda>"
/-- .. with the tables of code objects -/
structure NamesB (w : World) (K : PySem.W.Frag) (mg : Str → Option Value) (base : Heap) : Prop extends Names w K mg where
  tb : ∀ p ∈ tfL, LamX.TabB base mg (He.cT K p).1 (He.cT K p).2
theorem exc_BadPlan (N : NamesB w K mg base) : ExcD P w K mg base 1 "BadPlan" 1 fl_BadPlan :=
  let ⟨_, F⟩ := N.f_BadPlan_init; excD_of (f0 := "word") (c0 := "badplan") (fl := [("at", .inr 0)]) F N.g_BadPlan N.x_BadPlan sc_BadPlan_init rfl (flB_ok rfl) (by decide) (F.bindsN (fun _ _ _ _ _ _ us hl => match us, hl with | [_, _], _ => rfl)) (fun cdv A outer s H E => (ib_str (ib_par 0 .nil))) 0
theorem exc_BadSaying (N : NamesB w K mg base) : ExcD P w K mg base 1 "BadSaying" 1 fl_BadSaying :=
  let ⟨_, F⟩ := N.f_BadSaying_init; excD_of (f0 := "word") (c0 := "badsaying") (fl := [("at", .inr 0)]) F N.g_BadSaying N.x_BadSaying sc_BadSaying_init rfl (flB_ok rfl) (by decide) (F.bindsN (fun _ _ _ _ _ _ us hl => match us, hl with | [_, _], _ => rfl)) (fun cdv A outer s H E => (ib_str (ib_par 0 .nil))) 0
theorem clok_spot_L_0 (N : NamesB w K mg base) : ClOk K mg cl_spot_L_0 (He.ga K "BadPlan") :=
  clOk_of (by first | trivial | (show _ ≤ 100; decide)) (by
    intro p hp
    rcases List.mem_cons.mp hp with rfl | hp
    · exact ⟨N.g_BadPlan, N.xm_BadPlan_BadPlan, (fun _ => ⟨N.x_BadPlan.xf, fun f hf => N.x_BadPlan.no f (by revert hf; revert f; decide)⟩)⟩
    rcases List.mem_cons.mp hp with rfl | hp
    · exact ⟨N.g_BadSaying, N.xm_BadSaying_BadPlan, (fun e => nomatch e)⟩
    exact nomatch hp)
theorem lam_spot_L (N : NamesB w K mg base) : LamD P w K mg base "_law_spot" sp_spot_L :=
  let ⟨_, F⟩ := N.f_spot_L; lamD_of F N.g_spot_L sc_spot_L (F.bindsN (fun _ _ _ _ _ _ us hl => match us, hl with | [_], _ => rfl)) rfl (by first | exact Or.inl rfl | exact Or.inr (Or.inl rfl)) (by decide) (by decide) (b_spot_L N.g_BadPlan (clok_spot_L_0 N))
theorem ok_between (N : NamesB w K mg base) {fd : FuncData} (F : FunD K "between" "between" (defArgs st_between) (defBody st_between) (defScope st_between) [] [] (He.fAd K ("between", none)) fd) : FnOk P w K mg base (CX K P w) 1 (He.fAd K ("between", none)) fd P_between (lift ⟨K, mg, w⟩ sp_between) :=
  ok_of F sc_between k_between (b_between (j := 0) )
theorem cal_between (N : NamesB w K mg base) : CalD P w K mg base 1 "between" sp_between [] :=
  let ⟨_, F⟩ := N.f_between; cal_of F N.g_between (ok_between N F) (fun _ _ _ _ _ _ us hl => match us, hl with | [_, _, _], _ => rfl)
theorem ok_shut_wrong (N : NamesB w K mg base) {fd : FuncData} (F : FunD K "shut_wrong" "shut_wrong" (defArgs st_shut_wrong) (defBody st_shut_wrong) (defScope st_shut_wrong) [] [] (He.fAd K ("shut_wrong", none)) fd) : FnOk P w K mg base (CX K P w) 1 (He.fAd K ("shut_wrong", none)) fd P_shut_wrong (lift ⟨K, mg, w⟩ sp_shut_wrong) :=
  ok_of F sc_shut_wrong k_shut_wrong (b_shut_wrong (j := 0) N.m_enumerate)
theorem cal_shut_wrong (N : NamesB w K mg base) : CalD P w K mg base 1 "shut_wrong" sp_shut_wrong [] :=
  let ⟨_, F⟩ := N.f_shut_wrong; cal_of F N.g_shut_wrong (ok_shut_wrong N F) (fun _ _ _ _ _ _ us hl => match us, hl with | [_, _], _ => rfl)
theorem ok_is_stuff (N : NamesB w K mg base) {fd : FuncData} (F : FunD K "is_stuff" "is_stuff" (defArgs st_is_stuff) (defBody st_is_stuff) (defScope st_is_stuff) [] [] (He.fAd K ("is_stuff", none)) fd) : FnOk P w K mg base (CX K P w) 2 (He.fAd K ("is_stuff", none)) fd P_is_stuff (lift ⟨K, mg, w⟩ sp_is_stuff) :=
  ok_of F sc_is_stuff k_is_stuff (b_is_stuff (j := 1) (by decide) (cal_between N) N.m_all N.m_len (Classical.choose_spec N.i_MOST_MANY))
theorem cal_is_stuff (N : NamesB w K mg base) : CalD P w K mg base 2 "is_stuff" sp_is_stuff [] :=
  let ⟨_, F⟩ := N.f_is_stuff; cal_of F N.g_is_stuff (ok_is_stuff N F) (fun _ _ _ _ _ _ us hl => match us, hl with | [_, _], _ => rfl)
theorem ok_is_way (N : NamesB w K mg base) {fd : FuncData} (F : FunD K "is_way" "is_way" (defArgs st_is_way) (defBody st_is_way) (defScope st_is_way) [] [] (He.fAd K ("is_way", none)) fd) : FnOk P w K mg base (CX K P w) 2 (He.fAd K ("is_way", none)) fd P_is_way (lift ⟨K, mg, w⟩ sp_is_way) :=
  ok_of F sc_is_way k_is_way (b_is_way (j := 1) (by decide) (cal_between N) N.m_all N.m_len (Classical.choose_spec N.i_MOST_LONG) (Classical.choose_spec N.i_MOST_MANY))
theorem cal_is_way (N : NamesB w K mg base) : CalD P w K mg base 2 "is_way" sp_is_way [] :=
  let ⟨_, F⟩ := N.f_is_way; cal_of F N.g_is_way (ok_is_way N F) (fun _ _ _ _ _ _ us hl => match us, hl with | [_, _], _ => rfl)
theorem ok_is_work (N : NamesB w K mg base) {fd : FuncData} (F : FunD K "is_work" "is_work" (defArgs st_is_work) (defBody st_is_work) (defScope st_is_work) [] [] (He.fAd K ("is_work", none)) fd) : FnOk P w K mg base (CX K P w) 3 (He.fAd K ("is_work", none)) fd P_is_work (lift ⟨K, mg, w⟩ sp_is_work) :=
  ok_of F sc_is_work k_is_work (b_is_work (j := 2) (by decide) (cal_between N) (by decide) (cal_is_way N) N.m_all N.m_len (Classical.choose_spec N.i_MOST_WAYS))
theorem cal_is_work (N : NamesB w K mg base) : CalD P w K mg base 3 "is_work" sp_is_work [] :=
  let ⟨_, F⟩ := N.f_is_work; cal_of F N.g_is_work (ok_is_work N F) (fun _ _ _ _ _ _ us hl => match us, hl with | [_, _, _], _ => rfl)
theorem ok_is_tie (N : NamesB w K mg base) {fd : FuncData} (F : FunD K "is_tie" "is_tie" (defArgs st_is_tie) (defBody st_is_tie) (defScope st_is_tie) [] [] (He.fAd K ("is_tie", none)) fd) : FnOk P w K mg base (CX K P w) 2 (He.fAd K ("is_tie", none)) fd P_is_tie (lift ⟨K, mg, w⟩ sp_is_tie) :=
  ok_of F sc_is_tie k_is_tie (b_is_tie (j := 1) (by decide) (cal_between N) (Classical.choose_spec N.i_END) (Classical.choose_spec N.i_MOST_GAP) (Classical.choose_spec N.i_START))
theorem cal_is_tie (N : NamesB w K mg base) : CalD P w K mg base 2 "is_tie" sp_is_tie [] :=
  let ⟨_, F⟩ := N.f_is_tie; cal_of F N.g_is_tie (ok_is_tie N F) (fun _ _ _ _ _ _ us hl => match us, hl with | [_, _], _ => rfl)
theorem ok_first_wrong (N : NamesB w K mg base) {fd : FuncData} (F : FunD K "first_wrong" "first_wrong" (defArgs st_first_wrong) (defBody st_first_wrong) (defScope st_first_wrong) [] [] (He.fAd K ("first_wrong", none)) fd) : FnOk P w K mg base (CX K P w) 4 (He.fAd K ("first_wrong", none)) fd P_first_wrong (lift ⟨K, mg, w⟩ sp_first_wrong) :=
  ok_of F sc_first_wrong k_first_wrong (b_first_wrong (j := 3) (by decide) (cal_between N) (by decide) (cal_is_stuff N) (by decide) (cal_is_tie N) (by decide) (cal_is_work N) (by decide) (cal_shut_wrong N) N.m_enumerate N.m_len (Classical.choose_spec N.i_MOST_DAYS) (Classical.choose_spec N.i_MOST_STUFFS) (Classical.choose_spec N.i_MOST_TIES) (Classical.choose_spec N.i_MOST_WORKS))
theorem cal_first_wrong (N : NamesB w K mg base) : CalD P w K mg base 4 "first_wrong" sp_first_wrong [] :=
  let ⟨_, F⟩ := N.f_first_wrong; cal_of F N.g_first_wrong (ok_first_wrong N F) (fun _ _ _ _ _ _ us hl => match us, hl with | [_], _ => rfl)
theorem ok_need_yard (N : NamesB w K mg base) {fd : FuncData} (F : FunD K "need_yard" "need_yard" (defArgs st_need_yard) (defBody st_need_yard) (defScope st_need_yard) [] [] (He.fAd K ("need_yard", none)) fd) : FnOk P w K mg base (CX K P w) 5 (He.fAd K ("need_yard", none)) fd P_need_yard (lift ⟨K, mg, w⟩ sp_need_yard) :=
  ok_of F sc_need_yard k_need_yard (b_need_yard (j := 4) (by decide) (cal_first_wrong N))
theorem cal_need_yard (N : NamesB w K mg base) : CalD P w K mg base 5 "need_yard" sp_need_yard [] :=
  let ⟨_, F⟩ := N.f_need_yard; cal_of F N.g_need_yard (ok_need_yard N F) (fun _ _ _ _ _ _ us hl => match us, hl with | [_], _ => rfl)
theorem ok_days_of (N : NamesB w K mg base) {fd : FuncData} (F : FunD K "days_of" "days_of" (defArgs st_days_of) (defBody st_days_of) (defScope st_days_of) [] [] (He.fAd K ("days_of", none)) fd) : FnOk P w K mg base (CX K P w) 1 (He.fAd K ("days_of", none)) fd P_days_of (lift ⟨K, mg, w⟩ sp_days_of) :=
  ok_of F sc_days_of k_days_of (b_days_of (j := 0) N.m_len N.m_range)
theorem cal_days_of (N : NamesB w K mg base) : CalD P w K mg base 1 "days_of" sp_days_of [] :=
  let ⟨_, F⟩ := N.f_days_of; cal_of F N.g_days_of (ok_days_of N F) (fun _ _ _ _ _ _ us hl => match us, hl with | [_, _, _, _], _ => rfl)
theorem ok_held_by (N : NamesB w K mg base) {fd : FuncData} (F : FunD K "held_by" "held_by" (defArgs st_held_by) (defBody st_held_by) (defScope st_held_by) [] [] (He.fAd K ("held_by", none)) fd) : FnOk P w K mg base (CX K P w) 2 (He.fAd K ("held_by", none)) fd P_held_by (lift ⟨K, mg, w⟩ sp_held_by) :=
  ok_of F sc_held_by k_held_by (b_held_by (j := 1) (by decide) (cal_days_of N) N.m_len)
theorem cal_held_by (N : NamesB w K mg base) : CalD P w K mg base 2 "held_by" sp_held_by [] :=
  let ⟨_, F⟩ := N.f_held_by; cal_of F N.g_held_by (ok_held_by N F) (fun _ _ _ _ _ _ us hl => match us, hl with | [_, _, _, _, _, _, _], _ => rfl)
theorem ok_need_planX (N : NamesB w K mg base) {fd : FuncData} (F : FunD K "need_plan" "need_plan" (defArgs st_need_planX) (defBody st_need_planX) (defScope st_need_planX) [] [] (He.fAd K ("need_plan", none)) fd) : FnOk P w K mg base (CX K P w) 6 (He.fAd K ("need_plan", none)) fd P_need_planX (lift ⟨K, mg, w⟩ sp_need_planX) :=
  ok_of F sc_need_planX k_need_planX (b_need_planX (j := 5) (by decide) (cal_need_yard N) (by decide) (exc_BadPlan N) N.m_len N.m_min)
theorem cal_need_planX (N : NamesB w K mg base) : CalD P w K mg base 6 "need_plan" sp_need_planX [] :=
  let ⟨_, F⟩ := N.f_need_planX; cal_of F N.g_need_planX (ok_need_planX N F) (fun _ _ _ _ _ _ us hl => match us, hl with | [_, _], _ => rfl)
theorem ok_works_alone (N : NamesB w K mg base) {fd : FuncData} (F : FunD K "works_alone" "works_alone" (defArgs st_works_alone) (defBody st_works_alone) (defScope st_works_alone) [] [] (He.fAd K ("works_alone", none)) fd) : FnOk P w K mg base (CX K P w) 2 (He.fAd K ("works_alone", none)) fd P_works_alone (lift ⟨K, mg, w⟩ sp_works_alone) :=
  ok_of F sc_works_alone k_works_alone (b_works_alone (j := 1) (by decide) (cal_days_of N) N.m_len)
theorem cal_works_alone (N : NamesB w K mg base) : CalD P w K mg base 2 "works_alone" sp_works_alone [] :=
  let ⟨_, F⟩ := N.f_works_alone; cal_of F N.g_works_alone (ok_works_alone N F) (fun _ _ _ _ _ _ us hl => match us, hl with | [_, _, _], _ => rfl)
theorem ok_tie_kept (N : NamesB w K mg base) {fd : FuncData} (F : FunD K "tie_kept" "tie_kept" (defArgs st_tie_kept) (defBody st_tie_kept) (defScope st_tie_kept) [] [] (He.fAd K ("tie_kept", none)) fd) : FnOk P w K mg base (CX K P w) 2 (He.fAd K ("tie_kept", none)) fd P_tie_kept (lift ⟨K, mg, w⟩ sp_tie_kept) :=
  ok_of F sc_tie_kept k_tie_kept (b_tie_kept (j := 1) (by decide) (cal_days_of N) (Classical.choose_spec N.i_END))
theorem cal_tie_kept (N : NamesB w K mg base) : CalD P w K mg base 2 "tie_kept" sp_tie_kept [] :=
  let ⟨_, F⟩ := N.f_tie_kept; cal_of F N.g_tie_kept (ok_tie_kept N F) (fun _ _ _ _ _ _ us hl => match us, hl with | [_, _, _], _ => rfl)
theorem ok_used (N : NamesB w K mg base) {fd : FuncData} (F : FunD K "used" "used" (defArgs st_used) (defBody st_used) (defScope st_used) [] [] (He.fAd K ("used", none)) fd) : FnOk P w K mg base (CX K P w) 3 (He.fAd K ("used", none)) fd P_used (lift ⟨K, mg, w⟩ sp_used) :=
  ok_of F sc_used k_used (b_used (j := 2) (by decide) (cal_held_by N) N.m_enumerate N.m_sum)
theorem cal_used (N : NamesB w K mg base) : CalD P w K mg base 3 "used" sp_used [] :=
  let ⟨_, F⟩ := N.f_used; cal_of F N.g_used (ok_used N F) (fun _ _ _ _ _ _ us hl => match us, hl with | [_, _, _, _], _ => rfl)
theorem ok_first_broken (N : NamesB w K mg base) {fd : FuncData} (F : FunD K "first_broken" "first_broken" (defArgs st_first_broken) (defBody st_first_broken) (defScope st_first_broken) [] [] (He.fAd K ("first_broken", none)) fd) : FnOk P w K mg base (CX K P w) 4 (He.fAd K ("first_broken", none)) fd P_first_broken (lift ⟨K, mg, w⟩ sp_first_broken) :=
  ok_of F sc_first_broken k_first_broken (b_first_broken (j := 3) (by decide) (cal_tie_kept N) (by decide) (cal_used N) (by decide) (cal_works_alone N) N.m_enumerate)
theorem cal_first_broken (N : NamesB w K mg base) : CalD P w K mg base 4 "first_broken" sp_first_broken [] :=
  let ⟨_, F⟩ := N.f_first_broken; cal_of F N.g_first_broken (ok_first_broken N F) (fun _ _ _ _ _ _ us hl => match us, hl with | [_, _], _ => rfl)
theorem ok_brokenX (N : NamesB w K mg base) {fd : FuncData} (F : FunD K "broken" "broken" (defArgs st_brokenX) (defBody st_brokenX) (defScope st_brokenX) [] [] (He.fAd K ("broken", none)) fd) : FnOk P w K mg base (CX K P w) 7 (He.fAd K ("broken", none)) fd P_brokenX (lift ⟨K, mg, w⟩ sp_brokenX) :=
  ok_of F sc_brokenX k_brokenX (b_brokenX (j := 6) (by decide) (cal_first_broken N) (by decide) (cal_need_planX N))
theorem cal_brokenX (N : NamesB w K mg base) : CalD P w K mg base 7 "broken" sp_brokenX [] :=
  let ⟨_, F⟩ := N.f_brokenX; cal_of F N.g_brokenX (ok_brokenX N F) (fun _ _ _ _ _ _ us hl => match us, hl with | [_, _], _ => rfl)
theorem ok_need_daysX (N : NamesB w K mg base) {fd : FuncData} (F : FunD K "need_days" "need_days" (defArgs st_need_daysX) (defBody st_need_daysX) (defScope st_need_daysX) [] [] (He.fAd K ("need_days", none)) fd) : FnOk P w K mg base (CX K P w) 7 (He.fAd K ("need_days", none)) fd P_need_daysX (lift ⟨K, mg, w⟩ sp_need_daysX) :=
  ok_of F sc_need_daysX k_need_daysX (b_need_daysX (j := 6) (by decide) (cal_need_planX N) (by decide) (cal_works_alone N) (by decide) (exc_BadPlan N) N.m_enumerate)
theorem cal_need_daysX (N : NamesB w K mg base) : CalD P w K mg base 7 "need_days" sp_need_daysX [] :=
  let ⟨_, F⟩ := N.f_need_daysX; cal_of F N.g_need_daysX (ok_need_daysX N F) (fun _ _ _ _ _ _ us hl => match us, hl with | [_, _], _ => rfl)
theorem ok_end_ofX (N : NamesB w K mg base) {fd : FuncData} (F : FunD K "end_of" "end_of" (defArgs st_end_ofX) (defBody st_end_ofX) (defScope st_end_ofX) [] [] (He.fAd K ("end_of", none)) fd) : FnOk P w K mg base (CX K P w) 8 (He.fAd K ("end_of", none)) fd P_end_ofX (lift ⟨K, mg, w⟩ sp_end_ofX) :=
  ok_of F sc_end_ofX k_end_ofX (b_end_ofX (j := 7) (by decide) (cal_days_of N) (by decide) (cal_need_daysX N) N.m_enumerate N.m_max)
theorem cal_end_ofX (N : NamesB w K mg base) : CalD P w K mg base 8 "end_of" sp_end_ofX [] :=
  let ⟨_, F⟩ := N.f_end_ofX; cal_of F N.g_end_ofX (ok_end_ofX N F) (fun _ _ _ _ _ _ us hl => match us, hl with | [_, _], _ => rfl)
theorem ok_tableX (N : NamesB w K mg base) {fd : FuncData} (F : FunD K "table" "table" (defArgs st_tableX) (defBody st_tableX) (defScope st_tableX) [] [] (He.fAd K ("table", none)) fd) : FnOk P w K mg base (CX K P w) 8 (He.fAd K ("table", none)) fd P_tableX (lift ⟨K, mg, w⟩ sp_tableX) :=
  ok_of F sc_tableX k_tableX (b_tableX (j := 7) (by decide) (cal_need_daysX N) (by decide) (cal_used N) N.m_len N.m_range)
theorem cal_tableX (N : NamesB w K mg base) : CalD P w K mg base 8 "table" sp_tableX [] :=
  let ⟨_, F⟩ := N.f_tableX; cal_of F N.g_tableX (ok_tableX N F) (fun _ _ _ _ _ _ us hl => match us, hl with | [_, _], _ => rfl)
theorem ok_is_saying (N : NamesB w K mg base) {fd : FuncData} (F : FunD K "is_saying" "is_saying" (defArgs st_is_saying) (defBody st_is_saying) (defScope st_is_saying) [] [] (He.fAd K ("is_saying", none)) fd) : FnOk P w K mg base (CX K P w) 1 (He.fAd K ("is_saying", none)) fd P_is_saying (lift ⟨K, mg, w⟩ sp_is_saying) :=
  ok_of F sc_is_saying k_is_saying (b_is_saying (j := 0) N.m_len N.t_OTHER)
theorem cal_is_saying (N : NamesB w K mg base) : CalD P w K mg base 1 "is_saying" sp_is_saying [] :=
  let ⟨_, F⟩ := N.f_is_saying; cal_of F N.g_is_saying (ok_is_saying N F) (fun _ _ _ _ _ _ us hl => match us, hl with | [_, _], _ => rfl)
theorem ok_need_sayingsX (N : NamesB w K mg base) {fd : FuncData} (F : FunD K "need_sayings" "need_sayings" (defArgs st_need_sayingsX) (defBody st_need_sayingsX) (defScope st_need_sayingsX) [] [] (He.fAd K ("need_sayings", none)) fd) : FnOk P w K mg base (CX K P w) 6 (He.fAd K ("need_sayings", none)) fd P_need_sayingsX (lift ⟨K, mg, w⟩ sp_need_sayingsX) :=
  ok_of F sc_need_sayingsX k_need_sayingsX (b_need_sayingsX (j := 5) (by decide) (cal_is_saying N) (by decide) (cal_need_yard N) (by decide) (exc_BadSaying N) N.m_enumerate)
theorem cal_need_sayingsX (N : NamesB w K mg base) : CalD P w K mg base 6 "need_sayings" sp_need_sayingsX [] :=
  let ⟨_, F⟩ := N.f_need_sayingsX; cal_of F N.g_need_sayingsX (ok_need_sayingsX N F) (fun _ _ _ _ _ _ us hl => match us, hl with | [_, _], _ => rfl)
theorem ok_says_so (N : NamesB w K mg base) {fd : FuncData} (F : FunD K "says_so" "says_so" (defArgs st_says_so) (defBody st_says_so) (defScope st_says_so) [] [] (He.fAd K ("says_so", none)) fd) : FnOk P w K mg base (CX K P w) 1 (He.fAd K ("says_so", none)) fd P_says_so (lift ⟨K, mg, w⟩ sp_says_so) :=
  ok_of F sc_says_so k_says_so (b_says_so (j := 0) N.m_tuple)
theorem cal_says_so (N : NamesB w K mg base) : CalD P w K mg base 1 "says_so" sp_says_so [] :=
  let ⟨_, F⟩ := N.f_says_so; cal_of F N.g_says_so (ok_says_so N F) (fun _ _ _ _ _ _ us hl => match us, hl with | [_, _, _], _ => rfl)
theorem ok_holdsX (N : NamesB w K mg base) {fd : FuncData} (F : FunD K "holds" "holds" (defArgs st_holdsX) (defBody st_holdsX) (defScope st_holdsX) [] [("kept", .ref (Y.kwAt ("holds", none) "kept" K))] (He.fAd K ("holds", none)) fd) : FnOk P w K mg base (CX K P w) 7 (He.fAd K ("holds", none)) fd P_holdsX (lift ⟨K, mg, w⟩ sp_holdsX) :=
  ok_of F sc_holdsX k_holdsX (b_holdsX (j := 6) (by decide) (cal_need_planX N) (by decide) (cal_need_sayingsX N) (by decide) (cal_says_so N) N.m_any)
theorem calk3_holdsX_ (N : NamesB w K mg base) : CalK P w K mg base 7 "holds" sp_holdsX 3 [] (fun ds es => pick [0, 1, 2, 3] (ds ++ es ++ [.tup []])) :=
  let ⟨_, F⟩ := N.f_holdsX; calKD_of [0, 1, 2, 3] [("kept", .ref (Y.kwAt ("holds", none) "kept" K))] [.tup []] F N.g_holdsX (ok_holdsX N F) (List.cons_ne_nil _ _) (by simp) (fun _ _ => (.cons (.tup (N.z_holdsX_kept _) .nil (Nat.zero_le _)) .nil)) (fun _ _ _ _ _ _ us mv ws hl hm hl' => match us, mv, ws, hl, hm, hl' with | [_, _, _], [_], [], _, _, _ => ⟨_, _, _, _, _, _, rfl, rfl, rfl⟩)
theorem ok_open_L (N : NamesB w K mg base) {fd : FuncData} (F : FunD K "_law_open" "_law_open" (defArgs st_open_L) (defBody st_open_L) (defScope st_open_L) [] [] (He.fAd K ("_law_open", none)) fd) : FnOk P w K mg base (CX K P w) 1 (He.fAd K ("_law_open", none)) fd P_open_L (lift ⟨K, mg, w⟩ sp_open_L) :=
  ok_of F sc_open_L k_open_L (b_open_L (j := 0) N.m_list)
theorem cal_open_L (N : NamesB w K mg base) : CalD P w K mg base 1 "_law_open" sp_open_L [] :=
  let ⟨_, F⟩ := N.f_open_L; cal_of F N.g_open_L (ok_open_L N F) (fun _ _ _ _ _ _ us hl => match us, hl with | [_], _ => rfl)
theorem ok_pull_L (N : NamesB w K mg base) {fd : FuncData} (F : FunD K "_law_pull" "_law_pull" (defArgs st_pull_L) (defBody st_pull_L) (defScope st_pull_L) [] [] (He.fAd K ("_law_pull", none)) fd) : FnOk P w K mg base (CX K P w) 1 (He.fAd K ("_law_pull", none)) fd P_pull_L (lift ⟨K, mg, w⟩ sp_pull_L) :=
  ok_of F sc_pull_L k_pull_L (b_pull_L (j := 0) N.m_len)
theorem cal_pull_L (N : NamesB w K mg base) : CalD P w K mg base 1 "_law_pull" sp_pull_L [] :=
  let ⟨_, F⟩ := N.f_pull_L; cal_of F N.g_pull_L (ok_pull_L N F) (fun _ _ _ _ _ _ us hl => match us, hl with | [_, _], _ => rfl)
theorem ok_num_L (N : NamesB w K mg base) {fd : FuncData} (F : FunD K "_law_num" "_law_num" (defArgs st_num_L) (defBody st_num_L) (defScope st_num_L) [] [] (He.fAd K ("_law_num", none)) fd) : FnOk P w K mg base (CX K P w) 1 (He.fAd K ("_law_num", none)) fd P_num_L (lift ⟨K, mg, w⟩ sp_num_L) :=
  ok_of F sc_num_L k_num_L (b_num_L (j := 0) N.m_bool N.m_int N.m_isinstance)
theorem cal_num_L (N : NamesB w K mg base) : CalD P w K mg base 1 "_law_num" sp_num_L [] :=
  let ⟨_, F⟩ := N.f_num_L; cal_of F N.g_num_L (ok_num_L N F) (fun _ _ _ _ _ _ us hl => match us, hl with | [_], _ => rfl)
theorem calN_like_L (N : NamesB w K mg base) : ∀ n, CalD P w K mg base (1 + n) "_law_like" (spLk n) []
  | 0 => let ⟨_, F⟩ := N.f_like_L; cal_of F N.g_like_L (ps := P_like_L) (ok_noK 1) (fun _ _ _ _ _ _ us hl => match us, hl with | [_, _], _ => rfl)
  | n + 1 => let ⟨_, F⟩ := N.f_like_L; cal_of F N.g_like_L (ok_of F sc_like_L (k_like_L n) (b_like_L (j := 1 + n) (Nat.le_refl _) (calN_like_L N n) (Nat.le_add_right_of_le (by decide)) (cal_num_L N) N.m_all N.m_bool N.m_int N.m_isinstance N.m_len N.m_list N.m_range N.m_str N.m_tuple)) (fun _ _ _ _ _ _ us hl => match us, hl with | [_, _], _ => rfl)
theorem cal_like_L (N : NamesB w K mg base) : CalD P w K mg base 9 "_law_like" sp_like_L [] := calN_like_L N 8
theorem ok_good_row_L (N : NamesB w K mg base) {fd : FuncData} (F : FunD K "_law_good_row" "_law_good_row" (defArgs st_good_row_L) (defBody st_good_row_L) (defScope st_good_row_L) [] [] (He.fAd K ("_law_good_row", none)) fd) : FnOk P w K mg base (CX K P w) 2 (He.fAd K ("_law_good_row", none)) fd P_good_row_L (lift ⟨K, mg, w⟩ sp_good_row_L) :=
  ok_of F sc_good_row_L k_good_row_L (b_good_row_L (j := 1) (by decide) (cal_pull_L N) N.m_range N.m_tuple)
theorem cal_good_row_L (N : NamesB w K mg base) : CalD P w K mg base 2 "_law_good_row" sp_good_row_L [] :=
  let ⟨_, F⟩ := N.f_good_row_L; cal_of F N.g_good_row_L (ok_good_row_L N F) (fun _ _ _ _ _ _ us hl => match us, hl with | [_, _], _ => rfl)
theorem ok_mode_L (N : NamesB w K mg base) {fd : FuncData} (F : FunD K "_law_mode" "_law_mode" (defArgs st_mode_L) (defBody st_mode_L) (defScope st_mode_L) [] [] (He.fAd K ("_law_mode", none)) fd) : FnOk P w K mg base (CX K P w) 2 (He.fAd K ("_law_mode", none)) fd P_mode_L (lift ⟨K, mg, w⟩ sp_mode_L) :=
  ok_of F sc_mode_L k_mode_L (b_mode_L (j := 1) (by decide) (cal_pull_L N) N.m_min N.m_range N.m_tuple)
theorem cal_mode_L (N : NamesB w K mg base) : CalD P w K mg base 2 "_law_mode" sp_mode_L [] :=
  let ⟨_, F⟩ := N.f_mode_L; cal_of F N.g_mode_L (ok_mode_L N F) (fun _ _ _ _ _ _ us hl => match us, hl with | [_, _, _], _ => rfl)
theorem ok_job_L (N : NamesB w K mg base) {fd : FuncData} (F : FunD K "_law_job" "_law_job" (defArgs st_job_L) (defBody st_job_L) (defScope st_job_L) [] [] (He.fAd K ("_law_job", none)) fd) : FnOk P w K mg base (CX K P w) 3 (He.fAd K ("_law_job", none)) fd P_job_L (lift ⟨K, mg, w⟩ sp_job_L) :=
  ok_of F sc_job_L k_job_L (b_job_L (j := 2) (by decide) (cal_mode_L N) (by decide) (cal_pull_L N) N.m_range N.m_tuple)
theorem cal_job_L (N : NamesB w K mg base) : CalD P w K mg base 3 "_law_job" sp_job_L [] :=
  let ⟨_, F⟩ := N.f_job_L; cal_of F N.g_job_L (ok_job_L N F) (fun _ _ _ _ _ _ us hl => match us, hl with | [_, _, _, _], _ => rfl)
theorem ok_link_L (N : NamesB w K mg base) {fd : FuncData} (F : FunD K "_law_link" "_law_link" (defArgs st_link_L) (defBody st_link_L) (defScope st_link_L) [] [] (He.fAd K ("_law_link", none)) fd) : FnOk P w K mg base (CX K P w) 2 (He.fAd K ("_law_link", none)) fd P_link_L (lift ⟨K, mg, w⟩ sp_link_L) :=
  ok_of F sc_link_L k_link_L (b_link_L (j := 1) (by decide) (cal_pull_L N))
theorem cal_link_L (N : NamesB w K mg base) : CalD P w K mg base 2 "_law_link" sp_link_L [] :=
  let ⟨_, F⟩ := N.f_link_L; cal_of F N.g_link_L (ok_link_L N F) (fun _ _ _ _ _ _ us hl => match us, hl with | [_, _], _ => rfl)
theorem ok_closed_L (N : NamesB w K mg base) {fd : FuncData} (F : FunD K "_law_closed" "_law_closed" (defArgs st_closed_L) (defBody st_closed_L) (defScope st_closed_L) [] [] (He.fAd K ("_law_closed", none)) fd) : FnOk P w K mg base (CX K P w) 2 (He.fAd K ("_law_closed", none)) fd P_closed_L (lift ⟨K, mg, w⟩ sp_closed_L) :=
  ok_of F sc_closed_L k_closed_L (b_closed_L (j := 1) (by decide) (cal_pull_L N) N.m_range N.m_tuple)
theorem cal_closed_L (N : NamesB w K mg base) : CalD P w K mg base 2 "_law_closed" sp_closed_L [] :=
  let ⟨_, F⟩ := N.f_closed_L; cal_of F N.g_closed_L (ok_closed_L N F) (fun _ _ _ _ _ _ us hl => match us, hl with | [_, _], _ => rfl)
theorem ok_net_L (N : NamesB w K mg base) {fd : FuncData} (F : FunD K "_law_net" "_law_net" (defArgs st_net_L) (defBody st_net_L) (defScope st_net_L) [] [] (He.fAd K ("_law_net", none)) fd) : FnOk P w K mg base (CX K P w) 4 (He.fAd K ("_law_net", none)) fd P_net_L (lift ⟨K, mg, w⟩ sp_net_L) :=
  ok_of F sc_net_L k_net_L (b_net_L (j := 3) (by decide) (cal_closed_L N) (by decide) (cal_good_row_L N) (by decide) (cal_job_L N) (by decide) (cal_link_L N) (by decide) (cal_pull_L N) N.m_len N.m_range N.m_tuple)
theorem cal_net_L (N : NamesB w K mg base) : CalD P w K mg base 4 "_law_net" sp_net_L [] :=
  let ⟨_, F⟩ := N.f_net_L; cal_of F N.g_net_L (ok_net_L N F) (fun _ _ _ _ _ _ us hl => match us, hl with | [_, _, _, _, _, _], _ => rfl)
theorem ok_dates_L (N : NamesB w K mg base) {fd : FuncData} (F : FunD K "_law_dates" "_law_dates" (defArgs st_dates_L) (defBody st_dates_L) (defScope st_dates_L) [] [] (He.fAd K ("_law_dates", none)) fd) : FnOk P w K mg base (CX K P w) 1 (He.fAd K ("_law_dates", none)) fd P_dates_L (lift ⟨K, mg, w⟩ sp_dates_L) :=
  ok_of F sc_dates_L k_dates_L (b_dates_L (j := 0) N.m_len)
theorem cal_dates_L (N : NamesB w K mg base) : CalD P w K mg base 1 "_law_dates" sp_dates_L [] :=
  let ⟨_, F⟩ := N.f_dates_L; cal_of F N.g_dates_L (ok_dates_L N F) (fun _ _ _ _ _ _ us hl => match us, hl with | [_, _, _, _], _ => rfl)
theorem ok_law (N : NamesB w K mg base) {fd : FuncData} (F : FunD K "law" "law" (defArgs st_law) (defBody st_law) (defScope st_law) [] [] (He.fAd K ("law", none)) fd) : FnOk P w K mg base CX0 12 (He.fAd K ("law", none)) fd P_law (fun vs H Q _ => lift ⟨K, mg, w⟩ sp_law vs H Q fun _ _ _ => False) :=
  fn_law (ok_ofC F sc_law k_law (b_law (j := 11) (jl := 9) (by decide) (by decide) (cal_dates_L N) (by decide) (cal_like_L N) (by decide) (cal_net_L N) (by decide) (cal_open_L N) (by decide) (cal_pull_L N) (by decide) (cal_brokenX N) (by decide) (cal_end_ofX N) (by decide) (cal_tableX N) N.m_len N.m_min N.m_range (by decide) (calk3_holdsX_ N) (lam_spot_L N) (N.tb ("law", none) (by decide)) N.lu_law))
end
theorem namesL {w : World} {K : PySem.W.Frag} {h : Heap} {mg : Str → Option Value} (X : K.In h) (G : h.Ns mainGlobals mg) (c : He.SaysX faL fnL tsL tfL exL w h K) : Names w K mg where
  f_between := c.t.d.def_ 0 (d := d_between) rfl
  g_between := He.glo_ok X G (c.t.d.fact 0 (f := .glo "between") rfl)
  f_shut_wrong := c.t.d.def_ 1 (d := d_shut_wrong) rfl
  g_shut_wrong := He.glo_ok X G (c.t.d.fact 1 (f := .glo "shut_wrong") rfl)
  f_is_stuff := c.t.d.def_ 2 (d := d_is_stuff) rfl
  g_is_stuff := He.glo_ok X G (c.t.d.fact 2 (f := .glo "is_stuff") rfl)
  f_is_way := c.t.d.def_ 3 (d := d_is_way) rfl
  g_is_way := He.glo_ok X G (c.t.d.fact 3 (f := .glo "is_way") rfl)
  f_is_work := c.t.d.def_ 4 (d := d_is_work) rfl
  g_is_work := He.glo_ok X G (c.t.d.fact 4 (f := .glo "is_work") rfl)
  f_is_tie := c.t.d.def_ 5 (d := d_is_tie) rfl
  g_is_tie := He.glo_ok X G (c.t.d.fact 5 (f := .glo "is_tie") rfl)
  f_first_wrong := c.t.d.def_ 6 (d := d_first_wrong) rfl
  g_first_wrong := He.glo_ok X G (c.t.d.fact 6 (f := .glo "first_wrong") rfl)
  f_need_yard := c.t.d.def_ 7 (d := d_need_yard) rfl
  g_need_yard := He.glo_ok X G (c.t.d.fact 7 (f := .glo "need_yard") rfl)
  f_days_of := c.t.d.def_ 8 (d := d_days_of) rfl
  g_days_of := He.glo_ok X G (c.t.d.fact 8 (f := .glo "days_of") rfl)
  f_held_by := c.t.d.def_ 9 (d := d_held_by) rfl
  g_held_by := He.glo_ok X G (c.t.d.fact 9 (f := .glo "held_by") rfl)
  f_need_planX := c.t.d.def_ 10 (d := d_need_planX) rfl
  g_need_planX := He.glo_ok X G (c.t.d.fact 10 (f := .glo "need_plan") rfl)
  f_works_alone := c.t.d.def_ 11 (d := d_works_alone) rfl
  g_works_alone := He.glo_ok X G (c.t.d.fact 11 (f := .glo "works_alone") rfl)
  f_tie_kept := c.t.d.def_ 12 (d := d_tie_kept) rfl
  g_tie_kept := He.glo_ok X G (c.t.d.fact 12 (f := .glo "tie_kept") rfl)
  f_used := c.t.d.def_ 13 (d := d_used) rfl
  g_used := He.glo_ok X G (c.t.d.fact 13 (f := .glo "used") rfl)
  f_first_broken := c.t.d.def_ 14 (d := d_first_broken) rfl
  g_first_broken := He.glo_ok X G (c.t.d.fact 14 (f := .glo "first_broken") rfl)
  f_brokenX := c.t.d.def_ 15 (d := d_brokenX) rfl
  g_brokenX := He.glo_ok X G (c.t.d.fact 15 (f := .glo "broken") rfl)
  f_need_daysX := c.t.d.def_ 16 (d := d_need_daysX) rfl
  g_need_daysX := He.glo_ok X G (c.t.d.fact 16 (f := .glo "need_days") rfl)
  f_end_ofX := c.t.d.def_ 17 (d := d_end_ofX) rfl
  g_end_ofX := He.glo_ok X G (c.t.d.fact 17 (f := .glo "end_of") rfl)
  f_tableX := c.t.d.def_ 18 (d := d_tableX) rfl
  g_tableX := He.glo_ok X G (c.t.d.fact 18 (f := .glo "table") rfl)
  f_is_saying := c.t.d.def_ 19 (d := d_is_saying) rfl
  g_is_saying := He.glo_ok X G (c.t.d.fact 19 (f := .glo "is_saying") rfl)
  f_need_sayingsX := c.t.d.def_ 20 (d := d_need_sayingsX) rfl
  g_need_sayingsX := He.glo_ok X G (c.t.d.fact 20 (f := .glo "need_sayings") rfl)
  f_says_so := c.t.d.def_ 21 (d := d_says_so) rfl
  g_says_so := He.glo_ok X G (c.t.d.fact 21 (f := .glo "says_so") rfl)
  f_holdsX := c.t.d.def_ 22 (d := d_holdsX) rfl
  g_holdsX := He.glo_ok X G (c.t.d.fact 22 (f := .glo "holds") rfl)
  f_open_L := c.t.d.def_ 23 (d := d_open_L) rfl
  g_open_L := He.glo_ok X G (c.t.d.fact 23 (f := .glo "_law_open") rfl)
  f_pull_L := c.t.d.def_ 24 (d := d_pull_L) rfl
  g_pull_L := He.glo_ok X G (c.t.d.fact 24 (f := .glo "_law_pull") rfl)
  f_num_L := c.t.d.def_ 25 (d := d_num_L) rfl
  g_num_L := He.glo_ok X G (c.t.d.fact 25 (f := .glo "_law_num") rfl)
  f_like_L := c.t.d.def_ 26 (d := d_like_L) rfl
  g_like_L := He.glo_ok X G (c.t.d.fact 26 (f := .glo "_law_like") rfl)
  f_good_row_L := c.t.d.def_ 27 (d := d_good_row_L) rfl
  g_good_row_L := He.glo_ok X G (c.t.d.fact 27 (f := .glo "_law_good_row") rfl)
  f_mode_L := c.t.d.def_ 28 (d := d_mode_L) rfl
  g_mode_L := He.glo_ok X G (c.t.d.fact 28 (f := .glo "_law_mode") rfl)
  f_job_L := c.t.d.def_ 29 (d := d_job_L) rfl
  g_job_L := He.glo_ok X G (c.t.d.fact 29 (f := .glo "_law_job") rfl)
  f_link_L := c.t.d.def_ 30 (d := d_link_L) rfl
  g_link_L := He.glo_ok X G (c.t.d.fact 30 (f := .glo "_law_link") rfl)
  f_closed_L := c.t.d.def_ 31 (d := d_closed_L) rfl
  g_closed_L := He.glo_ok X G (c.t.d.fact 31 (f := .glo "_law_closed") rfl)
  f_net_L := c.t.d.def_ 32 (d := d_net_L) rfl
  g_net_L := He.glo_ok X G (c.t.d.fact 32 (f := .glo "_law_net") rfl)
  f_dates_L := c.t.d.def_ 33 (d := d_dates_L) rfl
  g_dates_L := He.glo_ok X G (c.t.d.fact 33 (f := .glo "_law_dates") rfl)
  f_law := c.t.d.def_ 34 (d := d_law) rfl
  g_law := He.glo_ok X G (c.t.d.fact 34 (f := .glo "law") rfl)
  m_all := He.free_ok X G (c.t.d.fact 35 (f := .free "all") rfl)
  m_any := He.free_ok X G (c.t.d.fact 36 (f := .free "any") rfl)
  m_bool := He.free_ok X G (c.t.d.fact 37 (f := .free "bool") rfl)
  m_enumerate := He.free_ok X G (c.t.d.fact 38 (f := .free "enumerate") rfl)
  m_int := He.free_ok X G (c.t.d.fact 39 (f := .free "int") rfl)
  m_isinstance := He.free_ok X G (c.t.d.fact 40 (f := .free "isinstance") rfl)
  m_len := He.free_ok X G (c.t.d.fact 41 (f := .free "len") rfl)
  m_list := He.free_ok X G (c.t.d.fact 42 (f := .free "list") rfl)
  m_max := He.free_ok X G (c.t.d.fact 43 (f := .free "max") rfl)
  m_min := He.free_ok X G (c.t.d.fact 44 (f := .free "min") rfl)
  m_range := He.free_ok X G (c.t.d.fact 45 (f := .free "range") rfl)
  m_str := He.free_ok X G (c.t.d.fact 46 (f := .free "str") rfl)
  m_sum := He.free_ok X G (c.t.d.fact 47 (f := .free "sum") rfl)
  m_tuple := He.free_ok X G (c.t.d.fact 48 (f := .free "tuple") rfl)
  i_END := He.int_ok X G (c.t.d.fact 49 (f := .int "END" (1)) rfl)
  i_MOST_DAYS := He.int_ok X G (c.t.d.fact 50 (f := .int "MOST_DAYS" (20)) rfl)
  i_MOST_GAP := He.int_ok X G (c.t.d.fact 51 (f := .int "MOST_GAP" (20)) rfl)
  i_MOST_LONG := He.int_ok X G (c.t.d.fact 52 (f := .int "MOST_LONG" (9)) rfl)
  i_MOST_MANY := He.int_ok X G (c.t.d.fact 53 (f := .int "MOST_MANY" (9)) rfl)
  i_MOST_STUFFS := He.int_ok X G (c.t.d.fact 54 (f := .int "MOST_STUFFS" (3)) rfl)
  i_MOST_TIES := He.int_ok X G (c.t.d.fact 55 (f := .int "MOST_TIES" (12)) rfl)
  i_MOST_WAYS := He.int_ok X G (c.t.d.fact 56 (f := .int "MOST_WAYS" (3)) rfl)
  i_MOST_WORKS := He.int_ok X G (c.t.d.fact 57 (f := .int "MOST_WORKS" (6)) rfl)
  i_START := He.int_ok X G (c.t.d.fact 58 (f := .int "START" (0)) rfl)
  t_OTHER := Y.ktab_of X G (He.glo_ok X G (c.t.d.fact 59 (f := .glo "OTHER") rfl)) (c.t.tab 0 rfl) (ex_at c.more 1 rfl)
  z_holdsX_kept := Y.tup0_ok (ex_at c.more 2 rfl)
  f_spot_L := c.t.d.def_ 35 (d := d_spot_L) rfl
  g_spot_L := He.glo_ok X G (c.t.d.fact 60 (f := .glo "_law_spot") rfl)
  f_BadPlan_init := c.t.d.def_ 36 (d := d_BadPlan_init) rfl
  x_BadPlan := excB_ok (ex_at c.more 3 rfl)
  f_BadSaying_init := c.t.d.def_ 37 (d := d_BadSaying_init) rfl
  x_BadSaying := excB_ok (ex_at c.more 4 rfl)
  g_BadPlan := He.glo_ok X G (c.t.d.fact 61 (f := .glo "BadPlan") rfl)
  g_BadSaying := He.glo_ok X G (c.t.d.fact 62 (f := .glo "BadSaying") rfl)
  xm_BadPlan_BadPlan := of_decide_eq_true (ex_at c.more 5 rfl)
  xm_BadSaying_BadPlan := of_decide_eq_true (ex_at c.more 6 rfl)
  lu_law := lamUB_ok (ex_at c.more 7 rfl)
theorem factsL {P : Program} {w : World} {K : PySem.W.Frag} {h : Heap} {mg : Str → Option Value} {f : Addr} (X : K.In h) (G : h.Ns mainGlobals mg) (hfa : mg ("law" : Str) = some (.ref f)) (c : He.SaysX faL fnL tsL tfL exL w h K) :
    ∃ fd : FuncData, (∀ (s : Shared) (v : Value), BindsTo s fd ⟨[v], []⟩ [("_law_script", v)]) ∧ ∀ base : Heap, K.In base → base.Ns mainGlobals mg → (∀ p ∈ tfL, LamX.TabB base mg (He.cT K p).1 (He.cT K p).2) → FnOk P w K mg base CX0 12 f fd ["_law_script"] (fun vs H Q _ => lift ⟨K, mg, w⟩ sp_law vs H Q fun _ _ _ => False) := by
  have N := namesL X G c
  obtain ⟨fd, F⟩ := N.f_law
  have e := hfa.symm.trans N.g_law
  cases e
  have b := FunD.bindsA (ps := ["_law_script"]) F fun _ _ _ _ _ _ us hl => match us, hl with
    | [_], _ => rfl
  exact ⟨fd, fun s v => b s [v] rfl, fun base _ _ tb => ok_law ⟨N, tb⟩ F⟩
end Z
open PySem PySem.W PySem.Calls PyProof.Rows
set_option maxHeartbeats 8000000 in
theorem PySem.Challenge.cw_hodman_k12_plans_refused_holds : PySem.Challenge.rw_hodman_k12_plans_refused.Holds := by
  refine HL.headL ?_
  refine Y.walk_ofTE (l := PySem.Challenge.rw_hodman_k12_plans_refused) (n := 63) (k := 12) (x := "_law_script") (CX := L2.CX0) rfl (by decide) (by kernel_rfl) ⟨rfl, by decide, by decide⟩ ?F (fun _ _ _ _ z => z)
  intro w mg fa h Yx G hmg0
  obtain ⟨K, KX, c⟩ := Yx
  have hmg : mg ("law" : PySem.Str) = some (.ref fa) := by
    have e : (HandSHeadRun.topDef (OpenLaw.row PySem.Challenge.rw_hodman_k12_plans_refused).prog 56).name = ("law" : PySem.Str) := by kernel_rfl
    rw [← e]
    exact hmg0
  obtain ⟨fd, hb, hF⟩ := Z.factsL (P := (PySem.Challenge.rw_hodman_k12_plans_refused).prog) (w := w) KX G hmg c
  exact ⟨K, KX, Y.law_at KX c.hd c.out c.empty (Z.ex_at c.more 0 rfl) hb (by decide) Z.law_ok hF⟩
