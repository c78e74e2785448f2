import PyProof.Rows.All
import Wide.All
import OpenK.AllK
import Wide.FinOn
import PyProof.EqAt
import PyProof.EqKinds
import PyProof.TupleCall
import HandS.ForMost
import HandS.ForExc
import HandS.Walk
import HandS.Nested
import HandS.CallSlots
import HandS.ExcOwn
import HandS.WordsExc
import HandS.Wide
import HandS.IsInst
import HandS.Deep
import HandS.TupAny
import HandS.Conv
import HandS.SortInts
import HandS.Defaults
import KE.GoesMore
import PyProof.EnumMake
import HandS.Iter
import HandS.Zip
import HandS.Lambda
import HandS.TryMany
import HandS.ExcField
import OpenK.KMore
import HandS.ExcInit
import HandS.HeadHook1
import HandS.ListItems
import HandS.HeadHook4
import HandS.HeadWalk
import HandS.Head0
import HandS.Head1
import HandS.Head2
import HandS.HeadEnd
import PySem.Challenge.RW_pointswhole_k73_sums_refused
set_option Elab.async false
set_option linter.all false
set_option maxRecDepth 100000
set_option maxHeartbeats 4000000
-- PP1
/-! PP1: plain data, the answers of a piece of the program, the monad of a def's slots. -/
namespace PP
open PySem PySem.Spec PyProof.Rows L2

/-- plain data: lists and tuples as trees; dicts as keys and values; a global's name; a closure: its code's number, what it captured; the one list that is watched -/
inductive D where
  | non | bl (b : Bool) | int (i : Int) | str (x : Str)
  | lst (ds : List D) | tup (ds : List D) | dct (ks : List Key) (ds : List D)
  | glo (x : Str) | clo (c : Nat) (ds : List D) | lid (ds : List D)
deriving Inhabited

/-- an exception: its class, its fields -/
structure Ex where
  c : Str
  fs : List (Str × D)

/-- an answer; s what is carried -/
inductive R (S α : Type) where
  | ok (a : α) (s : S)
  | exn (e : Ex) (s : S)
  | stuck

abbrev M (S α : Type) : Type := S → R S α
namespace M
variable {S α β : Type}
def pure (a : α) : M S α := fun s => .ok a s
def bind (m : M S α) (k : α → M S β) : M S β := fun s => match m s with
  | .ok a s' => k a s'
  | .exn e s' => .exn e s'
  | .stuck => .stuck
def stuck : M S α := fun _ => .stuck
def raise (e : Ex) : M S α := fun s => .exn e s
end M
instance {S : Type} : Monad (M S) where
  pure := M.pure
  bind := M.bind
abbrev Env := List (Option D)
abbrev P (α : Type) := M Unit α
/-- a def without a stream -/
abbrev Fn := List D → P D
/-- a def whose first parameter is changed in place -/
abbrev FnIo := List D → M D D
inductive Out where
  | nx | rt (d : D) | bk | ct
section
variable {S α β : Type}
theorem pure_eq (a : α) : (Pure.pure a : M S α) = fun s => .ok a s := rfl
theorem pure_ap (a : α) (s : S) : (Pure.pure a : M S α) s = .ok a s := rfl
theorem bind_ap (m : M S α) (k : α → M S β) (s : S) : (m >>= k) s = match m s with
  | .ok a s' => k a s'
  | .exn e s' => .exn e s'
  | .stuck => .stuck := rfl
instance : LawfulMonad (M S) := LawfulMonad.mk' _
  (id_map := fun x => by
    funext s
    show (match x s with | .ok a s' => R.ok a s' | .exn e s' => .exn e s' | .stuck => .stuck) = x s
    cases x s <;> rfl)
  (pure_bind := fun _ _ => rfl)
  (bind_assoc := fun x f g => by
    funext s
    show (match (match x s with | .ok a s' => f a s' | .exn e s' => .exn e s' | .stuck => .stuck) with | .ok a s' => g a s' | .exn e s' => .exn e s' | .stuck => .stuck) = (match x s with | .ok a s' => (match f a s' with | .ok a s' => g a s' | .exn e s' => .exn e s' | .stuck => .stuck) | .exn e s' => .exn e s' | .stuck => .stuck)
    cases x s <;> rfl)
end
/-- a def's answer, at a slot's state -/
def lift {S α : Type} (p : P α) : M S α := fun s => match p () with
  | .ok a _ => .ok a s
  | .exn e _ => .exn e s
  | .stuck => .stuck
/-! ### expressions over the slots -/
abbrev EM := M Env
def eC (d : D) : EM D := Pure.pure d
def eV (i : Nat) : EM D := fun ρ => match ρ.getD i none with
  | some d => .ok d ρ
  | none => .stuck
def eNil : EM (List D) := Pure.pure []
def eCons (a : EM D) (r : EM (List D)) : EM (List D) := do let x ← a; let xs ← r; Pure.pure (x :: xs)
def eLst (r : EM (List D)) : EM D := do let xs ← r; Pure.pure (.lst xs)
def eTup (r : EM (List D)) : EM D := do let xs ← r; Pure.pure (.tup xs)
def eP1 (f : D → P D) (a : EM D) : EM D := do let x ← a; lift (f x)
def eP2 (f : D → D → P D) (a b : EM D) : EM D := do let x ← a; let y ← b; lift (f x y)
def eCall (F : Fn) (r : EM (List D)) : EM D := do let xs ← r; lift (F xs)
/-- a call of a def that changes what the slot i holds -/
def eIo (F : FnIo) (i : Nat) (r : EM (List D)) : EM D := do
  let xs ← r
  fun ρ => match ρ.getD i none with
    | some s => (match F xs s with
      | .ok d s' => .ok d (ρ.set i (some s'))
      | .exn e s' => .exn e (ρ.set i (some s'))
      | .stuck => .stuck)
    | none => .stuck
def tB (a : EM D) : EM Bool := do
  let x ← a
  match x with
  | .bl b => Pure.pure b
  | _ => M.stuck
def tNot (a : EM Bool) : EM Bool := do let x ← a; Pure.pure (!x)
def tAnd (a b : EM Bool) : EM Bool := do let x ← a; if x = true then b else Pure.pure false
def tOr (a b : EM Bool) : EM Bool := do let x ← a; if x = true then Pure.pure true else b
def eBool (a : EM Bool) : EM D := do let x ← a; Pure.pure (.bl x)
def eIf {α : Type} (c : EM Bool) (a b : EM α) : EM α := do let x ← c; if x = true then a else b
/-! ### statements -/
abbrev SM := M Env Out
def sSkip : SM := Pure.pure .nx
def sSeq (a b : SM) : SM := do
  let o ← a
  match o with
  | .nx => b
  | o => Pure.pure o
def setSlot (i : Nat) (d : Option D) : EM Unit := fun ρ => .ok () (ρ.set i d)
def sAsg (i : Nat) (e : EM D) : SM := do let d ← e; setSlot i (some d); Pure.pure .nx
def sExpr (e : EM D) : SM := do let _ ← e; Pure.pure .nx
def sRet (e : EM D) : SM := do let d ← e; Pure.pure (.rt d)
def sIf (c : EM Bool) (a b : SM) : SM := do let x ← c; if x = true then a else b
def sRaise (c : Str) (fs : List (Str × EM D)) : SM := fun ρ => .stuck
/-- behind a turn: what was not set ahead of the loop is forgotten -/
def mask (ρ0 ρ : Env) : Env := List.zipWith (fun a b => match a with | none => none | some _ => b) ρ0 ρ
/-- for: the items, the target's store, the body -/
def forM' (ρ0 : Env) (tg : D → EM Unit) (body : SM) : List D → SM
  | [] => Pure.pure .nx
  | d :: ds => do
    tg d
    let o ← body
    match o with
    | .nx | .ct => do (fun ρ => .ok () (mask ρ0 ρ) : EM Unit); forM' ρ0 tg body ds
    | .bk => Pure.pure .nx
    | .rt d => Pure.pure (.rt d)
def sFor (it : EM (List D)) (tg : D → EM Unit) (body : SM) : SM := do
  let ds ← it
  fun ρ => forM' ρ tg body ds ρ
def tgN (i : Nat) : D → EM Unit := fun d => setSlot i (some d)
def tgAll : List (D → EM Unit) → List D → EM Unit
  | [], [] => Pure.pure ()
  | t :: ts, d :: ds => do t d; tgAll ts ds
  | _, _ => M.stuck
def tgT (ts : List (D → EM Unit)) : D → EM Unit := fun d => match d with
  | .tup ds => tgAll ts ds
  | _ => M.stuck
/-- while, of so many turns at most -/
def whileM (ρ0 : Env) (c : EM Bool) (body : SM) : Nat → SM
  | 0 => M.stuck
  | n + 1 => do
    let b ← c
    if b = true then do
      let o ← body
      match o with
      | .nx | .ct => do (fun ρ => .ok () (mask ρ0 ρ) : EM Unit); whileM ρ0 c body n
      | .bk => Pure.pure .nx
      | .rt d => Pure.pure (.rt d)
    else Pure.pure .nx
def sWhile (fu : Env → Nat) (c : EM Bool) (body : SM) : SM := fun ρ => whileM ρ c body (fu ρ) ρ
/-- the slots as they were, but the stream's -/
def back (j : Nat) (ρ0 : Env) : EM Unit := fun ρ => .ok () (ρ0.set j (ρ.getD j none))
/-- a comprehension: items, target, test, element; what the block's own names held comes back -/
def compM (j : Nat) (ρ0 : Env) (tg : D → EM Unit) (t : EM Bool) (e : EM D) : List D → EM (List D)
  | [] => Pure.pure []
  | d :: ds => do
    tg d
    let b ← t
    if b = true then do
      let x ← e
      back j ρ0
      let xs ← compM j ρ0 tg t e ds
      Pure.pure (x :: xs)
    else do
      back j ρ0
      compM j ρ0 tg t e ds
/-- the whole: only the slot j (the stream's) may be changed behind it -/
def eComp (j : Nat) (it : EM (List D)) (tg : D → EM Unit) (t : EM Bool) (e : EM D) : EM D := do
  let ds ← it
  fun ρ => if ds.length ≤ PySem.sizeLine then (match compM j ρ tg t e ds ρ with
    | .ok xs ρ' => .ok (.lst xs) ρ'
    | .exn _ _ => .stuck
    | .stuck => .stuck) else .stuck
def tYesM : EM Bool := Pure.pure true
/-- a def's body as a function -/
def startE (n : Nat) (ds : List D) : Env := ds.map some ++ List.replicate (n - ds.length) none
def defF (n : Nat) (b : SM) : Fn := fun ds s => match b (startE n ds) with
  | .ok (.rt d) _ => .ok d s
  | .ok .nx _ => .ok .non s
  | .ok _ _ => .stuck
  | .exn e _ => .exn e s
  | .stuck => .stuck
def defIo (n : Nat) (b : SM) : FnIo := fun ds s => match b (startE n (s :: ds)) with
  | .ok (.rt d) ρ => (match ρ.getD 0 none with | some s' => .ok d s' | none => .stuck)
  | .ok .nx ρ => (match ρ.getD 0 none with | some s' => .ok .non s' | none => .stuck)
  | .ok _ _ => .stuck
  | .exn e ρ => (match ρ.getD 0 none with | some s' => .exn e s' | none => .stuck)
  | .stuck => .stuck
/-! ### what an expression leaves of the slots -/
/-- only the slot j is changed -/
class Pu {α : Type} (j : Nat) (a : EM α) : Prop where
  eq : ∀ ρ x ρ', a ρ = .ok x ρ' → ∀ i, i ≠ j → ρ'.getD i none = ρ.getD i none
section
variable {α β : Type} {j : Nat}
theorem getD_set {l : Env} {i k : Nat} {x : Option D} (h : k ≠ i) : (l.set i x).getD k none = l.getD k none := by
  rw [List.getD_eq_getElem?_getD, List.getD_eq_getElem?_getD, List.getElem?_set_ne (Ne.symm h)]
theorem Pu.same {a : EM α} (h : ∀ ρ x ρ', a ρ = .ok x ρ' → ρ' = ρ) : Pu j a := ⟨fun ρ x ρ' e i _ => by rw [h ρ x ρ' e]⟩
theorem Pu.bind {a : EM α} {k : α → EM β} (ha : Pu j a) (hk : ∀ x, Pu j (k x)) : Pu j (a >>= k) := ⟨fun ρ y ρ' e i hi => by
  rw [bind_ap] at e
  cases ea : a ρ with
  | ok x ρ1 =>
    rw [ea] at e
    rw [(hk x).eq ρ1 y ρ' e i hi, ha.eq ρ x ρ1 ea i hi]
  | exn _ _ => rw [ea] at e; cases e
  | stuck => rw [ea] at e; cases e⟩
instance Pu.pure (x : α) : Pu j (Pure.pure x : EM α) := Pu.same fun ρ y ρ' e => by cases e; rfl
instance Pu.stuck : Pu j (M.stuck : EM α) := Pu.same fun ρ y ρ' e => by cases e
instance (d : D) : Pu j (eC d) := Pu.pure d
instance (i : Nat) : Pu j (eV i) := Pu.same fun ρ y ρ' e => by
  unfold eV at e
  split at e <;> cases e
  rfl
instance Pu.lift (p : P α) : Pu j (lift p : EM α) := Pu.same fun ρ y ρ' e => by
  unfold PP.lift at e
  split at e <;> cases e
  rfl
instance : Pu j eNil := Pu.pure []
instance (a : EM D) (r : EM (List D)) [Pu j a] [Pu j r] : Pu j (eCons a r) := Pu.bind ‹_› fun _ => Pu.bind ‹_› fun _ => Pu.pure _
instance (r : EM (List D)) [Pu j r] : Pu j (eLst r) := Pu.bind ‹_› fun _ => Pu.pure _
instance (r : EM (List D)) [Pu j r] : Pu j (eTup r) := Pu.bind ‹_› fun _ => Pu.pure _
instance (f : D → P D) (a : EM D) [Pu j a] : Pu j (eP1 f a) := Pu.bind ‹_› fun _ => Pu.lift _
instance (f : D → D → P D) (a b : EM D) [Pu j a] [Pu j b] : Pu j (eP2 f a b) := Pu.bind ‹_› fun _ => Pu.bind ‹_› fun _ => Pu.lift _
instance (F : Fn) (r : EM (List D)) [Pu j r] : Pu j (eCall F r) := Pu.bind ‹_› fun _ => Pu.lift _
instance (F : FnIo) (r : EM (List D)) [Pu j r] : Pu j (eIo F j r) := Pu.bind ‹_› fun xs => ⟨fun ρ y ρ' e i hi => by
  split at e
  · split at e <;> cases e
    exact getD_set hi
  · cases e⟩
instance (a : EM D) [Pu j a] : Pu j (tB a) := Pu.bind ‹_› fun x => by cases x <;> infer_instance
instance (a : EM Bool) [Pu j a] : Pu j (tNot a) := Pu.bind ‹_› fun _ => Pu.pure _
instance Pu.ite {c : Prop} [Decidable c] {a b : EM α} [ha : Pu j a] [hb : Pu j b] : Pu j (if c then a else b) := by
  split
  · exact ha
  · exact hb
instance (a b : EM Bool) [Pu j a] [Pu j b] : Pu j (tAnd a b) := Pu.bind ‹_› fun _ => inferInstance
instance (a b : EM Bool) [Pu j a] [Pu j b] : Pu j (tOr a b) := Pu.bind ‹_› fun _ => inferInstance
instance (a : EM Bool) [Pu j a] : Pu j (eBool a) := Pu.bind ‹_› fun _ => Pu.pure _
instance (c : EM Bool) (a b : EM α) [Pu j c] [Pu j a] [Pu j b] : Pu j (eIf c a b) := Pu.bind ‹_› fun _ => inferInstance
theorem compM_js {tg : D → EM Unit} {t : EM Bool} {e : EM D} {ρ0 : Env} : ∀ {ds : List D} {ρ : Env} {xs : List D} {ρ' : Env}, compM j ρ0 tg t e ds ρ = .ok xs ρ' → (∀ i, i ≠ j → ρ.getD i none = ρ0.getD i none) → ∀ i, i ≠ j → ρ'.getD i none = ρ0.getD i none
  | [], ρ, xs, ρ', q, h => by cases q; exact h
  | d :: ds, ρ, xs, ρ', q, h => by
    unfold compM at q
    rw [bind_ap] at q
    cases e1 : tg d ρ with
    | ok u ρ1 =>
      simp only [e1] at q
      rw [bind_ap] at q
      cases e2 : t ρ1 with
      | ok b ρ2 =>
        simp only [e2] at q
        cases b with
        | true =>
          rw [if_pos rfl, bind_ap] at q
          cases e3 : e ρ2 with
          | ok x ρ3 =>
            simp only [e3] at q
            rw [bind_ap] at q
            simp only [back] at q
            rw [bind_ap] at q
            cases e4 : compM j ρ0 tg t e ds (ρ0.set j (ρ3.getD j none)) with
            | ok ys ρ4 =>
              simp only [e4] at q
              cases q
              exact compM_js e4 fun i hi => getD_set hi
            | exn _ _ => simp only [e4] at q; cases q
            | stuck => simp only [e4] at q; cases q
          | exn _ _ => simp only [e3] at q; cases q
          | stuck => simp only [e3] at q; cases q
        | false =>
          rw [if_neg (by decide), bind_ap] at q
          simp only [back] at q
          exact compM_js q fun i hi => getD_set hi
      | exn _ _ => simp only [e2] at q; cases q
      | stuck => simp only [e2] at q; cases q
    | exn _ _ => simp only [e1] at q; cases q
    | stuck => simp only [e1] at q; cases q
instance (it : EM (List D)) (tg : D → EM Unit) (t : EM Bool) (e : EM D) [Pu j it] : Pu j (eComp j it tg t e) := Pu.bind ‹_› fun ds => ⟨fun ρ y ρ' q i hi => by
  split at q
  · split at q
    · rename_i e4
      cases q
      exact compM_js e4 (fun _ _ => rfl) i hi
    · cases q
    · cases q
  · cases q⟩
end
end PP
-- PP2
/-! PP2: what stands in the heap for plain data: shared (Sh), owned (Ow); what is kept. -/
namespace PP
open PySem PySem.Spec PyProof.Rows L2

/-- a lambda of the text: its qualified name, parameters, body, scope, the captured names -/
structure Lam where
  qual : Str
  params : Arguments
  body : Expr
  scope : Scope
  fr : List Str
/-- what is fixed through a law -/
structure G where
  K : PySem.W.Frag
  mg : Str → Option Value
  T : List NdefX.NTab
  CT : Nat → Lam
  KF : Prop := True
  tok : Option Addr := none
/-- the object at f is the function that the lambda l makes -/
def LamO (f : Addr) (l : Lam) (cl : List (Str × Addr)) (c' : Addr) : HO := .ext fun h => ∃ pm ctv : Value, h.get? f = some (PySem.W.kla_obj "<lambda>" l.qual l.params l.body l.scope cl pm c' ctv)
/-- the cell at a holds w: it is the frame's own (cm), or tracked as it stands -/
def CellW (cm : Addr → V → Prop) (H : Hp) (a : Addr) (w : V) : Prop := cm a w ∨ ∃ (o : Obj) (u : Value), H a = some (.frz o (.own a)) ∧ o.data = .cell (some u) ∧ RelV w u
structure CloAt (g : G) (cm : Addr → V → Prop) (H : Hp) (c : Nat) (ws : List V) (f : Addr) (cl : List (Str × Addr)) (c' : Addr) : Prop where
  fn : H f = some (LamO f (g.CT c) cl c')
  code : H c' = some (LamX.CodeO c' (g.CT c).qual)
  len : ws.length = (g.CT c).fr.length
  has : ∀ (i : Nat) (y : Str), (g.CT c).fr[i]? = some y → ∃ a, cl.lookup y = some a
  sub : ∀ y a, cl.lookup y = some a → y ∈ (g.CT c).fr
  inj : ∀ x y a, cl.lookup x = some a → cl.lookup y = some a → x = y
  at_ : ∀ (i : Nat) (y : Str) (a : Addr), (g.CT c).fr[i]? = some y → cl.lookup y = some a → ∃ w, ws[i]? = some w ∧ CellW cm H a w

abbrev nc : Addr → V → Prop := fun _ _ => False
open Classical in
/-- without a closure's cells -/
noncomputable def hide (cl : List (Str × Addr)) (H : Hp) : Hp := fun b => if ∃ y, cl.lookup y = some b then none else H b
theorem hide_in {cl : List (Str × Addr)} {H : Hp} {b : Addr} (h : ∃ y, cl.lookup y = some b) : hide cl H b = none := if_pos h
theorem hide_out {cl : List (Str × Addr)} {H : Hp} {b : Addr} (h : ¬ ∃ y, cl.lookup y = some b) : hide cl H b = H b := if_neg h
theorem hide_some {cl : List (Str × Addr)} {H : Hp} {b : Addr} {o : HO} (h : hide cl H b = some o) : (¬ ∃ y, cl.lookup y = some b) ∧ H b = some o := by
  by_cases q : ∃ y, cl.lookup y = some b
  · rw [hide_in q] at h; cases h
  · rw [hide_out q] at h; exact ⟨q, h⟩
/-! ### shared data: nodes that avoid B -/
mutual
def Sh (g : G) (cm : Addr → V → Prop) (B : Addr → Prop) (H : Hp) (d : D) (v : V) : Prop := match d with
  | .non => v = .non
  | .bl b => v = .bl b
  | .int i => v = .int i
  | .str x => v = .str x
  | .lst ds => ∃ a vs, v = .ref a ∧ ¬ B a ∧ H a = some (.lst vs) ∧ ShA g cm B H ds vs
  | .tup ds => ∃ a vs, v = .ref a ∧ SqT g.K H a vs ∧ ShA g cm B H ds vs
  | .dct ks ds => ∃ a kvs, v = .ref a ∧ ¬ B a ∧ Rd H a (.dK kvs) ∧ kvs.map (·.1) = ks ∧ ShA g cm B H ds (kvs.map (·.2))
  | .glo x => ∃ a, g.mg x = some (.ref a) ∧ v = .ref a
  | .clo c ds => ∃ f cl c' ws, v = .ref f ∧ CloAt g cm H c ws f cl c' ∧ ShA g nc B (hide cl H) ds ws
  | .lid ds => ∃ a vs, v = .ref a ∧ g.tok = some a ∧ ¬ B a ∧ H a = some (.lst vs) ∧ ShA g cm B H ds vs
termination_by structural d
def ShA (g : G) (cm : Addr → V → Prop) (B : Addr → Prop) (H : Hp) (ds : List D) (vs : List V) : Prop := match ds with
  | [] => vs = []
  | d :: ds => ∃ v r, vs = v :: r ∧ Sh g cm B H d v ∧ ShA g cm B H ds r
termination_by structural ds
end
/-- objects that may be changed in place -/
def Mu : HO → Prop
  | .lst _ | .dK _ | .dT _ | .ins _ _ _ | .set _ _ => True
  | _ => False
/-- kept but at S (there what may be changed may have changed), and but the tables; nothing that was tracked is gone -/
def Kp (S : Addr → Prop) (H H' : Hp) : Prop := (∀ a o, H a = some o → (Mu o → ¬ S a) → (∀ ps, o ≠ .tbl ps) → H' a = some o) ∧ ∀ a, H' a = none → H a = none
theorem Mu.nt {o : HO} (m : Mu o) (ps : Array Value) : o ≠ .tbl ps := fun z => by rw [z] at m; exact m
theorem Kp.refl {S : Addr → Prop} {H : Hp} : Kp S H H := ⟨fun _ _ h _ _ => h, fun _ h => h⟩
theorem Kp.trans {S : Addr → Prop} {H H1 H2 : Hp} (a : Kp S H H1) (b : Kp S H1 H2) : Kp S H H2 := ⟨fun c o h m t => b.1 c o (a.1 c o h m t) m t, fun c h => a.2 c (b.2 c h)⟩
theorem Kp.mono {S S' : Addr → Prop} {H H' : Hp} (k : Kp S H H') (h : ∀ a, S a → S' a) : Kp S' H H' := ⟨fun a o e m t => k.1 a o e (fun q z => m q (h a z)) t, k.2⟩
theorem upd_none {H : Hp} {a b : Addr} {o : HO} (e : upd H a o b = Option.none) : H b = Option.none := by
  unfold upd at e
  split at e
  · cases e
  · exact e
theorem Kp.upd_new {S : Addr → Prop} {H : Hp} {p : Addr} {o : HO} (h : H p = Option.none) : Kp S H (upd H p o) := ⟨fun a u e _ _ => by
  rw [upd_ne (ne_of_none e h)]; exact e, fun _ e => upd_none e⟩
section
variable {g : G} {cm cm' : Addr → V → Prop} {B B' S : Addr → Prop} {H H' : Hp}
theorem SqL.kp {a : Addr} {vs : List V} (k : Kp S H H') (n : ¬ S a) (h : SqL g.K H a vs) : SqL g.K H' a vs := by
  rcases h with (h | ⟨o, h⟩) | h
  · exact .inl (.inl (k.1 _ _ h (fun _ => n) fun ps z => by cases z))
  · exact .inl (.inr ⟨o, k.1 _ _ h (fun _ => n) fun ps z => by cases z⟩)
  · exact .inr h
theorem SqT.kp {a : Addr} {vs : List V} (k : Kp S H H') (h : SqT g.K H a vs) : SqT g.K H' a vs := by
  rcases h with (h | ⟨o, h⟩) | h
  · exact .inl (.inl (k.1 _ _ h (fun m => m.elim) fun ps z => by cases z))
  · exact .inl (.inr ⟨o, k.1 _ _ h (fun m => m.elim) fun ps z => by cases z⟩)
  · exact .inr h
theorem Rd.kp {a : Addr} {u : HO} (k : Kp S H H') (n : ¬ S a) (nt : ∀ ps, u ≠ .tbl ps) (h : Rd H a u) : Rd H' a u := by
  rcases h with h | ⟨o, h⟩
  · exact .inl (k.1 _ _ h (fun _ => n) nt)
  · exact .inr ⟨o, k.1 _ _ h (fun m => m.elim) fun ps z => by cases z⟩
theorem CellW.kp {a : Addr} {w : V} (k : Kp S H H') (h : CellW cm H a w) : CellW cm H' a w := by
  rcases h with h | ⟨o, u, h, e, r⟩
  · exact .inl h
  · exact .inr ⟨o, u, k.1 _ _ h (fun m => m.elim) (fun ps z => by cases z), e, r⟩
theorem CloAt.kp {c : Nat} {ws : List V} {f : Addr} {cl : List (Str × Addr)} {c' : Addr} (k : Kp S H H') (h : CloAt g cm H c ws f cl c') : CloAt g cm H' c ws f cl c' :=
  ⟨k.1 _ _ h.fn (fun m => m.elim) (fun ps z => by unfold LamO at z; cases z), k.1 _ _ h.code (fun m => m.elim) (fun ps => LamX.codeO_ne ps), h.len, h.has, h.sub, h.inj,
    fun i y a e1 e2 => let ⟨w, e, q⟩ := h.at_ i y a e1 e2; ⟨w, e, q.kp k⟩⟩
theorem CloAt.cms {c : Nat} {ws : List V} {f : Addr} {cl : List (Str × Addr)} {c' : Addr} (hc : ∀ a w, cm a w → CellW cm' H a w) (h : CloAt g cm H c ws f cl c') : CloAt g cm' H c ws f cl c' :=
  ⟨h.fn, h.code, h.len, h.has, h.sub, h.inj, fun i y a e1 e2 => let ⟨w, e, q⟩ := h.at_ i y a e1 e2; ⟨w, e, q.elim (hc a w) .inr⟩⟩

theorem Kp.hide (cl : List (Str × Addr)) (k : Kp S H H') : Kp S (hide cl H) (hide cl H') := ⟨fun a o e m t => by
  obtain ⟨n, e⟩ := hide_some e
  rw [hide_out n]; exact k.1 a o e m t, fun a e => by
  by_cases q : ∃ y, cl.lookup y = some a
  · exact hide_in q
  · rw [hide_out q] at e ⊢; exact k.2 a e⟩
mutual
theorem Sh.monoG : ∀ (d : D) (v : V) {cm cm' : Addr → V → Prop} {H H' : Hp}, Kp S H H' → (∀ a, S a → B a) → (∀ a w, cm a w → CellW cm' H' a w) → (∀ a, ¬ B a → ¬ B' a) → Sh g cm B H d v → Sh g cm' B' H' d v
  | .non, _, _, _, _, _, k, hS, hc, hB, h => by simp only [Sh] at h ⊢; exact h
  | .bl _, _, _, _, _, _, k, hS, hc, hB, h => by simp only [Sh] at h ⊢; exact h
  | .int _, _, _, _, _, _, k, hS, hc, hB, h => by simp only [Sh] at h ⊢; exact h
  | .str _, _, _, _, _, _, k, hS, hc, hB, h => by simp only [Sh] at h ⊢; exact h
  | .lst ds, v, _, _, _, _, k, hS, hc, hB, h => by
    simp only [Sh] at h ⊢
    obtain ⟨a, vs, e, n, q, r⟩ := h
    exact ⟨a, vs, e, hB a n, k.1 _ _ q (fun _ z => n (hS a z)) (fun ps z => by cases z), ShA.monoG ds vs k hS hc hB r⟩
  | .tup ds, v, _, _, _, _, k, hS, hc, hB, h => by
    simp only [Sh] at h ⊢
    obtain ⟨a, vs, e, q, r⟩ := h
    exact ⟨a, vs, e, SqT.kp k q, ShA.monoG ds vs k hS hc hB r⟩
  | .dct ks ds, v, _, _, _, _, k, hS, hc, hB, h => by
    simp only [Sh] at h ⊢
    obtain ⟨a, kvs, e, n, q, m, r⟩ := h
    exact ⟨a, kvs, e, hB a n, Rd.kp k (fun z => n (hS a z)) (fun ps z => by cases z) q, m, ShA.monoG ds _ k hS hc hB r⟩
  | .glo _, _, _, _, _, _, k, hS, hc, hB, h => by simp only [Sh] at h ⊢; exact h
  | .clo c ds, v, _, _, _, _, k, hS, hc, hB, h => by
    simp only [Sh] at h ⊢
    obtain ⟨f, cl, c', ws, e, q, r⟩ := h
    exact ⟨f, cl, c', ws, e, (q.kp k).cms hc, ShA.monoG ds ws (k.hide cl) hS (fun _ _ z => z.elim) hB r⟩
  | .lid ds, v, _, _, _, _, k, hS, hc, hB, h => by
    simp only [Sh] at h ⊢
    obtain ⟨a, vs, e, t, n, q, r⟩ := h
    exact ⟨a, vs, e, t, hB a n, k.1 _ _ q (fun _ z => n (hS a z)) (fun ps z => by cases z), ShA.monoG ds vs k hS hc hB r⟩
theorem ShA.monoG : ∀ (ds : List D) (vs : List V) {cm cm' : Addr → V → Prop} {H H' : Hp}, Kp S H H' → (∀ a, S a → B a) → (∀ a w, cm a w → CellW cm' H' a w) → (∀ a, ¬ B a → ¬ B' a) → ShA g cm B H ds vs → ShA g cm' B' H' ds vs
  | [], _, _, _, _, _, k, hS, hc, hB, h => by simp only [ShA] at h ⊢; exact h
  | d :: ds, vs, _, _, _, _, k, hS, hc, hB, h => by
    simp only [ShA] at h ⊢
    obtain ⟨v, r, e, h1, h2⟩ := h
    exact ⟨v, r, e, Sh.monoG d v k hS hc hB h1, ShA.monoG ds r k hS hc hB h2⟩
end
theorem Sh.mono (k : Kp S H H') (hS : ∀ a, S a → B a) (hc : ∀ a w, cm a w → CellW cm' H' a w) (hB : ∀ a, ¬ B a → ¬ B' a) (d : D) (v : V) (h : Sh g cm B H d v) : Sh g cm' B' H' d v := Sh.monoG d v k hS hc hB h
theorem ShA.mono (k : Kp S H H') (hS : ∀ a, S a → B a) (hc : ∀ a w, cm a w → CellW cm' H' a w) (hB : ∀ a, ¬ B a → ¬ B' a) (ds : List D) (vs : List V) (h : ShA g cm B H ds vs) : ShA g cm' B' H' ds vs := ShA.monoG ds vs k hS hc hB h
theorem Sh.kp {d : D} {v : V} (k : Kp S H H') (hS : ∀ a, S a → B a) (h : Sh g cm B H d v) : Sh g cm B H' d v := Sh.mono k hS (fun _ _ e => .inl e) (fun _ n => n) d v h
theorem ShA.kp {ds : List D} {vs : List V} (k : Kp S H H') (hS : ∀ a, S a → B a) (h : ShA g cm B H ds vs) : ShA g cm B H' ds vs := ShA.mono k hS (fun _ _ e => .inl e) (fun _ n => n) ds vs h
theorem Sh.sub {d : D} {v : V} (h : Sh g cm B H d v) (hB : ∀ a, B' a → B a) : Sh g cm B' H d v := Sh.mono (S := fun _ => False) Kp.refl (fun _ z => z.elim) (fun _ _ e => .inl e) (fun a n z => n (hB a z)) d v h
theorem ShA.sub {ds : List D} {vs : List V} (h : ShA g cm B H ds vs) (hB : ∀ a, B' a → B a) : ShA g cm B' H ds vs := ShA.mono (S := fun _ => False) Kp.refl (fun _ z => z.elim) (fun _ _ e => .inl e) (fun a n z => n (hB a z)) ds vs h

theorem hide_none {cl : List (Str × Addr)} {a : Addr} (h : H a = none) : hide cl H a = none := by
  by_cases q : ∃ y, cl.lookup y = some a
  · exact hide_in q
  · rw [hide_out q]; exact h
mutual
/-- what shared data reaches is tracked: what is not is none of it -/
theorem Sh.freshP : ∀ (d : D) (v : V) {cm : Addr → V → Prop} {H : Hp}, (∀ a, B' a → B a ∨ H a = none) → Sh g cm B H d v → Sh g cm B' H d v
  | .non, _, _, _, hB, h => by simp only [Sh] at h ⊢; exact h
  | .bl _, _, _, _, hB, h => by simp only [Sh] at h ⊢; exact h
  | .int _, _, _, _, hB, h => by simp only [Sh] at h ⊢; exact h
  | .str _, _, _, _, hB, h => by simp only [Sh] at h ⊢; exact h
  | .lst ds, v, _, _, hB, h => by
    simp only [Sh] at h ⊢
    obtain ⟨a, vs, e, n, q, r⟩ := h
    refine ⟨a, vs, e, fun z => (hB a z).elim n fun ea => ?_, q, ShA.freshP ds vs hB r⟩
    rw [ea] at q
    cases q
  | .tup ds, v, _, _, hB, h => by
    simp only [Sh] at h ⊢
    obtain ⟨a, vs, e, q, r⟩ := h
    exact ⟨a, vs, e, q, ShA.freshP ds vs hB r⟩
  | .dct ks ds, v, _, _, hB, h => by
    simp only [Sh] at h ⊢
    obtain ⟨a, kvs, e, n, q, m, r⟩ := h
    refine ⟨a, kvs, e, fun z => (hB a z).elim n fun ea => ?_, q, m, ShA.freshP ds _ hB r⟩
    rcases q with q | ⟨o, q⟩
    · rw [ea] at q; cases q
    · rw [ea] at q; cases q
  | .glo _, _, _, _, hB, h => by simp only [Sh] at h ⊢; exact h
  | .clo c ds, v, _, _, hB, h => by
    simp only [Sh] at h ⊢
    obtain ⟨f, cl, c', ws, e, q, r⟩ := h
    exact ⟨f, cl, c', ws, e, q, ShA.freshP ds ws (fun a z => (hB a z).imp id hide_none) r⟩
  | .lid ds, v, _, _, hB, h => by
    simp only [Sh] at h ⊢
    obtain ⟨a, vs, e, t, n, q, r⟩ := h
    refine ⟨a, vs, e, t, fun z => (hB a z).elim n fun ea => ?_, q, ShA.freshP ds vs hB r⟩
    rw [ea] at q
    cases q
theorem ShA.freshP : ∀ (ds : List D) (vs : List V) {cm : Addr → V → Prop} {H : Hp}, (∀ a, B' a → B a ∨ H a = none) → ShA g cm B H ds vs → ShA g cm B' H ds vs
  | [], _, _, _, hB, h => by simp only [ShA] at h ⊢; exact h
  | d :: ds, vs, _, _, hB, h => by
    simp only [ShA] at h ⊢
    obtain ⟨v, r, e, h1, h2⟩ := h
    exact ⟨v, r, e, Sh.freshP d v hB h1, ShA.freshP ds r hB h2⟩
end
theorem Sh.fresh {p : Addr} (hp : H p = none) (hB : ∀ a, B' a → B a ∨ a = p) (d : D) (v : V) (h : Sh g cm B H d v) : Sh g cm B' H d v := Sh.freshP d v (fun a z => (hB a z).imp id fun e => by rw [e]; exact hp) h
theorem ShA.fresh {p : Addr} (hp : H p = none) (hB : ∀ a, B' a → B a ∨ a = p) (ds : List D) (vs : List V) (h : ShA g cm B H ds vs) : ShA g cm B' H ds vs := ShA.freshP ds vs (fun a z => (hB a z).imp id fun e => by rw [e]; exact hp) h
end
end PP
-- PP3
/-! PP3: owned trees; the slots of a frame. -/
namespace PP
open PySem PySem.Spec PyProof.Rows L2

mutual
/-- owned data: L its nodes (lists, dicts), from the top, each one's own -/
def Ow (g : G) (H : Hp) : D → V → List Addr → Prop
  | .non, v, L => L = [] ∧ v = .non
  | .bl b, v, L => L = [] ∧ v = .bl b
  | .int i, v, L => L = [] ∧ v = .int i
  | .str x, v, L => L = [] ∧ v = .str x
  | .lst ds, v, L => ∃ a vs L', v = .ref a ∧ L = a :: L' ∧ H a = some (.lst vs) ∧ OwA g H ds vs L'
  | .tup ds, v, L => ∃ a vs, v = .ref a ∧ SqT g.K H a vs ∧ OwA g H ds vs L
  | .dct ks ds, v, L => ∃ a kvs L', v = .ref a ∧ L = a :: L' ∧ H a = some (.dK kvs) ∧ kvs.map (·.1) = ks ∧ OwA g H ds (kvs.map (·.2)) L'
  | .glo x, v, L => L = [] ∧ ∃ a, g.mg x = some (.ref a) ∧ v = .ref a
  | .clo _ _, _, _ => False
  | .lid _, _, _ => False
def OwA (g : G) (H : Hp) : List D → List V → List Addr → Prop
  | [], vs, L => vs = [] ∧ L = []
  | d :: ds, vs, L => ∃ v r L1 L2, vs = v :: r ∧ L = L1 ++ L2 ∧ Ow g H d v L1 ∧ OwA g H ds r L2
end
section
variable {g : G} {B B' S : Addr → Prop} {H H' : Hp}
mutual
theorem Ow.mono (k : Kp S H H') : ∀ (d : D) (v : V) (L : List Addr), (∀ a ∈ L, ¬ S a) → Ow g H d v L → Ow g H' d v L
  | .non, _, _, _, h => by simp only [Ow] at h ⊢; exact h
  | .bl _, _, _, _, h => by simp only [Ow] at h ⊢; exact h
  | .int _, _, _, _, h => by simp only [Ow] at h ⊢; exact h
  | .str _, _, _, _, h => by simp only [Ow] at h ⊢; exact h
  | .glo _, _, _, _, h => by simp only [Ow] at h ⊢; exact h
  | .lst ds, v, L, n, h => by
    simp only [Ow] at h ⊢
    obtain ⟨a, vs, L', e, eL, q, r⟩ := h
    subst eL
    exact ⟨a, vs, L', e, rfl, k.1 _ _ q (fun _ => n a List.mem_cons_self) (fun ps z => by cases z), OwA.mono k ds vs L' (fun b hb => n b (List.mem_cons_of_mem _ hb)) r⟩
  | .tup ds, v, L, n, h => by
    simp only [Ow] at h ⊢
    obtain ⟨a, vs, e, q, r⟩ := h
    exact ⟨a, vs, e, SqT.kp k q, OwA.mono k ds vs L n r⟩
  | .dct ks ds, v, L, n, h => by
    simp only [Ow] at h ⊢
    obtain ⟨a, kvs, L', e, eL, q, m, r⟩ := h
    subst eL
    exact ⟨a, kvs, L', e, rfl, k.1 _ _ q (fun _ => n a List.mem_cons_self) (fun ps z => by cases z), m, OwA.mono k ds _ L' (fun b hb => n b (List.mem_cons_of_mem _ hb)) r⟩
  | .clo c ds, v, L, n, h => by simp only [Ow] at h
  | .lid ds, v, L, n, h => by simp only [Ow] at h
theorem OwA.mono (k : Kp S H H') : ∀ (ds : List D) (vs : List V) (L : List Addr), (∀ a ∈ L, ¬ S a) → OwA g H ds vs L → OwA g H' ds vs L
  | [], _, _, _, h => by simp only [OwA] at h ⊢; exact h
  | d :: ds, vs, L, n, h => by
    simp only [OwA] at h ⊢
    obtain ⟨v, r, L1, L2, e, eL, h1, h2⟩ := h
    subst eL
    exact ⟨v, r, L1, L2, e, rfl, Ow.mono k d v L1 (fun a ha => n a (List.mem_append_left _ ha)) h1, OwA.mono k ds r L2 (fun a ha => n a (List.mem_append_right _ ha)) h2⟩
end
mutual
/-- owned data is shared data, of those who avoid its nodes -/
theorem Ow.sh : ∀ (d : D) (v : V) (L : List Addr), (∀ a ∈ L, ¬ B' a) → Ow g H d v L → Sh g nc B' H d v
  | .non, _, _, _, h => by simp only [Ow, Sh] at h ⊢; exact h.2
  | .bl _, _, _, _, h => by simp only [Ow, Sh] at h ⊢; exact h.2
  | .int _, _, _, _, h => by simp only [Ow, Sh] at h ⊢; exact h.2
  | .str _, _, _, _, h => by simp only [Ow, Sh] at h ⊢; exact h.2
  | .glo _, _, _, _, h => by simp only [Ow, Sh] at h ⊢; exact h.2
  | .lst ds, v, L, n, h => by
    simp only [Ow, Sh] at h ⊢
    obtain ⟨a, vs, L', e, eL, q, r⟩ := h
    subst eL
    exact ⟨a, vs, e, n a List.mem_cons_self, q, OwA.sh ds vs L' (fun b hb => n b (List.mem_cons_of_mem _ hb)) r⟩
  | .tup ds, v, L, n, h => by
    simp only [Ow, Sh] at h ⊢
    obtain ⟨a, vs, e, q, r⟩ := h
    exact ⟨a, vs, e, q, OwA.sh ds vs L n r⟩
  | .dct ks ds, v, L, n, h => by
    simp only [Ow, Sh] at h ⊢
    obtain ⟨a, kvs, L', e, eL, q, m, r⟩ := h
    subst eL
    exact ⟨a, kvs, e, n a List.mem_cons_self, .inl q, m, OwA.sh ds _ L' (fun b hb => n b (List.mem_cons_of_mem _ hb)) r⟩
  | .clo c ds, v, L, n, h => by simp only [Ow] at h
  | .lid ds, v, L, n, h => by simp only [Ow] at h
theorem OwA.sh : ∀ (ds : List D) (vs : List V) (L : List Addr), (∀ a ∈ L, ¬ B' a) → OwA g H ds vs L → ShA g nc B' H ds vs
  | [], _, _, _, h => by simp only [OwA, ShA] at h ⊢; exact h.1
  | d :: ds, vs, L, n, h => by
    simp only [OwA, ShA] at h ⊢
    obtain ⟨v, r, L1, L2, e, eL, h1, h2⟩ := h
    subst eL
    exact ⟨v, r, e, Ow.sh d v L1 (fun a ha => n a (List.mem_append_left _ ha)) h1, OwA.sh ds r L2 (fun a ha => n a (List.mem_append_right _ ha)) h2⟩
end
mutual
/-- the nodes stand in the heap -/
theorem Ow.there : ∀ (d : D) (v : V) (L : List Addr), Ow g H d v L → ∀ a ∈ L, ∃ o, H a = some o ∧ Mu o
  | .non, _, _, h, a, ha => by simp only [Ow] at h; rw [h.1] at ha; cases ha
  | .bl _, _, _, h, a, ha => by simp only [Ow] at h; rw [h.1] at ha; cases ha
  | .int _, _, _, h, a, ha => by simp only [Ow] at h; rw [h.1] at ha; cases ha
  | .str _, _, _, h, a, ha => by simp only [Ow] at h; rw [h.1] at ha; cases ha
  | .glo _, _, _, h, a, ha => by simp only [Ow] at h; rw [h.1] at ha; cases ha
  | .clo _ _, _, _, h, a, ha => by simp only [Ow] at h
  | .lid _, _, _, h, a, ha => by simp only [Ow] at h
  | .lst ds, v, L, h, a, ha => by
    simp only [Ow] at h
    obtain ⟨b, vs, L', e, eL, q, r⟩ := h
    subst eL
    rcases List.mem_cons.mp ha with rfl | ha
    · exact ⟨_, q, trivial⟩
    · exact OwA.there ds vs L' r a ha
  | .tup ds, v, L, h, a, ha => by
    simp only [Ow] at h
    obtain ⟨b, vs, e, q, r⟩ := h
    exact OwA.there ds vs L r a ha
  | .dct ks ds, v, L, h, a, ha => by
    simp only [Ow] at h
    obtain ⟨b, kvs, L', e, eL, q, m, r⟩ := h
    subst eL
    rcases List.mem_cons.mp ha with rfl | ha
    · exact ⟨_, q, trivial⟩
    · exact OwA.there ds _ L' r a ha
theorem OwA.there : ∀ (ds : List D) (vs : List V) (L : List Addr), OwA g H ds vs L → ∀ a ∈ L, ∃ o, H a = some o ∧ Mu o
  | [], _, _, h, a, ha => by simp only [OwA] at h; rw [h.2] at ha; cases ha
  | d :: ds, vs, L, h, a, ha => by
    simp only [OwA] at h
    obtain ⟨v, r, L1, L2, e, eL, h1, h2⟩ := h
    subst eL
    rcases List.mem_append.mp ha with ha | ha
    · exact Ow.there d v L1 h1 a ha
    · exact OwA.there ds r L2 h2 a ha
end
theorem ShA.length {cm : Addr → V → Prop} : ∀ {ds : List D} {vs : List V}, ShA g cm B H ds vs → vs.length = ds.length
  | [], _, h => by simp only [ShA] at h; rw [h]; rfl
  | d :: ds, vs, h => by
    simp only [ShA] at h
    obtain ⟨v, r, e, _, h2⟩ := h
    rw [e, List.length_cons, List.length_cons, ShA.length h2]
theorem ShA.get {cm : Addr → V → Prop} : ∀ {ds : List D} {vs : List V} {i : Nat} {d : D}, ShA g cm B H ds vs → ds[i]? = some d → ∃ v, vs[i]? = some v ∧ Sh g cm B H d v
  | [], _, _, _, _, e => by simp at e
  | d :: ds, vs, 0, d', h, e => by
    simp only [ShA] at h
    obtain ⟨v, r, rfl, h1, _⟩ := h
    cases e
    exact ⟨v, rfl, h1⟩
  | d :: ds, vs, i + 1, d', h, e => by
    simp only [ShA] at h
    obtain ⟨v, r, rfl, _, h2⟩ := h
    obtain ⟨w, e1, e2⟩ := ShA.get h2 (i := i) (d := d') (by simpa using e)
    exact ⟨w, by simpa using e1, e2⟩
theorem ShA.getV {cm : Addr → V → Prop} {ds : List D} {vs : List V} {i : Nat} {v : V} (h : ShA g cm B H ds vs) (e : vs[i]? = some v) : ∃ d, ds[i]? = some d ∧ Sh g cm B H d v := by
  have hl := h.length
  have hi := (List.getElem?_eq_some_iff.mp e).1
  have hd : ds[i]? = some ds[i] := List.getElem?_eq_getElem (by omega)
  obtain ⟨w, e1, e2⟩ := h.get hd
  rw [e] at e1; cases e1
  exact ⟨_, hd, e2⟩
theorem ShA.append {cm : Addr → V → Prop} : ∀ {ds es : List D} {vs ws : List V}, ShA g cm B H ds vs → ShA g cm B H es ws → ShA g cm B H (ds ++ es) (vs ++ ws)
  | [], _, _, _, h, q => by simp only [ShA] at h; subst h; exact q
  | d :: ds, es, vs, ws, h, q => by
    simp only [ShA] at h
    obtain ⟨v, r, rfl, h1, h2⟩ := h
    simp only [List.cons_append, ShA]
    exact ⟨v, r ++ ws, rfl, h1, ShA.append h2 q⟩
theorem ShA.drop {cm : Addr → V → Prop} : ∀ {ds : List D} {vs : List V} (n : Nat), ShA g cm B H ds vs → ShA g cm B H (ds.drop n) (vs.drop n)
  | _, _, 0, h => h
  | [], _, _ + 1, h => by simp only [ShA] at h; subst h; simp [ShA]
  | d :: ds, vs, n + 1, h => by
    simp only [ShA] at h
    obtain ⟨v, r, rfl, _, h2⟩ := h
    simpa using ShA.drop n h2
theorem ShA.take {cm : Addr → V → Prop} : ∀ {ds : List D} {vs : List V} (n : Nat), ShA g cm B H ds vs → ShA g cm B H (ds.take n) (vs.take n)
  | _, _, 0, h => by simp [ShA]
  | [], _, _ + 1, h => by simp only [ShA] at h; subst h; simp [ShA]
  | d :: ds, vs, n + 1, h => by
    simp only [ShA] at h
    obtain ⟨v, r, rfl, h1, h2⟩ := h
    simp only [List.take_succ_cons, ShA]
    exact ⟨v, r.take n, rfl, h1, ShA.take n h2⟩
theorem OwA.append : ∀ {ds es : List D} {vs ws : List V} {L L' : List Addr}, OwA g H ds vs L → OwA g H es ws L' → OwA g H (ds ++ es) (vs ++ ws) (L ++ L')
  | [], _, _, _, _, _, h, q => by simp only [OwA] at h; obtain ⟨rfl, rfl⟩ := h; exact q
  | d :: ds, es, vs, ws, L, L', h, q => by
    simp only [OwA] at h
    obtain ⟨v, r, L1, L2, rfl, rfl, h1, h2⟩ := h
    simp only [List.cons_append, OwA]
    exact ⟨v, r ++ ws, L1, L2 ++ L', rfl, by rw [List.append_assoc], h1, OwA.append h2 q⟩
theorem OwA.length : ∀ {ds : List D} {vs : List V} {L : List Addr}, OwA g H ds vs L → vs.length = ds.length
  | [], _, _, h => by simp only [OwA] at h; rw [h.1]; rfl
  | d :: ds, vs, L, h => by
    simp only [OwA] at h
    obtain ⟨v, r, _, _, e, _, _, h2⟩ := h
    rw [e, List.length_cons, List.length_cons, OwA.length h2]
end

/-- a list, a dict -/
def D.isTop : D → Bool
  | .lst _ | .dct _ _ => true
  | _ => false
mutual
/-- data without a list or a dict in it -/
def D.nf : D → Bool
  | .lst _ | .dct _ _ | .clo _ _ | .lid _ => false
  | .tup ds => D.nfA ds
  | _ => true
def D.nfA : List D → Bool
  | [] => true
  | d :: ds => d.nf && D.nfA ds
end
mutual
theorem Ow.nf {g : G} {H : Hp} : ∀ (d : D) (v : V) (L : List Addr), d.nf = true → Ow g H d v L → L = []
  | .non, _, _, _, h => by simp only [Ow] at h; exact h.1
  | .bl _, _, _, _, h => by simp only [Ow] at h; exact h.1
  | .int _, _, _, _, h => by simp only [Ow] at h; exact h.1
  | .str _, _, _, _, h => by simp only [Ow] at h; exact h.1
  | .glo _, _, _, _, h => by simp only [Ow] at h; exact h.1
  | .clo _ _, _, _, n, _ => by simp [D.nf] at n
  | .lid _, _, _, n, _ => by simp [D.nf] at n
  | .lst _, _, _, n, _ => by simp [D.nf] at n
  | .dct _ _, _, _, n, _ => by simp [D.nf] at n
  | .tup ds, v, L, n, h => by
    simp only [Ow] at h
    obtain ⟨a, vs, _, _, r⟩ := h
    exact OwA.nf ds vs L (by simpa [D.nf] using n) r
theorem OwA.nf {g : G} {H : Hp} : ∀ (ds : List D) (vs : List V) (L : List Addr), D.nfA ds = true → OwA g H ds vs L → L = []
  | [], _, _, _, h => by simp only [OwA] at h; exact h.2
  | d :: ds, vs, L, n, h => by
    simp only [OwA] at h
    obtain ⟨v, r, L1, L2, _, e, h1, h2⟩ := h
    simp only [D.nfA, Bool.and_eq_true] at n
    rw [e, Ow.nf d v L1 n.1 h1, OwA.nf ds r L2 n.2 h2]; rfl
end
mutual
/-- .. is owned by everybody -/
theorem Sh.nf {g : G} {cm : Addr → V → Prop} {B : Addr → Prop} {H : Hp} : ∀ (d : D) (v : V), d.nf = true → Sh g cm B H d v → Ow g H d v []
  | .non, _, _, h => by simp only [Sh] at h; simp only [Ow]; exact ⟨trivial, h⟩
  | .bl _, _, _, h => by simp only [Sh] at h; simp only [Ow]; exact ⟨trivial, h⟩
  | .int _, _, _, h => by simp only [Sh] at h; simp only [Ow]; exact ⟨trivial, h⟩
  | .str _, _, _, h => by simp only [Sh] at h; simp only [Ow]; exact ⟨trivial, h⟩
  | .glo _, _, _, h => by simp only [Sh] at h; simp only [Ow]; exact ⟨trivial, h⟩
  | .clo _ _, _, n, _ => by simp [D.nf] at n
  | .lid _, _, n, _ => by simp [D.nf] at n
  | .lst _, _, n, _ => by simp [D.nf] at n
  | .dct _ _, _, n, _ => by simp [D.nf] at n
  | .tup ds, v, n, h => by
    simp only [Sh, Ow] at h ⊢
    obtain ⟨a, vs, e, sq, r⟩ := h
    exact ⟨a, vs, e, sq, ShA.nf ds vs (by simpa [D.nf] using n) r⟩
theorem ShA.nf {g : G} {cm : Addr → V → Prop} {B : Addr → Prop} {H : Hp} : ∀ (ds : List D) (vs : List V), D.nfA ds = true → ShA g cm B H ds vs → OwA g H ds vs []
  | [], _, _, h => by simp only [ShA] at h; simp only [OwA]; exact ⟨h, trivial⟩
  | d :: ds, vs, n, h => by
    simp only [ShA, OwA] at h ⊢
    obtain ⟨v, r, e, h1, h2⟩ := h
    simp only [D.nfA, Bool.and_eq_true] at n
    exact ⟨v, r, [], [], e, rfl, Sh.nf d v n.1 h1, ShA.nf ds r n.2 h2⟩
end
/-! ### the slots of a frame -/
/-- how a slot is held: un: nothing known; sh: shared; cs: shared, with closures of the frame; tp: a list or dict of one's own, its items shared; tc: its items with closures of the frame; ow: owned whole;
   ox: owned whole, nobody looks into it; st: what the caller lent -/
inductive Kd where
  | un | sh | cs | tp | tc | ow | ox | st
deriving DecidableEq
def tops : Kd → List Addr → List Addr
  | .tp, L | .tc, L | .ow, L => L.take 1
  | .ox, L | .st, L => L
  | _, _ => []
/-- how a value is held: bor: it may be read now; bs: its items may be kept; sh: it may be kept; cs: with closures of the frame; tp, tc: a new list or dict, its items shared; own: new, or taken of the slots U -/
inductive Md where
  | bor | bs | sh | cs | tp (U : List Nat) | tc (U : List Nat) | own (U : List Nat)
def Md.U : Md → List Nat
  | .own U | .tp U | .tc U => U
  | _ => []
/-- a frame: g, how many slots, what is forbidden from outside, the heap at the entry, the nodes that are lent, what is wished of exceptions, the frame's own cells by the slots -/
structure Fr where
  g : G
  n : Nat
  B0 : Addr → Prop
  H0 : Hp
  S0 : List Addr
  W : WX
  caps : List Nat
  cell : Nat → Addr
  rm : Md
  io : Bool
  v0 : V
  Γx : List Kd
  js : Nat
/-- the frame's own cells: what they hold by the slots -/
def Fr.oc (f : Fr) (σ : L2.St) (a : Addr) (w : V) : Prop := ∃ i, i ∈ f.caps ∧ f.cell i = a ∧ σ.getD i none = some w
/-- a list or a dict at a, its items shared -/
def TopOk (g : G) (cm : Addr → V → Prop) (B : Addr → Prop) (H : Hp) (a : Addr) (d : D) : Prop :=
  (∃ ds vs, d = .lst ds ∧ H a = some (.lst vs) ∧ ShA g cm B H ds vs) ∨ (∃ ks ds kvs, d = .dct ks ds ∧ H a = some (.dK kvs) ∧ kvs.map (·.1) = ks ∧ ShA g cm B H ds (kvs.map (·.2)))
def SlotOk (g : G) (oc : Addr → V → Prop) (B : Addr → Prop) (H : Hp) : Kd → Option D → Option V → List Addr → Prop
  | .un, _, _, L => L = []
  | .sh, od, ov, L => L = [] ∧ ∃ d v, od = some d ∧ ov = some v ∧ Sh g nc B H d v
  | .cs, od, ov, L => L = [] ∧ ∃ d v, od = some d ∧ ov = some v ∧ Sh g oc B H d v
  | .tp, od, ov, L => ∃ d v a, od = some d ∧ ov = some v ∧ L = [a] ∧ v = .ref a ∧ TopOk g nc B H a d
  | .tc, od, ov, L => ∃ d v a, od = some d ∧ ov = some v ∧ L = [a] ∧ v = .ref a ∧ TopOk g oc B H a d
  | .ow, od, ov, L => ∃ d v, od = some d ∧ ov = some v ∧ (L = [] ∨ d.isTop = true) ∧ Ow g H d v L
  | .ox, od, ov, L | .st, od, ov, L => ∃ d v, od = some d ∧ ov = some v ∧ Ow g H d v L
/-- forbidden at hand: from outside, or the top of what a slot owns -/
def Bx (f : Fr) (Γ : List Kd) (gh : Nat → List Addr) (a : Addr) : Prop := f.B0 a ∨ ∃ i, a ∈ tops (Γ.getD i .un) (gh i)
/-- what an expression may change: what is lent -/
def Sx (f : Fr) (Γ : List Kd) (a : Addr) : Prop := a ∈ f.S0 ∧ ∃ i, Γ.getD i .un = .st
/-- forbidden to all that is handed on -/
def Bo (f : Fr) (Γ : List Kd) (a : Addr) : Prop := f.B0 a ∨ Sx f Γ a
structure Rel (f : Fr) (Γ : List Kd) (ρ : Env) (gh : Nat → List Addr) (σ : L2.St) (H : Hp) : Prop where
  lr : ρ.length = f.n
  ls : σ.length = f.n
  slot : ∀ i, SlotOk f.g (f.oc σ) (Bx f Γ gh) H (Γ.getD i .un) (ρ.getD i none) (σ.getD i none) (gh i)
  nd : ∀ i, (gh i).Nodup
  dj : ∀ i j a, a ∈ gh i → a ∈ gh j → i = j
  fresh : ∀ i, Γ.getD i .un ≠ .st → ∀ a ∈ gh i, f.H0 a = none
  lent : ∀ i, Γ.getD i .un = .st → gh i = f.S0 ∧ σ.getD i none = some f.v0
  one : ∀ i, Γ.getD i .un = .st → i = f.js
  b0 : ∀ a, f.B0 a → a ∉ f.S0 ∧ ∃ o, H a = some o ∧ Mu o
  nb : ∀ i, ∀ a ∈ gh i, ¬ f.B0 a
  s0 : ∀ a, a ∈ f.S0 → f.H0 a ≠ none
  keep : Kp (fun a => a ∈ f.S0) f.H0 H
  tabs : NdefX.TabsN f.g.T H

/-! ### values at an expression's end: L the nodes that are new, or taken -/
def VO (g : G) (oc : Addr → V → Prop) (S B : Addr → Prop) (H' : Hp) : Md → D → V → List Addr → Prop
  | .bor, d, v, L => L = [] ∧ Sh g nc S H' d v
  | .bs, d, v, L => L = [] ∧ (Sh g nc B H' d v ∨ (∃ a ds vs, d = .lst ds ∧ v = .ref a ∧ ¬ S a ∧ H' a = some (.lst vs) ∧ ShA g nc B H' ds vs) ∨ (∃ a ks ds kvs, d = .dct ks ds ∧ v = .ref a ∧ ¬ S a ∧ Rd H' a (.dK kvs) ∧ kvs.map (·.1) = ks ∧ ShA g nc B H' ds (kvs.map (·.2))))
  | .sh, d, v, L => L = [] ∧ Sh g nc B H' d v
  | .cs, d, v, L => L = [] ∧ Sh g oc B H' d v
  | .tp _, d, v, L => ∃ a, L = [a] ∧ v = .ref a ∧ TopOk g nc (fun x => B x ∨ x = a) H' a d
  | .tc _, d, v, L => ∃ a, L = [a] ∧ v = .ref a ∧ TopOk g oc (fun x => B x ∨ x = a) H' a d
  | .own _, d, v, L => Ow g H' d v L
def NewIn (H : Hp) (Γ : List Kd) (gh : Nat → List Addr) (U : List Nat) (L : List Addr) : Prop := L.Nodup ∧ ∀ a ∈ L, H a = none ∨ ∃ i ∈ U, a ∈ gh i ∧ Γ.getD i .un ≠ .st
def VsO (g : G) (oc : Addr → V → Prop) (S B : Addr → Prop) (H' : Hp) : List Md → List D → List V → List Addr → Prop
  | [], ds, vs, L => ds = [] ∧ vs = [] ∧ L = []
  | m :: ms, ds, vs, L => ∃ d r v q L1 L2, ds = d :: r ∧ vs = v :: q ∧ L = L1 ++ L2 ∧ VO g oc S (fun a => B a ∨ (a ∈ L2 ∧ ms.flatMap Md.U = [])) H' m d v L1 ∧ VsO g oc S B H' ms r q L2
/-- an exception's value -/
def ExV (g : G) (B : Addr → Prop) (x : Ex) (cls : Value) (dx : Option Addr) (H' : Hp) : Prop :=
  ∃ C, g.mg x.c = some (.ref C) ∧ cls = .ref C ∧ ((x.fs = [] ∧ dx = none) ∨ ∃ d fs, dx = some d ∧ H' d = some (.xd fs) ∧ fs.map (·.1) = x.fs.map (·.1) ∧ ShA g nc B H' (x.fs.map (·.2)) (fs.map (·.2)))
/-- a def's answer, from the heap H at its entry -/
def VR (g : G) (B : Addr → Prop) (H H' : Hp) : Md → D → V → Prop
  | .sh, d, v => Sh g nc B H' d v
  | .tp _, d, v => ∃ a, v = .ref a ∧ H a = none ∧ TopOk g nc (fun x => B x ∨ x = a) H' a d
  | .own _, d, v => ∃ L, Ow g H' d v L ∧ L.Nodup ∧ ∀ a ∈ L, H a = none
  | _, _, _ => False
def RetOk (f : Fr) (ρ' : Env) (d : D) (v : V) (H' : Hp) : Prop :=
  VR f.g f.B0 f.H0 H' f.rm d v ∧ Kp (fun a => a ∈ f.S0) f.H0 H' ∧ NdefX.TabsN f.g.T H' ∧ (f.io = true → ∃ s, ρ'.getD 0 none = some s ∧ Ow f.g H' s f.v0 f.S0 ∧ VR f.g (fun a => f.B0 a ∨ a ∈ f.S0) f.H0 H' f.rm d v)
def IoOk (f : Fr) (ρ' : Env) (H' : Hp) : Prop := f.io = true → ∃ s, ρ'.getD 0 none = some s ∧ Ow f.g H' s f.v0 f.S0

/-! ### the readings -/
def RE (f : Fr) (Γ : List Kd) (m : Md) (e : EM D) : TE := fun σ H Q => ∃ ρ gh, Rel f Γ ρ gh σ H ∧
  match e ρ with
  | .ok d ρ' => ∀ v H' L, Rel f Γ ρ' gh σ H' → Kp (Sx f Γ) H H' → VO f.g (f.oc σ) (Bo f Γ) (Bx f Γ gh) H' m d v L → NewIn H Γ gh m.U L → Q v H'
  | .exn x ρ' => ∀ cls dx H', Rel f Γ ρ' gh σ H' → Kp (Sx f Γ) H H' → ExV f.g (Bo f Γ) x cls dx H' → f.W cls dx σ H'
  | .stuck => False
def RA (f : Fr) (Γ : List Kd) (ms : List Md) (e : EM (List D)) : TA := fun σ H Q => ∃ ρ gh, Rel f Γ ρ gh σ H ∧
  match e ρ with
  | .ok ds ρ' => ∀ vs H' L, Rel f Γ ρ' gh σ H' → Kp (Sx f Γ) H H' → VsO f.g (f.oc σ) (Bo f Γ) (Bx f Γ gh) H' ms ds vs L → NewIn H Γ gh (ms.flatMap Md.U) L → Q vs H'
  | .exn x ρ' => ∀ cls dx H', Rel f Γ ρ' gh σ H' → Kp (Sx f Γ) H H' → ExV f.g (Bo f Γ) x cls dx H' → f.W cls dx σ H'
  | .stuck => False
def RT (f : Fr) (Γ : List Kd) (e : EM Bool) : TT := fun σ H Q => ∃ ρ gh, Rel f Γ ρ gh σ H ∧
  match e ρ with
  | .ok b ρ' => ∀ H', Rel f Γ ρ' gh σ H' → Kp (Sx f Γ) H H' → Q b H'
  | .exn x ρ' => ∀ cls dx H', Rel f Γ ρ' gh σ H' → Kp (Sx f Γ) H H' → ExV f.g (Bo f Γ) x cls dx H' → f.W cls dx σ H'
  | .stuck => False
/-- the tops that the slots own, or what is lent -/
def Tp (Γ : List Kd) (gh : Nat → List Addr) (a : Addr) : Prop := ∃ i, a ∈ tops (Γ.getD i .un) (gh i)
/-- what a statement leaves: all is kept but at the tops T; what are tops then were tops, or are new -/
def StK (H H' : Hp) (T T' : Addr → Prop) : Prop := Kp T H H' ∧ ∀ a, T' a → T a ∨ H a = none
/-- Γ' behind it, Γb at a break, Γc at a continue -/
def RS (f : Fr) (Γ Γ' Γb Γc : List Kd) (s : SM) : TS := fun D σ H => ∃ ρ gh, Rel f Γ ρ gh σ H ∧
  match s ρ with
  | .ok .nx ρ' => ∀ σ' gh' H', Rel f Γ' ρ' gh' σ' H' → StK H H' (Tp Γ gh) (Tp Γ' gh') → D.nx σ' H'
  | .ok (.rt d) ρ' => ∀ v H', RetOk f ρ' d v H' → D.rt v H'
  | .ok .bk ρ' => ∀ σ' gh' H', Rel f Γb ρ' gh' σ' H' → StK H H' (Tp Γ gh) (Tp Γb gh') → D.bk σ' H'
  | .ok .ct ρ' => ∀ σ' gh' H', Rel f Γc ρ' gh' σ' H' → StK H H' (Tp Γ gh) (Tp Γc gh') → D.ct σ' H'
  | .exn x ρ' => ∀ cls dx σ' gh' H', Rel f f.Γx ρ' gh' σ' H' → ExV f.g (Bo f f.Γx) x cls dx H' → f.W cls dx σ' H'
  | .stuck => False
end PP
-- PP4
/-! PP4: how the slots' facts go on. -/
namespace PP
open PySem PySem.Spec PyProof.Rows L2
section
variable {g : G} {oc oc' : Addr → V → Prop} {B B' S : Addr → Prop} {H H' : Hp}
theorem TopOk.mono {cm cm' : Addr → V → Prop} {a : Addr} {d : D} (k : Kp S H H') (n : ¬ S a) (hS : ∀ a, S a → B a) (hc : ∀ a w, cm a w → CellW cm' H' a w) (hB : ∀ a, B' a → B a) (h : TopOk g cm B H a d) : TopOk g cm' B' H' a d := by
  rcases h with ⟨ds, vs, e, q, r⟩ | ⟨ks, ds, kvs, e, q, m, r⟩
  · exact .inl ⟨ds, vs, e, k.1 _ _ q (fun _ => n) (fun ps z => by cases z), ShA.mono k hS hc (fun a n z => n (hB a z)) _ _ r⟩
  · exact .inr ⟨ks, ds, kvs, e, k.1 _ _ q (fun _ => n) (fun ps z => by cases z), m, ShA.mono k hS hc (fun a n z => n (hB a z)) _ _ r⟩
theorem SlotOk.mono {k : Kd} {od : Option D} {ov : Option V} {L : List Addr} (kp : Kp S H H') (hL : ∀ a ∈ L, ¬ S a) (hS : ∀ a, S a → B a) (hc : ∀ a w, oc a w → CellW oc' H' a w) (hB : ∀ a, B' a → B a) (h : SlotOk g oc B H k od ov L) : SlotOk g oc' B' H' k od ov L := by
  cases k with
  | un => exact h
  | sh => obtain ⟨e, d, v, e1, e2, q⟩ := h; exact ⟨e, d, v, e1, e2, Sh.mono kp hS (fun _ _ z => .inl z) (fun a n z => n (hB a z)) d v q⟩
  | cs => obtain ⟨e, d, v, e1, e2, q⟩ := h; exact ⟨e, d, v, e1, e2, Sh.mono kp hS hc (fun a n z => n (hB a z)) d v q⟩
  | tp => obtain ⟨d, v, a, e1, e2, e3, e4, q⟩ := h; exact ⟨d, v, a, e1, e2, e3, e4, q.mono kp (hL a (by rw [e3]; simp)) hS (fun _ _ z => .inl z) hB⟩
  | tc => obtain ⟨d, v, a, e1, e2, e3, e4, q⟩ := h; exact ⟨d, v, a, e1, e2, e3, e4, q.mono kp (hL a (by rw [e3]; simp)) hS hc hB⟩
  | ow => obtain ⟨d, v, e1, e2, t, q⟩ := h; exact ⟨d, v, e1, e2, t, Ow.mono kp d v L hL q⟩
  | ox => obtain ⟨d, v, e1, e2, q⟩ := h; exact ⟨d, v, e1, e2, Ow.mono kp d v L hL q⟩
  | st => obtain ⟨d, v, e1, e2, q⟩ := h; exact ⟨d, v, e1, e2, Ow.mono kp d v L hL q⟩
theorem TopOk.there {cm : Addr → V → Prop} {a : Addr} {d : D} (h : TopOk g cm B H a d) : ∃ o, H a = some o ∧ Mu o := by
  rcases h with ⟨_, vs, _, q, _⟩ | ⟨_, _, kvs, _, q, _⟩
  · exact ⟨_, q, trivial⟩
  · exact ⟨_, q, trivial⟩
theorem SlotOk.there {k : Kd} {od : Option D} {ov : Option V} {L : List Addr} (h : SlotOk g oc B H k od ov L) : ∀ a ∈ L, ∃ o, H a = some o ∧ Mu o := fun a ha => by
  cases k with
  | un => rw [show L = [] from h] at ha; cases ha
  | sh => rw [h.1] at ha; cases ha
  | cs => rw [h.1] at ha; cases ha
  | tp =>
    obtain ⟨d, v, b, _, _, e3, _, q⟩ := h
    rw [e3] at ha
    rw [List.mem_singleton.mp ha]; exact q.there
  | tc =>
    obtain ⟨d, v, b, _, _, e3, _, q⟩ := h
    rw [e3] at ha
    rw [List.mem_singleton.mp ha]; exact q.there
  | ow => obtain ⟨d, v, _, _, _, q⟩ := h; exact Ow.there d v L q a ha
  | ox => obtain ⟨d, v, _, _, q⟩ := h; exact Ow.there d v L q a ha
  | st => obtain ⟨d, v, _, _, q⟩ := h; exact Ow.there d v L q a ha
end
theorem tops_sub {k : Kd} {L : List Addr} {a : Addr} (h : a ∈ tops k L) : a ∈ L := by
  cases k <;> simp only [tops] at h
  case tp => exact List.mem_of_mem_take h
  case tc => exact List.mem_of_mem_take h
  case ow => exact List.mem_of_mem_take h
  case ox => exact h
  case st => exact h
  all_goals cases h
section
variable {f : Fr} {Γ : List Kd} {ρ : Env} {gh : Nat → List Addr} {σ : L2.St} {H H' : Hp}
theorem Rel.there (R : Rel f Γ ρ gh σ H) {i : Nat} {a : Addr} (h : a ∈ gh i) : ∃ o, H a = some o ∧ Mu o := (R.slot i).there a h
theorem Rel.b0there (R : Rel f Γ ρ gh σ H) {a : Addr} (h : f.B0 a) : ∃ o, H a = some o := by
  obtain ⟨n, o, e, t⟩ := R.b0 a h
  exact ⟨o, e⟩
theorem Rel.bthere (R : Rel f Γ ρ gh σ H) {a : Addr} (h : Bx f Γ gh a) : ∃ o, H a = some o := by
  rcases h with h | ⟨i, h⟩
  · exact R.b0there h
  · obtain ⟨o, e, _⟩ := R.there (tops_sub h)
    exact ⟨o, e⟩
theorem Rel.nbx (R : Rel f Γ ρ gh σ H) {p : Addr} (h : H p = none) : ¬ Bx f Γ gh p := fun z => by
  obtain ⟨o, e⟩ := R.bthere z
  rw [h] at e; cases e
theorem Rel.ngh (R : Rel f Γ ρ gh σ H) {p : Addr} (h : H p = none) (i : Nat) : p ∉ gh i := fun z => by
  obtain ⟨o, e, _⟩ := R.there z
  rw [h] at e; cases e
theorem Sx_sub (R : Rel f Γ ρ gh σ H) : ∀ a, Sx f Γ a → Bx f Γ gh a := fun a ⟨h, i, k⟩ => .inr ⟨i, by rw [k, (R.lent i k).1]; exact h⟩
theorem Bo_sub (R : Rel f Γ ρ gh σ H) : ∀ a, Bo f Γ a → Bx f Γ gh a := fun a h => h.elim .inl (Sx_sub R a)
theorem SxBo : ∀ a, Sx f Γ a → Bo f Γ a := fun _ h => .inr h
theorem Sx_gh (R : Rel f Γ ρ gh σ H) {a : Addr} (h : Sx f Γ a) {j : Nat} (hj : a ∈ gh j) : Γ.getD j .un = .st := by
  obtain ⟨h, i, k⟩ := h
  have e : i = j := R.dj i j a (by rw [(R.lent i k).1]; exact h) hj
  rw [← e]; exact k
/-- nothing that is tracked changes -/
theorem Rel.kp (R : Rel f Γ ρ gh σ H) (k : Kp (fun _ => False) H H') (t : NdefX.TabsN f.g.T H') : Rel f Γ ρ gh σ H' where
  lr := R.lr
  ls := R.ls
  slot := fun i => (R.slot i).mono k (fun _ _ z => z) (fun _ z => z.elim) (fun _ _ z => .inl z) fun _ z => z
  nd := R.nd
  dj := R.dj
  fresh := R.fresh
  lent := R.lent
  one := R.one
  b0 := fun a h => let ⟨n, o, e, t⟩ := R.b0 a h; ⟨n, o, k.1 a o e (fun _ z => z) t.nt, t⟩
  nb := R.nb
  s0 := R.s0
  keep := R.keep.trans (k.mono fun _ z => z.elim)
  tabs := t
theorem TabsN.upd {T : List NdefX.NTab} {H : Hp} {p : Addr} {o : HO} (t : NdefX.TabsN T H) (h : H p = none) : NdefX.TabsN T (upd H p o) := t.ext fun b u e => by
  rw [upd_ne (ne_of_none e h)]; exact e
theorem Rel.new {p : Addr} {o : HO} (R : Rel f Γ ρ gh σ H) (h : H p = none) : Rel f Γ ρ gh σ (upd H p o) := R.kp (Kp.upd_new h) (TabsN.upd R.tabs h)
theorem ExV.mono {g : G} {B B' S : Addr → Prop} {x : Ex} {cls : Value} {dx : Option Addr} (h : ExV g B x cls dx H) (k : Kp S H H') (hS : ∀ a, S a → B a) (hB : ∀ a, B' a → B a) : ExV g B' x cls dx H' := by
  obtain ⟨C, e1, e2, q⟩ := h
  refine ⟨C, e1, e2, q.imp id fun ⟨d, fs, e3, e4, e5, q⟩ => ⟨d, fs, e3, k.1 _ _ e4 (fun m => m.elim) (fun ps z => by cases z), e5, ShA.mono k hS (fun _ _ z => .inl z) (fun a n z => n (hB a z)) _ _ q⟩⟩
/-- readings are weakened -/
theorem PE.mono {X : Cx} {e : Expr} {t t' : TE} (h : PE X e t) (m : ∀ σ H Q, t' σ H Q → t σ H Q) : PE X e t' := ⟨fun pins s σ H Q I q => h.run pins s σ H Q I (m σ H Q q)⟩
theorem PT.mono {X : Cx} {e : Expr} {t t' : TT} (h : PT X e t) (m : ∀ σ H Q, t' σ H Q → t σ H Q) : PT X e t' := ⟨fun pins s σ H Q I q => h.run pins s σ H Q I (m σ H Q q)⟩
theorem PW.mono {X : Cx} {e : Expr} {t t' : TT} (h : PW X e t) (m : ∀ σ H Q, t' σ H Q → t σ H Q) : PW X e t' := ⟨fun wh pins s σ H Q I q => h.run wh pins s σ H Q I (m σ H Q q)⟩
theorem PA.mono {X : Cx} {es : List Expr} {t t' : TA} (h : PA X es t) (m : ∀ σ H Q, t' σ H Q → t σ H Q) : PA X es t' := ⟨fun pos pins s σ H Q I q => h.run pos pins s σ H Q I (m σ H Q q)⟩
theorem PS.mono {X : Cx} {st : Stmt} {t t' : TS} (h : PS X st t) (m : ∀ D σ H, t' D σ H → t D σ H) : PS X st t' := ⟨fun pins s σ H D I q => h.run pins s σ H D I (m D σ H q)⟩
theorem PSs.mono {X : Cx} {st : List Stmt} {t t' : TS} (h : PSs X st t) (m : ∀ D σ H, t' D σ H → t D σ H) : PSs X st t' := ⟨fun pins s σ H D I q => h.run pins s σ H D I (m D σ H q)⟩
end
/-! ### values go on -/
section
variable {f : Fr} {Γ : List Kd} {ρ : Env} {gh : Nat → List Addr} {σ : L2.St} {H H1 H2 : Hp}
theorem NewIn.nS (R : Rel f Γ ρ gh σ H) {U : List Nat} {L : List Addr} (h : NewIn H Γ gh U L) : ∀ a ∈ L, ¬ Sx f Γ a := fun a ha z => by
  rcases h.2 a ha with e | ⟨i, _, m, n⟩
  · exact R.nbx e (Sx_sub R a z)
  · exact n (Sx_gh R z m)
theorem NewIn.nBo (R : Rel f Γ ρ gh σ H) {U : List Nat} {L : List Addr} (h : NewIn H Γ gh U L) : ∀ a ∈ L, ¬ Bo f Γ a := fun a ha z => by
  rcases z with z | z
  · rcases h.2 a ha with e | ⟨i, _, m, n⟩
    · exact R.nbx e (.inl z)
    · exact R.nb i a m z
  · exact NewIn.nS R h a ha z
theorem VO.kpB {m : Md} {d : D} {v : V} {L : List Addr} {B : Addr → Prop} (sb : ∀ a, Sx f Γ a → B a) (nS : ∀ a ∈ L, ¬ Sx f Γ a) (k : Kp (Sx f Γ) H1 H2) (h : VO f.g (f.oc σ) (Bo f Γ) B H1 m d v L) : VO f.g (f.oc σ) (Bo f Γ) B H2 m d v L := by
  cases m with
  | bor => exact ⟨h.1, h.2.kp k SxBo⟩
  | bs =>
    refine ⟨h.1, h.2.imp (fun q => q.kp k sb) (Or.imp ?_ ?_)⟩
    · rintro ⟨a, ds, vs, e1, e2, n, q, r⟩
      exact ⟨a, ds, vs, e1, e2, n, k.1 _ _ q (fun _ z => n (.inr z)) (fun ps z => by cases z), r.kp k sb⟩
    · rintro ⟨a, ks, ds, kvs, e1, e2, n, q, m, r⟩
      exact ⟨a, ks, ds, kvs, e1, e2, n, Rd.kp k (fun z => n (.inr z)) (fun ps z => by cases z) q, m, r.kp k sb⟩
  | sh => exact ⟨h.1, h.2.kp k sb⟩
  | cs => exact ⟨h.1, h.2.kp k sb⟩
  | tp U =>
    obtain ⟨a, e1, e2, q⟩ := h
    exact ⟨a, e1, e2, q.mono k (nS a (by rw [e1]; simp)) (fun x z => .inl (sb x z)) (fun _ _ z => .inl z) fun _ z => z⟩
  | tc U =>
    obtain ⟨a, e1, e2, q⟩ := h
    exact ⟨a, e1, e2, q.mono k (nS a (by rw [e1]; simp)) (fun x z => .inl (sb x z)) (fun _ _ z => .inl z) fun _ z => z⟩
  | own U => exact Ow.mono k d v L nS h
theorem VO.kp {m : Md} {d : D} {v : V} {L : List Addr} (R : Rel f Γ ρ gh σ H) (N : NewIn H Γ gh m.U L) (k : Kp (Sx f Γ) H1 H2) (h : VO f.g (f.oc σ) (Bo f Γ) (Bx f Γ gh) H1 m d v L) : VO f.g (f.oc σ) (Bo f Γ) (Bx f Γ gh) H2 m d v L := VO.kpB (Sx_sub R) (N.nS R) k h
/-- fewer to avoid -/
theorem VO.subB {g : G} {oc : Addr → V → Prop} {S B B' : Addr → Prop} {m : Md} {d : D} {v : V} {L : List Addr} (hB : ∀ a, B' a → B a) (h : VO g oc S B H m d v L) : VO g oc S B' H m d v L := by
  cases m with
  | bor => exact h
  | bs =>
    refine ⟨h.1, h.2.imp (fun q => q.sub hB) (Or.imp ?_ ?_)⟩
    · rintro ⟨a, ds, vs, e1, e2, n, q, r⟩
      exact ⟨a, ds, vs, e1, e2, n, q, r.sub hB⟩
    · rintro ⟨a, ks, ds, kvs, e1, e2, n, q, m, r⟩
      exact ⟨a, ks, ds, kvs, e1, e2, n, q, m, r.sub hB⟩
  | sh => exact ⟨h.1, h.2.sub hB⟩
  | cs => exact ⟨h.1, h.2.sub hB⟩
  | tp U =>
    obtain ⟨a, e1, e2, q⟩ := h
    exact ⟨a, e1, e2, q.mono (S := fun _ => False) Kp.refl (fun z => z) (fun _ z => z.elim) (fun _ _ z => .inl z) fun x z => z.imp (hB x) id⟩
  | tc U =>
    obtain ⟨a, e1, e2, q⟩ := h
    exact ⟨a, e1, e2, q.mono (S := fun _ => False) Kp.refl (fun z => z) (fun _ z => z.elim) (fun _ _ z => .inl z) fun x z => z.imp (hB x) id⟩
  | own U => exact h
theorem Sh.avoid {g : G} {cm : Addr → V → Prop} {B : Addr → Prop} {L : List Addr} : (∀ a ∈ L, H a = none) → ∀ {d : D} {v : V}, Sh g cm B H d v → Sh g cm (fun a => B a ∨ a ∈ L) H d v := by
  induction L with
  | nil => exact fun _ d v s => s.sub fun a z => z.elim id fun z => nomatch z
  | cons p r ih => exact fun hL d v s => Sh.fresh (p := p) (hL p List.mem_cons_self) (fun a z => z.elim (fun z => .inl (.inl z)) fun z => (List.mem_cons.mp z).elim .inr fun z => .inl (.inr z)) d v (ih (fun a ha => hL a (List.mem_cons_of_mem _ ha)) s)
theorem ShA.avoid {g : G} {cm : Addr → V → Prop} {B : Addr → Prop} {L : List Addr} : (∀ a ∈ L, H a = none) → ∀ {ds : List D} {vs : List V}, ShA g cm B H ds vs → ShA g cm (fun a => B a ∨ a ∈ L) H ds vs := by
  induction L with
  | nil => exact fun _ d v s => s.sub fun a z => z.elim id fun z => nomatch z
  | cons p r ih => exact fun hL d v s => ShA.fresh (p := p) (hL p List.mem_cons_self) (fun a z => z.elim (fun z => .inl (.inl z)) fun z => (List.mem_cons.mp z).elim .inr fun z => .inl (.inr z)) d v (ih (fun a ha => hL a (List.mem_cons_of_mem _ ha)) s)
theorem TopOk.avoid {g : G} {cm : Addr → V → Prop} {B : Addr → Prop} {L : List Addr} (hL : ∀ a ∈ L, H a = none) {a : Addr} {d : D} (h : TopOk g cm B H a d) : TopOk g cm (fun a => B a ∨ a ∈ L) H a d := by
  rcases h with ⟨ds, vs, e, q, r⟩ | ⟨ks, ds, kvs, e, q, m, r⟩
  · exact .inl ⟨ds, vs, e, q, r.avoid hL⟩
  · exact .inr ⟨ks, ds, kvs, e, q, m, r.avoid hL⟩
theorem SlotOk.avoid {g : G} {oc : Addr → V → Prop} {B : Addr → Prop} {L : List Addr} {k : Kd} {od : Option D} {ov : Option V} {M : List Addr} (hL : ∀ a ∈ L, H a = none) (h : SlotOk g oc B H k od ov M) : SlotOk g oc (fun a => B a ∨ a ∈ L) H k od ov M := by
  cases k with
  | un => exact h
  | sh => obtain ⟨e, d, v, e1, e2, q⟩ := h; exact ⟨e, d, v, e1, e2, q.avoid hL⟩
  | cs => obtain ⟨e, d, v, e1, e2, q⟩ := h; exact ⟨e, d, v, e1, e2, q.avoid hL⟩
  | tp => obtain ⟨d, v, a, e1, e2, e3, e4, q⟩ := h; exact ⟨d, v, a, e1, e2, e3, e4, q.avoid hL⟩
  | tc => obtain ⟨d, v, a, e1, e2, e3, e4, q⟩ := h; exact ⟨d, v, a, e1, e2, e3, e4, q.avoid hL⟩
  | ow => exact h
  | ox => exact h
  | st => exact h
theorem VO.avoid {g : G} {oc : Addr → V → Prop} {S B : Addr → Prop} {m : Md} {d : D} {v : V} {L M : List Addr} (hM : ∀ a ∈ M, H a = none) (h : VO g oc S B H m d v L) : VO g oc S (fun a => B a ∨ a ∈ M) H m d v L := by
  cases m with
  | bor => exact h
  | bs =>
    refine ⟨h.1, h.2.imp (fun q => q.avoid hM) (Or.imp ?_ ?_)⟩
    · rintro ⟨a, ds, vs, e1, e2, n, q, r⟩
      exact ⟨a, ds, vs, e1, e2, n, q, r.avoid hM⟩
    · rintro ⟨a, ks, ds, kvs, e1, e2, n, q, m, r⟩
      exact ⟨a, ks, ds, kvs, e1, e2, n, q, m, r.avoid hM⟩
  | sh => exact ⟨h.1, h.2.avoid hM⟩
  | cs => exact ⟨h.1, h.2.avoid hM⟩
  | tp U =>
    obtain ⟨a, e1, e2, q⟩ := h
    exact ⟨a, e1, e2, (q.avoid hM).mono (S := fun _ => False) Kp.refl (fun z => z) (fun _ z => z.elim) (fun _ _ z => .inl z) fun x z => z.elim (fun z => z.imp .inl id) fun z => .inl (.inr z)⟩
  | tc U =>
    obtain ⟨a, e1, e2, q⟩ := h
    exact ⟨a, e1, e2, (q.avoid hM).mono (S := fun _ => False) Kp.refl (fun z => z) (fun _ z => z.elim) (fun _ _ z => .inl z) fun x z => z.elim (fun z => z.imp .inl id) fun z => .inl (.inr z)⟩
  | own U => exact h
theorem VO.there {m : Md} {d : D} {v : V} {L : List Addr} {g : G} {oc : Addr → V → Prop} {S B : Addr → Prop} (h : VO g oc S B H m d v L) : ∀ a ∈ L, ∃ o, H a = some o ∧ Mu o := fun a ha => by
  cases m with
  | bor => rw [h.1] at ha; cases ha
  | bs => rw [h.1] at ha; cases ha
  | sh => rw [h.1] at ha; cases ha
  | cs => rw [h.1] at ha; cases ha
  | tp U =>
    obtain ⟨b, e1, e2, q⟩ := h
    rw [e1] at ha; rw [List.mem_singleton.mp ha]; exact q.there
  | tc U =>
    obtain ⟨b, e1, e2, q⟩ := h
    rw [e1] at ha; rw [List.mem_singleton.mp ha]; exact q.there
  | own U => exact Ow.there d v L h a ha
theorem VsO.there {g : G} {oc : Addr → V → Prop} {S B : Addr → Prop} : ∀ {ms : List Md} {ds : List D} {vs : List V} {L : List Addr}, VsO g oc S B H ms ds vs L → ∀ a ∈ L, ∃ o, H a = some o ∧ Mu o
  | [], _, _, _, h, a, ha => by simp only [VsO] at h; rw [h.2.2] at ha; cases ha
  | m :: ms, _, _, _, h, a, ha => by
    simp only [VsO] at h
    obtain ⟨d, r, v, q, L1, L2, _, _, e, h1, h2⟩ := h
    rw [e] at ha
    rcases List.mem_append.mp ha with ha | ha
    · exact h1.there a ha
    · exact VsO.there h2 a ha
/-- two parts in a row: what is new of each is apart -/
theorem NewIn.append (R : Rel f Γ ρ gh σ H) {U1 U2 : List Nat} {L1 L2 : List Addr} (h1 : NewIn H Γ gh U1 L1) (t1 : ∀ a ∈ L1, ∃ o, H1 a = some o) (h2 : NewIn H1 Γ gh U2 L2) (k : ∀ a, H1 a = none → H a = none) (hd : ∀ i ∈ U1, i ∉ U2) : NewIn H Γ gh (U1 ++ U2) (L1 ++ L2) := by
  refine ⟨List.nodup_append.mpr ⟨h1.1, h2.1, fun a ha b hb e => ?_⟩, fun a ha => ?_⟩
  · subst e
    rcases h2.2 a hb with z | ⟨j, hj, mj, _⟩
    · obtain ⟨o, e⟩ := t1 a ha
      rw [e] at z; cases z
    · rcases h1.2 a ha with z | ⟨i, hi, mi, _⟩
      · exact R.ngh z j mj
      · exact hd i hi (R.dj i j a mi mj ▸ hj)
  · rcases List.mem_append.mp ha with ha | ha
    · exact (h1.2 a ha).imp id fun ⟨i, hi, m⟩ => ⟨i, List.mem_append_left _ hi, m⟩
    · exact (h2.2 a ha).imp (k a) fun ⟨i, hi, m⟩ => ⟨i, List.mem_append_right _ hi, m⟩
end
/-! ### the readings, from and to -/
section
variable {f : Fr} {Γ : List Kd} {σ : L2.St} {H : Hp}
/-- an expression's reading: the answer, then what follows (of the slots' data as they are then) -/
theorem RE.bind {m m' : Md} {a : EM D} {k : D → EM D} {Q : VK} (h : RE f Γ m' (a >>= k) σ H Q)
    (step : ∀ (ρ : Env) (gh : Nat → List Addr) (d : D) (ρ' : Env), Rel f Γ ρ gh σ H → a ρ = .ok d ρ' →
      (match k d ρ' with
        | .ok d ρ' => ∀ v H' L, Rel f Γ ρ' gh σ H' → Kp (Sx f Γ) H H' → VO f.g (f.oc σ) (Bo f Γ) (Bx f Γ gh) H' m' d v L → NewIn H Γ gh m'.U L → Q v H'
        | .exn x ρ' => ∀ cls dx H', Rel f Γ ρ' gh σ H' → Kp (Sx f Γ) H H' → ExV f.g (Bo f Γ) x cls dx H' → f.W cls dx σ H'
        | .stuck => False) →
      ∀ v H' L, Rel f Γ ρ' gh σ H' → Kp (Sx f Γ) H H' → VO f.g (f.oc σ) (Bo f Γ) (Bx f Γ gh) H' m d v L → NewIn H Γ gh m.U L → Q' v H') : RE f Γ m a σ H Q' := by
  obtain ⟨ρ, gh, R, q⟩ := h
  rw [bind_ap] at q
  refine ⟨ρ, gh, R, ?_⟩
  cases e : a ρ with
  | ok d ρ' =>
    rw [e] at q
    exact step ρ gh d ρ' R e q
  | exn x ρ' =>
    rw [e] at q
    exact q
  | stuck =>
    rw [e] at q
    exact q
end
end PP
-- PP5
/-! PP5: rules for expressions: names, constants, arguments, displays, operators, tests. -/
namespace PP
open PySem PySem.Spec PyProof.Rows L2
section
variable {f : Fr} {Γ : List Kd} {σ : L2.St} {H H1 : Hp} {m m' : Md}
/-- what is wanted of an answer -/
def Ob (f : Fr) (Γ : List Kd) (m : Md) (gh : Nat → List Addr) (σ : L2.St) (H : Hp) (r : R Env D) (Q : VK) : Prop := match r with
  | .ok d ρ' => ∀ v H' L, Rel f Γ ρ' gh σ H' → Kp (Sx f Γ) H H' → VO f.g (f.oc σ) (Bo f Γ) (Bx f Γ gh) H' m d v L → NewIn H Γ gh m.U L → Q v H'
  | .exn x ρ' => ∀ cls dx H', Rel f Γ ρ' gh σ H' → Kp (Sx f Γ) H H' → ExV f.g (Bo f Γ) x cls dx H' → f.W cls dx σ H'
  | .stuck => False
def ObA (f : Fr) (Γ : List Kd) (ms : List Md) (gh : Nat → List Addr) (σ : L2.St) (H : Hp) (r : R Env (List D)) (Q : List V → Hp → Prop) : Prop := match r with
  | .ok ds ρ' => ∀ vs H' L, Rel f Γ ρ' gh σ H' → Kp (Sx f Γ) H H' → VsO f.g (f.oc σ) (Bo f Γ) (Bx f Γ gh) H' ms ds vs L → NewIn H Γ gh (ms.flatMap Md.U) L → Q vs H'
  | .exn x ρ' => ∀ cls dx H', Rel f Γ ρ' gh σ H' → Kp (Sx f Γ) H H' → ExV f.g (Bo f Γ) x cls dx H' → f.W cls dx σ H'
  | .stuck => False
def ObT (f : Fr) (Γ : List Kd) (gh : Nat → List Addr) (σ : L2.St) (H : Hp) (r : R Env Bool) (Q : Bool → Hp → Prop) : Prop := match r with
  | .ok b ρ' => ∀ H', Rel f Γ ρ' gh σ H' → Kp (Sx f Γ) H H' → Q b H'
  | .exn x ρ' => ∀ cls dx H', Rel f Γ ρ' gh σ H' → Kp (Sx f Γ) H H' → ExV f.g (Bo f Γ) x cls dx H' → f.W cls dx σ H'
  | .stuck => False
theorem NewIn.shift {gh : Nat → List Addr} {U : List Nat} {L : List Addr} (k : ∀ a, H1 a = none → H a = none) (h : NewIn H1 Γ gh U L) : NewIn H Γ gh U L := ⟨h.1, fun a ha => (h.2 a ha).imp (k a) id⟩
theorem Ob.shift {gh : Nat → List Addr} {r : R Env D} {Q : VK} (h : Ob f Γ m gh σ H r Q) (k : Kp (Sx f Γ) H H1) : Ob f Γ m gh σ H1 r Q := by
  cases r with
  | ok d ρ' => exact fun v H' L R' k' vo n => h v H' L R' (k.trans k') vo (n.shift k.2)
  | exn x ρ' => exact fun cls dx H' R' k' e => h cls dx H' R' (k.trans k') e
  | stuck => exact h
theorem ObA.shift {ms : List Md} {gh : Nat → List Addr} {r : R Env (List D)} {Q : List V → Hp → Prop} (h : ObA f Γ ms gh σ H r Q) (k : Kp (Sx f Γ) H H1) : ObA f Γ ms gh σ H1 r Q := by
  cases r with
  | ok d ρ' => exact fun v H' L R' k' vo n => h v H' L R' (k.trans k') vo (n.shift k.2)
  | exn x ρ' => exact fun cls dx H' R' k' e => h cls dx H' R' (k.trans k') e
  | stuck => exact h
theorem ObT.shift {gh : Nat → List Addr} {r : R Env Bool} {Q : Bool → Hp → Prop} (h : ObT f Γ gh σ H r Q) (k : Kp (Sx f Γ) H H1) : ObT f Γ gh σ H1 r Q := by
  cases r with
  | ok b ρ' => exact fun H' R' k' => h H' R' (k.trans k')
  | exn x ρ' => exact fun cls dx H' R' k' e => h cls dx H' R' (k.trans k') e
  | stuck => exact h
/-- an answer that nothing new stands behind -/
theorem Ob.ok0 {gh : Nat → List Addr} {d : D} {ρ : Env} {Q : VK} {v : V} (h : Ob f Γ m gh σ H (.ok d ρ) Q) (R : Rel f Γ ρ gh σ H) (vo : VO f.g (f.oc σ) (Bo f Γ) (Bx f Γ gh) H m d v []) : Q v H :=
  h v H [] R Kp.refl vo ⟨List.nodup_nil, fun a ha => by cases ha⟩

/-! ### one part, then what follows -/
theorem RE.one {a : EM D} {ma : Md} {Q : VK} (ρ : Env) (gh : Nat → List Addr) (R : Rel f Γ ρ gh σ H)
    (h : match a ρ with
      | .ok d ρ' => ∀ v H' L, Rel f Γ ρ' gh σ H' → Kp (Sx f Γ) H H' → VO f.g (f.oc σ) (Bo f Γ) (Bx f Γ gh) H' ma d v L → NewIn H Γ gh ma.U L → Q v H'
      | .exn x ρ' => ∀ cls dx H', Rel f Γ ρ' gh σ H' → Kp (Sx f Γ) H H' → ExV f.g (Bo f Γ) x cls dx H' → f.W cls dx σ H'
      | .stuck => False) : RE f Γ ma a σ H Q := ⟨ρ, gh, R, h⟩
/-- the first part of a bind, its reading; Wr: what is wanted of the whole's answer, carried -/
theorem RE.first {α : Type} {a : EM D} {ma : Md} {k : D → EM α} {Q : VK} {Wr : Hp → R Env α → Prop} {ρ : Env} {gh : Nat → List Addr} (R : Rel f Γ ρ gh σ H) (w : Wr H ((a >>= k) ρ))
    (hx : ∀ (x : Ex) (ρ' : Env), Wr H (.exn x ρ') → ∀ cls dx H', Rel f Γ ρ' gh σ H' → Kp (Sx f Γ) H H' → ExV f.g (Bo f Γ) x cls dx H' → f.W cls dx σ H') (hs : ¬ Wr H .stuck)
    (step : ∀ d ρ' v H' L, Rel f Γ ρ' gh σ H' → Kp (Sx f Γ) H H' → VO f.g (f.oc σ) (Bo f Γ) (Bx f Γ gh) H' ma d v L → NewIn H Γ gh ma.U L → Wr H (k d ρ') → Q v H') : RE f Γ ma a σ H Q := by
  refine ⟨ρ, gh, R, ?_⟩
  rw [bind_ap] at w
  cases e : a ρ with
  | ok d ρ' =>
    rw [e] at w
    exact fun v H' L R' k' vo n => step d ρ' v H' L R' k' vo n w
  | exn x ρ' =>
    rw [e] at w
    exact hx x ρ' w
  | stuck =>
    rw [e] at w
    exact hs w
/-- .. where an expression's answer is wanted -/
theorem RE.fst {a : EM D} {ma : Md} {k : D → EM D} {Q Q' : VK} {ρ : Env} {gh : Nat → List Addr} (R : Rel f Γ ρ gh σ H) (w : Ob f Γ m gh σ H ((a >>= k) ρ) Q)
    (step : ∀ d ρ' v H' L, Rel f Γ ρ' gh σ H' → Kp (Sx f Γ) H H' → VO f.g (f.oc σ) (Bo f Γ) (Bx f Γ gh) H' ma d v L → NewIn H Γ gh ma.U L → Ob f Γ m gh σ H' (k d ρ') Q → Q' v H') : RE f Γ ma a σ H Q' :=
  RE.first (Wr := fun H r => Ob f Γ m gh σ H r Q) R w (fun x ρ' h => h) (fun h => h) fun d ρ' v H' L R' k' vo n w' => step d ρ' v H' L R' k' vo n (w'.shift k')
theorem RE.fstA {a : EM D} {ma : Md} {ms : List Md} {k : D → EM (List D)} {Q : List V → Hp → Prop} {Q' : VK} {ρ : Env} {gh : Nat → List Addr} (R : Rel f Γ ρ gh σ H) (w : ObA f Γ ms gh σ H ((a >>= k) ρ) Q)
    (step : ∀ d ρ' v H' L, Rel f Γ ρ' gh σ H' → Kp (Sx f Γ) H H' → VO f.g (f.oc σ) (Bo f Γ) (Bx f Γ gh) H' ma d v L → NewIn H Γ gh ma.U L → ObA f Γ ms gh σ H (k d ρ') Q → Q' v H') : RE f Γ ma a σ H Q' :=
  RE.first (Wr := fun H r => ObA f Γ ms gh σ H r Q) R w (fun x ρ' h => h) (fun h => h) step
theorem RE.fstT {a : EM D} {ma : Md} {k : D → EM Bool} {Q : Bool → Hp → Prop} {Q' : VK} {ρ : Env} {gh : Nat → List Addr} (R : Rel f Γ ρ gh σ H) (w : ObT f Γ gh σ H ((a >>= k) ρ) Q)
    (step : ∀ d ρ' v H' L, Rel f Γ ρ' gh σ H' → Kp (Sx f Γ) H H' → VO f.g (f.oc σ) (Bo f Γ) (Bx f Γ gh) H' ma d v L → NewIn H Γ gh ma.U L → ObT f Γ gh σ H' (k d ρ') Q → Q' v H') : RE f Γ ma a σ H Q' :=
  RE.first (Wr := fun H r => ObT f Γ gh σ H r Q) R w (fun x ρ' h => h) (fun h => h) fun d ρ' v H' L R' k' vo n w' => step d ρ' v H' L R' k' vo n (w'.shift k')
/-- arguments first -/
theorem RA.fst {a : EM (List D)} {ms : List Md} {k : List D → EM D} {Q : VK} {Q' : List V → Hp → Prop} {ρ : Env} {gh : Nat → List Addr} (R : Rel f Γ ρ gh σ H) (w : Ob f Γ m gh σ H ((a >>= k) ρ) Q)
    (step : ∀ ds ρ' vs H' L, Rel f Γ ρ' gh σ H' → Kp (Sx f Γ) H H' → VsO f.g (f.oc σ) (Bo f Γ) (Bx f Γ gh) H' ms ds vs L → NewIn H Γ gh (ms.flatMap Md.U) L → Ob f Γ m gh σ H (k ds ρ') Q → Q' vs H') : RA f Γ ms a σ H Q' := by
  refine ⟨ρ, gh, R, ?_⟩
  rw [bind_ap] at w
  cases e : a ρ with
  | ok d ρ' =>
    rw [e] at w
    exact fun v H' L R' k' vo n => step d ρ' v H' L R' k' vo n w
  | exn x ρ' =>
    rw [e] at w
    exact w
  | stuck =>
    rw [e] at w
    exact w
end
section
variable {X : Cx} {f : Fr} {Γ : List Kd}
abbrev XE (X : Cx) (f : Fr) (Γ : List Kd) (e : Expr) (m : Md) (a : EM D) : Prop := PE X e (RE f Γ m a)
abbrev XA (X : Cx) (f : Fr) (Γ : List Kd) (es : List Expr) (ms : List Md) (a : EM (List D)) : Prop := PA X es (RA f Γ ms a)
abbrev XT (X : Cx) (f : Fr) (Γ : List Kd) (e : Expr) (a : EM Bool) : Prop := PT X e (RT f Γ a)
abbrev XW (X : Cx) (f : Fr) (Γ : List Kd) (e : Expr) (a : EM Bool) : Prop := PW X e (RT f Γ a)
/-! ### constants, names -/
theorem xe_int {i : Int} {j : Nat} {pos : Pos} : XE X f Γ (.Constant (.int i) j pos) (.own []) (eC (.int i)) := PE.mono pe_int fun σ H Q ⟨ρ, gh, R, q⟩ => Ob.ok0 (m := .own []) q R ⟨rfl, rfl⟩
theorem xe_bl {b : Bool} {j : Nat} {pos : Pos} : XE X f Γ (.Constant (.bool b) j pos) (.own []) (eC (.bl b)) := PE.mono pe_bl fun σ H Q ⟨ρ, gh, R, q⟩ => Ob.ok0 (m := .own []) q R ⟨rfl, rfl⟩
theorem xe_non {j : Nat} {pos : Pos} : XE X f Γ (.Constant .none j pos) (.own []) (eC .non) := PE.mono pe_non fun σ H Q ⟨ρ, gh, R, q⟩ => Ob.ok0 (m := .own []) q R ⟨rfl, rfl⟩
theorem xe_str {x : Str} {j : Nat} {pos : Pos} : XE X f Γ (.Constant (.str x) j pos) (.own []) (eC (.str x)) := PE.mono pe_str fun σ H Q ⟨ρ, gh, R, q⟩ => Ob.ok0 (m := .own []) q R ⟨rfl, rfl⟩
/-- a module's global that stands for an object -/
theorem xe_glo {x : Str} {a : Addr} {pos : Pos} (hg : Gl X x) (hm : X.mg x = some (.ref a)) (hG : f.g.mg x = some (.ref a)) (hd : (x == ("__debug__" : Str)) = false := by decide) : XE X f Γ (.Name x pos) (.own []) (eC (.glo x)) :=
  PE.mono (pe_glob (v := .ref a) hg hm rfl hd) fun σ H Q ⟨ρ, gh, R, q⟩ => Ob.ok0 (m := .own []) q R ⟨rfl, a, hG, rfl⟩
def kdMd : Kd → Md
  | .sh => .sh
  | .cs => .cs
  | .tp | .ow => .bs
  | _ => .bor
theorem slot_get {ρ : Env} {gh : Nat → List Addr} {σ : L2.St} {H : Hp} {i : Nat} {k : Kd} (R : Rel f Γ ρ gh σ H) (hk : Γ.getD i .un = k) (h1 : k ≠ .un) (h2 : k ≠ .st) (h3 : k ≠ .tc) :
    ∃ d v, ρ.getD i none = some d ∧ σ[i]? = some (some v) ∧ VO f.g (f.oc σ) (Bo f Γ) (Bx f Γ gh) H (kdMd k) d v [] := by
  have s := R.slot i
  rw [hk] at s
  have nS : ∀ a ∈ gh i, ¬ Bo f Γ a := fun a ha z => z.elim (R.nb i a ha) fun z => h2 (hk ▸ Sx_gh R z ha)
  have gv : ∀ {v : V}, σ.getD i none = some v → σ[i]? = some (some v) := fun {v} e => by
    rw [List.getD_eq_getElem?_getD] at e
    cases q : σ[i]? with
    | none => rw [q] at e; cases e
    | some o => rw [q] at e; rw [show o = some v from e]
  have sb := Bo_sub R
  cases k with
  | un => exact absurd rfl h1
  | st => exact absurd rfl h2
  | tc => exact absurd rfl h3
  | sh => obtain ⟨_, d, v, e1, e2, q⟩ := s; exact ⟨d, v, e1, gv e2, rfl, q⟩
  | cs => obtain ⟨_, d, v, e1, e2, q⟩ := s; exact ⟨d, v, e1, gv e2, rfl, q⟩
  | tp =>
    obtain ⟨d, v, a, e1, e2, e3, e4, q⟩ := s
    have na := nS a (by rw [e3]; simp)
    rcases q with ⟨ds, vs, e5, q, r⟩ | ⟨ks, ds, kvs, e5, q, m, r⟩
    · exact ⟨d, v, e1, gv e2, rfl, .inr (.inl ⟨a, ds, vs, e5, e4, na, q, r⟩)⟩
    · exact ⟨d, v, e1, gv e2, rfl, .inr (.inr ⟨a, ks, ds, kvs, e5, e4, na, .inl q, m, r⟩)⟩
  | ow =>
    obtain ⟨d, v, e1, e2, t, q⟩ := s
    refine ⟨d, v, e1, gv e2, rfl, ?_⟩
    have own : ∀ {L' : List Addr} {a : Addr}, gh i = a :: L' → ∀ b ∈ L', ¬ Bx f Γ gh b := fun {L' a} e b hb z => by
      have nb : b ∈ gh i := by rw [e]; exact List.mem_cons_of_mem _ hb
      rcases z with z | ⟨j, z⟩
      · exact R.nb i b nb z
      · have ej : i = j := R.dj i j b nb (tops_sub z)
        subst ej
        rw [hk, e] at z
        have z' : b ∈ [a] := z
        have nd := R.nd i
        rw [e] at nd
        rw [List.mem_singleton.mp z'] at hb
        exact (List.nodup_cons.mp nd).1 hb
    have whole : (∀ b ∈ gh i, ¬ Bx f Γ gh b) → Sh f.g nc (Bx f Γ gh) H d v := fun n => Ow.sh d v (gh i) n q
    cases d with
    | lst ds =>
      simp only [Ow] at q
      obtain ⟨a, vs, L', e3, eL, q, r⟩ := q
      exact .inr (.inl ⟨a, ds, vs, rfl, e3, nS a (by rw [eL]; simp), q, OwA.sh ds vs L' (own eL) r⟩)
    | dct ks ds =>
      simp only [Ow] at q
      obtain ⟨a, kvs, L', e3, eL, q, m, r⟩ := q
      exact .inr (.inr ⟨a, ks, ds, kvs, rfl, e3, nS a (by rw [eL]; simp), .inl q, m, OwA.sh ds _ L' (own eL) r⟩)
    | tup ds => exact .inl (whole fun b hb => by
        rcases t with t | t
        · rw [t] at hb; cases hb
        · cases t)
    | non => exact .inl (whole fun b hb => by simp only [Ow] at q; rw [q.1] at hb; cases hb)
    | bl _ => exact .inl (whole fun b hb => by simp only [Ow] at q; rw [q.1] at hb; cases hb)
    | int _ => exact .inl (whole fun b hb => by simp only [Ow] at q; rw [q.1] at hb; cases hb)
    | str _ => exact .inl (whole fun b hb => by simp only [Ow] at q; rw [q.1] at hb; cases hb)
    | glo _ => exact .inl (whole fun b hb => by simp only [Ow] at q; rw [q.1] at hb; cases hb)
    | clo _ _ => simp only [Ow] at q
    | lid _ => simp only [Ow] at q
  | ox =>
    obtain ⟨d, v, e1, e2, q⟩ := s
    exact ⟨d, v, e1, gv e2, rfl, Ow.sh d v (gh i) nS q⟩

theorem xe_v (i : Nat) {k : Kd} {x : Str} {pos : Pos} (hk : Γ.getD i .un = k) (hb : (k != .un && k != .st && k != .tc) = true := by rfl) (hN : X.N[i]? = some x := by rfl) (hv : Vis X.env.scope x := by first | exact Or.inl rfl | exact Or.inr (Or.inl rfl) | exact Or.inr (Or.inr rfl))
    (hd : (x == ("__debug__" : Str)) = false := by decide) (hcd : (x == ("__classdict__" : Str)) = false := by decide) : XE X f Γ (.Name x pos) (kdMd k) (eV i) :=
  PE.mono (pe_var hN hv hd hcd) fun σ H Q ⟨ρ, gh, R, q⟩ => by
    have ⟨h1, h2, h3⟩ : k ≠ .un ∧ k ≠ .st ∧ k ≠ .tc := by cases k <;> first | (exfalso; revert hb; decide) | decide
    obtain ⟨d, v, e1, e2, vo⟩ := slot_get R hk h1 h2 h3
    have e : eV i ρ = .ok d ρ := by unfold eV; rw [e1]
    have q' : Ob f Γ (kdMd k) gh σ H (eV i ρ) Q := q
    rw [e] at q'
    exact ⟨v, e2, Ob.ok0 q' R vo⟩
/-- a slot's owned data, taken -/
theorem xe_take (i : Nat) {x : Str} {pos : Pos} (hk : Γ.getD i .un = .ow) (hN : X.N[i]? = some x := by rfl) (hv : Vis X.env.scope x := by first | exact Or.inl rfl | exact Or.inr (Or.inl rfl) | exact Or.inr (Or.inr rfl))
    (hd : (x == ("__debug__" : Str)) = false := by decide) (hcd : (x == ("__classdict__" : Str)) = false := by decide) : XE X f Γ (.Name x pos) (.own [i]) (eV i) :=
  PE.mono (pe_var hN hv hd hcd) fun σ H Q ⟨ρ, gh, R, q⟩ => by
    have s := R.slot i
    rw [hk] at s
    obtain ⟨d, v, e1, e2, _, vo⟩ := s
    have e3 : σ[i]? = some (some v) := by
      rw [List.getD_eq_getElem?_getD] at e2
      cases q : σ[i]? with
      | none => rw [q] at e2; cases e2
      | some o => rw [q] at e2; rw [show o = some v from e2]
    have e : eV i ρ = .ok d ρ := by unfold eV; rw [e1]
    have q' : Ob f Γ (.own [i]) gh σ H (eV i ρ) Q := q
    rw [e] at q'
    exact ⟨v, e3, q' v H (gh i) R Kp.refl vo ⟨R.nd i, fun a ha => .inr ⟨i, List.mem_singleton.mpr rfl, ha, by rw [hk]; decide⟩⟩⟩
theorem xe_takeT (i : Nat) {x : Str} {pos : Pos} (hk : Γ.getD i .un = .tp) (hN : X.N[i]? = some x := by rfl) (hv : Vis X.env.scope x := by first | exact Or.inl rfl | exact Or.inr (Or.inl rfl) | exact Or.inr (Or.inr rfl))
    (hd : (x == ("__debug__" : Str)) = false := by decide) (hcd : (x == ("__classdict__" : Str)) = false := by decide) : XE X f Γ (.Name x pos) (.tp [i]) (eV i) :=
  PE.mono (pe_var hN hv hd hcd) fun σ H Q ⟨ρ, gh, R, q⟩ => by
    have s := R.slot i
    rw [hk] at s
    obtain ⟨d, v, a, e1, e2, e4, e5, vo⟩ := s
    have e3 : σ[i]? = some (some v) := by
      rw [List.getD_eq_getElem?_getD] at e2
      cases q : σ[i]? with
      | none => rw [q] at e2; cases e2
      | some o => rw [q] at e2; rw [show o = some v from e2]
    have e : eV i ρ = .ok d ρ := by unfold eV; rw [e1]
    have q' : Ob f Γ (.tp [i]) gh σ H (eV i ρ) Q := q
    rw [e] at q'
    exact ⟨v, e3, q' v H (gh i) R Kp.refl ⟨a, e4, e5, vo.mono (S := fun _ => False) Kp.refl (fun z => z) (fun _ z => z.elim) (fun _ _ z => .inl z) (fun x z => z.elim id fun z => by
      rw [z]; exact .inr ⟨i, by rw [hk, e4]; exact List.mem_singleton.mpr rfl⟩)⟩ ⟨R.nd i, fun a ha => .inr ⟨i, List.mem_singleton.mpr rfl, ha, by rw [hk]; decide⟩⟩⟩
theorem xe_takeC (i : Nat) {x : Str} {pos : Pos} (hk : Γ.getD i .un = .tc) (hN : X.N[i]? = some x := by rfl) (hv : Vis X.env.scope x := by first | exact Or.inl rfl | exact Or.inr (Or.inl rfl) | exact Or.inr (Or.inr rfl))
    (hd : (x == ("__debug__" : Str)) = false := by decide) (hcd : (x == ("__classdict__" : Str)) = false := by decide) : XE X f Γ (.Name x pos) (.tc [i]) (eV i) :=
  PE.mono (pe_var hN hv hd hcd) fun σ H Q ⟨ρ, gh, R, q⟩ => by
    have s := R.slot i
    rw [hk] at s
    obtain ⟨d, v, a, e1, e2, e4, e5, vo⟩ := s
    have e3 : σ[i]? = some (some v) := by
      rw [List.getD_eq_getElem?_getD] at e2
      cases q : σ[i]? with
      | none => rw [q] at e2; cases e2
      | some o => rw [q] at e2; rw [show o = some v from e2]
    have e : eV i ρ = .ok d ρ := by unfold eV; rw [e1]
    have q' : Ob f Γ (.tc [i]) gh σ H (eV i ρ) Q := q
    rw [e] at q'
    exact ⟨v, e3, q' v H (gh i) R Kp.refl ⟨a, e4, e5, vo.mono (S := fun _ => False) Kp.refl (fun z => z) (fun _ z => z.elim) (fun _ _ z => .inl z) (fun x z => z.elim id fun z => by
      rw [z]; exact .inr ⟨i, by rw [hk, e4]; exact List.mem_singleton.mpr rfl⟩)⟩ ⟨R.nd i, fun a ha => .inr ⟨i, List.mem_singleton.mpr rfl, ha, by rw [hk]; decide⟩⟩⟩

/-! ### ways of holding, weakened -/
section
variable {ρ : Env} {gh : Nat → List Addr} {σ : L2.St} {H H' : Hp} {d : D} {v : V} {L : List Addr}
/-- m may be taken for m' -/
def Md.le : Md → Md → Prop
  | .own [], .sh | .own [], .bs | .own [], .cs => True
  | .own _, .bor => True
  | .tp [], .sh | .tp [], .bs | .tp [], .cs | .tp [], .bor => True
  | .tp U, .tc U' => U = U'
  | .tc [], .cs => True
  | .sh, .bs | .sh, .bor | .sh, .cs | .bs, .bor => True
  | m, m' => m = m'
theorem NewIn.nB (R : Rel f Γ ρ gh σ H) (N : NewIn H Γ gh [] L) : ∀ a ∈ L, ¬ Bx f Γ gh a := fun a ha => by
  rcases N.2 a ha with e | ⟨_, i, _⟩
  · exact R.nbx e
  · cases i
theorem nil_new {U : List Nat} : NewIn H Γ gh U [] := ⟨List.nodup_nil, fun a ha => by cases ha⟩
theorem VO.le {m m' : Md} (R : Rel f Γ ρ gh σ H) (N : NewIn H Γ gh m.U L) (h : VO f.g (f.oc σ) (Bo f Γ) (Bx f Γ gh) H' m d v L) (l : m.le m') : ∃ L', VO f.g (f.oc σ) (Bo f Γ) (Bx f Γ gh) H' m' d v L' ∧ NewIn H Γ gh m'.U L' := by
  have nS := N.nBo R
  have sb := Bo_sub R
  have shc : ∀ {B : Addr → Prop}, Sh f.g nc B H' d v → Sh f.g (f.oc σ) B H' d v := fun q => Sh.mono (S := fun _ => False) Kp.refl (fun _ z => z.elim) (fun _ _ z => z.elim) (fun _ n => n) d v q
  have tpsh : ∀ {oc : Addr → V → Prop} {a : Addr}, v = .ref a → ¬ Bx f Γ gh a → TopOk f.g oc (fun x => Bx f Γ gh x ∨ x = a) H' a d → Sh f.g oc (Bx f Γ gh) H' d v := by
    rintro oc a e n (⟨ds, vs, rfl, q, r⟩ | ⟨ks, ds, kvs, rfl, q, m, r⟩)
    · simp only [Sh]; exact ⟨a, vs, e, n, q, r.sub fun _ z => .inl z⟩
    · simp only [Sh]; exact ⟨a, kvs, e, n, .inl q, m, r.sub fun _ z => .inl z⟩
  cases m with
  | own U =>
    cases m' with
    | own U' => cases (show Md.own U = Md.own U' from by cases U <;> exact l); exact ⟨L, h, N⟩
    | bor => exact ⟨[], ⟨rfl, Ow.sh d v L nS h⟩, nil_new⟩
    | sh =>
      cases U with
      | nil => exact ⟨[], ⟨rfl, Ow.sh d v L (N.nB R) h⟩, nil_new⟩
      | cons _ _ => cases l
    | bs =>
      cases U with
      | nil => exact ⟨[], ⟨rfl, .inl (Ow.sh d v L (N.nB R) h)⟩, nil_new⟩
      | cons _ _ => cases l
    | cs =>
      cases U with
      | nil => exact ⟨[], ⟨rfl, shc (Ow.sh d v L (N.nB R) h)⟩, nil_new⟩
      | cons _ _ => cases l
    | tp _ => cases U <;> cases l
    | tc _ => cases U <;> cases l
  | tp U =>
    obtain ⟨a, eL, e, t⟩ := h
    cases m' with
    | tp U' => cases (show Md.tp U = Md.tp U' from by cases U <;> exact l); exact ⟨L, ⟨a, eL, e, t⟩, N⟩
    | tc U' =>
      cases (show U = U' from by cases U <;> exact l)
      exact ⟨L, ⟨a, eL, e, t.mono (S := fun _ => False) Kp.refl (fun z => z) (fun _ z => z.elim) (fun _ _ z => z.elim) (fun _ z => z)⟩, N⟩
    | own _ => cases U <;> cases l
    | sh =>
      cases U with
      | nil => exact ⟨[], ⟨rfl, tpsh e (N.nB R a (by rw [eL]; simp)) t⟩, nil_new⟩
      | cons _ _ => cases l
    | bs =>
      cases U with
      | nil => exact ⟨[], ⟨rfl, .inl (tpsh e (N.nB R a (by rw [eL]; simp)) t)⟩, nil_new⟩
      | cons _ _ => cases l
    | cs =>
      cases U with
      | nil => exact ⟨[], ⟨rfl, shc (tpsh e (N.nB R a (by rw [eL]; simp)) t)⟩, nil_new⟩
      | cons _ _ => cases l
    | bor =>
      cases U with
      | nil => exact ⟨[], ⟨rfl, (tpsh e (N.nB R a (by rw [eL]; simp)) t).sub sb⟩, nil_new⟩
      | cons _ _ => cases l
  | tc U =>
    cases m' with
    | tc U' => cases (show Md.tc U = Md.tc U' from by cases U <;> exact l); exact ⟨L, h, N⟩
    | cs =>
      obtain ⟨a, eL, e, t⟩ := h
      cases U with
      | nil => exact ⟨[], ⟨rfl, tpsh e (N.nB R a (by rw [eL]; simp)) t⟩, nil_new⟩
      | cons _ _ => cases l
    | own _ => cases U <;> cases l
    | tp _ => cases U <;> cases l
    | sh => cases U <;> cases l
    | bs => cases U <;> cases l
    | bor => cases U <;> cases l
  | sh =>
    obtain ⟨rfl, q⟩ := h
    cases m' with
    | sh => exact ⟨[], ⟨rfl, q⟩, nil_new⟩
    | bs => exact ⟨[], ⟨rfl, .inl q⟩, nil_new⟩
    | bor => exact ⟨[], ⟨rfl, q.sub sb⟩, nil_new⟩
    | cs => exact ⟨[], ⟨rfl, shc q⟩, nil_new⟩
    | own _ => cases l
    | tp _ => cases l
    | tc _ => cases l
  | bs =>
    obtain ⟨rfl, q⟩ := h
    cases m' with
    | bs => exact ⟨[], ⟨rfl, q⟩, nil_new⟩
    | bor =>
      refine ⟨[], ⟨rfl, ?_⟩, nil_new⟩
      rcases q with q | ⟨a, ds, vs, rfl, e, n, q, r⟩ | ⟨a, ks, ds, kvs, rfl, e, n, q, m, r⟩
      · exact q.sub sb
      · simp only [Sh]; exact ⟨a, vs, e, n, q, r.sub sb⟩
      · simp only [Sh]; exact ⟨a, kvs, e, n, q, m, r.sub sb⟩
    | sh => cases l
    | cs => cases l
    | own _ => cases l
    | tp _ => cases l
    | tc _ => cases l
  | bor => cases m' <;> first | exact ⟨L, h, N⟩ | cases l
  | cs => cases m' <;> first | exact ⟨L, h, N⟩ | cases l
end
theorem xe_le {e : Expr} {a : EM D} {m m' : Md} (h : XE X f Γ e m a) (l : m.le m') : XE X f Γ e m' a :=
  PE.mono h fun σ H Q ⟨ρ, gh, R, q⟩ => by
    refine ⟨ρ, gh, R, ?_⟩
    cases e : a ρ with
    | ok d ρ' =>
      rw [e] at q
      exact fun v H' L R' k vo n => let ⟨L', vo', n'⟩ := VO.le R n vo l; q v H' L' R' k vo' n'
    | exn x ρ' => rw [e] at q; exact q
    | stuck => rw [e] at q; exact q
/-! ### arguments -/
theorem xa_nil : XA X f Γ [] [] eNil := PA.mono pa_nil fun σ H Q ⟨ρ, gh, R, q⟩ => q [] H [] R Kp.refl ⟨rfl, rfl, rfl⟩ nil_new
theorem xa_cons {e : Expr} {es : List Expr} {m : Md} {ms : List Md} {a : EM D} {b : EM (List D)} (ha : XE X f Γ e m a) (hb : XA X f Γ es ms b) (hd : ∀ i ∈ m.U, i ∉ ms.flatMap Md.U := by decide)
    (hs : starEach (e :: es) X.env = (false, eval e X.env) :: starEach es X.env := by rfl) : XA X f Γ (e :: es) (m :: ms) (eCons a b) :=
  PA.mono (pa_cons ha hb hs) fun σ H Q ⟨ρ, gh, R, q⟩ => by
    show tCons (RE f Γ m a) (RA f Γ ms b) σ H Q
    have q' : ObA f Γ (m :: ms) gh σ H ((a >>= fun x => b >>= fun xs => Pure.pure (x :: xs)) ρ) Q := q
    refine RE.fstA R q' fun d ρ1 v H1 L1 R1 k1 vo1 n1 w => ?_
    refine ⟨ρ1, gh, R1, ?_⟩
    rw [bind_ap] at w
    cases e : b ρ1 with
    | ok ds ρ2 =>
      rw [e] at w
      intro vs H2 L2 R2 k2 vo2 n2
      have w' : ObA f Γ (m :: ms) gh σ H (.ok (d :: ds) ρ2) Q := w
      refine w' (v :: vs) H2 (L1 ++ L2) R2 (k1.trans k2) ?_ ?_
      · simp only [VsO]
        refine ⟨d, ds, v, vs, L1, L2, rfl, rfl, rfl, VO.kpB (fun a z => .inl (Sx_sub R a z)) (n1.nS R) k2 ?_, vo2⟩
        by_cases u : ms.flatMap Md.U = []
        · exact (vo1.avoid (M := L2) fun a ha => (n2.2 a ha).resolve_right fun ⟨i, z, _⟩ => by rw [u] at z; cases z).subB fun a z => z.imp id And.left
        · exact vo1.subB fun a z => z.elim id fun z => absurd z.2 u
      · have := NewIn.append (H1 := H1) R n1 (fun a ha => let ⟨o, e, _⟩ := vo1.there a ha; ⟨o, e⟩) n2 k1.2 hd
        simpa [List.flatMap_cons] using this
    | exn x ρ2 =>
      rw [e] at w
      exact fun cls dx H' R2 k2 ex => w cls dx H' R2 (k1.trans k2) ex
    | stuck =>
      rw [e] at w
      exact w
end
end PP
-- PP6
/-! PP6: displays, operators, comparisons, tests. -/
namespace PP
open PySem PySem.Spec PyProof.Rows L2
section
variable {g : G} {oc : Addr → V → Prop} {S B : Addr → Prop} {H : Hp}
def isOwn : Md → Bool
  | .own _ => true
  | _ => false
def isSh : Md → Bool
  | .sh => true
  | _ => false
def isCs : Md → Bool
  | .cs => true
  | _ => false
def isBor : Md → Bool
  | .bor => true
  | _ => false
theorem VsO.own : ∀ {ms : List Md} {ds : List D} {vs : List V} {L : List Addr}, ms.all isOwn = true → VsO g oc S B H ms ds vs L → OwA g H ds vs L
  | [], _, _, _, _, h => by simp only [VsO] at h; obtain ⟨rfl, rfl, rfl⟩ := h; simp [OwA]
  | m :: ms, _, _, _, e, h => by
    simp only [VsO] at h
    obtain ⟨d, r, v, q, L1, L2, rfl, rfl, rfl, h1, h2⟩ := h
    simp only [List.all_cons, Bool.and_eq_true] at e
    cases m <;> first | (exfalso; simp [isOwn] at e; done) | skip
    simp only [OwA]
    exact ⟨v, q, L1, L2, rfl, rfl, h1, VsO.own e.2 h2⟩
theorem VsO.sh : ∀ {ms : List Md} {ds : List D} {vs : List V} {L : List Addr}, ms.all isSh = true → VsO g oc S B H ms ds vs L → ShA g nc B H ds vs ∧ L = []
  | [], _, _, _, _, h => by simp only [VsO] at h; obtain ⟨rfl, rfl, rfl⟩ := h; simp [ShA]
  | m :: ms, _, _, _, e, h => by
    simp only [VsO] at h
    obtain ⟨d, r, v, q, L1, L2, rfl, rfl, rfl, h1, h2⟩ := h
    simp only [List.all_cons, Bool.and_eq_true] at e
    cases m <;> first | (exfalso; simp [isSh] at e; done) | skip
    obtain ⟨rfl, h1⟩ := h1
    obtain ⟨h3, rfl⟩ := VsO.sh e.2 h2
    exact ⟨by simp only [ShA]; exact ⟨v, q, rfl, h1.sub fun _ z => .inl z, h3⟩, rfl⟩
theorem VsO.cs : ∀ {ms : List Md} {ds : List D} {vs : List V} {L : List Addr}, ms.all isCs = true → VsO g oc S B H ms ds vs L → ShA g oc B H ds vs ∧ L = []
  | [], _, _, _, _, h => by simp only [VsO] at h; obtain ⟨rfl, rfl, rfl⟩ := h; simp [ShA]
  | m :: ms, _, _, _, e, h => by
    simp only [VsO] at h
    obtain ⟨d, r, v, q, L1, L2, rfl, rfl, rfl, h1, h2⟩ := h
    simp only [List.all_cons, Bool.and_eq_true] at e
    cases m <;> first | (exfalso; simp [isCs] at e; done) | skip
    obtain ⟨rfl, h1⟩ := h1
    obtain ⟨h3, rfl⟩ := VsO.cs e.2 h2
    exact ⟨by simp only [ShA]; exact ⟨v, q, rfl, h1.sub fun _ z => .inl z, h3⟩, rfl⟩
theorem VsO.bor : ∀ {ms : List Md} {ds : List D} {vs : List V} {L : List Addr}, ms.all isBor = true → VsO g oc S B H ms ds vs L → ShA g nc S H ds vs ∧ L = []
  | [], _, _, _, _, h => by simp only [VsO] at h; obtain ⟨rfl, rfl, rfl⟩ := h; simp [ShA]
  | m :: ms, _, _, _, e, h => by
    simp only [VsO] at h
    obtain ⟨d, r, v, q, L1, L2, rfl, rfl, rfl, h1, h2⟩ := h
    simp only [List.all_cons, Bool.and_eq_true] at e
    cases m <;> first | (exfalso; simp [isBor] at e; done) | skip
    obtain ⟨rfl, h1⟩ := h1
    obtain ⟨h3, rfl⟩ := VsO.bor e.2 h2
    exact ⟨by simp only [ShA]; exact ⟨v, q, rfl, h1, h3⟩, rfl⟩
theorem VsO.len : ∀ {ms : List Md} {ds : List D} {vs : List V} {L : List Addr}, VsO g oc S B H ms ds vs L → vs.length = ms.length ∧ ds.length = ms.length
  | [], _, _, _, h => by simp only [VsO] at h; obtain ⟨rfl, rfl, rfl⟩ := h; simp
  | m :: ms, _, _, _, h => by
    simp only [VsO] at h
    obtain ⟨d, r, v, q, L1, L2, rfl, rfl, rfl, h1, h2⟩ := h
    have := VsO.len h2
    simp [this.1, this.2]
end
section
variable {X : Cx} {f : Fr} {Γ : List Kd} {es : List Expr} {ms : List Md} {a b : EM D} {r : EM (List D)} {pos : Pos} {e e2 : Expr}
theorem line_of {n : Nat} (h : Nat.ble n 1000 = true) : n ≤ sizeLine := Nat.le_trans (Nat.le_of_ble_eq_true h) (by decide)
/-! ### lists, tuples as written -/
theorem xe_lst (h : XA X f Γ es ms r) (ho : ms.all isOwn = true := by rfl) (hl : Nat.ble ms.length 1000 = true := by rfl) : XE X f Γ (.List es pos) (.own (ms.flatMap Md.U)) (eLst r) :=
  PE.mono (pe_lst h) fun σ H Q ⟨ρ, gh, R, q⟩ => by
    have q' : Ob f Γ (.own (ms.flatMap Md.U)) gh σ H ((r >>= fun xs => Pure.pure (.lst xs)) ρ) Q := q
    refine RA.fst R q' fun ds ρ1 vs H1 L R1 k1 vo n w => ⟨by rw [vo.len.1]; exact line_of hl, fun p hp => ?_⟩
    have oa := VsO.own ho vo
    have R2 := R1.new (o := .lst vs) hp
    have pn : ∀ a ∈ L, a ≠ p := fun a ha z => by
      obtain ⟨o, e, _⟩ := OwA.there ds vs L oa a ha
      rw [z, hp] at e; cases e
    refine (show Ob f Γ (.own (ms.flatMap Md.U)) gh σ H (.ok (.lst ds) ρ1) Q from w) (.ref p) _ (p :: L) R2 (k1.trans (Kp.upd_new hp)) ?_ ⟨List.nodup_cons.mpr ⟨fun z => pn p z rfl, n.1⟩, fun a ha => ?_⟩
    · simp only [VO, Ow]
      exact ⟨p, vs, L, rfl, rfl, upd_same, OwA.mono (S := fun _ => False) (Kp.upd_new hp) ds vs L (fun _ _ z => z) oa⟩
    · rcases List.mem_cons.mp ha with rfl | ha
      · exact .inl (k1.2 _ hp)
      · exact n.2 a ha
theorem xe_lstT (h : XA X f Γ es ms r) (ho : ms.all isSh = true := by rfl) (hl : Nat.ble ms.length 1000 = true := by rfl) : XE X f Γ (.List es pos) (.tp []) (eLst r) :=
  PE.mono (pe_lst h) fun σ H Q ⟨ρ, gh, R, q⟩ => by
    have q' : Ob f Γ (.tp []) gh σ H ((r >>= fun xs => Pure.pure (.lst xs)) ρ) Q := q
    refine RA.fst R q' fun ds ρ1 vs H1 L R1 k1 vo n w => ⟨by rw [vo.len.1]; exact line_of hl, fun p hp => ?_⟩
    obtain ⟨oa, rfl⟩ := VsO.sh ho vo
    refine (show Ob f Γ (.tp []) gh σ H (.ok (.lst ds) ρ1) Q from w) (.ref p) _ [p] (R1.new (o := .lst vs) hp) (k1.trans (Kp.upd_new hp)) ⟨p, rfl, rfl, .inl ⟨ds, vs, rfl, upd_same, (ShA.fresh hp (fun a z => z) ds vs oa).kp (S := fun _ => False) (Kp.upd_new hp) fun _ z => z.elim⟩⟩ ⟨by simp, fun a ha => ?_⟩
    rw [List.mem_singleton.mp ha]
    exact .inl (k1.2 _ hp)
theorem xe_lstC (h : XA X f Γ es ms r) (ho : ms.all isCs = true := by rfl) (hl : Nat.ble ms.length 1000 = true := by rfl) : XE X f Γ (.List es pos) (.tc []) (eLst r) :=
  PE.mono (pe_lst h) fun σ H Q ⟨ρ, gh, R, q⟩ => by
    have q' : Ob f Γ (.tc []) gh σ H ((r >>= fun xs => Pure.pure (.lst xs)) ρ) Q := q
    refine RA.fst R q' fun ds ρ1 vs H1 L R1 k1 vo n w => ⟨by rw [vo.len.1]; exact line_of hl, fun p hp => ?_⟩
    obtain ⟨oa, rfl⟩ := VsO.cs ho vo
    refine (show Ob f Γ (.tc []) gh σ H (.ok (.lst ds) ρ1) Q from w) (.ref p) _ [p] (R1.new (o := .lst vs) hp) (k1.trans (Kp.upd_new hp)) ⟨p, rfl, rfl, .inl ⟨ds, vs, rfl, upd_same, (ShA.fresh hp (fun a z => z) ds vs oa).kp (S := fun _ => False) (Kp.upd_new hp) fun _ z => z.elim⟩⟩ ⟨by simp, fun a ha => ?_⟩
    rw [List.mem_singleton.mp ha]
    exact .inl (k1.2 _ hp)
theorem xe_tup {x1 : Nat} (h : XA X f Γ es ms r) (ho : ms.all isOwn = true := by rfl) (hl : Nat.ble ms.length 1000 = true := by rfl) : XE X f Γ (.Tuple es x1 pos) (.own (ms.flatMap Md.U)) (eTup r) :=
  PE.mono (pe_tup h) fun σ H Q ⟨ρ, gh, R, q⟩ => by
    have q' : Ob f Γ (.own (ms.flatMap Md.U)) gh σ H ((r >>= fun xs => Pure.pure (.tup xs)) ρ) Q := q
    refine RA.fst R q' fun ds ρ1 vs H1 L R1 k1 vo n w => ⟨by rw [vo.len.1]; exact line_of hl, fun p hp => ?_⟩
    have oa := VsO.own ho vo
    refine (show Ob f Γ (.own (ms.flatMap Md.U)) gh σ H (.ok (.tup ds) ρ1) Q from w) (.ref p) _ L (R1.new (o := .tup vs) hp) (k1.trans (Kp.upd_new hp)) ?_ n
    simp only [VO, Ow]
    exact ⟨p, vs, rfl, SqT.of upd_same, OwA.mono (S := fun _ => False) (Kp.upd_new hp) ds vs L (fun _ _ z => z) oa⟩
theorem xe_tupS {x1 : Nat} (h : XA X f Γ es ms r) (ho : ms.all isSh = true := by rfl) (hl : Nat.ble ms.length 1000 = true := by rfl) : XE X f Γ (.Tuple es x1 pos) .sh (eTup r) :=
  PE.mono (pe_tup h) fun σ H Q ⟨ρ, gh, R, q⟩ => by
    have q' : Ob f Γ .sh gh σ H ((r >>= fun xs => Pure.pure (.tup xs)) ρ) Q := q
    refine RA.fst R q' fun ds ρ1 vs H1 L R1 k1 vo n w => ⟨by rw [vo.len.1]; exact line_of hl, fun p hp => ?_⟩
    obtain ⟨oa, rfl⟩ := VsO.sh ho vo
    refine (show Ob f Γ .sh gh σ H (.ok (.tup ds) ρ1) Q from w) (.ref p) _ [] (R1.new (o := .tup vs) hp) (k1.trans (Kp.upd_new hp)) ⟨rfl, ?_⟩ nil_new
    simp only [Sh]
    exact ⟨p, vs, rfl, SqT.of upd_same, oa.kp (S := fun _ => False) (Kp.upd_new hp) fun _ z => z.elim⟩
theorem xe_tupC {x1 : Nat} (h : XA X f Γ es ms r) (ho : ms.all isCs = true := by rfl) (hl : Nat.ble ms.length 1000 = true := by rfl) : XE X f Γ (.Tuple es x1 pos) .cs (eTup r) :=
  PE.mono (pe_tup h) fun σ H Q ⟨ρ, gh, R, q⟩ => by
    have q' : Ob f Γ .cs gh σ H ((r >>= fun xs => Pure.pure (.tup xs)) ρ) Q := q
    refine RA.fst R q' fun ds ρ1 vs H1 L R1 k1 vo n w => ⟨by rw [vo.len.1]; exact line_of hl, fun p hp => ?_⟩
    obtain ⟨oa, rfl⟩ := VsO.cs ho vo
    refine (show Ob f Γ .cs gh σ H (.ok (.tup ds) ρ1) Q from w) (.ref p) _ [] (R1.new (o := .tup vs) hp) (k1.trans (Kp.upd_new hp)) ⟨rfl, ?_⟩ nil_new
    simp only [Sh]
    exact ⟨p, vs, rfl, SqT.of upd_same, oa.kp (S := fun _ => False) (Kp.upd_new hp) fun _ z => z.elim⟩

/-! ### operators on two values -/
theorem lift_ok {d : D} {u : Unit} {p : P D} {ρ : Env} (h : p () = .ok d u) : (lift p : EM D) ρ = .ok d ρ := by unfold lift; rw [h]
/-- two parts, by what they hand to the operator's own reading -/
theorem RE.two {σ : L2.St} {H : Hp} {Q : VK} {m ma mb : Md} {fn : D → D → P D} {rr : V → V → Hp → VK → Prop} {ρ : Env} {gh : Nat → List Addr} (R : Rel f Γ ρ gh σ H) (q : Ob f Γ m gh σ H (eP2 fn a b ρ) Q)
    (fin : ∀ d1 d2 ρ2 v1 v2 H2 L1 L2, Rel f Γ ρ2 gh σ H2 → VO f.g (f.oc σ) (Bo f Γ) (Bx f Γ gh) H2 ma d1 v1 L1 → VO f.g (f.oc σ) (Bo f Γ) (Bx f Γ gh) H2 mb d2 v2 L2 → Ob f Γ m gh σ H2 ((lift (fn d1 d2) : EM D) ρ2) Q → rr v1 v2 H2 Q) :
    tOp rr (RE f Γ ma a) (RE f Γ mb b) σ H Q := by
  have q' : Ob f Γ m gh σ H ((a >>= fun x => b >>= fun y => lift (fn x y)) ρ) Q := q
  refine RE.fst R q' fun d1 ρ1 v1 H1 L1 R1 k1 vo1 n1 w1 => ?_
  refine RE.fst R1 w1 fun d2 ρ2 v2 H2 L2 R2 k2 vo2 n2 w2 => ?_
  exact fin d1 d2 ρ2 v1 v2 H2 L1 L2 R2 (vo1.kp R n1 k2) vo2 w2
/-- an operator on ints -/
def intOp (C : Int → Int → Bool) (h : Int → Int → D) : D → D → P D := fun x y => match x, y with
  | .int i, .int j => if C i j = true then Pure.pure (h i j) else M.stuck
  | _, _ => M.stuck
def isFlat : D → Bool
  | .non | .bl _ | .int _ | .str _ => true
  | _ => false
def flatV : D → V
  | .bl b => .bl b
  | .int i => .int i
  | .str x => .str x
  | _ => .non
theorem bor_int {g : G} {oc : Addr → V → Prop} {S B : Addr → Prop} {H : Hp} {i : Int} {v : V} {L : List Addr} (h : VO g oc S B H .bor (.int i) v L) : v = .int i := by
  obtain ⟨_, h⟩ := h
  simpa only [Sh] using h
theorem Ob.flat {σ : L2.St} {H : Hp} {Q : VK} {U : List Nat} {d : D} {ρ : Env} {gh : Nat → List Addr} (h : Ob f Γ (.own U) gh σ H (.ok d ρ) Q) (R : Rel f Γ ρ gh σ H) (hd : isFlat d = true) : Q (flatV d) H := by
  refine Ob.ok0 h R ?_
  cases d <;> first | (exfalso; simp [isFlat] at hd; done) | exact ⟨rfl, rfl⟩ | (simp only [VO, Ow, flatV]; exact ⟨trivial, trivial⟩)
/-- a binary operator on ints, from the layer's rule with a condition -/
theorem xe_intOp {op : Operator} {C : Int → Int → Prop} {gv : Int → Int → V} {Cb : Int → Int → Bool} {h : Int → Int → D} (hop : OpR X (binaryOp op) (rI C gv)) (hC : ∀ i j, Cb i j = true → C i j) (hh : ∀ i j, isFlat (h i j) = true ∧ flatV (h i j) = gv i j)
    (ha : XE X f Γ e .bor a) (hb : XE X f Γ e2 .bor b) : XE X f Γ (.BinOp e op e2 pos) (.own []) (eP2 (intOp Cb h) a b) :=
  PE.mono (pe_op hop ha hb) fun σ H Q ⟨ρ, gh, R, q⟩ => RE.two R q fun d1 d2 ρ2 v1 v2 H2 L1 L2 R2 o1 o2 w => by
    unfold intOp at w
    split at w
    · rename_i i j
      by_cases c : Cb i j = true
      · rw [if_pos c] at w
        have w' : Ob f Γ (.own []) gh σ H2 (.ok (h i j) ρ2) Q := w
        refine ⟨i, j, bor_int o1, bor_int o2, hC i j c, ?_⟩
        rw [← (hh i j).2]
        exact w'.flat R2 (hh i j).1
      · rw [if_neg c] at w
        exact w.elim
    · exact w.elim
theorem xe_intOp0 {op : Operator} {gv : Int → Int → V} {h : Int → Int → D} (hop : OpR X (binaryOp op) (rI0 gv)) (hh : ∀ i j, isFlat (h i j) = true ∧ flatV (h i j) = gv i j)
    (ha : XE X f Γ e .bor a) (hb : XE X f Γ e2 .bor b) : XE X f Γ (.BinOp e op e2 pos) (.own []) (eP2 (intOp (fun _ _ => true) h) a b) :=
  PE.mono (pe_op hop ha hb) fun σ H Q ⟨ρ, gh, R, q⟩ => RE.two R q fun d1 d2 ρ2 v1 v2 H2 L1 L2 R2 o1 o2 w => by
    unfold intOp at w
    split at w
    · rename_i i j
      have w' : Ob f Γ (.own []) gh σ H2 (.ok (h i j) ρ2) Q := w
      refine ⟨i, j, bor_int o1, bor_int o2, ?_⟩
      rw [← (hh i j).2]
      exact w'.flat R2 (hh i j).1
    · exact w.elim
def addI : D → D → P D := intOp (fun _ _ => true) fun i j => .int (i + j)
def subI : D → D → P D := intOp (fun _ _ => true) fun i j => .int (i - j)
theorem xe_add (ha : XE X f Γ e .bor a) (hb : XE X f Γ e2 .bor b) : XE X f Γ (.BinOp e .Add e2 pos) (.own []) (eP2 addI a b) := xe_intOp0 op_add (fun _ _ => ⟨rfl, rfl⟩) ha hb
theorem xe_sub (ha : XE X f Γ e .bor a) (hb : XE X f Γ e2 .bor b) : XE X f Γ (.BinOp e .Sub e2 pos) (.own []) (eP2 subI a b) := xe_intOp0 op_sub (fun _ _ => ⟨rfl, rfl⟩) ha hb
end
end PP
-- PP7
/-! PP7: operators by values. -/
namespace PP
open PySem PySem.Spec PyProof.Rows L2
section
variable {X : Cx} {f : Fr} {Γ : List Kd} {es : List Expr} {ms : List Md} {a b c : EM D} {r : EM (List D)} {pos p : Pos} {e e2 e3 : Expr} {m ma mb : Md}
/-! ### the forms -/
/-- a rule of two values -/
def V2 (f : Fr) (Γ : List Kd) (ma mb m : Md) (fn : D → D → P D) (rr : V → V → Hp → VK → Prop) : Prop :=
  ∀ (σ : L2.St) (gh : Nat → List Addr) (ρ : Env) (H : Hp) (d1 d2 : D) (v1 v2 : V) (L1 L2 : List Addr) (Q : VK), Rel f Γ ρ gh σ H → VO f.g (f.oc σ) (Bo f Γ) (Bx f Γ gh) H ma d1 v1 L1 → VO f.g (f.oc σ) (Bo f Γ) (Bx f Γ gh) H mb d2 v2 L2 →
    Ob f Γ m gh σ H ((lift (fn d1 d2) : EM D) ρ) Q → rr v1 v2 H Q
def V1 (f : Fr) (Γ : List Kd) (ma m : Md) (fn : D → P D) (rr : V → Hp → VK → Prop) : Prop :=
  ∀ (σ : L2.St) (gh : Nat → List Addr) (ρ : Env) (H : Hp) (d1 : D) (v1 : V) (L1 : List Addr) (Q : VK), Rel f Γ ρ gh σ H → VO f.g (f.oc σ) (Bo f Γ) (Bx f Γ gh) H ma d1 v1 L1 →
    Ob f Γ m gh σ H ((lift (fn d1) : EM D) ρ) Q → rr v1 H Q
theorem xe_bin {op : Operator} {fn : D → D → P D} {rr : R2} (hop : OpR X (binaryOp op) rr) (k : V2 f Γ ma mb m fn rr) (ha : XE X f Γ e ma a) (hb : XE X f Γ e2 mb b) : XE X f Γ (.BinOp e op e2 pos) m (eP2 fn a b) :=
  PE.mono (pe_op hop ha hb) fun σ H Q ⟨ρ, gh, R, q⟩ => RE.two R q fun d1 d2 ρ2 v1 v2 H2 L1 L2 R2 o1 o2 w => k σ gh ρ2 H2 d1 d2 v1 v2 L1 L2 Q R2 o1 o2 w
theorem xe_cmp {op : CmpOp} {fn : D → D → P D} {rr : R2} (hop : OpR X (compareOp op) rr) (k : V2 f Γ ma mb m fn rr) (ha : XE X f Γ e ma a) (hb : XE X f Γ e2 mb b) (hm : behindInMarks op e2 = false) : XE X f Γ (.Compare e [op] [e2] pos) m (eP2 fn a b) :=
  PE.mono (pe_cmpR hop ha hb hm) fun σ H Q ⟨ρ, gh, R, q⟩ => RE.two R q fun d1 d2 ρ2 v1 v2 H2 L1 L2 R2 o1 o2 w => k σ gh ρ2 H2 d1 d2 v1 v2 L1 L2 Q R2 o1 o2 w
/-- a bool's answer as a test's -/
theorem ObT.of {σ : L2.St} {gh : Nat → List Addr} {H : Hp} {Q : Bool → Hp → Prop} {ρ : Env} {m : Md} {t : EM D} (h : ObT f Γ gh σ H ((do let x ← t; match x with | .bl b => Pure.pure b | _ => M.stuck : EM Bool) ρ) Q) (hm : ∀ b v (H' : Hp) L, VO f.g (f.oc σ) (Bo f Γ) (Bx f Γ gh) H' m (.bl b) v L → v = .bl b) :
    Ob f Γ m gh σ H (t ρ) (fun x H' => ∃ k, x = .bl k ∧ Q k H') := by
  rw [bind_ap] at h
  cases e : t ρ with
  | ok d ρ' =>
    rw [e] at h
    intro v H' L R' k' vo n
    cases d with
    | bl b => exact ⟨b, hm b v H' L vo, h H' R' k'⟩
    | _ => exact h.elim
  | exn x ρ' => rw [e] at h; exact h
  | stuck => rw [e] at h; exact h
theorem own_bl {g : G} {oc : Addr → V → Prop} {S B : Addr → Prop} {U : List Nat} (b : Bool) (v : V) (H' : Hp) (L : List Addr) (h : VO g oc S B H' (.own U) (.bl b) v L) : v = .bl b := by
  simp only [VO, Ow] at h; exact h.2
theorem bor_bl {g : G} {oc : Addr → V → Prop} {S B : Addr → Prop} (b : Bool) (v : V) (H' : Hp) (L : List Addr) (h : VO g oc S B H' .bor (.bl b) v L) : v = .bl b := by
  simp only [VO, Sh] at h; exact h.2
/-- an expression of a bool as a test -/
theorem xt_val (h : XE X f Γ e .bor a) (he : ∀ whole, isTrue e X.env whole = (do let v ← whole; standAt e.pos; holding [v] (truthy v)) := by intro _; rfl) : XT X f Γ e (tB a) :=
  PT.mono (pt_val h he) fun σ H Q ⟨ρ, gh, R, q⟩ => ⟨ρ, gh, R, ObT.of q bor_bl⟩
theorem xt_cmp {op : CmpOp} {fn : D → D → P D} {rr : R2} (hop : OpR X (compareOp op) rr) (k : V2 f Γ ma mb (.own []) fn rr) (ha : XE X f Γ e ma a) (hb : XE X f Γ e2 mb b) (hm : behindInMarks op e2 = false) : XT X f Γ (.Compare e [op] [e2] pos) (tB (eP2 fn a b)) :=
  PT.mono (pt_cmpR hop ha hb hm) fun σ H Q ⟨ρ, gh, R, q⟩ => by
    have q' : Ob f Γ (.own []) gh σ H (eP2 fn a b ρ) (fun x H' => ∃ k, x = .bl k ∧ Q k H') := ObT.of q own_bl
    exact RE.two R q' fun d1 d2 ρ2 v1 v2 H2 L1 L2 R2 o1 o2 w => k σ gh ρ2 H2 d1 d2 v1 v2 L1 L2 _ R2 o1 o2 w
/-! ### and, or, not, if .. else -/
variable {ta tb : EM Bool} {rest : List Expr}
theorem RT.fst {σ : L2.St} {H : Hp} {k : Bool → EM Bool} {Q Q' : Bool → Hp → Prop} {ρ : Env} {gh : Nat → List Addr} (R : Rel f Γ ρ gh σ H) (w : ObT f Γ gh σ H ((ta >>= k) ρ) Q)
    (step : ∀ b ρ' H', Rel f Γ ρ' gh σ H' → Kp (Sx f Γ) H H' → ObT f Γ gh σ H' (k b ρ') Q → Q' b H') : RT f Γ ta σ H Q' := by
  refine ⟨ρ, gh, R, ?_⟩
  rw [bind_ap] at w
  cases e : ta ρ with
  | ok b ρ' => rw [e] at w; exact fun H' R' k' => step b ρ' H' R' k' (ObT.shift w k')
  | exn x ρ' => rw [e] at w; exact w
  | stuck => rw [e] at w; exact w
theorem RT.fstE {σ : L2.St} {H : Hp} {k : Bool → EM D} {Q : VK} {Q' : Bool → Hp → Prop} {ρ : Env} {gh : Nat → List Addr} (R : Rel f Γ ρ gh σ H) (w : Ob f Γ m gh σ H ((ta >>= k) ρ) Q)
    (step : ∀ b ρ' H', Rel f Γ ρ' gh σ H' → Kp (Sx f Γ) H H' → Ob f Γ m gh σ H' (k b ρ') Q → Q' b H') : RT f Γ ta σ H Q' := by
  refine ⟨ρ, gh, R, ?_⟩
  rw [bind_ap] at w
  cases e : ta ρ with
  | ok b ρ' => rw [e] at w; exact fun H' R' k' => step b ρ' H' R' k' (Ob.shift w k')
  | exn x ρ' => rw [e] at w; exact w
  | stuck => rw [e] at w; exact w
theorem xt_not (h : XT X f Γ e ta) : XT X f Γ (.UnaryOp .Not e pos) (tNot ta) :=
  PT.mono (pt_not h) fun σ H Q ⟨ρ, gh, R, q⟩ => by
    have q' : ObT f Γ gh σ H ((ta >>= fun x => Pure.pure (!x)) ρ) Q := q
    exact RT.fst R q' fun b ρ' H' R' k' w => (show ObT f Γ gh σ H' (.ok (!b) ρ') Q from w) H' R' Kp.refl
theorem xw_one {op : BoolOp} (h : XT X f Γ e ta) : XW X f Γ (.BoolOp op [e] pos) ta := by
  cases op with
  | And => exact pw_and1 h
  | Or => exact pw_or1 h
theorem xw_and (ha : XT X f Γ e ta) (hb : XW X f Γ (.BoolOp .And (e2 :: rest) pos) tb) : XW X f Γ (.BoolOp .And (e :: e2 :: rest) pos) (tAnd ta tb) :=
  PW.mono (pw_and ha hb) fun σ H Q ⟨ρ, gh, R, q⟩ => by
    have q' : ObT f Γ gh σ H ((ta >>= fun x => if x = true then tb else Pure.pure false) ρ) Q := q
    refine RT.fst R q' fun b ρ' H' R' k' w => ?_
    cases b with
    | true => exact ⟨ρ', gh, R', w⟩
    | false => exact (show ObT f Γ gh σ H' (.ok false ρ') Q from w) H' R' Kp.refl
theorem xw_or (ha : XT X f Γ e ta) (hb : XW X f Γ (.BoolOp .Or (e2 :: rest) pos) tb) : XW X f Γ (.BoolOp .Or (e :: e2 :: rest) pos) (tOr ta tb) :=
  PW.mono (pw_or ha hb) fun σ H Q ⟨ρ, gh, R, q⟩ => by
    have q' : ObT f Γ gh σ H ((ta >>= fun x => if x = true then Pure.pure true else tb) ρ) Q := q
    refine RT.fst R q' fun b ρ' H' R' k' w => ?_
    cases b with
    | true => exact (show ObT f Γ gh σ H' (.ok true ρ') Q from w) H' R' Kp.refl
    | false => exact ⟨ρ', gh, R', w⟩
/-- as values: all but the last are bools -/
def eAnd (a b : EM D) : EM D := do
  let x ← a
  match x with
  | .bl true => b
  | .bl false => Pure.pure (.bl false)
  | _ => M.stuck
def eOr (a b : EM D) : EM D := do
  let x ← a
  match x with
  | .bl true => Pure.pure (.bl true)
  | .bl false => b
  | _ => M.stuck
def eNot (a : EM D) : EM D := do
  let x ← a
  match x with
  | .bl b => Pure.pure (.bl (!b))
  | _ => M.stuck
instance {j : Nat} (a b : EM D) [Pu j a] [Pu j b] : Pu j (eAnd a b) := Pu.bind ‹_› fun x => by
  cases x with
  | bl v => cases v <;> infer_instance
  | _ => infer_instance
instance {j : Nat} (a b : EM D) [Pu j a] [Pu j b] : Pu j (eOr a b) := Pu.bind ‹_› fun x => by
  cases x with
  | bl v => cases v <;> infer_instance
  | _ => infer_instance
instance {j : Nat} (a : EM D) [Pu j a] : Pu j (eNot a) := Pu.bind ‹_› fun x => by cases x <;> infer_instance
theorem xe_one {op : BoolOp} (h : XE X f Γ e m a) : XE X f Γ (.BoolOp op [e] pos) m a := pe_one h
theorem xe_and (ha : XE X f Γ e .bor a) (hb : XE X f Γ (.BoolOp .And (e2 :: rest) pos) (.own []) b) : XE X f Γ (.BoolOp .And (e :: e2 :: rest) pos) (.own []) (eAnd a b) :=
  PE.mono (pe_and ha hb) fun σ H Q ⟨ρ, gh, R, q⟩ => by
    refine RE.fst R (show Ob f Γ (.own []) gh σ H ((a >>= fun x => match x with | .bl true => b | .bl false => Pure.pure (.bl false) | _ => M.stuck) ρ) Q from q) fun d ρ' v H' L R' k' vo n w => ?_
    cases d with
    | bl x =>
      refine ⟨x, bor_bl x v H' L vo, ?_⟩
      cases x with
      | true => exact ⟨ρ', gh, R', w⟩
      | false => exact (show Ob f Γ (.own []) gh σ H' (.ok (.bl false) ρ') Q from w).flat R' rfl
    | _ => exact w.elim
theorem xe_or (ha : XE X f Γ e .bor a) (hb : XE X f Γ (.BoolOp .Or (e2 :: rest) pos) (.own []) b) : XE X f Γ (.BoolOp .Or (e :: e2 :: rest) pos) (.own []) (eOr a b) :=
  PE.mono (pe_or ha hb) fun σ H Q ⟨ρ, gh, R, q⟩ => by
    refine RE.fst R (show Ob f Γ (.own []) gh σ H ((a >>= fun x => match x with | .bl true => Pure.pure (.bl true) | .bl false => b | _ => M.stuck) ρ) Q from q) fun d ρ' v H' L R' k' vo n w => ?_
    cases d with
    | bl x =>
      refine ⟨x, bor_bl x v H' L vo, ?_⟩
      cases x with
      | true => exact (show Ob f Γ (.own []) gh σ H' (.ok (.bl true) ρ') Q from w).flat R' rfl
      | false => exact ⟨ρ', gh, R', w⟩
    | _ => exact w.elim
theorem xe_not (ha : XE X f Γ e .bor a) : XE X f Γ (.UnaryOp .Not e pos) (.own []) (eNot a) :=
  PE.mono (pe_not ha) fun σ H Q ⟨ρ, gh, R, q⟩ => by
    refine RE.fst R (show Ob f Γ (.own []) gh σ H ((a >>= fun x => match x with | .bl b => Pure.pure (.bl (!b)) | _ => M.stuck) ρ) Q from q) fun d ρ' v H' L R' k' vo n w => ?_
    cases d with
    | bl x => exact ⟨x, bor_bl x v H' L vo, (show Ob f Γ (.own []) gh σ H' (.ok (.bl (!x)) ρ') Q from w).flat R' rfl⟩
    | _ => exact w.elim
theorem xe_if {ce : Expr} (hc : XT X f Γ ce ta) (ha : XE X f Γ e m a) (hb : XE X f Γ e2 m b) : XE X f Γ (.IfExp ce e e2 pos) m (eIf ta a b) :=
  PE.mono (pe_ifExp hc ha hb) fun σ H Q ⟨ρ, gh, R, q⟩ => by
    refine RT.fstE R (show Ob f Γ m gh σ H ((ta >>= fun x => if x = true then a else b) ρ) Q from q) fun x ρ' H' R' k' w => ?_
    cases x with
    | true => exact ⟨ρ', gh, R', w⟩
    | false => exact ⟨ρ', gh, R', w⟩
/-! ### ints -/
theorem V2.int {C : Int → Int → Prop} {gv : Int → Int → V} {Cb : Int → Int → Bool} {h : Int → Int → D} (hC : ∀ i j, Cb i j = true → C i j) (hh : ∀ i j, isFlat (h i j) = true ∧ flatV (h i j) = gv i j) : V2 f Γ .bor .bor (.own []) (intOp Cb h) (rI C gv) :=
  fun σ gh ρ H d1 d2 v1 v2 L1 L2 Q R o1 o2 w => by
    unfold intOp at w
    split at w
    · rename_i i j
      by_cases c : Cb i j = true
      · rw [if_pos c] at w
        refine ⟨i, j, bor_int o1, bor_int o2, hC i j c, ?_⟩
        rw [← (hh i j).2]
        exact (show Ob f Γ (.own []) gh σ H (.ok (h i j) ρ) Q from w).flat R (hh i j).1
      · rw [if_neg c] at w
        exact w.elim
    · exact w.elim
theorem V2.int0 {gv : Int → Int → V} {h : Int → Int → D} (hh : ∀ i j, isFlat (h i j) = true ∧ flatV (h i j) = gv i j) : V2 f Γ .bor .bor (.own []) (intOp (fun _ _ => true) h) (rI0 gv) :=
  fun σ gh ρ H d1 d2 v1 v2 L1 L2 Q R o1 o2 w => by
    unfold intOp at w
    split at w
    · rename_i i j
      refine ⟨i, j, bor_int o1, bor_int o2, ?_⟩
      rw [← (hh i j).2]
      exact (show Ob f Γ (.own []) gh σ H (.ok (h i j) ρ) Q from w).flat R (hh i j).1
    · exact w.elim
/-- * : together below a million bits -/
def mulI : D → D → P D := intOp (fun i j => decide (i.natAbs.log2 + j.natAbs.log2 < 1000000)) fun i j => .int (i * j)
/-- // : by a positive divisor -/
def divI : D → D → P D := intOp (fun _ j => decide (0 < j) && decide (j.natAbs.log2 < 9000)) fun i j => .int (i / j)
/-- // : by any small one -/
def fdivI : D → D → P D := intOp (fun _ j => decide (j ≠ 0) && decide (j.natAbs < 1073741824)) fun i j => .int (i.fdiv j)
def modI : D → D → P D := intOp (fun _ j => decide (0 < j)) fun i j => .int (i % j)
def fmodI : D → D → P D := intOp (fun _ j => decide (j ≠ 0)) fun i j => .int (i.fmod j)
def powI : D → D → P D := intOp (fun i j => decide (0 ≤ j) && (decide (j ≤ 1000000) && decide (i.natAbs < 2 ^ 64))) fun i j => .int (i ^ j.toNat)
theorem xe_mul (ha : XE X f Γ e .bor a) (hb : XE X f Γ e2 .bor b) : XE X f Γ (.BinOp e .Mult e2 pos) (.own []) (eP2 mulI a b) := xe_bin op_mulW (V2.int (fun i j h => show i.natAbs.log2 + j.natAbs.log2 < 1000000 from of_decide_eq_true h) fun _ _ => ⟨rfl, rfl⟩) ha hb
theorem xe_div (ha : XE X f Γ e .bor a) (hb : XE X f Γ e2 .bor b) : XE X f Γ (.BinOp e .FloorDiv e2 pos) (.own []) (eP2 divI a b) := xe_bin op_fdivW (V2.int (fun i j h => by simp only [Bool.and_eq_true, decide_eq_true_eq] at h; exact h) fun _ _ => ⟨rfl, rfl⟩) ha hb
theorem xe_fdiv (ha : XE X f Γ e .bor a) (hb : XE X f Γ e2 .bor b) : XE X f Γ (.BinOp e .FloorDiv e2 pos) (.own []) (eP2 fdivI a b) := xe_bin op_fdivN (V2.int (fun i j h => by simp only [Bool.and_eq_true, decide_eq_true_eq] at h; exact h) fun _ _ => ⟨rfl, rfl⟩) ha hb
theorem xe_mod (ha : XE X f Γ e .bor a) (hb : XE X f Γ e2 .bor b) : XE X f Γ (.BinOp e .Mod e2 pos) (.own []) (eP2 modI a b) := xe_bin op_mod (V2.int (fun i j h => of_decide_eq_true h) fun _ _ => ⟨rfl, rfl⟩) ha hb
theorem xe_fmod (ha : XE X f Γ e .bor a) (hb : XE X f Γ e2 .bor b) : XE X f Γ (.BinOp e .Mod e2 pos) (.own []) (eP2 fmodI a b) := xe_bin op_modN (V2.int (fun i j h => of_decide_eq_true h) fun _ _ => ⟨rfl, rfl⟩) ha hb
theorem xe_pow (ha : XE X f Γ e .bor a) (hb : XE X f Γ e2 .bor b) : XE X f Γ (.BinOp e .Pow e2 pos) (.own []) (eP2 powI a b) := xe_bin op_pow (V2.int (fun i j h => by simp only [Bool.and_eq_true, decide_eq_true_eq] at h; exact ⟨h.1, h.2.1, h.2.2⟩) fun _ _ => ⟨rfl, rfl⟩) ha hb
def negI : D → P D
  | .int i => Pure.pure (.int (-i))
  | _ => M.stuck
theorem xe_neg (ha : XE X f Γ e .bor a) : XE X f Γ (.UnaryOp .USub e pos) (.own []) (eP1 negI a) :=
  PE.mono (pe_un un_neg ha) fun σ H Q ⟨ρ, gh, R, q⟩ => by
    refine RE.fst R (show Ob f Γ (.own []) gh σ H ((a >>= fun x => lift (negI x)) ρ) Q from q) fun d ρ' v H' L R' k' vo n w => ?_
    cases d with
    | int i => exact ⟨i, bor_int vo, (show Ob f Γ (.own []) gh σ H' (.ok (.int (-i)) ρ') Q from w).flat R' rfl⟩
    | _ => exact w.elim
def ltI : D → D → P D := intOp (fun _ _ => true) fun i j => .bl (decide (i < j))
def leI : D → D → P D := intOp (fun _ _ => true) fun i j => .bl (decide (i ≤ j))
def gtI : D → D → P D := intOp (fun _ _ => true) fun i j => .bl (decide (j < i))
def geI : D → D → P D := intOp (fun _ _ => true) fun i j => .bl (decide (j ≤ i))
theorem k_lt : V2 f Γ .bor .bor (.own []) ltI (rI0 fun i j => .bl (decide (i < j))) := V2.int0 fun _ _ => ⟨rfl, rfl⟩
theorem k_le : V2 f Γ .bor .bor (.own []) leI (rI0 fun i j => .bl (decide (i ≤ j))) := V2.int0 fun _ _ => ⟨rfl, rfl⟩
theorem k_gt : V2 f Γ .bor .bor (.own []) gtI (rI0 fun i j => .bl (decide (j < i))) := V2.int0 fun _ _ => ⟨rfl, rfl⟩
theorem k_ge : V2 f Γ .bor .bor (.own []) geI (rI0 fun i j => .bl (decide (j ≤ i))) := V2.int0 fun _ _ => ⟨rfl, rfl⟩
/-! ### == of data -/
mutual
def D.toP : D → Option PyData
  | .non => some .none
  | .bl b => some (.bool b)
  | .int i => some (.int i)
  | .str x => some (.str x)
  | .lst ds => (D.toPA ds).map .list
  | .tup ds => (D.toPA ds).map .tuple
  | _ => none
def D.toPA : List D → Option (List PyData)
  | [] => some []
  | d :: ds => d.toP.bind fun x => (D.toPA ds).map fun xs => x :: xs
end
mutual
theorem Sh.dp {g : G} {cm : Addr → V → Prop} {B : Addr → Prop} {H : Hp} : ∀ (d : D) (v : V) (q : PyData), d.toP = some q → Sh g cm B H d v → Dp g.K H v q
  | .non, _, _, e, h => by simp only [D.toP] at e; cases e; simp only [Sh] at h; subst h; exact .non
  | .bl b, _, _, e, h => by simp only [D.toP] at e; cases e; simp only [Sh] at h; subst h; exact .bl b
  | .int i, _, _, e, h => by simp only [D.toP] at e; cases e; simp only [Sh] at h; subst h; exact .int i
  | .str x, _, _, e, h => by simp only [D.toP] at e; cases e; simp only [Sh] at h; subst h; exact .str x
  | .lst ds, v, q, e, h => by
    simp only [D.toP, Option.map_eq_some_iff] at e
    obtain ⟨qs, e1, rfl⟩ := e
    simp only [Sh] at h
    obtain ⟨a, vs, rfl, _, hl, r⟩ := h
    exact .lst (SqL.of hl) (ShA.dp ds vs qs e1 r)
  | .tup ds, v, q, e, h => by
    simp only [D.toP, Option.map_eq_some_iff] at e
    obtain ⟨qs, e1, rfl⟩ := e
    simp only [Sh] at h
    obtain ⟨a, vs, rfl, hl, r⟩ := h
    exact .tup hl (ShA.dp ds vs qs e1 r)
  | .dct _ _, _, _, e, _ => by simp [D.toP] at e
  | .glo _, _, _, e, _ => by simp [D.toP] at e
  | .clo _ _, _, _, e, _ => by simp [D.toP] at e
  | .lid _, _, _, e, _ => by simp [D.toP] at e
theorem ShA.dp {g : G} {cm : Addr → V → Prop} {B : Addr → Prop} {H : Hp} : ∀ (ds : List D) (vs : List V) (qs : List PyData), D.toPA ds = some qs → ShA g cm B H ds vs → DpAll g.K H vs qs
  | [], _, _, e, h => by simp only [D.toPA] at e; cases e; simp only [ShA] at h; subst h; exact .nil
  | d :: ds, vs, qs, e, h => by
    simp only [D.toPA, Option.bind_eq_some_iff, Option.map_eq_some_iff] at e
    obtain ⟨x, e1, xs, e2, rfl⟩ := e
    simp only [ShA] at h
    obtain ⟨v, r, rfl, h1, h2⟩ := h
    exact .cons (Sh.dp d v x e1 h1) (ShA.dp ds r xs e2 h2)
end
/-- whether two data are equal, as Python has it -/
def eqD (x y : D) : P D := match x.toP, y.toP with
  | some p, some q => if SeqAt.shaped p = true ∧ SeqAt.shaped q = true then Pure.pure (.bl (PyData.eqv p q)) else M.stuck
  | _, _ => M.stuck
def neD (x y : D) : P D := match x.toP, y.toP with
  | some p, some q => if SeqAt.shaped p = true ∧ SeqAt.shaped q = true then Pure.pure (.bl (!PyData.eqv p q)) else M.stuck
  | _, _ => M.stuck
theorem k_eq (hK : f.g.K = X.K) : V2 f Γ .bor .bor (.own []) eqD (rEqD X.K) := fun σ gh ρ H d1 d2 v1 v2 L1 L2 Q R o1 o2 w => by
  unfold eqD at w
  split at w
  · rename_i p q e1 e2
    by_cases c : SeqAt.shaped p = true ∧ SeqAt.shaped q = true
    · rw [if_pos c] at w
      exact ⟨p, q, hK ▸ Sh.dp d1 v1 p e1 o1.2, hK ▸ Sh.dp d2 v2 q e2 o2.2, c.1, c.2, (show Ob f Γ (.own []) gh σ H (.ok (.bl (PyData.eqv p q)) ρ) Q from w).flat R rfl⟩
    · rw [if_neg c] at w; exact w.elim
  · exact w.elim
theorem k_ne (hK : f.g.K = X.K) : V2 f Γ .bor .bor (.own []) neD (rNeD X.K) := fun σ gh ρ H d1 d2 v1 v2 L1 L2 Q R o1 o2 w => by
  unfold neD at w
  split at w
  · rename_i p q e1 e2
    by_cases c : SeqAt.shaped p = true ∧ SeqAt.shaped q = true
    · rw [if_pos c] at w
      exact ⟨p, q, hK ▸ Sh.dp d1 v1 p e1 o1.2, hK ▸ Sh.dp d2 v2 q e2 o2.2, c.1, c.2, (show Ob f Γ (.own []) gh σ H (.ok (.bl (!PyData.eqv p q)) ρ) Q from w).flat R rfl⟩
    · rw [if_neg c] at w; exact w.elim
  · exact w.elim
/-- x in xs, by == -/
def inD (x y : D) : P D := match x.toP, y with
  | some p, .lst ys | some p, .tup ys => (match D.toPA ys with
    | some qs => if SeqAt.shaped p = true ∧ SeqAt.shaped (.list qs) = true then Pure.pure (.bl (qs.any fun z => PyData.eqv z p)) else M.stuck
    | none => M.stuck)
  | _, _ => M.stuck
def ninD (x y : D) : P D := do
  let d ← inD x y
  match d with
  | .bl b => Pure.pure (.bl (!b))
  | _ => M.stuck
theorem k_in (hK : f.g.K = X.K) : V2 f Γ .bor .bor (.own []) (fun x y => match y with | .lst _ => inD x y | _ => M.stuck) (rInD X.K) := fun σ gh ρ H d1 d2 v1 v2 L1 L2 Q R o1 o2 w => by
  cases d2 with
  | lst ys =>
    unfold inD at w
    cases e1 : d1.toP with
    | none => simp only [e1] at w; exact w.elim
    | some p =>
      simp only [e1] at w
      cases e2 : D.toPA ys with
      | none => simp only [e2] at w; exact w.elim
      | some qs =>
        simp only [e2] at w
        by_cases c : SeqAt.shaped p = true ∧ SeqAt.shaped (.list qs) = true
        · rw [if_pos c] at w
          exact ⟨p, qs, hK ▸ Sh.dp d1 v1 p e1 o1.2, hK ▸ Sh.dp (.lst ys) v2 (.list qs) (by simp [D.toP, e2]) o2.2, c.1, c.2, (show Ob f Γ (.own []) gh σ H (.ok (.bl _) ρ) Q from w).flat R rfl⟩
        · rw [if_neg c] at w; exact w.elim
  | _ => exact w.elim
/-! ### is None -/
def D.isNon : D → Bool
  | .non => true
  | _ => false
def isN (x y : D) : P D := match y with
  | .non => Pure.pure (.bl x.isNon)
  | _ => M.stuck
def notN (x y : D) : P D := match y with
  | .non => Pure.pure (.bl (!x.isNon))
  | _ => M.stuck
theorem bor_non {σ : L2.St} {gh : Nat → List Addr} {H : Hp} {d : D} {v : V} {L : List Addr} (h : VO f.g (f.oc σ) (Bo f Γ) (Bx f Γ gh) H .bor d v L) : decide (v = .non) = d.isNon := by
  obtain ⟨_, h⟩ := h
  cases d <;> simp only [Sh] at h
  case non => subst h; rfl
  case bl b => subst h; rfl
  case int i => subst h; rfl
  case str x => subst h; rfl
  case lst ds => obtain ⟨a, _, rfl, _⟩ := h; rfl
  case lid ds => obtain ⟨a, _, rfl, _⟩ := h; rfl
  case tup ds => obtain ⟨a, _, rfl, _⟩ := h; rfl
  case dct ks ds => obtain ⟨a, _, rfl, _⟩ := h; rfl
  case glo x => obtain ⟨a, _, rfl⟩ := h; rfl
  case clo c ds => obtain ⟨a, _, _, _, rfl, _⟩ := h; rfl
theorem k_isN : V2 f Γ .bor .bor (.own []) isN (fun x y H Q => y = .non ∧ Q (.bl (decide (x = .non))) H) := fun σ gh ρ H d1 d2 v1 v2 L1 L2 Q R o1 o2 w => by
  cases d2 with
  | non =>
    refine ⟨by simpa only [Sh] using o2.2, ?_⟩
    rw [bor_non o1]
    exact (show Ob f Γ (.own []) gh σ H (.ok (.bl d1.isNon) ρ) Q from w).flat R rfl
  | _ => exact w.elim
theorem k_notN : V2 f Γ .bor .bor (.own []) notN (fun x y H Q => y = .non ∧ Q (.bl (!decide (x = .non))) H) := fun σ gh ρ H d1 d2 v1 v2 L1 L2 Q R o1 o2 w => by
  cases d2 with
  | non =>
    refine ⟨by simpa only [Sh] using o2.2, ?_⟩
    rw [bor_non o1]
    exact (show Ob f Γ (.own []) gh σ H (.ok (.bl (!d1.isNon)) ρ) Q from w).flat R rfl
  | _ => exact w.elim
end
end PP
-- PP8
/-! PP8: lists, tuples, built-ins of one or two values. -/
namespace PP
open PySem PySem.Spec PyProof.Rows L2
section
variable {X : Cx} {f : Fr} {Γ : List Kd} {es : List Expr} {ms : List Md} {a b c : EM D} {r : EM (List D)} {pos p : Pos} {e e2 e3 : Expr} {m ma mb : Md} {x : Str} {bid T : String}
/-! ### built-ins by their names -/
theorem xe_bi {rr : List V → Hp → VK → Prop} {fn : D → P D} (hc : CallR X (.builtin bid) rr) (k : V1 f Γ ma m fn fun v H Q => rr [v] H Q) (ha : XE X f Γ e ma a) (hm : X.mg x = none) (hv : bootBuiltins x = some (.builtin bid)) (hg : Gl X x := by rfl) (hn : x ≠ "__name__" := by decide) (hdb : (x == ("__debug__" : Str)) = false := by decide)
    (he : starEach (e :: []) X.env = (false, eval e X.env) :: starEach [] X.env := by rfl) (hpl : (backTo pos (starEach [] X.env)).any (·.1) = false := by rfl) : XE X f Γ (.Call (.Name x p) [e] [] pos) m (eP1 fn a) :=
  PE.mono (pe_callB hc hg hm hv (pa_cons ha pa_nil he) hn hdb he hpl) fun σ H Q ⟨ρ, gh, R, q⟩ =>
    RE.fst R (show Ob f Γ m gh σ H ((a >>= fun x => lift (fn x)) ρ) Q from q) fun d ρ' v H' L R' k' vo n w => k σ gh ρ' H' d v L Q R' vo w
theorem xe_ty {rr : List V → Hp → VK → Prop} {fn : D → P D} (hc : CallR X (.type T) rr) (k : V1 f Γ ma m fn fun v H Q => rr [v] H Q) (ha : XE X f Γ e ma a) (hm : X.mg x = none) (hv : bootBuiltins x = some (.type T)) (hg : Gl X x := by rfl) (hn : x ≠ "__name__" := by decide) (hdb : (x == ("__debug__" : Str)) = false := by decide)
    (he : starEach (e :: []) X.env = (false, eval e X.env) :: starEach [] X.env := by rfl) (hpl : (backTo pos (starEach [] X.env)).any (·.1) = false := by rfl) : XE X f Γ (.Call (.Name x p) [e] [] pos) m (eP1 fn a) :=
  PE.mono (pe_callTy hc hg hm hv (pa_cons ha pa_nil he) hn hdb he hpl) fun σ H Q ⟨ρ, gh, R, q⟩ =>
    RE.fst R (show Ob f Γ m gh σ H ((a >>= fun x => lift (fn x)) ρ) Q from q) fun d ρ' v H' L R' k' vo n w => k σ gh ρ' H' d v L Q R' vo w
theorem xe_bi2 {rr : List V → Hp → VK → Prop} {fn : D → D → P D} (hc : CallR X (.builtin bid) rr) (k : V2 f Γ ma mb m fn fun v w H Q => rr [v, w] H Q) (ha : XE X f Γ e ma a) (hb : XE X f Γ e2 mb b) (hm : X.mg x = none) (hv : bootBuiltins x = some (.builtin bid)) (hg : Gl X x := by rfl) (hn : x ≠ "__name__" := by decide) (hdb : (x == ("__debug__" : Str)) = false := by decide)
    (he2 : starEach (e2 :: []) X.env = (false, eval e2 X.env) :: starEach [] X.env := by rfl) (he : starEach (e :: [e2]) X.env = (false, eval e X.env) :: starEach [e2] X.env := by rfl) (hpl : (backTo pos (starEach [e2] X.env)).any (·.1) = false := by rfl) : XE X f Γ (.Call (.Name x p) [e, e2] [] pos) m (eP2 fn a b) :=
  PE.mono (pe_callB hc hg hm hv (pa_cons ha (pa_cons hb pa_nil he2) he) hn hdb he hpl) fun σ H Q ⟨ρ, gh, R, q⟩ =>
    RE.two (rr := fun v w H Q => rr [v, w] H Q) R q fun d1 d2 ρ2 v1 v2 H2 L1 L2 R2 o1 o2 w => k σ gh ρ2 H2 d1 d2 v1 v2 L1 L2 Q R2 o1 o2 w
/-! ### what stands behind a list -/
theorem bor_lst {σ : L2.St} {gh : Nat → List Addr} {H : Hp} {ds : List D} {v : V} {L : List Addr} (h : VO f.g (f.oc σ) (Bo f Γ) (Bx f Γ gh) H .bor (.lst ds) v L) : ∃ a vs, v = .ref a ∧ H a = some (.lst vs) ∧ ShA f.g nc (Bo f Γ) H ds vs := by
  obtain ⟨_, h⟩ := h
  simp only [Sh] at h
  obtain ⟨a, vs, e, _, q, r⟩ := h
  exact ⟨a, vs, e, q, r⟩
theorem bor_tup {σ : L2.St} {gh : Nat → List Addr} {H : Hp} {ds : List D} {v : V} {L : List Addr} (h : VO f.g (f.oc σ) (Bo f Γ) (Bx f Γ gh) H .bor (.tup ds) v L) : ∃ a vs, v = .ref a ∧ SqT f.g.K H a vs ∧ ShA f.g nc (Bo f Γ) H ds vs := by
  obtain ⟨_, h⟩ := h
  simpa only [Sh] using h
theorem bs_lst {σ : L2.St} {gh : Nat → List Addr} {H : Hp} {ds : List D} {v : V} {L : List Addr} (h : VO f.g (f.oc σ) (Bo f Γ) (Bx f Γ gh) H .bs (.lst ds) v L) : ∃ a vs, v = .ref a ∧ H a = some (.lst vs) ∧ ShA f.g nc (Bx f Γ gh) H ds vs := by
  rcases h.2 with q | ⟨a, ds', vs, e, e2, _, q, r⟩ | ⟨_, _, _, _, e, _⟩
  · simp only [Sh] at q
    obtain ⟨a, vs, e, _, q, r⟩ := q
    exact ⟨a, vs, e, q, r⟩
  · cases e; exact ⟨a, vs, e2, q, r⟩
  · cases e
theorem bs_tup {σ : L2.St} {gh : Nat → List Addr} {H : Hp} {ds : List D} {v : V} {L : List Addr} (h : VO f.g (f.oc σ) (Bo f Γ) (Bx f Γ gh) H .bs (.tup ds) v L) : ∃ a vs, v = .ref a ∧ SqT f.g.K H a vs ∧ ShA f.g nc (Bx f Γ gh) H ds vs := by
  rcases h.2 with q | ⟨a, ds', vs, e, e2, _, q, r⟩ | ⟨_, _, _, _, e, _⟩
  · simpa only [Sh] using q
  · cases e
  · cases e
theorem bor_str {g : G} {oc : Addr → V → Prop} {S B : Addr → Prop} {H : Hp} {i : Str} {v : V} {L : List Addr} (h : VO g oc S B H .bor (.str i) v L) : v = .str i := by
  obtain ⟨_, h⟩ := h
  simpa only [Sh] using h
theorem bs_str {g : G} {oc : Addr → V → Prop} {S B : Addr → Prop} {H : Hp} {i : Str} {v : V} {L : List Addr} (h : VO g oc S B H .bs (.str i) v L) : v = .str i := by
  rcases h.2 with q | ⟨a, ds', vs, e, e2, _, q, r⟩ | ⟨_, _, _, _, e, _⟩
  · simpa only [Sh] using q
  · cases e
  · cases e
/-! ### len -/
def lenD : D → P D
  | .lst ds | .tup ds => Pure.pure (.int ds.length)
  | .str z => if z.length ≤ sizeLine then Pure.pure (.int z.length) else M.stuck
  | _ => M.stuck
theorem k_len (hK : f.g.K = X.K) : V1 f Γ .bor (.own []) lenD fun v H Q => ∃ x n, [v] = [x] ∧ LenV X.K x H n ∧ Q (.int n) H := fun σ gh ρ H d v L Q R o w => by
  cases d with
  | lst ds =>
    obtain ⟨a, vs, rfl, q, r⟩ := bor_lst o
    refine ⟨_, ds.length, rfl, .inl ⟨vs, SqL.of q, r.length.symm⟩, (show Ob f Γ (.own []) gh σ H (.ok (.int ds.length) ρ) Q from w).flat R rfl⟩
  | tup ds =>
    obtain ⟨a, vs, rfl, q, r⟩ := bor_tup o
    refine ⟨_, ds.length, rfl, .inr ⟨vs, hK ▸ q, r.length.symm⟩, (show Ob f Γ (.own []) gh σ H (.ok (.int ds.length) ρ) Q from w).flat R rfl⟩
  | str z =>
    cases bor_str o
    by_cases c : z.length ≤ sizeLine
    · simp only [lenD, if_pos c] at w
      exact ⟨_, z.length, rfl, ⟨c, rfl⟩, (show Ob f Γ (.own []) gh σ H (.ok (.int z.length) ρ) Q from w).flat R rfl⟩
    · simp only [lenD, if_neg c] at w; exact w.elim
  | _ => exact w.elim
/-! ### numbers -/
def absI : D → P D
  | .int i => Pure.pure (.int (if i < 0 then -i else i))
  | _ => M.stuck
theorem k_abs : V1 f Γ .bor (.own []) absI fun v H Q => ∃ i, [v] = [V.int i] ∧ Q (.int (if i < 0 then -i else i)) H := fun σ gh ρ H d v L Q R o w => by
  cases d with
  | int i => cases bor_int o; exact ⟨i, rfl, (show Ob f Γ (.own []) gh σ H (.ok (.int _) ρ) Q from w).flat R rfl⟩
  | _ => exact w.elim
def intI : D → P D
  | .int i => Pure.pure (.int i)
  | .bl k => Pure.pure (.int (if k then 1 else 0))
  | _ => M.stuck
theorem k_int : V1 f Γ .bor (.own []) intI fun v H Q => (∃ i, [v] = [V.int i] ∧ Q (.int i) H) ∨ ∃ k, [v] = [V.bl k] ∧ Q (.int (if k then 1 else 0)) H := fun σ gh ρ H d v L Q R o w => by
  cases d with
  | int i => cases bor_int o; exact .inl ⟨i, rfl, (show Ob f Γ (.own []) gh σ H (.ok (.int _) ρ) Q from w).flat R rfl⟩
  | bl k => cases bor_bl k v H L o; exact .inr ⟨k, rfl, (show Ob f Γ (.own []) gh σ H (.ok (.int _) ρ) Q from w).flat R rfl⟩
  | _ => exact w.elim
def max2I : D → D → P D := intOp (fun _ _ => true) fun i j => .int (if j > i then j else i)
def min2I : D → D → P D := intOp (fun _ _ => true) fun i j => .int (if j < i then j else i)
theorem k_max2 : V2 f Γ .bor .bor (.own []) max2I fun v w H Q => ∃ i j, [v, w] = [V.int i, V.int j] ∧ Q (.int (if j > i then j else i)) H := fun σ gh ρ H d1 d2 v1 v2 L1 L2 Q R o1 o2 w => by
  unfold max2I intOp at w
  split at w
  · rename_i i j
    cases bor_int o1; cases bor_int o2
    exact ⟨i, j, rfl, (show Ob f Γ (.own []) gh σ H (.ok (.int _) ρ) Q from w).flat R rfl⟩
  · exact w.elim
theorem k_min2 : V2 f Γ .bor .bor (.own []) min2I fun v w H Q => ∃ i j, [v, w] = [V.int i, V.int j] ∧ Q (.int (if j < i then j else i)) H := fun σ gh ρ H d1 d2 v1 v2 L1 L2 Q R o1 o2 w => by
  unfold min2I intOp at w
  split at w
  · rename_i i j
    cases bor_int o1; cases bor_int o2
    exact ⟨i, j, rfl, (show Ob f Γ (.own []) gh σ H (.ok (.int _) ρ) Q from w).flat R rfl⟩
  · exact w.elim
/-- a list of ints, of bools -/
def intsD : List D → Option (List Int)
  | [] => some []
  | .int i :: r => (intsD r).map fun xs => i :: xs
  | _ => none
def blsD : List D → Option (List Bool)
  | [] => some []
  | .bl b :: r => (blsD r).map fun xs => b :: xs
  | _ => none
theorem ShA.ints {g : G} {cm : Addr → V → Prop} {B : Addr → Prop} {H : Hp} : ∀ {ds : List D} {vs : List V} {ns : List Int}, intsD ds = some ns → ShA g cm B H ds vs → vs = ns.map V.int
  | [], _, _, e, h => by simp only [intsD] at e; cases e; simp only [ShA] at h; subst h; rfl
  | d :: ds, vs, ns, e, h => by
    simp only [ShA] at h
    obtain ⟨v, q, rfl, h1, h2⟩ := h
    cases d with
    | int i =>
      simp only [intsD, Option.map_eq_some_iff] at e
      obtain ⟨xs, e1, rfl⟩ := e
      simp only [Sh] at h1
      rw [h1, ShA.ints e1 h2]; rfl
    | _ => simp [intsD] at e
theorem ShA.bls {g : G} {cm : Addr → V → Prop} {B : Addr → Prop} {H : Hp} : ∀ {ds : List D} {vs : List V} {ns : List Bool}, blsD ds = some ns → ShA g cm B H ds vs → vs = ns.map V.bl
  | [], _, _, e, h => by simp only [blsD] at e; cases e; simp only [ShA] at h; subst h; rfl
  | d :: ds, vs, ns, e, h => by
    simp only [ShA] at h
    obtain ⟨v, q, rfl, h1, h2⟩ := h
    cases d with
    | bl i =>
      simp only [blsD, Option.map_eq_some_iff] at e
      obtain ⟨xs, e1, rfl⟩ := e
      simp only [Sh] at h1
      rw [h1, ShA.bls e1 h2]; rfl
    | _ => simp [blsD] at e
def onInts (h : List Int → P D) : D → P D
  | .lst ds => (match intsD ds with
    | some ns => h ns
    | none => M.stuck)
  | _ => M.stuck
def onBls (h : List Bool → P D) : D → P D
  | .lst ds => (match blsD ds with
    | some ns => h ns
    | none => M.stuck)
  | _ => M.stuck
def sumL : D → P D := onInts fun ns => Pure.pure (.int ns.sum)
def maxI : List Int → Int
  | [] => 0
  | [n] => n
  | n :: r => max n (maxI r)
def minI : List Int → Int
  | [] => 0
  | [n] => n
  | n :: r => min n (minI r)
theorem maxI_is : ∀ {ns : List Int} {m : Int}, m ∈ ns → (∀ y, y ∈ ns → y ≤ m) → maxI ns = m
  | [], _, h, _ => by cases h
  | [n], m, h, _ => by
    have : m = n := by simpa using h
    exact this.symm
  | n :: n2 :: r, m, h, hb => by
    show max n (maxI (n2 :: r)) = m
    have mem : maxI (n2 :: r) ∈ n2 :: r := by
      have : ∀ (l : List Int), l ≠ [] → maxI l ∈ l := by
        intro l
        induction l with
        | nil => intro q; exact absurd rfl q
        | cons a t ih =>
          intro _
          cases t with
          | nil => exact List.mem_cons_self
          | cons b u =>
            show max a (maxI (b :: u)) ∈ _
            have := ih (by simp)
            rw [Int.max_def]
            split
            · exact List.mem_cons_of_mem _ this
            · exact List.mem_cons_self
      exact this _ (by simp)
    have ub : ∀ (l : List Int) (y : Int), y ∈ l → y ≤ maxI l := by
      intro l
      induction l with
      | nil => intro y hy; cases hy
      | cons a t ih =>
        intro y hy
        cases t with
        | nil => have : y = a := by simpa using hy
                 rw [this]; exact Int.le_refl _
        | cons b u =>
          show y ≤ max a (maxI (b :: u))
          rcases List.mem_cons.mp hy with rfl | hy
          · omega
          · have := ih y hy; omega
    have h1 := hb n (by simp)
    have h2 := hb _ (List.mem_cons_of_mem _ mem)
    rcases List.mem_cons.mp h with rfl | h
    · omega
    · have := ub _ m h; omega
theorem minI_is : ∀ {ns : List Int} {m : Int}, m ∈ ns → (∀ y, y ∈ ns → m ≤ y) → minI ns = m
  | [], _, h, _ => by cases h
  | [n], m, h, _ => by
    have : m = n := by simpa using h
    exact this.symm
  | n :: n2 :: r, m, h, hb => by
    show min n (minI (n2 :: r)) = m
    have mem : minI (n2 :: r) ∈ n2 :: r := by
      have : ∀ (l : List Int), l ≠ [] → minI l ∈ l := by
        intro l
        induction l with
        | nil => intro q; exact absurd rfl q
        | cons a t ih =>
          intro _
          cases t with
          | nil => exact List.mem_cons_self
          | cons b u =>
            show min a (minI (b :: u)) ∈ _
            have := ih (by simp)
            rw [Int.min_def]
            split
            · exact List.mem_cons_self
            · exact List.mem_cons_of_mem _ this
      exact this _ (by simp)
    have ub : ∀ (l : List Int) (y : Int), y ∈ l → minI l ≤ y := by
      intro l
      induction l with
      | nil => intro y hy; cases hy
      | cons a t ih =>
        intro y hy
        cases t with
        | nil => have : y = a := by simpa using hy
                 rw [this]; exact Int.le_refl _
        | cons b u =>
          show min a (minI (b :: u)) ≤ y
          rcases List.mem_cons.mp hy with rfl | hy
          · omega
          · have := ih y hy; omega
    have h1 := hb n (by simp)
    have h2 := hb _ (List.mem_cons_of_mem _ mem)
    rcases List.mem_cons.mp h with rfl | h
    · omega
    · have := ub _ m h; omega
def maxL : D → P D := onInts fun ns => if ns = [] then M.stuck else Pure.pure (.int (maxI ns))
def minL : D → P D := onInts fun ns => if ns = [] then M.stuck else Pure.pure (.int (minI ns))
def allB : D → P D := onBls fun bs => Pure.pure (.bl (bs.all id))
def anyB : D → P D := onBls fun bs => Pure.pure (.bl (bs.any id))
theorem onInts_k {h : List Int → P D} {σ : L2.St} {gh : Nat → List Addr} {ρ : Env} {H : Hp} {d : D} {v : V} {L : List Addr} {Q : VK} (o : VO f.g (f.oc σ) (Bo f Γ) (Bx f Γ gh) H .bor d v L) (w : Ob f Γ m gh σ H ((lift (onInts h d) : EM D) ρ) Q) :
    ∃ a ns, v = .ref a ∧ H a = some (.lst (ns.map V.int)) ∧ Ob f Γ m gh σ H ((lift (h ns) : EM D) ρ) Q := by
  cases d with
  | lst ds =>
    obtain ⟨a, vs, rfl, q, r⟩ := bor_lst o
    unfold onInts at w
    cases e : intsD ds with
    | none => simp only [e] at w; exact w.elim
    | some ns =>
      simp only [e] at w
      rw [ShA.ints e r] at q
      exact ⟨a, ns, rfl, q, w⟩
  | _ => exact w.elim
theorem onBls_k {h : List Bool → P D} {σ : L2.St} {gh : Nat → List Addr} {ρ : Env} {H : Hp} {d : D} {v : V} {L : List Addr} {Q : VK} (o : VO f.g (f.oc σ) (Bo f Γ) (Bx f Γ gh) H .bor d v L) (w : Ob f Γ m gh σ H ((lift (onBls h d) : EM D) ρ) Q) :
    ∃ a ns, v = .ref a ∧ H a = some (.lst (ns.map V.bl)) ∧ Ob f Γ m gh σ H ((lift (h ns) : EM D) ρ) Q := by
  cases d with
  | lst ds =>
    obtain ⟨a, vs, rfl, q, r⟩ := bor_lst o
    unfold onBls at w
    cases e : blsD ds with
    | none => simp only [e] at w; exact w.elim
    | some ns =>
      simp only [e] at w
      rw [ShA.bls e r] at q
      exact ⟨a, ns, rfl, q, w⟩
  | _ => exact w.elim
theorem k_sum : V1 f Γ .bor (.own []) sumL fun v H Q => rSum X.K [v] H Q := fun σ gh ρ H d v L Q R o w => by
  obtain ⟨a, ns, rfl, q, w⟩ := onInts_k o w
  exact ⟨a, ns, rfl, SqL.of q, (show Ob f Γ (.own []) gh σ H (.ok (.int _) ρ) Q from w).flat R rfl⟩
theorem k_maxL : V1 f Γ .bor (.own []) maxL fun v H Q => rMax X.K [v] H Q := fun σ gh ρ H d v L Q R o w => by
  obtain ⟨a, ns, rfl, q, w⟩ := onInts_k o w
  by_cases c : ns = []
  · rw [if_pos c] at w; exact w.elim
  · rw [if_neg c] at w
    refine ⟨a, ns, rfl, SqL.of q, List.length_pos_iff.mpr c, fun m h1 h2 => ?_⟩
    rw [← maxI_is h1 h2]
    exact (show Ob f Γ (.own []) gh σ H (.ok (.int _) ρ) Q from w).flat R rfl
theorem k_minL : V1 f Γ .bor (.own []) minL fun v H Q => rMin X.K [v] H Q := fun σ gh ρ H d v L Q R o w => by
  obtain ⟨a, ns, rfl, q, w⟩ := onInts_k o w
  by_cases c : ns = []
  · rw [if_pos c] at w; exact w.elim
  · rw [if_neg c] at w
    refine ⟨a, ns, rfl, SqL.of q, List.length_pos_iff.mpr c, fun m h1 h2 => ?_⟩
    rw [← minI_is h1 h2]
    exact (show Ob f Γ (.own []) gh σ H (.ok (.int _) ρ) Q from w).flat R rfl
theorem k_all : V1 f Γ .bor (.own []) allB fun v H Q => rAll X.K [v] H Q := fun σ gh ρ H d v L Q R o w => by
  obtain ⟨a, ns, rfl, q, w⟩ := onBls_k o w
  exact ⟨a, ns, rfl, SqL.of q, (show Ob f Γ (.own []) gh σ H (.ok (.bl _) ρ) Q from w).flat R rfl⟩
theorem k_any : V1 f Γ .bor (.own []) anyB fun v H Q => rAny X.K [v] H Q := fun σ gh ρ H d v L Q R o w => by
  obtain ⟨a, ns, rfl, q, w⟩ := onBls_k o w
  exact ⟨a, ns, rfl, SqL.of q, (show Ob f Γ (.own []) gh σ H (.ok (.bl _) ρ) Q from w).flat R rfl⟩
/-! ### new lists -/
theorem Ob.newT {σ : L2.St} {gh : Nat → List Addr} {ρ : Env} {H : Hp} {Q : VK} {ds : List D} {vs : List V} {p : Addr} (w : Ob f Γ (.tp []) gh σ H (.ok (.lst ds) ρ) Q) (R : Rel f Γ ρ gh σ H) (hp : H p = none) (s : ShA f.g nc (Bx f Γ gh) H ds vs) : Q (.ref p) (upd H p (.lst vs)) :=
  w (.ref p) _ [p] (R.new hp) (Kp.upd_new hp) ⟨p, rfl, rfl, .inl ⟨ds, vs, rfl, upd_same, (ShA.fresh hp (fun a z => z) ds vs s).kp (S := fun _ => False) (Kp.upd_new hp) fun _ z => z.elim⟩⟩ ⟨by simp, fun a ha => .inl (by rw [List.mem_singleton.mp ha]; exact hp)⟩
theorem Ob.newTup {σ : L2.St} {gh : Nat → List Addr} {ρ : Env} {H : Hp} {Q : VK} {ds : List D} {vs : List V} {p : Addr} (w : Ob f Γ .sh gh σ H (.ok (.tup ds) ρ) Q) (R : Rel f Γ ρ gh σ H) (hp : H p = none) (s : ShA f.g nc (Bx f Γ gh) H ds vs) : Q (.ref p) (upd H p (.tup vs)) :=
  w (.ref p) _ [] (R.new hp) (Kp.upd_new hp) ⟨rfl, by simp only [Sh]; exact ⟨p, vs, rfl, SqT.of upd_same, s.kp (S := fun _ => False) (Kp.upd_new hp) fun _ z => z.elim⟩⟩ nil_new
/-- list(xs) -/
def listD : D → P D
  | .lst ds | .tup ds => Pure.pure (.lst ds)
  | _ => M.stuck
theorem k_list (hK : f.g.K = X.K) : V1 f Γ .bs (.tp []) listD fun v H Q => ∃ p ys, [v] = [V.ref p] ∧ (SqL X.K H p ys ∨ SqT X.K H p ys) ∧ ∀ l, H l = none → Q (.ref l) (upd H l (.lst ys)) := fun σ gh ρ H d v L Q R o w => by
  cases d with
  | lst ds =>
    obtain ⟨a, vs, rfl, q, r⟩ := bs_lst o
    exact ⟨a, vs, rfl, .inl (SqL.of q), fun l hl => Ob.newT (show Ob f Γ (.tp []) gh σ H (.ok (.lst ds) ρ) Q from w) R hl r⟩
  | tup ds =>
    obtain ⟨a, vs, rfl, q, r⟩ := bs_tup o
    exact ⟨a, vs, rfl, .inr (hK ▸ q), fun l hl => Ob.newT (show Ob f Γ (.tp []) gh σ H (.ok (.lst ds) ρ) Q from w) R hl r⟩
  | _ => exact w.elim
/-- tuple(xs) -/
def tupleD : D → P D
  | .lst ds | .tup ds => Pure.pure (.tup ds)
  | _ => M.stuck
theorem k_tuple (hK : f.g.K = X.K) : V1 f Γ .bs .sh tupleD fun v H Q => ∃ p ys, [v] = [V.ref p] ∧ ((SqL X.K H p ys ∧ ∀ l, H l = none → Q (.ref l) (upd H l (.tup ys))) ∨ (SqT X.K H p ys ∧ Q (.ref p) H)) := fun σ gh ρ H d v L Q R o w => by
  cases d with
  | lst ds =>
    obtain ⟨a, vs, rfl, q, r⟩ := bs_lst o
    exact ⟨a, vs, rfl, .inl ⟨SqL.of q, fun l hl => Ob.newTup (show Ob f Γ .sh gh σ H (.ok (.tup ds) ρ) Q from w) R hl r⟩⟩
  | tup ds =>
    obtain ⟨a, vs, rfl, q, r⟩ := bs_tup o
    exact ⟨a, vs, rfl, .inr ⟨hK ▸ q, Ob.ok0 (show Ob f Γ .sh gh σ H (.ok (.tup ds) ρ) Q from w) R ⟨rfl, by simp only [Sh]; exact ⟨a, vs, rfl, q, r⟩⟩⟩⟩
  | _ => exact w.elim
/-- xs + ys, lists -/
def catD : D → D → P D
  | .lst ds, .lst es => if ds.length + es.length ≤ sizeLine then Pure.pure (.lst (ds ++ es)) else M.stuck
  | _, _ => M.stuck
theorem k_cat : V2 f Γ .bs .bs (.tp []) catD rCat := fun σ gh ρ H d1 d2 v1 v2 L1 L2 Q R o1 o2 w => by
  unfold catD at w
  split at w
  · rename_i ds es
    by_cases c : ds.length + es.length ≤ sizeLine
    · rw [if_pos c] at w
      obtain ⟨a1, vs1, rfl, q1, r1⟩ := bs_lst o1
      obtain ⟨a2, vs2, rfl, q2, r2⟩ := bs_lst o2
      exact ⟨a1, a2, vs1, vs2, rfl, rfl, q1, q2, by rw [r1.length, r2.length]; exact c, fun p hp => Ob.newT (show Ob f Γ (.tp []) gh σ H (.ok (.lst (ds ++ es)) ρ) Q from w) R hp (r1.append r2)⟩
    · rw [if_neg c] at w; exact w.elim
  · exact w.elim
theorem ShA.rep {g : G} {cm : Addr → V → Prop} {B : Addr → Prop} {H : Hp} {ds : List D} {vs : List V} (h : ShA g cm B H ds vs) : ∀ n : Nat, ShA g cm B H (List.replicate n ds).flatten (List.replicate n vs).flatten
  | 0 => by simp [ShA]
  | n + 1 => by
    rw [List.replicate_succ, List.replicate_succ, List.flatten_cons, List.flatten_cons]
    exact h.append (ShA.rep h n)
/-- xs * n -/
def repD : D → D → P D
  | .lst ds, .int k => if -(2 ^ 63) ≤ k ∧ k < 2 ^ 63 ∧ ds.length * k.toNat ≤ sizeLine then Pure.pure (.lst (List.replicate k.toNat ds).flatten) else M.stuck
  | _, _ => M.stuck
theorem k_rep : V2 f Γ .bs .bor (.tp []) repD rRep := fun σ gh ρ H d1 d2 v1 v2 L1 L2 Q R o1 o2 w => by
  unfold repD at w
  split at w
  · rename_i ds k
    by_cases c : -(2 ^ 63) ≤ k ∧ k < 2 ^ 63 ∧ ds.length * k.toNat ≤ sizeLine
    · rw [if_pos c] at w
      obtain ⟨a1, vs1, rfl, q1, r1⟩ := bs_lst o1
      cases bor_int o2
      exact ⟨a1, k, vs1, rfl, rfl, q1, c.1, c.2.1, by rw [r1.length]; exact c.2.2, fun p hp => Ob.newT (show Ob f Γ (.tp []) gh σ H (.ok (.lst _) ρ) Q from w) R hp (r1.rep _)⟩
    · rw [if_neg c] at w; exact w.elim
  · exact w.elim
/-- t + u, tuples -/
def catT : D → D → P D
  | .tup ds, .tup es => if ds.length + es.length ≤ sizeLine then Pure.pure (.tup (ds ++ es)) else M.stuck
  | _, _ => M.stuck
theorem k_catT (hK : f.g.K = X.K) : V2 f Γ .sh .sh .sh catT (rCatA X.K) := fun σ gh ρ H d1 d2 v1 v2 L1 L2 Q R o1 o2 w => by
  unfold catT at w
  split at w
  · rename_i ds es
    by_cases c : ds.length + es.length ≤ sizeLine
    · rw [if_pos c] at w
      obtain ⟨rfl, o1⟩ := o1
      obtain ⟨rfl, o2⟩ := o2
      have s1 := o1
      have s2 := o2
      simp only [Sh] at o1 o2
      obtain ⟨a1, vs1, rfl, q1, r1⟩ := o1
      obtain ⟨a2, vs2, rfl, q2, r2⟩ := o2
      have w' : Ob f Γ .sh gh σ H (.ok (.tup (ds ++ es)) ρ) Q := w
      refine ⟨a1, a2, vs1, vs2, rfl, rfl, hK ▸ q1, hK ▸ q2, by rw [r1.length, r2.length]; exact c, fun e => ?_, fun _ e => ?_, fun _ _ p hp => w'.newTup R hp (r1.append r2)⟩
      · have : ds = [] := List.length_eq_zero_iff.mp (by rw [← r1.length, e]; rfl)
        subst this
        exact w'.ok0 R ⟨rfl, s2⟩
      · have : es = [] := List.length_eq_zero_iff.mp (by rw [← r2.length, e]; rfl)
        subst this
        rw [List.append_nil] at w'
        exact w'.ok0 R ⟨rfl, s1⟩
    · rw [if_neg c] at w; exact w.elim
  · exact w.elim
/-! ### an item -/
def idxD : D → D → P D
  | .lst ds, .int i | .tup ds, .int i => (match atI ds i with
    | some d => Pure.pure d
    | none => M.stuck)
  | .str z, .int i => if z.length ≤ sizeLine then (match atI z.cps.toList i with
    | some c => Pure.pure (.str ⟨#[c]⟩)
    | none => M.stuck) else M.stuck
  | _, _ => M.stuck
theorem atI_sh {g : G} {cm : Addr → V → Prop} {B : Addr → Prop} {H : Hp} {ds : List D} {vs : List V} {i : Int} {d : D} (s : ShA g cm B H ds vs) (h : atI ds i = some d) : ∃ v, atI vs i = some v ∧ Sh g cm B H d v := by
  unfold atI at h ⊢
  rw [s.length]
  cases e : ixN ds.length i with
  | none => rw [e] at h; cases h
  | some j =>
    rw [e] at h
    exact s.get h
theorem k_idx (hK : f.g.K = X.K) : V2 f Γ .bs .bor .sh idxD (rIx X.K) := fun σ gh ρ H d1 d2 v1 v2 L1 L2 Q R o1 o2 w => by
  cases d2 with
  | int i =>
    cases bor_int o2
    cases d1 with
    | lst ds =>
      obtain ⟨a, vs, rfl, q, r⟩ := bs_lst o1
      unfold idxD at w
      cases e : atI ds i with
      | none => simp only [e] at w; exact w.elim
      | some d =>
        simp only [e] at w
        obtain ⟨v, e2, s⟩ := atI_sh r e
        exact .inl ⟨a, vs, i, v, rfl, rfl, SqL.of q, e2, Ob.ok0 (show Ob f Γ .sh gh σ H (.ok d ρ) Q from w) R ⟨rfl, s⟩⟩
    | tup ds =>
      obtain ⟨a, vs, rfl, q, r⟩ := bs_tup o1
      unfold idxD at w
      cases e : atI ds i with
      | none => simp only [e] at w; exact w.elim
      | some d =>
        simp only [e] at w
        obtain ⟨v, e2, s⟩ := atI_sh r e
        exact .inr (.inl ⟨a, vs, i, v, rfl, rfl, hK ▸ q, e2, Ob.ok0 (show Ob f Γ .sh gh σ H (.ok d ρ) Q from w) R ⟨rfl, s⟩⟩)
    | str z =>
      cases bs_str o1
      by_cases c : z.length ≤ sizeLine
      · simp only [idxD, if_pos c] at w
        cases e : atI z.cps.toList i with
        | none => simp only [e] at w; exact w.elim
        | some d =>
          simp only [e] at w
          exact .inr (.inr ⟨z, i, d, rfl, rfl, c, e, Ob.ok0 (show Ob f Γ .sh gh σ H (.ok (.str ⟨#[d]⟩) ρ) Q from w) R ⟨rfl, by simp only [Sh]⟩⟩)
      · simp only [idxD, if_neg c] at w; exact w.elim
    | _ => exact w.elim
  | _ => cases d1 <;> exact w.elim
theorem k_idxB (hK : f.g.K = X.K) : V2 f Γ .bor .bor .bor idxD (rIx X.K) := fun σ gh ρ H d1 d2 v1 v2 L1 L2 Q R o1 o2 w => by
  cases d2 with
  | int i =>
    cases bor_int o2
    cases d1 with
    | lst ds =>
      obtain ⟨a, vs, rfl, q, r⟩ := bor_lst o1
      unfold idxD at w
      cases e : atI ds i with
      | none => simp only [e] at w; exact w.elim
      | some d =>
        simp only [e] at w
        obtain ⟨v, e2, s⟩ := atI_sh r e
        exact .inl ⟨a, vs, i, v, rfl, rfl, SqL.of q, e2, Ob.ok0 (show Ob f Γ .bor gh σ H (.ok d ρ) Q from w) R ⟨rfl, s⟩⟩
    | tup ds =>
      obtain ⟨a, vs, rfl, q, r⟩ := bor_tup o1
      unfold idxD at w
      cases e : atI ds i with
      | none => simp only [e] at w; exact w.elim
      | some d =>
        simp only [e] at w
        obtain ⟨v, e2, s⟩ := atI_sh r e
        exact .inr (.inl ⟨a, vs, i, v, rfl, rfl, hK ▸ q, e2, Ob.ok0 (show Ob f Γ .bor gh σ H (.ok d ρ) Q from w) R ⟨rfl, s⟩⟩)
    | str z =>
      cases bor_str o1
      by_cases c : z.length ≤ sizeLine
      · simp only [idxD, if_pos c] at w
        cases e : atI z.cps.toList i with
        | none => simp only [e] at w; exact w.elim
        | some d =>
          simp only [e] at w
          exact .inr (.inr ⟨z, i, d, rfl, rfl, c, e, Ob.ok0 (show Ob f Γ .bor gh σ H (.ok (.str ⟨#[d]⟩) ρ) Q from w) R ⟨rfl, by simp only [Sh]⟩⟩)
      · simp only [idxD, if_neg c] at w; exact w.elim
    | _ => exact w.elim
  | _ => cases d1 <;> exact w.elim
theorem xe_ix {rr : R2} {fn : D → D → P D} (hr : IxR X rr) (k : V2 f Γ ma mb m fn rr) (ha : XE X f Γ e ma a) (hb : XE X f Γ e2 mb b) (hs : PlainIx e2 := by exact fun _ _ => rfl) : XE X f Γ (.Subscript e e2 pos) m (eP2 fn a b) :=
  PE.mono (pe_ix hr ha hb hs) fun σ H Q ⟨ρ, gh, R, q⟩ => RE.two R q fun d1 d2 ρ2 v1 v2 H2 L1 L2 R2 o1 o2 w => k σ gh ρ2 H2 d1 d2 v1 v2 L1 L2 Q R2 o1 o2 w
end
end PP
-- PP9
/-! PP9: what a def promises; calls; statements. -/
namespace PP
open PySem PySem.Spec PyProof.Rows L2
/-! ### promises -/
def spF (g : G) (n : Nat) (rm : Md) (F : Fn) : Sp := fun vs H Q E => ∃ (B : Addr → Prop) (ds : List D), (∀ a, B a → ∃ o, H a = some o ∧ Mu o) ∧ ds.length = n ∧ ShA g nc B H ds vs ∧ NdefX.TabsN g.T H ∧
  match F ds () with
  | .ok d _ => ∀ v H', Kp (fun _ => False) H H' → NdefX.TabsN g.T H' → VR g B H H' rm d v → Q v H'
  | .exn x _ => ∀ cls dx H', Kp (fun _ => False) H H' → NdefX.TabsN g.T H' → ExV g B x cls dx H' → E cls dx H'
  | .stuck => False
/-- a def whose first parameter is lent: v0 it, L its nodes -/
def spIo (g : G) (n : Nat) (rm : Md) (F : FnIo) : Sp := fun vs H Q E => ∃ (B : Addr → Prop) (ds : List D) (s : D) (v0 : V) (ws : List V) (L : List Addr), (∀ a, B a → ∃ o, H a = some o ∧ Mu o) ∧ ds.length = n ∧ vs = v0 :: ws ∧ Ow g H s v0 L ∧ L.Nodup ∧ (∀ a ∈ L, ¬ B a) ∧
  ShA g nc (fun a => B a ∨ a ∈ L) H ds ws ∧ NdefX.TabsN g.T H ∧
  match F ds s with
  | .ok d s' => ∀ v H', Kp (fun a => a ∈ L) H H' → NdefX.TabsN g.T H' → Ow g H' s' v0 L → VR g (fun a => B a ∨ a ∈ L) H H' rm d v → Q v H'
  | .exn x s' => ∀ cls dx H', Kp (fun a => a ∈ L) H H' → NdefX.TabsN g.T H' → Ow g H' s' v0 L → ExV g (fun a => B a ∨ a ∈ L) x cls dx H' → E cls dx H'
  | .stuck => False
/-- the module's name x is a def of n parameters that does F; at most k calls deep -/
structure FnAt (P : Program) (w : World) (K : PySem.W.Frag) (mg : Str → Option Value) (base : Heap) (g : G) (k : Nat) (x : Str) (n : Nat) (rm : Md) (F : Fn) : Prop where
  ex : ∃ (fa : Addr) (fd : FuncData) (ps : List Str), mg x = some (.ref fa) ∧ PySem.W.keepIn K (.ref fa) = true ∧ ps.length = n ∧ Binds K fd ps [] ∧ FnOk P w K mg base (L2.CX P w) k fa fd ps (spF g n rm F)
structure FnIoAt (P : Program) (w : World) (K : PySem.W.Frag) (mg : Str → Option Value) (base : Heap) (g : G) (k : Nat) (x : Str) (n : Nat) (rm : Md) (F : FnIo) : Prop where
  ex : ∃ (fa : Addr) (fd : FuncData) (ps : List Str), mg x = some (.ref fa) ∧ PySem.W.keepIn K (.ref fa) = true ∧ ps.length = n + 1 ∧ Binds K fd ps [] ∧ FnOk P w K mg base (L2.CX P w) k fa fd ps (spIo g n rm F)
theorem FnAt.mono {P : Program} {w : World} {K : PySem.W.Frag} {mg : Str → Option Value} {base : Heap} {g : G} {j k : Nat} {x : Str} {n : Nat} {rm : Md} {F : Fn} (h : FnAt P w K mg base g j x n rm F) (l : j ≤ k) : FnAt P w K mg base g k x n rm F := by
  obtain ⟨fa, fd, ps, h1, h2, h3, h4, h5⟩ := h.ex
  exact ⟨fa, fd, ps, h1, h2, h3, h4, h5.mono l⟩
theorem FnIoAt.mono {P : Program} {w : World} {K : PySem.W.Frag} {mg : Str → Option Value} {base : Heap} {g : G} {j k : Nat} {x : Str} {n : Nat} {rm : Md} {F : FnIo} (h : FnIoAt P w K mg base g j x n rm F) (l : j ≤ k) : FnIoAt P w K mg base g k x n rm F := by
  obtain ⟨fa, fd, ps, h1, h2, h3, h4, h5⟩ := h.ex
  exact ⟨fa, fd, ps, h1, h2, h3, h4, h5.mono l⟩
section
variable {X : Cx} {f : Fr} {Γ : List Kd} {e e2 : Expr} {es : List Expr} {ms : List Md} {a b : EM D} {r : EM (List D)} {pos p : Pos} {m : Md} {x : Str} {k n : Nat}
/-! ### a call's answer -/
theorem lift_ok' {S α : Type} {q : P α} {d : α} {s : S} {u : Unit} (h : q () = .ok d u) : (lift q : M S α) s = .ok d s := by unfold lift; rw [h]
theorem lift_exn {S α : Type} {q : P α} {y : Ex} {s : S} {u : Unit} (h : q () = .exn y u) : (lift q : M S α) s = .exn y s := by unfold lift; rw [h]
theorem lift_stuck {S α : Type} {q : P α} {s : S} (h : q () = .stuck) : (lift q : M S α) s = .stuck := by unfold lift; rw [h]
theorem Rel.bo {σ : L2.St} {gh : Nat → List Addr} {ρ : Env} {H : Hp} (R : Rel f Γ ρ gh σ H) : ∀ a, Bo f Γ a → ∃ o, H a = some o ∧ Mu o := fun a z => by
  rcases z with z | ⟨z, i, hi⟩
  · obtain ⟨n, o, e, t⟩ := R.b0 a z
    exact ⟨o, e, t⟩
  · obtain ⟨o, e, mu⟩ := R.there (i := i) (a := a) (by rw [(R.lent i hi).1]; exact z)
    exact ⟨o, e, mu⟩
theorem Rel.bx {σ : L2.St} {gh : Nat → List Addr} {ρ : Env} {H : Hp} (R : Rel f Γ ρ gh σ H) : ∀ a, Bx f Γ gh a → ∃ o, H a = some o ∧ Mu o := fun a z => by
  rcases z with z | ⟨i, z⟩
  · exact R.bo a (.inl z)
  · obtain ⟨o, e, mu⟩ := R.there (tops_sub z)
    exact ⟨o, e, mu⟩
/-- the promise's wish, of what is wanted of the call's answer: an answer of one's own -/
theorem sp_own {σ : L2.St} {gh : Nat → List Addr} {ρ : Env} {H : Hp} {Q : VK} {F : Fn} {ds : List D} {vs : List V} (hl : ds.length = n) (R : Rel f Γ ρ gh σ H) (s : ShA f.g nc (Bo f Γ) H ds vs) (w : Ob f Γ (.own []) gh σ H ((lift (F ds) : EM D) ρ) Q) :
    spF f.g n (.own []) F vs H Q (fun cls d H' => f.W cls d σ H') := by
  refine ⟨Bo f Γ, ds, R.bo, hl, s, R.tabs, ?_⟩
  cases e : F ds () with
  | ok d u =>
    rw [lift_ok' e] at w
    intro v H' k t ⟨L, o, nd, fr⟩
    exact w v H' L (R.kp k t) (k.mono fun _ z => z.elim) o ⟨nd, fun a ha => .inl (fr a ha)⟩
  | exn y u =>
    rw [lift_exn e] at w
    intro cls dx H' k t ex
    exact w cls dx H' (R.kp k t) (k.mono fun _ z => z.elim) ex
  | stuck => rw [lift_stuck e] at w; exact w.elim
theorem sp_sh {σ : L2.St} {gh : Nat → List Addr} {ρ : Env} {H : Hp} {Q : VK} {F : Fn} {ds : List D} {vs : List V} (hl : ds.length = n) (R : Rel f Γ ρ gh σ H) (s : ShA f.g nc (Bx f Γ gh) H ds vs) (w : Ob f Γ .sh gh σ H ((lift (F ds) : EM D) ρ) Q) :
    spF f.g n .sh F vs H Q (fun cls d H' => f.W cls d σ H') := by
  refine ⟨Bx f Γ gh, ds, R.bx, hl, s, R.tabs, ?_⟩
  cases e : F ds () with
  | ok d u =>
    rw [lift_ok' e] at w
    intro v H' k t o
    exact w v H' [] (R.kp k t) (k.mono fun _ z => z.elim) ⟨rfl, o⟩ nil_new
  | exn y u =>
    rw [lift_exn e] at w
    intro cls dx H' k t ex
    exact w cls dx H' (R.kp k t) (k.mono fun _ z => z.elim) (ex.mono (S := fun _ => False) Kp.refl (fun _ z => z.elim) (Bo_sub R))
  | stuck => rw [lift_stuck e] at w; exact w.elim
theorem sp_tp {σ : L2.St} {gh : Nat → List Addr} {ρ : Env} {H : Hp} {Q : VK} {F : Fn} {ds : List D} {vs : List V} (hl : ds.length = n) (R : Rel f Γ ρ gh σ H) (s : ShA f.g nc (Bx f Γ gh) H ds vs) (w : Ob f Γ (.tp []) gh σ H ((lift (F ds) : EM D) ρ) Q) :
    spF f.g n (.tp []) F vs H Q (fun cls d H' => f.W cls d σ H') := by
  refine ⟨Bx f Γ gh, ds, R.bx, hl, s, R.tabs, ?_⟩
  cases e : F ds () with
  | ok d u =>
    rw [lift_ok' e] at w
    intro v H' k t ⟨a, e1, fr, o⟩
    exact w v H' [a] (R.kp k t) (k.mono fun _ z => z.elim) ⟨a, rfl, e1, o⟩ ⟨by simp, fun b hb => .inl (by rw [List.mem_singleton.mp hb]; exact fr)⟩
  | exn y u =>
    rw [lift_exn e] at w
    intro cls dx H' k t ex
    exact w cls dx H' (R.kp k t) (k.mono fun _ z => z.elim) (ex.mono (S := fun _ => False) Kp.refl (fun _ z => z.elim) (Bo_sub R))
  | stuck => rw [lift_stuck e] at w; exact w.elim
/-- f(e, ..): m with the arguments' ways of holding -/
def argOk : Md → List Md → Bool
  | .own [], ms => ms.all isBor
  | .sh, ms => ms.all isSh
  | .tp [], ms => ms.all isSh
  | _, _ => false
theorem sp_any {σ : L2.St} {gh : Nat → List Addr} {ρ : Env} {H : Hp} {Q : VK} {F : Fn} {ds : List D} {vs : List V} {L : List Addr} (hm : argOk m ms = true) (R : Rel f Γ ρ gh σ H) (s : VsO f.g (f.oc σ) (Bo f Γ) (Bx f Γ gh) H ms ds vs L) (w : Ob f Γ m gh σ H ((lift (F ds) : EM D) ρ) Q) :
    spF f.g ms.length m F vs H Q (fun cls d H' => f.W cls d σ H') := by
  cases m with
  | own U =>
    cases U with
    | nil => exact sp_own s.len.2 R (VsO.bor hm s).1 w
    | cons _ _ => cases hm
  | sh => exact sp_sh s.len.2 R (VsO.sh hm s).1 w
  | tp U =>
    cases U with
    | nil => exact sp_tp s.len.2 R (VsO.sh hm s).1 w
    | cons _ _ => cases hm
  | _ => cases hm
theorem WE_eq {W : WX} {σ : L2.St} : WE W σ = fun cls d H' => W cls d σ H' := rfl
theorem xe_call {F : Fn} (A : FnAt X.prog X.w X.K X.mg X.base f.g k x ms.length m F) (hr : Room k X.A) (tk : Takes X f.W) (ha : XA X f Γ (e :: es) ms r) (hm : argOk m ms = true := by rfl) (hg : Gl X x := by rfl)
    (hdb : (x == ("__debug__" : Str)) = false := by decide) (he : starEach (e :: es) X.env = (false, eval e X.env) :: starEach es X.env := by rfl) (hpl : (backTo pos (starEach es X.env)).any (·.1) = false := by rfl) :
    XE X f Γ (.Call (.Name x p) (e :: es) [] pos) m (eCall F r) := by
  obtain ⟨fa, fd, ps, h1, h2, h3, h4, h5⟩ := A.ex
  refine PE.mono (pe_callSD (E := fun σ cls d H' => f.W cls d σ H') h5 hr hg h1 h2 h4 .nil (fun σ => passAt tk σ) ha hdb he hpl) fun σ H Q ⟨ρ, gh, R, q⟩ => ?_
  refine RA.fst R (show Ob f Γ m gh σ H ((r >>= fun xs => lift (F xs)) ρ) Q from q) fun ds ρ1 vs H1 L R1 k1 vo n1 w => ?_
  rw [List.append_nil]
  exact sp_any hm R1 vo (w.shift k1)
/-- f() -/
theorem xe_call0 {F : Fn} (A : FnAt X.prog X.w X.K X.mg X.base f.g k x 0 m F) (hr : Room k X.A) (tk : Takes X f.W) (hm : argOk m [] = true := by rfl) (hg : Gl X x := by rfl) (hdb : (x == ("__debug__" : Str)) = false := by decide) : XE X f Γ (.Call (.Name x p) [] [] pos) m (eCall F eNil) := by
  obtain ⟨fa, fd, ps, h1, h2, h3, h4, h5⟩ := A.ex
  refine ⟨fun pins s σ H Q I h => ?_⟩
  obtain ⟨ρ, gh, R, q⟩ := h
  refine wpAny_Call_Name_kw (ld_glob I hg h1 ?_ hdb)
  exact PySem.W.callWith_K0 I.kIn h2 (run_fnSD (us := []) (vs := []) (dvs := []) (E := fun σ cls d H' => f.W cls d σ H') h5 hr h4 .nil (passAt tk σ) I .nil (sp_any (ms := []) (L := []) hm R ⟨rfl, rfl, rfl⟩ q))
end
/-! ### slots' facts, weakened -/
def wk : Kd → Kd → Bool
  | .st, .st => true
  | .st, _ => false
  | _, .un => true
  | .tp, .sh | .ow, .sh | .ox, .sh | .sh, .cs | .tc, .cs | .tp, .tc | .tp, .cs => true
  | k, k' => k == k'
def wkL : List Kd → List Kd → Bool
  | [], [] => true
  | k :: r, k' :: r' => wk k k' && wkL r r'
  | _, _ => false
theorem wkL_at : ∀ {Γ Γ' : List Kd}, wkL Γ Γ' = true → ∀ i, wk (Γ.getD i .un) (Γ'.getD i .un) = true
  | [], [], _, i => by simp [wk]
  | k :: r, k' :: r', h, 0 => by simp only [wkL, Bool.and_eq_true] at h; simpa using h.1
  | k :: r, k' :: r', h, i + 1 => by simp only [wkL, Bool.and_eq_true] at h; simpa using wkL_at h.2 i
  | [], _ :: _, h, _ => by simp [wkL] at h
  | _ :: _, [], h, _ => by simp [wkL] at h
section
variable {f : Fr} {Γ Γ' : List Kd} {ρ : Env} {gh : Nat → List Addr} {σ : L2.St} {H : Hp}
def ghW (k' : Kd) (L : List Addr) : List Addr := match k' with
  | .un | .sh | .cs => []
  | _ => L
theorem ghW_sub {k : Kd} {L : List Addr} {a : Addr} (h : a ∈ ghW k L) : a ∈ L := by
  cases k <;> first | exact h | cases h
theorem tops_wk {k k' : Kd} {L : List Addr} (h : wk k k' = true) {a : Addr} (ha : a ∈ tops k' (ghW k' L)) : a ∈ tops k L := by
  cases k <;> cases k' <;> first | (exfalso; revert h; decide) | exact ha | cases ha
theorem ShOk.top {g : G} {oc : Addr → V → Prop} {B B' : Addr → Prop} {H : Hp} {a : Addr} {d : D} (hB : ∀ a, B' a → B a) (n : ¬ B' a) (h : TopOk g oc B H a d) : Sh g oc B' H d (.ref a) := by
  rcases h with ⟨ds, vs, rfl, q, r⟩ | ⟨ks, ds, kvs, rfl, q, m, r⟩
  · simp only [Sh]; exact ⟨a, vs, rfl, n, q, r.sub hB⟩
  · simp only [Sh]; exact ⟨a, kvs, rfl, n, .inl q, m, r.sub hB⟩
theorem Sh.toC {g : G} {oc : Addr → V → Prop} {B : Addr → Prop} {H : Hp} {d : D} {v : V} (h : Sh g nc B H d v) : Sh g oc B H d v := Sh.mono (S := fun _ => False) Kp.refl (fun _ z => z.elim) (fun _ _ z => z.elim) (fun _ n => n) d v h
theorem SlotOk.weak {g : G} {oc : Addr → V → Prop} {B B' : Addr → Prop} {k k' : Kd} {od : Option D} {ov : Option V} {L : List Addr} (hw : wk k k' = true) (hB : ∀ a, B' a → B a) (hL : (k' = .sh ∨ k' = .cs) → ∀ a ∈ L, ¬ B' a) (h : SlotOk g oc B H k od ov L) : SlotOk g oc B' H k' od ov (ghW k' L) := by
  have same : SlotOk g oc B' H k od ov L := h.mono (S := fun _ => False) Kp.refl (fun _ _ z => z) (fun _ z => z.elim) (fun _ _ z => .inl z) hB
  cases k' with
  | un => rfl
  | sh =>
    have hL := hL (.inl rfl)
    cases k <;> first | (exfalso; revert hw; decide) | skip
    · exact ⟨rfl, same.2⟩
    · obtain ⟨d, v, a, e1, e2, e3, rfl, q⟩ := h
      exact ⟨rfl, d, _, e1, e2, ShOk.top hB (hL a (by rw [e3]; simp)) q⟩
    · obtain ⟨d, v, e1, e2, _, q⟩ := h
      exact ⟨rfl, d, v, e1, e2, Ow.sh d v L hL q⟩
    · obtain ⟨d, v, e1, e2, q⟩ := h
      exact ⟨rfl, d, v, e1, e2, Ow.sh d v L hL q⟩
  | cs =>
    have hL := hL (.inr rfl)
    cases k <;> first | (exfalso; revert hw; decide) | skip
    · obtain ⟨_, d, v, e1, e2, q⟩ := same
      exact ⟨rfl, d, v, e1, e2, q.toC⟩
    · exact ⟨rfl, same.2⟩
    · obtain ⟨d, v, a, e1, e2, e3, rfl, q⟩ := h
      exact ⟨rfl, d, _, e1, e2, (ShOk.top hB (hL a (by rw [e3]; simp)) q).toC⟩
    · obtain ⟨d, v, a, e1, e2, e3, rfl, q⟩ := h
      exact ⟨rfl, d, _, e1, e2, ShOk.top hB (hL a (by rw [e3]; simp)) q⟩
  | tp => cases k <;> first | (exfalso; revert hw; decide) | exact same
  | tc =>
    cases k <;> first | (exfalso; revert hw; decide) | exact same | skip
    obtain ⟨d, v, a, e1, e2, e3, e4, q⟩ := same
    exact ⟨d, v, a, e1, e2, e3, e4, q.mono (S := fun _ => False) Kp.refl (fun z => z) (fun _ z => z.elim) (fun _ _ z => z.elim) fun _ z => z⟩
  | ow => cases k <;> first | (exfalso; revert hw; decide) | exact same
  | ox => cases k <;> first | (exfalso; revert hw; decide) | exact same
  | st => cases k <;> first | (exfalso; revert hw; decide) | exact same
theorem wk_st {k k' : Kd} (h : wk k k' = true) (e : k' = .st) : k = .st := by
  subst e; cases k <;> first | rfl | (exfalso; revert h; decide)
theorem wk_st2 {k k' : Kd} (h : wk k k' = true) (e : k = .st) : k' = .st := by
  subst e; cases k' <;> first | rfl | (exfalso; revert h; decide)
theorem Rel.weak (h : wkL Γ Γ' = true) (R : Rel f Γ ρ gh σ H) : Rel f Γ' ρ (fun i => ghW (Γ'.getD i .un) (gh i)) σ H := by
  have hk := wkL_at h
  have hB : ∀ a, Bx f Γ' (fun i => ghW (Γ'.getD i .un) (gh i)) a → Bx f Γ gh a := fun a z => z.imp id fun ⟨i, z⟩ => ⟨i, tops_wk (hk i) z⟩
  have hn : ∀ i, (Γ'.getD i .un = .sh ∨ Γ'.getD i .un = .cs) → ∀ a ∈ gh i, ¬ Bx f Γ' (fun i => ghW (Γ'.getD i .un) (gh i)) a := fun i e a ha z => by
    rcases z with z | ⟨j, z⟩
    · exact R.nb i a ha z
    · have ej : i = j := R.dj i j a ha (ghW_sub (tops_sub z))
      subst ej
      rcases e with e | e <;> rw [e] at z <;> cases z
  exact {
    lr := R.lr
    ls := R.ls
    slot := fun i => (R.slot i).weak (hk i) hB (hn i)
    nd := fun i => by
      generalize Γ'.getD i .un = k'
      cases k' <;> first | exact R.nd i | exact List.nodup_nil
    dj := fun i j a ha hb => R.dj i j a (ghW_sub ha) (ghW_sub hb)
    fresh := fun i e a ha => R.fresh i (fun z => e (wk_st2 (hk i) z)) a (ghW_sub ha)
    lent := fun i e => by
      have := R.lent i (wk_st (hk i) e)
      refine ⟨?_, this.2⟩
      show ghW (Γ'.getD i .un) (gh i) = _
      rw [e]; exact this.1
    one := fun i e => R.one i (wk_st (hk i) e)
    b0 := R.b0
    nb := fun i a ha => R.nb i a (ghW_sub ha)
    s0 := R.s0
    keep := R.keep
    tabs := R.tabs }
theorem SxW (h : wkL Γ Γ' = true) : ∀ a, Sx f Γ a → Sx f Γ' a := fun a ⟨h1, i, e⟩ => ⟨h1, i, wk_st2 (wkL_at h i) e⟩
theorem SxW' (h : wkL Γ Γ' = true) : ∀ a, Sx f Γ' a → Sx f Γ a := fun a ⟨h1, i, e⟩ => ⟨h1, i, wk_st (wkL_at h i) e⟩
end
/-! ### statements -/
section
variable {X : Cx} {f : Fr} {Γ Γ1 Γ' Γb Γc : List Kd} {e : Expr} {a : EM D} {s t : SM} {st : Stmt} {sts rest : List Stmt} {pos : Pos} {m : Md}
abbrev XS (X : Cx) (f : Fr) (Γ Γ' Γb Γc : List Kd) (st : Stmt) (s : SM) : Prop := PS X st (RS f Γ Γ' Γb Γc s)
abbrev XSs (X : Cx) (f : Fr) (Γ Γ' Γb Γc : List Kd) (st : List Stmt) (s : SM) : Prop := PSs X st (RS f Γ Γ' Γb Γc s)
/-- what is wanted of a statement's answer -/
def ObS (f : Fr) (Γ' Γb Γc : List Kd) (T : Addr → Prop) (H : Hp) (r : R Env Out) (D : Ends) : Prop := match r with
  | .ok .nx ρ' => ∀ σ' gh' H', Rel f Γ' ρ' gh' σ' H' → StK H H' T (Tp Γ' gh') → D.nx σ' H'
  | .ok (.rt d) ρ' => ∀ v H', RetOk f ρ' d v H' → D.rt v H'
  | .ok .bk ρ' => ∀ σ' gh' H', Rel f Γb ρ' gh' σ' H' → StK H H' T (Tp Γb gh') → D.bk σ' H'
  | .ok .ct ρ' => ∀ σ' gh' H', Rel f Γc ρ' gh' σ' H' → StK H H' T (Tp Γc gh') → D.ct σ' H'
  | .exn x ρ' => ∀ cls dx σ' gh' H', Rel f f.Γx ρ' gh' σ' H' → ExV f.g (Bo f f.Γx) x cls dx H' → f.W cls dx σ' H'
  | .stuck => False
theorem StK.refl {H : Hp} {T : Addr → Prop} : StK H H T T := ⟨Kp.refl, fun a h => .inl h⟩
theorem StK.sub {H : Hp} {T T' : Addr → Prop} (h : ∀ a, T' a → T a) : StK H H T T' := ⟨Kp.refl, fun a z => .inl (h a z)⟩
theorem StK.trans {H H1 H2 : Hp} {T T1 T2 : Addr → Prop} (a : StK H H1 T T1) (b : StK H1 H2 T1 T2) : StK H H2 T T2 := by
  refine ⟨⟨fun c o e m t => ?_, fun c e => a.1.2 c (b.1.2 c e)⟩, fun c h => ?_⟩
  · refine b.1.1 c o (a.1.1 c o e m t) (fun mu h => ?_) t
    rcases a.2 c h with z | z
    · exact m mu z
    · rw [e] at z; cases z
  · rcases b.2 c h with z | z
    · exact a.2 c z
    · exact .inr (a.1.2 c z)
theorem ObS.shift {T T1 : Addr → Prop} {H H1 : Hp} {r : R Env Out} {D : Ends} (h : ObS f Γ' Γb Γc T H r D) (k : StK H H1 T T1) : ObS f Γ' Γb Γc T1 H1 r D := by
  cases r with
  | ok o ρ' =>
    cases o with
    | nx => exact fun σ' gh' H' R' k' => h σ' gh' H' R' (k.trans k')
    | rt d => exact h
    | bk => exact fun σ' gh' H' R' k' => h σ' gh' H' R' (k.trans k')
    | ct => exact fun σ' gh' H' R' k' => h σ' gh' H' R' (k.trans k')
  | exn x ρ' => exact h
  | stuck => exact h
theorem StK.of {ρ : Env} {σ : L2.St} {H H' : Hp} {gh : Nat → List Addr} (R : Rel f Γ ρ gh σ H) (k : Kp (Sx f Γ) H H') : StK H H' (Tp Γ gh) (Tp Γ gh) := ⟨k.mono fun a ⟨h, i, e⟩ => ⟨i, by rw [e, (R.lent i e).1]; exact h⟩, fun a h => .inl h⟩
theorem tp_wk {gh : Nat → List Addr} (h : wkL Γ Γ' = true) : ∀ a, Tp Γ' (fun i => ghW (Γ'.getD i .un) (gh i)) a → Tp Γ gh a := fun a ⟨i, z⟩ => ⟨i, tops_wk (wkL_at h i) z⟩
/-- an exception of a part -/
theorem ObS.exn {x : Ex} {ρ' : Env} {T : Addr → Prop} {H : Hp} {D : Ends} (hw : wkL Γ f.Γx = true) (w : ObS f Γ' Γb Γc T H (.exn x ρ') D) : ∀ (σ : L2.St) (gh1 : Nat → List Addr) cls dx H', Rel f Γ ρ' gh1 σ H' → ExV f.g (Bo f Γ) x cls dx H' → f.W cls dx σ H' :=
  fun σ gh1 cls dx H' R' ex => w cls dx σ _ H' (R'.weak hw) (ex.mono (S := fun _ => False) Kp.refl (fun _ z => z.elim) fun a z => z.imp id (SxW' hw a))
/-- a statement's expression first -/
theorem RE.fstS {σ : L2.St} {H H0 : Hp} {k : D → SM} {D : Ends} {Q' : VK} {ρ : Env} {gh : Nat → List Addr} {T : Addr → Prop} (hw : wkL Γ f.Γx = true) (R : Rel f Γ ρ gh σ H) (w : ObS f Γ' Γb Γc T H0 ((a >>= k) ρ) D)
    (step : ∀ d ρ' v H' L, Rel f Γ ρ' gh σ H' → Kp (Sx f Γ) H H' → VO f.g (f.oc σ) (Bo f Γ) (Bx f Γ gh) H' m d v L → NewIn H Γ gh m.U L → ObS f Γ' Γb Γc T H0 (k d ρ') D → Q' v H') : RE f Γ m a σ H Q' :=
  RE.first (Wr := fun _ r => ObS f Γ' Γb Γc T H0 r D) R w (fun x ρ' h cls dx H' R' _ ex => h.exn hw σ gh cls dx H' R' ex) (fun h => h) step
theorem RT.fstS {tc : EM Bool} {σ : L2.St} {H H0 : Hp} {k : Bool → SM} {D : Ends} {Q' : Bool → Hp → Prop} {ρ : Env} {gh : Nat → List Addr} {T : Addr → Prop} (hw : wkL Γ f.Γx = true) (R : Rel f Γ ρ gh σ H) (w : ObS f Γ' Γb Γc T H0 ((tc >>= k) ρ) D)
    (step : ∀ b ρ' H', Rel f Γ ρ' gh σ H' → Kp (Sx f Γ) H H' → ObS f Γ' Γb Γc T H0 (k b ρ') D → Q' b H') : RT f Γ tc σ H Q' := by
  refine ⟨ρ, gh, R, ?_⟩
  rw [bind_ap] at w
  cases e : tc ρ with
  | ok b ρ' => rw [e] at w; exact fun H' R' k' => step b ρ' H' R' k' w
  | exn x ρ' => rw [e] at w; exact fun cls dx H' R' _ ex => w.exn hw σ gh cls dx H' R' ex
  | stuck => rw [e] at w; exact w
theorem xs_nil : XSs X f Γ Γ Γb Γc [] sSkip := PSs.mono pss_nil fun D σ H ⟨ρ, gh, R, q⟩ => q σ gh H R StK.refl
theorem xs_cons (h1 : XS X f Γ Γ1 Γb Γc st s) (h2 : XSs X f Γ1 Γ' Γb Γc rest t) : XSs X f Γ Γ' Γb Γc (st :: rest) (sSeq s t) :=
  PSs.mono (pss_cons h1 h2) fun D σ H ⟨ρ, gh, R, q⟩ => by
    have q' : ObS f Γ' Γb Γc (Tp Γ gh) H ((s >>= fun o => match o with | .nx => t | o => Pure.pure o) ρ) D := q
    rw [bind_ap] at q'
    refine ⟨ρ, gh, R, ?_⟩
    cases e : s ρ with
    | ok o ρ' =>
      rw [e] at q'
      cases o with
      | nx => exact fun σ' gh' H' R' k' => ⟨ρ', gh', R', q'.shift k'⟩
      | rt d => exact q'
      | bk => exact q'
      | ct => exact q'
    | exn x ρ' => rw [e] at q'; exact q'
    | stuck => rw [e] at q'; exact q'
theorem xs_one (h1 : XS X f Γ Γ' Γb Γc st s) : XSs X f Γ Γ' Γb Γc [st] s := pss_one h1
/-- kinds are weakened ahead of a statement -/
theorem xs_weak (hw : wkL Γ Γ1 = true) (h : XSs X f Γ1 Γ' Γb Γc sts s) : XSs X f Γ Γ' Γb Γc sts s :=
  PSs.mono h fun D σ H ⟨ρ, gh, R, q⟩ => ⟨ρ, _, R.weak hw, (show ObS f Γ' Γb Γc (Tp Γ gh) H (s ρ) D from q).shift (StK.sub (tp_wk hw))⟩
/-- .. behind -/
theorem ObS.post {T : Addr → Prop} {H : Hp} {r : R Env Out} {D : Ends} (hw : wkL Γ1 Γ' = true) (h : ObS f Γ' Γb Γc T H r D) : ObS f Γ1 Γb Γc T H r D := by
  cases r with
  | ok o ρ' =>
    cases o with
    | nx => exact fun σ' gh' H' R' k' => h σ' _ H' (R'.weak hw) (k'.trans (StK.sub (tp_wk hw)))
    | _ => exact h
  | exn x ρ' => exact h
  | stuck => exact h
theorem xs_post (hw : wkL Γ1 Γ' = true) (h : XSs X f Γ Γ1 Γb Γc sts s) : XSs X f Γ Γ' Γb Γc sts s :=
  PSs.mono h fun D σ H ⟨ρ, gh, R, q⟩ => ⟨ρ, gh, R, (show ObS f Γ' Γb Γc (Tp Γ gh) H (s ρ) D from q).post hw⟩
theorem xs_pass : XS X f Γ Γ Γb Γc (.Pass pos) sSkip := PS.mono ps_pass fun D σ H ⟨ρ, gh, R, q⟩ => q σ gh H R StK.refl
theorem xs_break : XS X f Γ Γ' Γ Γc (.Break pos) (Pure.pure .bk) := PS.mono ps_break fun D σ H ⟨ρ, gh, R, q⟩ => q σ gh H R StK.refl
theorem xs_continue : XS X f Γ Γ' Γb Γ (.Continue pos) (Pure.pure .ct) := PS.mono ps_continue fun D σ H ⟨ρ, gh, R, q⟩ => q σ gh H R StK.refl
theorem xs_doc {x : Str} {j : Nat} {pos' : Pos} : XS X f Γ Γ Γb Γc (.Expr (.Constant (.str x) j pos) pos') sSkip := PS.mono ps_doc fun D σ H ⟨ρ, gh, R, q⟩ => q σ gh H R StK.refl
theorem xs_expr (h : XE X f Γ e m a) (hw : wkL Γ f.Γx = true) (hs : swapsWith e none pos.line X.env = pure false := by rfl) : XS X f Γ Γ Γb Γc (.Expr e pos) (sExpr a) :=
  PS.mono (ps_expr h hs) fun D σ H ⟨ρ, gh, R, q⟩ => by
    refine RE.fstS (m := m) hw R (show ObS f Γ Γb Γc (Tp Γ gh) H ((a >>= fun _ => Pure.pure .nx) ρ) D from q) fun d ρ' v H' L R' k' vo n w => ?_
    exact (show ObS f Γ Γb Γc (Tp Γ gh) H (.ok .nx ρ') D from w) σ gh H' R' (StK.of R k')
theorem xs_if {c : Expr} {tc : EM Bool} {sa sb : List Stmt} (hc : XT X f Γ c tc) (ha : XSs X f Γ Γ' Γb Γc sa s) (hb : XSs X f Γ Γ' Γb Γc sb t) (hw : wkL Γ f.Γx = true) : XS X f Γ Γ' Γb Γc (.If c sa sb pos) (sIf tc s t) :=
  PS.mono (ps_if hc ha hb) fun D σ H ⟨ρ, gh, R, q⟩ => by
    refine RT.fstS hw R (show ObS f Γ' Γb Γc (Tp Γ gh) H ((tc >>= fun x => if x = true then s else t) ρ) D from q) fun b ρ' H' R' k' w => ?_
    cases b with
    | true => exact ⟨ρ', gh, R', w.shift (StK.of R k')⟩
    | false => exact ⟨ρ', gh, R', w.shift (StK.of R k')⟩
/-! ### return -/
def retMd : Md → Md → Bool
  | .own [], .own _ => true
  | .own [], .sh => false
  | .sh, .sh => true
  | .tp [], .tp _ => true
  | _, _ => false
/-- what is lent stands for its data -/
theorem Rel.io {ρ : Env} {gh : Nat → List Addr} {σ : L2.St} {H : Hp} (R : Rel f Γ ρ gh σ H) (h0 : Γ.getD 0 .un = .st) : ∃ s, ρ.getD 0 none = some s ∧ Ow f.g H s f.v0 f.S0 := by
  have s := R.slot 0
  obtain ⟨e1, e2⟩ := R.lent 0 h0
  rw [h0] at s
  obtain ⟨d, v, e3, e4, q⟩ := s
  rw [e2] at e4; cases e4
  rw [e1] at q
  exact ⟨d, e3, q⟩
theorem xs_ret (h : XE X f Γ e m a) (hm : retMd f.rm m = true) (hio : f.io = false ∨ Γ.getD 0 .un = .st) (hw : wkL Γ f.Γx = true) : XS X f Γ Γ' Γb Γc (.Return (some e) pos) (sRet a) :=
  PS.mono (ps_ret h) fun D σ H ⟨ρ, gh, R, q⟩ => by
    refine RE.fstS (m := m) hw R (show ObS f Γ' Γb Γc (Tp Γ gh) H ((a >>= fun d => Pure.pure (.rt d)) ρ) D from q) fun d ρ' v H' L R' k' vo n w => ?_
    refine (show ObS f Γ' Γb Γc (Tp Γ gh) H (.ok (.rt d) ρ') D from w) v H' ?_
    have fr : ∀ U : List Nat, m.U = U → ∀ a ∈ L, f.H0 a = none := fun U _ a ha => by
      rcases n.2 a ha with z | ⟨i, _, z, ne⟩
      · exact R.keep.2 a z
      · exact R.fresh i ne a z
    have vr : ∀ B : Addr → Prop, (∀ a, B a → Bo f Γ a) → VR f.g B f.H0 H' f.rm d v := fun B hB => by
      cases hr : f.rm with
      | own U =>
        rw [hr] at hm
        cases U with
        | cons _ _ => cases m <;> cases hm
        | nil => cases m <;> first | exact ⟨L, vo, n.1, fr _ rfl⟩ | cases hm
      | sh =>
        rw [hr] at hm
        cases m <;> first | exact vo.2.sub fun a z => Bo_sub R a (hB a z) | cases hm
      | tp U =>
        rw [hr] at hm
        cases U with
        | cons _ _ => cases m <;> cases hm
        | nil =>
          cases m <;> first | (cases hm; done) | skip
          obtain ⟨a, e1, e2, q⟩ := vo
          exact ⟨a, e2, fr _ rfl a (by rw [e1]; simp), q.mono (S := fun _ => False) Kp.refl (fun z => z) (fun _ z => z.elim) (fun _ _ z => .inl z) fun a z => z.imp (fun z => Bo_sub R a (hB a z)) id⟩
      | _ => rw [hr] at hm; cases m <;> cases hm
    refine ⟨vr _ fun a z => .inl z, R'.keep, R'.tabs, fun io => ?_⟩
    have h0 : Γ.getD 0 .un = .st := hio.resolve_left (by rw [io]; exact Bool.noConfusion)
    obtain ⟨s, e1, e2⟩ := R'.io h0
    exact ⟨s, e1, e2, vr _ fun a z => z.elim .inl fun z => .inr ⟨z, 0, h0⟩⟩
end
end PP
-- PP10
/-! PP10: stores to slots. -/
namespace PP
open PySem PySem.Spec PyProof.Rows L2
theorem getD_set_eq {α : Type} {l : List α} {i k : Nat} {x d : α} (h : i < l.length) : (l.set i x).getD k d = if k = i then x else l.getD k d := by
  rw [List.getD_eq_getElem?_getD, List.getD_eq_getElem?_getD]
  by_cases e : k = i
  · subst e; rw [if_pos rfl, List.getElem?_set_self h]; rfl
  · rw [if_neg e, List.getElem?_set_ne (Ne.symm e)]
theorem getD_out {α : Type} {l : List α} {k : Nat} {d : α} (h : l.length ≤ k) : l.getD k d = d := by
  rw [List.getD_eq_getElem?_getD, List.getElem?_eq_none h]; rfl
theorem wk_refl (k : Kd) : wk k k = true := by cases k <;> rfl
theorem wkL_refl : ∀ Γ : List Kd, wkL Γ Γ = true
  | [] => rfl
  | k :: r => by simp only [wkL, Bool.and_eq_true]; exact ⟨wk_refl k, wkL_refl r⟩
def Kd.isC : Kd → Bool
  | .cs | .tc => true
  | _ => false
def noC (Γ : List Kd) : Bool := Γ.all fun k => !k.isC
theorem noC_at {Γ : List Kd} (h : noC Γ = true) (i : Nat) : (Γ.getD i .un).isC = false := by
  rw [List.getD_eq_getElem?_getD]
  cases e : Γ[i]? with
  | none => rfl
  | some k =>
    have := List.all_eq_true.mp h k (List.mem_of_getElem? e)
    simpa using this
theorem SlotOk.oc {g : G} {oc oc' : Addr → V → Prop} {B : Addr → Prop} {H : Hp} {k : Kd} {od : Option D} {ov : Option V} {M : List Addr} (hk : k.isC = false) (h : SlotOk g oc B H k od ov M) : SlotOk g oc' B H k od ov M := by
  cases k <;> first | exact h | cases hk
section
variable {f : Fr} {Γ Γ' : List Kd} {ρ ρ' : Env} {gh gh' : Nat → List Addr} {σ : L2.St} {H H' : Hp}
/-- a slot's kind from a value's -/
def mdKd : Md → Kd → Bool
  | .own _, .ow | .own _, .ox => true
  | .tp _, .tp | .tc _, .tc => true
  | .sh, .sh | .cs, .cs => true
  | _, _ => false
/-- what is new stands apart of the slots -/
structure Apart (f : Fr) (Γ : List Kd) (ρ : Env) (gh : Nat → List Addr) (σ : L2.St) (H : Hp) (L : List Addr) : Prop where
  slot : ∀ i, SlotOk f.g (f.oc σ) (fun a => Bx f Γ gh a ∨ a ∈ L) H (Γ.getD i .un) (ρ.getD i none) (σ.getD i none) (gh i)
  out : ∀ a ∈ L, (∀ i, a ∉ gh i) ∧ ¬ f.B0 a ∧ f.H0 a = none
  nd : L.Nodup
theorem Apart.nil (R : Rel f Γ ρ gh σ H) : Apart f Γ ρ gh σ H [] := ⟨fun i => (R.slot i).mono (S := fun _ => False) Kp.refl (fun _ _ z => z) (fun _ z => z.elim) (fun _ _ z => .inl z) fun a z => z.elim id (fun z => by cases z), (fun a z => by cases z), List.nodup_nil⟩
theorem Apart.of {L : List Addr} (R : Rel f Γ ρ gh σ H) (R' : Rel f Γ ρ' gh σ H') (eq : ∀ j, Γ.getD j .un ≠ .st → ρ'.getD j none = ρ.getD j none) (kp : Kp (Sx f Γ) H H') (n : NewIn H Γ gh [] L) : Apart f Γ ρ' gh σ H' L := by
  have fr : ∀ a ∈ L, H a = none := fun a ha => (n.2 a ha).resolve_right fun ⟨_, z, _⟩ => nomatch z
  refine ⟨fun j => ?_, fun a ha => ⟨fun i => R.ngh (fr a ha) i, fun z => R.nbx (fr a ha) (.inl z), R.keep.2 a (fr a ha)⟩, n.1⟩
  by_cases est : Γ.getD j .un = .st
  · have s := R'.slot j
    rw [est] at s ⊢
    exact s
  · rw [eq j est]
    exact ((R.slot j).avoid fr).mono kp (fun a ha z => est (Sx_gh R z ha)) (fun a z => .inl (Sx_sub R a z)) (fun a w z => .inl z) fun _ z => z
/-- the cells' holds, behind a store to i -/
def Hoc (f : Fr) (Γ : List Kd) (i : Nat) : Bool := noC Γ || !f.caps.contains i
theorem oc_set {i : Nat} {x : Option V} (h : f.caps.contains i = false) {a : Addr} {w : V} (z : f.oc σ a w) : f.oc (σ.set i x) a w := by
  obtain ⟨j, h1, h2, h3⟩ := z
  refine ⟨j, h1, h2, ?_⟩
  have : j ≠ i := fun e => by
    rw [e] at h1
    rw [List.contains_eq_mem, decide_eq_false_iff_not] at h
    exact h h1
  rw [List.getD_eq_getElem?_getD, List.getElem?_set_ne (Ne.symm this), ← List.getD_eq_getElem?_getD]
  exact h3
theorem SlotOk.stored {i j : Nat} {x : Option V} {B : Addr → Prop} {k : Kd} {od : Option D} {ov : Option V} {M : List Addr} (hoc : Hoc f Γ i = true) (hk : Γ.getD j .un = k) (h : SlotOk f.g (f.oc σ) B H k od ov M) : SlotOk f.g (f.oc (σ.set i x)) B H k od ov M := by
  rcases Bool.or_eq_true _ _ ▸ hoc with z | z
  · exact h.oc (by rw [← hk]; exact noC_at z j)
  · exact h.mono (S := fun _ => False) Kp.refl (fun _ _ z => z) (fun _ z => z.elim) (fun a w q => .inl (oc_set (by simpa using z) q)) fun _ z => z
theorem Rel.put {i : Nat} {k' : Kd} {m : Md} {d : D} {v : V} {L M : List Addr} (R : Rel f Γ ρ gh σ H) (A : Apart f Γ ρ gh σ H (L ++ M))
    (vo : VO f.g (f.oc σ) (Bo f Γ) (fun a => Bx f Γ gh a ∨ a ∈ M) H m d v L) (hi : i < f.n) (hik : Γ.getD i .un ≠ .st) (hk : mdKd m k' = true) (hl : i < Γ.length) (ht : k' = .ow → L = [] ∨ d.isTop = true)
    (hoc : Hoc f (Γ.set i k') i = true) :
    Rel f (Γ.set i k') (ρ.set i (some d)) (fun j => if j = i then ghW k' L else gh j) (σ.set i (some v)) H ∧ Apart f (Γ.set i k') (ρ.set i (some d)) (fun j => if j = i then ghW k' L else gh j) (σ.set i (some v)) H M := by
  have hΓ : ∀ j, (Γ.set i k').getD j .un = if j = i then k' else Γ.getD j .un := fun j => getD_set_eq hl
  have hρ : ∀ j, (ρ.set i (some d)).getD j none = if j = i then some d else ρ.getD j none := fun j => getD_set_eq (by rw [R.lr]; exact hi)
  have hσ : ∀ j, (σ.set i (some v)).getD j none = if j = i then some v else σ.getD j none := fun j => getD_set_eq (by rw [R.ls]; exact hi)
  have hkst : k' ≠ .st := fun z => by rw [z] at hk; cases m <;> cases hk
  have oL := fun a ha => A.out a (List.mem_append_left M ha)
  have nd := List.nodup_append.mp A.nd
  have sub : ∀ a, Bx f (Γ.set i k') (fun j => if j = i then ghW k' L else gh j) a → Bx f Γ gh a ∨ a ∈ tops k' L := fun a z => by
    rcases z with z | ⟨j, z⟩
    · exact .inl (.inl z)
    · dsimp only at z
      rw [hΓ j] at z
      by_cases e : j = i
      · rw [if_pos e, if_pos e] at z
        refine .inr ?_
        cases k' <;> first | exact z | cases z
      · rw [if_neg e, if_neg e] at z
        exact .inl (.inr ⟨j, z⟩)
  have subM : ∀ a, (Bx f (Γ.set i k') (fun j => if j = i then ghW k' L else gh j) a ∨ a ∈ M) → Bx f Γ gh a ∨ a ∈ L ++ M := fun a z => z.elim (fun z => (sub a z).imp id fun z => List.mem_append_left _ (tops_sub z)) fun z => .inr (List.mem_append_right _ z)
  have hnd : (ghW k' L).Nodup := by cases k' <;> first | exact nd.1 | exact List.nodup_nil
  have slot : ∀ j, SlotOk f.g (f.oc (σ.set i (some v))) (fun a => Bx f (Γ.set i k') (fun j => if j = i then ghW k' L else gh j) a ∨ a ∈ M) H ((Γ.set i k').getD j .un) ((ρ.set i (some d)).getD j none) ((σ.set i (some v)).getD j none) (if j = i then ghW k' L else gh j) := fun j => by
    refine SlotOk.stored hoc rfl ?_
    rw [hΓ j, hρ j, hσ j]
    by_cases e : j = i
    · rw [if_pos e, if_pos e, if_pos e, if_pos e]
      have subK : ∀ {a}, L = [a] → ∀ x, (Bx f (Γ.set i k') (fun j => if j = i then ghW k' L else gh j) x ∨ x ∈ M) → (Bx f Γ gh x ∨ x ∈ M) ∨ x = a := fun {a} e1 x z => z.elim (fun z => (sub x z).elim (fun z => .inl (.inl z)) fun z => .inr (by
        have z := tops_sub z
        rw [e1] at z; exact List.mem_singleton.mp z)) fun z => .inl (.inr z)
      cases m with
      | own U =>
        cases k' <;> first | cases hk | skip
        · exact ⟨d, v, rfl, rfl, ht rfl, vo⟩
        · exact ⟨d, v, rfl, rfl, vo⟩
      | tp U =>
        cases k' <;> first | cases hk | skip
        obtain ⟨a, e1, e2, q⟩ := vo
        exact ⟨d, v, a, rfl, rfl, e1, e2, q.mono (S := fun _ => False) Kp.refl (fun z => z) (fun _ z => z.elim) (fun _ _ z => .inl z) (subK e1)⟩
      | tc U =>
        cases k' <;> first | cases hk | skip
        obtain ⟨a, e1, e2, q⟩ := vo
        exact ⟨d, v, a, rfl, rfl, e1, e2, q.mono (S := fun _ => False) Kp.refl (fun z => z) (fun _ z => z.elim) (fun _ _ z => .inl z) (subK e1)⟩
      | sh =>
        cases k' <;> first | cases hk | skip
        exact ⟨rfl, d, v, rfl, rfl, vo.2.sub fun x z => z.imp (fun z => (sub x z).resolve_right fun z => nomatch z) id⟩
      | cs =>
        cases k' <;> first | cases hk | skip
        exact ⟨rfl, d, v, rfl, rfl, vo.2.sub fun x z => z.imp (fun z => (sub x z).resolve_right fun z => nomatch z) id⟩
      | _ => cases hk
    · rw [if_neg e, if_neg e, if_neg e, if_neg e]
      exact (A.slot j).mono (S := fun _ => False) Kp.refl (fun _ _ z => z) (fun _ z => z.elim) (fun _ _ z => .inl z) subM
  refine ⟨⟨by rw [List.length_set]; exact R.lr, by rw [List.length_set]; exact R.ls, fun j => ?_, fun j => ?_, fun j l a ha hb => ?_, fun j e a ha => ?_, fun j e => ?_, fun j e => ?_, R.b0, fun j a ha => ?_, R.s0, R.keep, R.tabs⟩, slot, fun a ha => ?_, nd.2.1⟩
  · exact (slot j).mono (S := fun _ => False) Kp.refl (fun _ _ z => z) (fun _ z => z.elim) (fun _ _ z => .inl z) fun _ z => .inl z
  · try dsimp only
    by_cases e : j = i
    · rw [if_pos e]; exact hnd
    · rw [if_neg e]; exact R.nd j
  · try dsimp only at ha hb
    by_cases e : j = i
    · rw [if_pos e] at ha
      by_cases e2 : l = i
      · rw [e, e2]
      · rw [if_neg e2] at hb
        exact absurd hb ((oL a (ghW_sub ha)).1 l)
    · rw [if_neg e] at ha
      by_cases e2 : l = i
      · rw [if_pos e2] at hb
        exact absurd ha ((oL a (ghW_sub hb)).1 j)
      · rw [if_neg e2] at hb
        exact R.dj j l a ha hb
  · try dsimp only at ha
    by_cases ej : j = i
    · rw [if_pos ej] at ha
      exact (oL a (ghW_sub ha)).2.2
    · rw [if_neg ej] at ha
      rw [hΓ j, if_neg ej] at e
      exact R.fresh j e a ha
  · rw [hΓ j] at e
    try dsimp only
    by_cases ej : j = i
    · rw [if_pos ej] at e; exact absurd e hkst
    · rw [if_neg ej] at e
      rw [if_neg ej, hσ j, if_neg ej]
      exact R.lent j e
  · rw [hΓ j] at e
    by_cases ej : j = i
    · rw [if_pos ej] at e; exact absurd e hkst
    · rw [if_neg ej] at e; exact R.one j e
  · try dsimp only at ha
    by_cases ej : j = i
    · rw [if_pos ej] at ha
      exact (oL a (ghW_sub ha)).2.1
    · rw [if_neg ej] at ha
      exact R.nb j a ha
  · obtain ⟨h1, h2, h3⟩ := A.out a (List.mem_append_right _ ha)
    refine ⟨fun j => ?_, h2, h3⟩
    try dsimp only
    by_cases e : j = i
    · rw [if_pos e]
      exact fun z => nd.2.2 a (ghW_sub z) a ha rfl
    · rw [if_neg e]; exact h1 j
/-- what stays of the slots' data behind an expression -/
def jsOk (f : Fr) (Γ : List Kd) : Bool := decide (Γ.getD f.js .un = .st) || Nat.ble f.n f.js
theorem Pu.all {α : Type} {a : EM α} [P : Pu f.js a] (h : jsOk f Γ = true) (R : Rel f Γ ρ gh σ H) (R' : Rel f Γ ρ' gh σ H') {x : α} (e : a ρ = .ok x ρ') : ∀ j, Γ.getD j .un ≠ .st → ρ'.getD j none = ρ.getD j none := fun j hj => by
  by_cases ej : j = f.js
  · rcases Bool.or_eq_true _ _ ▸ h with z | z
    · rw [ej] at hj
      exact absurd (of_decide_eq_true z) hj
    · have := Nat.le_of_ble_eq_true z
      rw [getD_out (by rw [R'.lr, ej]; exact this), getD_out (by rw [R.lr, ej]; exact this)]
  · exact P.eq ρ x ρ' e j ej
/-- how the tops go on behind a store -/
theorem StK.put {i : Nat} {k' : Kd} {L : List Addr} (hl : i < Γ.length) (R : Rel f Γ ρ gh σ H) (k : Kp (Sx f Γ) H H') (n : ∀ a ∈ L, H a = none) : StK H H' (Tp Γ gh) (Tp (Γ.set i k') (fun j => if j = i then ghW k' L else gh j)) :=
  ⟨(StK.of R k).1, fun a ⟨j, ha⟩ => by
    rw [getD_set_eq hl] at ha
    try dsimp only at ha
    by_cases e : j = i
    · rw [if_pos e, if_pos e] at ha
      exact .inr (n a (ghW_sub (tops_sub ha)))
    · rw [if_neg e, if_neg e] at ha
      exact .inl ⟨j, ha⟩⟩
end
section
variable {X : Cx} {f : Fr} {Γ Γ1 Γ' Γb Γc : List Kd} {e : Expr} {a : EM D} {s t : SM} {pos : Pos} {m : Md}
def stOk (f : Fr) (Γ : List Kd) (i : Nat) (m : Md) (k' : Kd) : Bool := Nat.blt i f.n && (Nat.blt i Γ.length && (decide (Γ.getD i .un ≠ .st) && (mdKd m k' && (Hoc f (Γ.set i k') i && (m.U.isEmpty && (jsOk f Γ && decide (k' ≠ .ow)))))))
structure StOk (f : Fr) (Γ : List Kd) (i : Nat) (m : Md) (k' : Kd) : Prop where
  h1 : i < f.n
  h2 : i < Γ.length
  h3 : Γ.getD i .un ≠ .st
  h4 : mdKd m k' = true
  h5 : Hoc f (Γ.set i k') i = true
  h6 : m.U = []
  h7 : jsOk f Γ = true
theorem stOk_of {i : Nat} {k' : Kd} (h : stOk f Γ i m k' = true) : StOk f Γ i m k' ∧ k' ≠ .ow := by
  simp only [stOk, Bool.and_eq_true, decide_eq_true_eq] at h
  obtain ⟨h1, h2, h3, h4, h5, h6, h7, h8⟩ := h
  exact ⟨⟨Nat.le_of_ble_eq_true h1, Nat.le_of_ble_eq_true h2, h3, h4, h5, List.isEmpty_iff.mp h6, h7⟩, h8⟩
/-- x = e, the general form -/
theorem asg_run {i : Nat} {k' : Kd} {σ : L2.St} {H : Hp} {ρ : Env} {gh : Nat → List Addr} {D : Ends} [Pu f.js a] (o : StOk f Γ i m k') (ht : ∀ d ρ', a ρ = .ok d ρ' → k' = .ow → d.isTop = true) (hw : wkL Γ f.Γx = true) (R : Rel f Γ ρ gh σ H) (q : ObS f (Γ.set i k') Γb Γc (Tp Γ gh) H (sAsg i a ρ) D) : RE f Γ m a σ H (fun v H1 => D.nx (σ.set i (some v)) H1) := by
  have q' : ObS f (Γ.set i k') Γb Γc (Tp Γ gh) H ((a >>= fun d => (fun ρ => .ok .nx (ρ.set i (some d)) : SM)) ρ) D := q
  refine ⟨ρ, gh, R, ?_⟩
  rw [bind_ap] at q'
  cases ea : a ρ with
  | ok d ρ' =>
    rw [ea] at q'
    intro v H' L R' k vo n
    rw [o.h6] at n
    have A : Apart f Γ ρ' gh σ H' (L ++ []) := by
      rw [List.append_nil]
      exact Apart.of R R' (Pu.all o.h7 R R' ea) k n
    have P := Rel.put (M := []) R' A (vo.subB fun a z => z.elim id fun z => nomatch z) o.h1 o.h3 o.h4 o.h2 (fun e => .inr (ht d ρ' ea e)) o.h5
    exact q' (σ.set i (some v)) _ H' P.1 (StK.put o.h2 R k fun a ha => (n.2 a ha).resolve_right fun ⟨_, z, _⟩ => nomatch z)
  | exn x ρ' =>
    rw [ea] at q'
    exact fun cls dx H' R' _ ex => q'.exn hw σ gh cls dx H' R' ex
  | stuck => rw [ea] at q'; exact q'
/-- x = e -/
theorem xs_asg (i : Nat) (k' : Kd) {x : Str} {pos' : Pos} [Pu f.js a] (h : XE X f Γ e m a) (hN : X.N.Nodup) (hw : wkL Γ f.Γx = true := by rfl) (hst : stOk f Γ i m k' = true := by rfl) (hi : X.N[i]? = some x := by rfl) (hx : Loc X.env.scope x := by first | exact .inl rfl | exact .inr rfl)
    (hs : swapsWith e (some (.Name x pos')) pos.line X.env = pure false := by rfl) (hf : X.fn x = true ∨ X.env.scope.names.lookup x = some .local := by first | exact .inl rfl | exact .inr rfl) :
    XS X f Γ (Γ.set i k') Γb Γc (.Assign [.Name x pos'] e pos) (sAsg i a) :=
  PS.mono (ps_set hN hi hx h hs hf) fun D σ H ⟨ρ, gh, R, q⟩ => asg_run (stOk_of hst).1 (fun _ _ _ z => absurd z (stOk_of hst).2) hw R q
/-- .. to a slot that owns it whole: a list or a dict by its form -/
theorem xs_asgW (i : Nat) {x : Str} {pos' : Pos} [Pu f.js a] (h : XE X f Γ e (.own []) a) (hN : X.N.Nodup) (ht : ∀ ρ d ρ', a ρ = .ok d ρ' → d.isTop = true) (hw : wkL Γ f.Γx = true := by rfl) (hst : stOk f Γ i (.own []) .ox = true := by rfl) (hoc : Hoc f (Γ.set i .ow) i = true := by rfl) (hi : X.N[i]? = some x := by rfl) (hx : Loc X.env.scope x := by first | exact .inl rfl | exact .inr rfl)
    (hs : swapsWith e (some (.Name x pos')) pos.line X.env = pure false := by rfl) (hf : X.fn x = true ∨ X.env.scope.names.lookup x = some .local := by first | exact .inl rfl | exact .inr rfl) :
    XS X f Γ (Γ.set i .ow) Γb Γc (.Assign [.Name x pos'] e pos) (sAsg i a) :=
  PS.mono (ps_set hN hi hx h hs hf) fun D σ H ⟨ρ, gh, R, q⟩ => asg_run (let o := (stOk_of hst).1; ⟨o.h1, o.h2, o.h3, rfl, hoc, rfl, o.h7⟩) (fun d ρ' e _ => ht ρ d ρ' e) hw R q
end
end PP
-- PPE
/-! PPE: enumerate of a tuple. -/
namespace PP
open PySem PySem.Spec PyProof.Rows L2
theorem meets_enum_tup (l : Addr) (items : Array Value) :
    Meets (Builtin.«enumerate.__new__» ⟨[.type "enumerate", .ref l], []⟩) (fun _ R s => s.heap.IsTuple l items ∧
      R (.ok (.ret (.ref (s.heap.push { cls := .type "tuple_iterator", data := .fields #[.ref l, .int 0 0] }).objs.size)))
        { s with heap := (s.heap.push { cls := .type "tuple_iterator", data := .fields #[.ref l, .int 0 0] }).push { cls := .type "enumerate", data := .fields #[.none, .bool false, .ref s.heap.objs.size, rawInt 0, .none, .none] } }) :=
  .of_wp fun prog w A R s h => by
    obtain ⟨hp, g, d, tk, os⟩ := s; obtain ⟨hl, h⟩ := h
    have hsub := sub_enumerate
    have hL : Heap.IsTuple (Shared.heap ⟨hp, g, d, tk, os⟩) l items := hl
    wp_walk
    refine wpAny_stack_any fun st => wpAny_pure ?_
    split
    · rename_i c _ _ _ _ _
      cases (c == Value.type "enumerate")
      · wp_walk using wpAny_pyIter_tuple hL
        exact ⟨_, rfl, h⟩
      · wp_walk using wpAny_pyIter_tuple hL
        exact ⟨_, rfl, h⟩
    · wp_walk using wpAny_pyIter_tuple hL
      exact ⟨_, rfl, h⟩
section
variable {prog : Program} {w : World} {A : Around} {E : Value → Shared → Prop} {s : Shared}
theorem call_enum_tup {l : Addr} {items : Array Value} {Q : Value → Shared → Prop} (hL : s.heap.IsTuple l items)
    (h : ∀ h', IsEnum h' (s.heap.objs.size + 1) s.heap.objs.size 0 .none → h'.IsTupleIter s.heap.objs.size l 0 → h'.objs.size = s.heap.objs.size + 2 →
      (∀ b o, s.heap.get? b = some o → h'.get? b = some o) → Q (.ref (s.heap.objs.size + 1)) { s with heap := h' }) :
    wpAny (model prog w) A (call (.type "enumerate") [.ref l]) Q E s := by
  refine callType_new F.called_enumerate (by decide) (F.typeCall_enumerate_1 _) (F.newCall_enumerate_1 _) (fun obj => F.args_object_init_2 obj _) F.entry_enumerate_new
    (meets_enum_tup l items) ⟨hL, ?_⟩
  have hz : (s.heap.push { cls := .type "tuple_iterator", data := .fields #[.ref l, .int 0 0] }).objs.size = s.heap.objs.size + 1 := Heap.size_push ..
  show _ ∧ _
  rw [hz]
  have he : IsEnum ((s.heap.push { cls := .type "tuple_iterator", data := .fields #[.ref l, .int 0 0] }).push
      { cls := .type "enumerate", data := .fields #[.none, .bool false, .ref s.heap.objs.size, rawInt 0, .none, .none] }) (s.heap.objs.size + 1) s.heap.objs.size 0 .none := by
    have := Heap.get?_push_size (s.heap.push { cls := .type "tuple_iterator", data := .fields #[.ref l, .int 0 0] })
      (o := { cls := .type "enumerate", data := .fields #[.none, .bool false, .ref s.heap.objs.size, rawInt 0, .none, .none] }) rfl
    rw [hz] at this; exact this
  refine ⟨⟨_, he, rfl⟩, h _ he ⟨_, Heap.get?_push_of_some _ (Heap.get?_push_size _ rfl), rfl, rfl⟩ (by rw [Heap.size_push, hz]) fun b o x => Heap.get?_push_of_some _ (Heap.get?_push_of_some _ x)⟩
end
/-- the tuple at a, each item in a new pair -/
def IteT (K : PySem.W.Frag) (a : Addr) : It :=
  ⟨fun i H => ∃ (xs : List V) (x : V), SqT K H a xs ∧ xs[i]? = some x, fun i H v H' => ∃ T x, v = .ref T ∧ H T = none ∧ H' = upd H T (.tup [.int (i : Nat), x]) ∧ ∀ xs, SqT K H a xs → xs[i]? = some x, fun i H => ∃ xs : List V, SqT K H a xs ∧ xs.length ≤ i⟩
theorem turn_enumT {P : Program} {w : World} {K : PySem.W.Frag} {elts : List Expr} {kk : Nat} {tpos : Pos} (a e it : Addr) :
    Turn P w K (.Tuple elts kk tpos) (IteT K a) [e, it] e (fun i h => (∃ old, IsEnum h e it ((i : Nat) : Int) old) ∧ h.IsTupleIter it a i ∧ e ≠ it ∧ e ≠ a ∧ it ≠ a) where
  mem := by simp
  obj := fun i h st b hb => by
    obtain ⟨⟨old, he⟩, ⟨o, ho, hc, hd⟩, _⟩ := st
    have e' : b = e ∨ b = it := by simpa using hb
    rcases e' with z | z
    · rw [z]; exact ⟨_, he, fun v q => nomatch q⟩
    · rw [z]; exact ⟨o, ho, fun v q => by rw [hd] at q; cases q⟩
  keep := fun i h h' st k => let ⟨⟨old, he⟩, hi, hne⟩ := st; ⟨⟨old, k e (by simp) _ he⟩, hi.at fun o q => k it (by simp) o q, hne⟩
  item := by
    intro X hP hw hK hc i pins s σ H E I hf st hg
    subst hP hw hK
    obtain ⟨⟨old, he⟩, hit, hne, hea, hia⟩ := st
    obtain ⟨xs, x, hq, hx⟩ := hg
    obtain ⟨its, rv, p, hz⟩ := I.tuple hq
    obtain ⟨u, hu, ru⟩ := rv.get hx
    have hel : e < s.heap.objs.size := Heap.lt_size he
    have hil : it < s.heap.objs.size := by obtain ⟨_, q, _⟩ := hit; exact Heap.lt_size q
    have hh : X.A.in1.handled = none := I.ok.hd hc
    have pt : s.heap.IsTuple a its.toArray := p
    have hlt : i < its.toArray.size := by
      have := (List.getElem?_eq_some_iff.mp hu).1
      simpa using this
    refine wpAny_pyNext_enum_itemD (Draws.tuple hh it a (Ne.symm hia) its.toArray) he ⟨hit, pt⟩ hlt hne (by simp [hne, hea]) fun x' h' tk hx' ho hst' hT hsz hk => ?_
    obtain rfl : x' = u := by
      have : its[i]? = some x' := by simpa using hx'
      rw [hu] at this; exact (Option.some.inj this).symm
    refine ⟨_, rfl, wpAny_letOwnedTupleGo_enum (s := { s with heap := h', toks := tk + 1 }) ho fun h'' he' sb => ?_⟩
    have hT2 : h''.get? s.heap.objs.size = some { cls := .type "tuple", data := .seq #[.int i tk, x'] } := (sb.2 _ (Nat.ne_of_gt hel)).trans hT
    have new : ObjOk X.prog X.w (upd H s.heap.objs.size (.tup [.int (i : Nat), x])) h'' s.heap.objs.size (.tup [.int (i : Nat), x]) :=
      ⟨by show 2 ≤ sizeLine; decide, [.int i tk, x'], .cons ⟨_, rfl⟩ (.cons ru .nil), ⟨_, hT2, rfl, _, rfl⟩⟩
    have I1 : Inv X pins σ (upd H s.heap.objs.size (.tup [.int (i : Nat), x])) { s with heap := h'', toks := tk + 1 } :=
      I.turnedNew (ch := [e, it]) (fun b ob hb q => (sb.2 b (fun z => hb (by simp [z]))).trans (hk b ob (fun z => hb (by simp [z])) (fun z => hb (by simp [z])) q)) hf (Nat.le_refl _) new
    refine ⟨.ref s.heap.objs.size, _, I1, rfl, ⟨_, x, rfl, I.hok.fresh (Nat.le_refl _), rfl, fun ys hy => by rw [I.tuple_inj hy hq]; exact hx⟩, ⟨⟨x', ?_⟩, hst'.1.at fun o q => (sb.2 it (Ne.symm hne)).trans q, hne, hea, hia⟩, fun b hb => ?_⟩
    · have e1 : ((i + 1 : Nat) : Int) = (i : Int) + 1 := by omega
      rw [e1]; exact he'
    · have hb' : b < s.heap.objs.size := by
        have e' : b = e ∨ b = it := by simpa using hb
        rcases e' with z | z
        · rw [z]; exact hel
        · rw [z]; exact hil
      rw [upd_ne (Nat.ne_of_lt hb')]
      exact (hf b hb).1
  done := by
    intro X hP hw hK hc i pins s σ H E I hf st hg
    subst hP hw hK
    obtain ⟨⟨old, he⟩, hit, hne, hea, hia⟩ := st
    obtain ⟨xs, hq, hx⟩ := hg
    obtain ⟨its, rv, p, hz⟩ := I.tuple hq
    obtain ⟨f0, f1, f2, f3, f4, f5⟩ := hf it (by simp)
    have hl := rv.length
    have hh : X.A.in1.handled = none := I.ok.hd hc
    have pt : s.heap.IsTuple a its.toArray := p
    have hT : s.TypeIs (.ref e) "enumerate" := ⟨_, he, rfl⟩
    unfold pyNext
    refine wpAny_bind (wpAny_attempt (wpAny_callSpecial?_slot (name := Str.ofString "__next__") hT F.slot_enumerate_next
      (wpAny_call_entry F.slot_enumerate_next hT F.entry_enumerate_next ?_ (F.args_enumerate_next_1 _))))
    show wpAny _ _ (field (.ref e) 2 >>= _) _ _ _
    refine wpAny_bind (wpAny_field he rfl (x := .ref it) rfl ?_)
    refine wpAny_bind (wpAny_nextOf_tuple_end hh hit pt (by simp; omega) fun h' x he' hx' => ?_)
    obtain ⟨o, ho, hc⟩ := hx'
    refine wpAny_bind (wpAny_isInstance (T := "StopIteration") (b := true) ⟨o, ho, hc⟩ isSubtype_stop ?_)
    exact wpAny_pure ⟨rfl, I.turned (t' := s.toks) (fun b o hb q => he' b o hb q) f0 f1 f3 f4 f5⟩
  self := fun A i s Q E st h => let ⟨⟨_, he⟩, _⟩ := st; wpAny_pyIter_enum he h
def iEnumA (K : PySem.W.Frag) (ta : TA) : TI := fun σ H R => ta σ H fun vs H1 => ∃ a xs, vs = [.ref a] ∧ ((SqL K H1 a xs ∧ R (Ite K a) H1) ∨ (SqT K H1 a xs ∧ R (IteT K a) H1))
theorem pi_enumA {X : Cx} {e : Expr} {ta : TA} {p pos tpos : Pos} {elts : List Expr} {kk : Nat} (hg : Gl X "enumerate") (hm : X.mg "enumerate" = none) (ha : PA X [e] ta) (hs : starEach [e] X.env = [(false, eval e X.env)] := by rfl) :
    PI X (.Tuple elts kk tpos) (.Call (.Name "enumerate" p) [e] [] pos) (iEnumA X.K ta) := by
  refine ⟨fun pins s σ H R I h => ?_⟩
  refine Call_ (ld_blt I hg hm boot_enumerate (PyProof.Rows.callWith_type1 (thn (ha.run pos pins s σ H _ I h) fun us s1 ⟨vs, H1, I1, r1, q1⟩ => ?_) hs rfl))
  obtain ⟨a, xs, ex, q⟩ := q1
  subst ex
  cases r1 with
  | cons r rr =>
    cases rr
    cases r
    have fp : ∀ b, b ∈ [s1.heap.objs.size + 1, s1.heap.objs.size] → FpOk X pins H1 b := fun b hb => by
      have e' : b = s1.heap.objs.size + 1 ∨ b = s1.heap.objs.size := by simpa using hb
      have hle : s1.heap.objs.size ≤ b := by
        rcases e' with z | z
        · rw [z]; exact Nat.le_add_right _ _
        · rw [z]; exact Nat.le_refl _
      exact I1.fpOk hle (I1.hok.fresh hle)
    rcases q with ⟨hq, q⟩ | ⟨hq, q⟩
    · obtain ⟨its, rv, p', hz⟩ := I1.list hq
      refine call_enumerate_list p'.isList fun h' he hit hsz hk => wpAny_pyIter_enum he ?_
      have I2 : Inv X pins σ H1 { s1 with heap := h' } := I1.kept (t' := s1.toks) hk
      exact ⟨s1.heap.objs.size + 1, [s1.heap.objs.size + 1, s1.heap.objs.size], _, _, H1, rfl, I2, turn_enum a (s1.heap.objs.size + 1) s1.heap.objs.size, ⟨⟨.none, he⟩, hit, Nat.succ_ne_self _⟩, fp, q⟩
    · obtain ⟨its, rv, p', hz⟩ := I1.tuple hq
      have pt : s1.heap.IsTuple a its.toArray := p'
      have al : a < s1.heap.objs.size := by obtain ⟨o, e, _⟩ := pt; exact Heap.lt_size e
      refine call_enum_tup pt fun h' he hit hsz hk => wpAny_pyIter_enum he ?_
      have I2 : Inv X pins σ H1 { s1 with heap := h' } := I1.kept (t' := s1.toks) hk
      exact ⟨s1.heap.objs.size + 1, [s1.heap.objs.size + 1, s1.heap.objs.size], _, _, H1, rfl, I2, turn_enumT a (s1.heap.objs.size + 1) s1.heap.objs.size, ⟨⟨.none, he⟩, hit, Nat.succ_ne_self _, Nat.ne_of_gt (Nat.lt_succ_of_lt al), Nat.ne_of_gt al⟩, fp, q⟩
theorem walk_enumT {K : PySem.W.Frag} {a : Addr} {xs : List V} : Walk (IteT K a) xs.length (fun H => SqT K H a xs) (YPair (fun i => some (.int (i : Nat))) (fun i => xs[i]?)) := by
  refine ⟨fun i _ hi q => ⟨xs, xs[i], q, by simp [hi]⟩, fun _ q => ⟨xs, q, Nat.le_refl _⟩, fun i H v H' _ q y => ?_⟩
  obtain ⟨T, x, h1, h2, h3, h4⟩ := y
  exact ⟨T, .int (i : Nat), x, h1, h2, h3, rfl, h4 xs q⟩
theorem walk_zipT {K : PySem.W.Frag} {a b : Addr} {xs ys : List V} {n : Nat} (hn : n = min xs.length ys.length) : Walk (RZ.ItzT K a b) n (fun H => SqT K H a xs ∧ SqT K H b ys) (YPair (fun i => xs[i]?) (fun i => ys[i]?)) := by
  subst hn
  refine ⟨fun i _ hi q => ?_, fun _ q => ⟨xs, ys, q.1, q.2, by omega⟩, fun i H v H' _ q y => ?_⟩
  · have h1 : i < xs.length := by omega
    have h2 : i < ys.length := by omega
    exact ⟨xs, ys, xs[i], ys[i], q.1, q.2, by simp [h1], by simp [h2]⟩
  · obtain ⟨T, x, z, h1, h2, h3, h4, h5⟩ := y
    exact ⟨T, x, z, h1, h2, h3, h4 xs q.1, h5 ys q.2⟩
/-- a list or a tuple -/
def iSeq (K : PySem.W.Frag) (tl : TE) : TI := fun σ H R => tl σ H fun x H1 => ∃ a, x = .ref a ∧ ((∃ xs, SqL K H1 a xs ∧ R (Itl K a) H1) ∨ ∃ xs, SqT K H1 a xs ∧ R (Itt K a) H1)
theorem pi_seq {X : Cx} {tg l : Expr} {tl : TE} (hl : PE X l tl) : PI X tg l (iSeq X.K tl) := by
  refine ⟨fun pins s σ H R I h => ?_⟩
  refine thn (hl.run pins s σ H _ I h) fun v s1 ⟨x, H1, I1, r1, q1⟩ => ?_
  obtain ⟨a, e, q⟩ := q1
  subst e
  cases r1
  have fp : ∀ b, b ∈ [s1.heap.objs.size] → FpOk X pins H1 b := fun b hb => by
    have e : b = s1.heap.objs.size := by simpa using hb
    subst e
    exact I1.fpOk (Nat.le_refl _) (I1.hok.fresh (Nat.le_refl _))
  rcases q with ⟨xs, hq, q⟩ | ⟨xs, hq, q⟩
  · obtain ⟨its, rv, p, hz⟩ := I1.list hq
    refine wpAny_pyIter_list p.isList ?_
    exact ⟨s1.heap.objs.size, [s1.heap.objs.size], _, _, H1, rfl, I1.kept (t' := s1.toks) fun b o e => Heap.get?_push_of_some _ e, turn_list a _, ⟨_, Heap.get?_push_size _ rfl, rfl, rfl⟩, fp, q⟩
  · obtain ⟨its, rv, p, hz⟩ := I1.tuple hq
    refine wpAny_pyIter_tuple (show s1.heap.IsTuple a its.toArray from p) ?_
    exact ⟨s1.heap.objs.size, [s1.heap.objs.size], _, _, H1, rfl, I1.kept (t' := s1.toks) fun b o e => Heap.get?_push_of_some _ e, turn_tuple a _, ⟨_, Heap.get?_push_size _ rfl, rfl, rfl⟩, fp, q⟩
end PP
-- PP11
/-! PP11: targets, unpacking, parallel stores, what a loop walks, for, while. -/
namespace PP
open PySem PySem.Spec PyProof.Rows L2
theorem PG.mono {X : Cx} {e : Expr} {t t' : TG} (h : PG X e t) (m : ∀ v σ H Q, t' v σ H Q → t v σ H Q) : PG X e t' := ⟨fun pins s σ H v u Q I r q => h.run pins s σ H v u Q I r (m v σ H Q q)⟩
theorem PGs.mono {X : Cx} {e : List Expr} {t t' : TGs} (h : PGs X e t) (m : ∀ v σ H Q, t' v σ H Q → t v σ H Q) : PGs X e t' := ⟨fun pins s σ H v u Q I r q => h.run pins s σ H v u Q I r (m v σ H Q q)⟩
theorem PI.mono {X : Cx} {tg e : Expr} {t t' : TI} (h : PI X tg e t) (m : ∀ σ H R, t' σ H R → t σ H R) : PI X tg e t' := ⟨fun pins s σ H R I q => h.run pins s σ H R I (m σ H R q)⟩
/-- a target's store does not raise -/
class NoX (t : D → EM Unit) : Prop where
  no : ∀ d ρ x ρ', t d ρ ≠ .exn x ρ'
class NoXs (ts : List (D → EM Unit)) : Prop where
  no : ∀ ds ρ x ρ', tgAll ts ds ρ ≠ .exn x ρ'
instance (i : Nat) : NoX (tgN i) := ⟨fun d ρ x ρ' e => by cases e⟩
instance : NoXs [] := ⟨fun ds ρ x ρ' e => by cases ds <;> cases e⟩
instance (t : D → EM Unit) (ts : List (D → EM Unit)) [h1 : NoX t] [h2 : NoXs ts] : NoXs (t :: ts) := ⟨fun ds ρ x ρ' e => by
  cases ds with
  | nil => cases e
  | cons d ds =>
    have e : (do t d; tgAll ts ds : EM Unit) ρ = .exn x ρ' := e
    rw [bind_ap] at e
    cases e1 : t d ρ with
    | ok u ρ1 => rw [e1] at e; exact h2.no _ _ _ _ e
    | exn y ρ1 => exact h1.no _ _ _ _ e1
    | stuck => rw [e1] at e; cases e⟩
instance (ts : List (D → EM Unit)) [h : NoXs ts] : NoX (tgT ts) := ⟨fun d ρ x ρ' e => by
  cases d with
  | tup ds => exact h.no _ _ _ _ e
  | _ => cases e⟩
/-- an item's closures: of the frame's own cells, or none -/
def cmOf (f : Fr) (c : Bool) (σ : L2.St) : Addr → V → Prop := match c with | true => f.oc σ | false => nc
def cKd (c : Bool) : Kd := match c with | true => .cs | false => .sh
def cMd (c : Bool) : Md := match c with | true => .cs | false => .sh
/-- a target's reading: c: whether what comes may have closures of the frame; ws: the slots that are stored -/
def RG (f : Fr) (c : Bool) (Γ Γ' : List Kd) (ws : List Nat) (t : D → EM Unit) : TG := fun v σ H Q => ∃ ρ gh d, Rel f Γ ρ gh σ H ∧ Sh f.g (cmOf f c σ) (Bx f Γ gh) H d v ∧
  match t d ρ with
  | .ok _ ρ' => ∀ σ' gh', Rel f Γ' ρ' gh' σ' H → (∀ a, Tp Γ' gh' a ↔ Tp Γ gh a) → (∀ j, j ∉ ws → σ'.getD j none = σ.getD j none) → Q σ' H
  | _ => False
def RGs (f : Fr) (Γ Γ' : List Kd) (ws : List Nat) (ts : List (D → EM Unit)) : TGs := fun vs σ H Q => ∃ ρ gh ds, Rel f Γ ρ gh σ H ∧ ShA f.g nc (Bx f Γ gh) H ds vs ∧
  match tgAll ts ds ρ with
  | .ok _ ρ' => ∀ σ' gh', Rel f Γ' ρ' gh' σ' H → (∀ a, Tp Γ' gh' a ↔ Tp Γ gh a) → (∀ j, j ∉ ws → σ'.getD j none = σ.getD j none) → Q σ' H
  | _ => False
section
variable {X : Cx} {f : Fr} {Γ Γ1 Γ' Γb Γc : List Kd} {e : Expr} {a : EM D} {s t : SM} {pos : Pos} {m : Md} {c : Bool}
def gOk (f : Fr) (Γ : List Kd) (i : Nat) (k' : Kd) : Bool := Nat.blt i f.n && (Nat.blt i Γ.length && ((match Γ.getD i .un with | .un | .sh | .cs => true | _ => false) && Hoc f (Γ.set i k') i))
theorem gOk_of {i : Nat} {k' : Kd} (h : gOk f Γ i k' = true) : i < f.n ∧ i < Γ.length ∧ Γ.getD i .un ≠ .st ∧ Hoc f (Γ.set i k') i = true ∧ ∀ L, tops (Γ.getD i .un) L = [] := by
  simp only [gOk, Bool.and_eq_true] at h
  have h3 := h.2.2.1
  refine ⟨Nat.le_of_ble_eq_true h.1, Nat.le_of_ble_eq_true h.2.1, ?_, h.2.2.2, ?_⟩
  · intro e; rw [e] at h3; simp at h3
  · intro L
    generalize Γ.getD i .un = k at h3
    cases k <;> first | rfl | (exfalso; simp at h3; done)
/-- what is kept of what is shared is stored -/
theorem Rel.putC {i : Nat} {d : D} {v : V} {ρ : Env} {gh : Nat → List Addr} {σ : L2.St} {H : Hp} (h : gOk f Γ i (cKd c) = true) (R : Rel f Γ ρ gh σ H) (q : Sh f.g (cmOf f c σ) (Bx f Γ gh) H d v) :
    ∃ gh', Rel f (Γ.set i (cKd c)) (ρ.set i (some d)) gh' (σ.set i (some v)) H ∧ (∀ a, Tp (Γ.set i (cKd c)) gh' a ↔ Tp Γ gh a) ∧ (∀ a, Bx f (Γ.set i (cKd c)) gh' a → Bx f Γ gh a) := by
  obtain ⟨h1, h2, h3, h4, h5⟩ := gOk_of h
  have q0 : Sh f.g (cmOf f c σ) (fun a => Bx f Γ gh a ∨ a ∈ ([] : List Addr)) H d v := q.sub fun a z => z.elim id (fun z => nomatch z)
  have vo : VO f.g (f.oc σ) (Bo f Γ) (fun a => Bx f Γ gh a ∨ a ∈ ([] : List Addr)) H (cMd c) d v [] := by
    cases c
    · exact ⟨rfl, q0⟩
    · exact ⟨rfl, q0⟩
  have hm : mdKd (cMd c) (cKd c) = true := by cases c <;> rfl
  have ho : cKd c = .ow → ([] : List Addr) = [] ∨ d.isTop = true := fun _ => .inl rfl
  have P := Rel.put (M := []) (L := []) R (Apart.nil R) vo h1 h3 hm h2 ho h4
  have tp : ∀ a, Tp (Γ.set i (cKd c)) (fun j => if j = i then ghW (cKd c) [] else gh j) a → Tp Γ gh a := fun a ⟨j, z⟩ => by
    rw [getD_set_eq h2] at z
    try dsimp only at z
    by_cases e : j = i
    · rw [if_pos e, if_pos e] at z
      cases c <;> cases z
    · rw [if_neg e, if_neg e] at z
      exact ⟨j, z⟩
  have tp2 : ∀ a, Tp Γ gh a → Tp (Γ.set i (cKd c)) (fun j => if j = i then ghW (cKd c) [] else gh j) a := fun a ⟨j, z⟩ => ⟨j, by
    rw [getD_set_eq h2]
    try dsimp only
    by_cases e : j = i
    · rw [e, h5] at z; cases z
    · rw [if_neg e, if_neg e]; exact z⟩
  exact ⟨_, P.1, fun a => ⟨tp a, tp2 a⟩, fun a z => z.imp id (tp a)⟩
theorem set_out {σ : L2.St} {i : Nat} {x : Option V} {ws : List Nat} (hw : i ∈ ws) : ∀ j, j ∉ ws → (σ.set i x).getD j none = σ.getD j none := fun j hj => by
  rw [List.getD_eq_getElem?_getD, List.getElem?_set_ne (fun e => hj (by rw [← e]; exact hw)), ← List.getD_eq_getElem?_getD]
theorem xg_name (i : Nat) {x : Str} (hN : X.N.Nodup) (hg : gOk f Γ i (cKd c) = true := by rfl) (hi : X.N[i]? = some x := by rfl) (hx : Loc X.env.scope x := by first | exact .inl rfl | exact .inr rfl) (hf : X.fn x = true ∨ X.env.scope.names.lookup x = some .local := by first | exact .inl rfl | exact .inr rfl) :
    PG X (.Name x pos) (RG f c Γ (Γ.set i (cKd c)) [i] (tgN i)) :=
  PG.mono (pg_name hN hi hx hf) fun v σ H Q ⟨ρ, gh, d, R, q, w⟩ => by
    obtain ⟨gh', P1, P2, _⟩ := Rel.putC hg R q
    exact w _ gh' P1 P2 (set_out List.mem_cons_self)
theorem xgs_nil : PGs X [] (RGs f Γ Γ [] []) := PGs.mono pgs_nil fun vs σ H Q ⟨ρ, gh, ds, R, q, w⟩ => by
  cases ds with
  | nil =>
    simp only [ShA] at q
    exact ⟨q, w σ gh R (fun _ => Iff.rfl) fun _ _ => rfl⟩
  | cons d ds => exact w.elim
theorem xgs_cons {es : List Expr} {ws ws' : List Nat} {t : D → EM Unit} {ts : List (D → EM Unit)} (h1 : PG X e (RG f false Γ Γ1 ws t)) (h2 : PGs X es (RGs f Γ1 Γ' ws' ts))
    (hs : (assignEach (e :: es) X.env).map (·.2) = assign e X.env :: (assignEach es X.env).map (·.2) := by rfl) : PGs X (e :: es) (RGs f Γ Γ' (ws ++ ws') (t :: ts)) :=
  PGs.mono (pgs_cons h1 h2 hs) fun vs σ H Q ⟨ρ, gh, ds, R, q, w⟩ => by
    cases ds with
    | nil => exact w.elim
    | cons d ds =>
      simp only [ShA] at q
      obtain ⟨v, r, rfl, q1, q2⟩ := q
      refine ⟨v, r, rfl, ρ, gh, d, R, q1, ?_⟩
      have w : match (do t d; tgAll ts ds : EM Unit) ρ with
        | .ok _ ρ' => ∀ σ' gh', Rel f Γ' ρ' gh' σ' H → (∀ a, Tp Γ' gh' a ↔ Tp Γ gh a) → (∀ j, j ∉ ws ++ ws' → σ'.getD j none = σ.getD j none) → Q σ' H
        | _ => False := w
      rw [bind_ap] at w
      cases e1 : t d ρ with
      | ok u ρ1 =>
        rw [e1] at w
        intro σ1 gh1 R1 t1 o1
        refine ⟨ρ1, gh1, ds, R1, q2.sub fun a z => z.imp id (t1 a).1, ?_⟩
        cases e2 : tgAll ts ds ρ1 with
        | ok u2 ρ2 =>
          simp only [e2] at w
          exact fun σ2 gh2 R2 t2 o2 => w σ2 gh2 R2 (fun a => (t2 a).trans (t1 a)) fun j hj => by
            rw [o2 j fun z => hj (List.mem_append_right _ z), o1 j fun z => hj (List.mem_append_left _ z)]
        | exn _ _ => simp only [e2] at w
        | stuck => simp only [e2] at w
      | exn _ _ => rw [e1] at w; exact w
      | stuck => rw [e1] at w; exact w
theorem xg_tup {es : List Expr} {k : Nat} {ws : List Nat} {ts : List (D → EM Unit)} (hK : f.g.K = X.K) (hc : X.calm = true) (h : PGs X es (RGs f Γ Γ' ws ts))
    (hn : (assignEach es X.env).length = ts.length := by rfl) (hst : (assignEach es X.env).findIdx? (·.1) = none := by rfl) : PG X (.Tuple es k pos) (RG f false Γ Γ' ws (tgT ts)) :=
  PG.mono (pg_tup hc h hn hst) fun v σ H Q ⟨ρ, gh, d, R, q, w⟩ => by
    cases d with
    | tup ds =>
      simp only [Sh] at q
      obtain ⟨a, vs, rfl, sq, q⟩ := q
      have len : ∀ (ts : List (D → EM Unit)) (ds : List D) (ρ ρ' : Env) (u : Unit), tgAll ts ds ρ = .ok u ρ' → ds.length = ts.length := by
        intro ts
        induction ts with
        | nil => intro ds ρ ρ' u e; cases ds with | nil => rfl | cons _ _ => cases e
        | cons t ts ih =>
          intro ds ρ ρ' u e
          cases ds with
          | nil => cases e
          | cons d ds =>
            have e : (do t d; tgAll ts ds : EM Unit) ρ = .ok u ρ' := e
            rw [bind_ap] at e
            cases e1 : t d ρ with
            | ok u1 ρ1 =>
              rw [e1] at e
              rw [List.length_cons, List.length_cons, ih ds ρ1 ρ' u e]
            | exn _ _ => rw [e1] at e; cases e
            | stuck => rw [e1] at e; cases e
      have w' : match tgAll ts ds ρ with
        | .ok _ ρ' => ∀ σ' gh', Rel f Γ' ρ' gh' σ' H → (∀ a, Tp Γ' gh' a ↔ Tp Γ gh a) → (∀ j, j ∉ ws → σ'.getD j none = σ.getD j none) → Q σ' H
        | _ => False := w
      refine ⟨a, vs, rfl, hK ▸ sq, ?_, ρ, gh, ds, R, q, w'⟩
      cases e1 : tgAll ts ds ρ with
      | ok u ρ' => rw [q.length, len ts ds ρ ρ' u e1]
      | exn _ _ => rw [e1] at w'; exact w'.elim
      | stuck => rw [e1] at w'; exact w'.elim
    | _ => exact w.elim
/-- a, b = e: what comes is shared -/
def sUnp (t : D → EM Unit) (a : EM D) : SM := do let d ← a; t d; Pure.pure .nx
theorem xs_unp {tg : Expr} {ws : List Nat} {t : D → EM Unit} [nx : NoX t] (h : XE X f Γ e .sh a) (hg : PG X tg (RG f false Γ Γ' ws t)) (hw : wkL Γ f.Γx = true := by rfl) (hs : swapsWithSole [tg] e pos.line X.env = pure false := by rfl) (hww : swappedStores [tg] e X.env = pure none := by rfl)
    (h1 : (assignEach [tg] X.env).map (·.2) = [assign tg X.env] := by rfl) : XS X f Γ Γ' Γb Γc (.Assign [tg] e pos) (sUnp t a) :=
  PS.mono (ps_asg h hg hs hww h1) fun D σ H ⟨ρ, gh, R, q⟩ => by
    refine RE.fstS (m := .sh) hw R (show ObS f Γ' Γb Γc (Tp Γ gh) H ((a >>= fun d => (t d >>= fun _ => Pure.pure .nx)) ρ) D from q) fun d ρ1 v H1 L R1 k1 vo n w => ?_
    refine ⟨ρ1, gh, d, R1, vo.2, ?_⟩
    rw [bind_ap] at w
    cases e1 : t d ρ1 with
    | ok u ρ2 =>
      simp only [e1] at w
      exact fun σ' gh' R' t' _ => w σ' gh' H1 R' ((StK.of R k1).trans (StK.sub fun a => (t' a).1))
    | exn x ρ2 => exact nx.no _ _ _ _ e1
    | stuck => simp only [e1] at w; exact w
/-! ### more to avoid -/
abbrev Fr.plus (f : Fr) (P : Addr → Prop) : Fr := { f with B0 := fun a => f.B0 a ∨ P a }
theorem Rel.plus {P : Addr → Prop} {ρ : Env} {gh : Nat → List Addr} {σ : L2.St} {H : Hp} (R : Rel f Γ ρ gh σ H) (hP : ∀ a, P a → a ∉ f.S0 ∧ (∃ o, H a = some o ∧ Mu o) ∧ ∀ i, a ∉ gh i)
    (sl : ∀ i, SlotOk f.g (f.oc σ) (fun a => Bx f Γ gh a ∨ P a) H (Γ.getD i .un) (ρ.getD i none) (σ.getD i none) (gh i)) : Rel (f.plus P) Γ ρ gh σ H where
  lr := R.lr
  ls := R.ls
  slot := fun i => (sl i).mono (S := fun _ => False) Kp.refl (fun _ _ z => z) (fun _ z => z.elim) (fun _ _ z => .inl z) fun a z => z.elim (fun z => z.elim (fun z => .inl (.inl z)) .inr) fun z => .inl (.inr z)
  nd := R.nd
  dj := R.dj
  fresh := R.fresh
  lent := R.lent
  one := R.one
  b0 := fun a z => z.elim (R.b0 a) fun z => ⟨(hP a z).1, (hP a z).2.1⟩
  nb := fun i a ha z => z.elim (R.nb i a ha) fun z => (hP a z).2.2 i ha
  s0 := R.s0
  keep := R.keep
  tabs := R.tabs
theorem Rel.unplus {P : Addr → Prop} {ρ : Env} {gh : Nat → List Addr} {σ : L2.St} {H : Hp} (R : Rel (f.plus P) Γ ρ gh σ H) : Rel f Γ ρ gh σ H where
  lr := R.lr
  ls := R.ls
  slot := fun i => (R.slot i).mono (S := fun _ => False) Kp.refl (fun _ _ z => z) (fun _ z => z.elim) (fun _ _ z => .inl z) fun a z => z.imp .inl id
  nd := R.nd
  dj := R.dj
  fresh := R.fresh
  lent := R.lent
  one := R.one
  b0 := fun a z => R.b0 a (.inl z)
  nb := fun i a ha z => R.nb i a ha (.inl z)
  s0 := R.s0
  keep := R.keep
  tabs := R.tabs
theorem VO.sub {g : G} {oc : Addr → V → Prop} {S S' B B' : Addr → Prop} {H : Hp} {m : Md} {d : D} {v : V} {L : List Addr} (hS : ∀ a, S' a → S a) (hB : ∀ a, B' a → B a) (h : VO g oc S B H m d v L) : VO g oc S' B' H m d v L := by
  have h := h.subB hB
  cases m with
  | bor => exact ⟨h.1, h.2.sub hS⟩
  | bs =>
    refine ⟨h.1, h.2.imp id (Or.imp ?_ ?_)⟩
    · rintro ⟨a, ds, vs, e1, e2, n, q, r⟩
      exact ⟨a, ds, vs, e1, e2, fun z => n (hS a z), q, r⟩
    · rintro ⟨a, ks, ds, kvs, e1, e2, n, q, m, r⟩
      exact ⟨a, ks, ds, kvs, e1, e2, fun z => n (hS a z), q, m, r⟩
  | _ => exact h
/-- the first part's new nodes are avoided by the second -/
theorem Rel.plusL {ρ' : Env} {gh : Nat → List Addr} {σ : L2.St} {H' : Hp} {L : List Addr} (R' : Rel f Γ ρ' gh σ H') (A : Apart f Γ ρ' gh σ H' L) (t : ∀ a ∈ L, ∃ o, H' a = some o ∧ Mu o) : Rel (f.plus fun a => a ∈ L) Γ ρ' gh σ H' :=
  R'.plus (fun a ha => ⟨fun z => R'.s0 a z (A.out a ha).2.2, (t a ha), (A.out a ha).1⟩) A.slot
theorem Sx_plus {P : Addr → Prop} : Sx (f.plus P) Γ = Sx f Γ := rfl
/-- closures of the frame may be within -/
def isC : Md → Bool
  | .cs | .tc _ => true
  | _ => false
/-- a, b = x, y -/
def sPar (i j : Nat) (a b : EM D) : SM := do
  let d1 ← a
  let d2 ← b
  (fun ρ => .ok .nx ((ρ.set i (some d1)).set j (some d2)) : SM)
theorem xs_par (i j : Nat) (k1 k2 : Kd) {m1 m2 : Md} {x y : Str} {e1 e2 : Expr} {px py pt : Pos} {kt kt2 pt2} {a b : EM D} [Pu f.js a] [Pu f.js b] (h1 : XE X f Γ e1 m1 a) (h2 : ∀ P, XE X (f.plus P) Γ e2 m2 b) (hN : X.N.Nodup) (hc : X.calm = true) (hw : wkL Γ f.Γx = true := by rfl)
    (hst1 : stOk f Γ i m1 k1 = true := by rfl) (hst2 : stOk f (Γ.set i k1) j m2 k2 = true := by rfl) (hm2 : isC m2 = false := by rfl)
    (hi : X.N[i]? = some x := by rfl) (hj : X.N[j]? = some y := by rfl) (hij : i ≠ j := by decide) (hx : X.env.scope.names.lookup x = some .local := by rfl) (hy : X.env.scope.names.lookup y = some .local := by rfl)
    (hse : starEach [e1, e2] X.env = (false, eval e1 X.env) :: starEach [e2] X.env := by rfl) (hse2 : starEach [e2] X.env = (false, eval e2 X.env) :: starEach [] X.env := by rfl)
    (hws : swappedStores [.Tuple [.Name x px, .Name y py] kt pt] (.Tuple [e1, e2] kt2 pt2) X.env = pure (some [x, y]) := by rfl)
    (hs : swapsWithSole [.Tuple [.Name x px, .Name y py] kt pt] (.Tuple [e1, e2] kt2 pt2) pos.line X.env = pure false := by rfl) :
    XS X f Γ ((Γ.set i k1).set j k2) Γb Γc (.Assign [.Tuple [.Name x px, .Name y py] kt pt] (.Tuple [e1, e2] kt2 pt2) pos) (sPar i j a b) := by
  have h2' : PE X e2 (fun σ H Q => ∃ P, RE (f.plus P) Γ m2 b σ H Q) := ⟨fun pins s σ H Q I ⟨P, q⟩ => (h2 P).run pins s σ H Q I q⟩
  refine PS.mono (ps_par hc hN hi hj hij hx hy (pa_cons h1 (pa_cons h2' pa_nil hse2) hse) hws hs) fun D σ H ⟨ρ, gh, R, q⟩ => ?_
  obtain ⟨o1, w1⟩ := stOk_of hst1
  obtain ⟨o2, w2⟩ := stOk_of hst2
  show RE f Γ m1 a σ H _
  refine ⟨ρ, gh, R, ?_⟩
  have q' : ObS f ((Γ.set i k1).set j k2) Γb Γc (Tp Γ gh) H ((a >>= fun d1 => b >>= fun d2 => (fun ρ => .ok .nx ((ρ.set i (some d1)).set j (some d2)) : SM)) ρ) D := q
  rw [bind_ap] at q'
  cases ea : a ρ with
  | exn x ρ' =>
    rw [ea] at q'
    exact fun cls dx H' R' _ ex => q'.exn hw σ gh cls dx H' R' ex
  | stuck => rw [ea] at q'; exact q'
  | ok d1 ρ1 =>
    rw [ea] at q'
    intro v1 H1 L1 R1 kp1 vo1 n1
    rw [o1.h6] at n1
    have A1 := Apart.of R R1 (Pu.all o1.h7 R R1 ea) kp1 n1
    have P1 := R1.plusL A1 fun a ha => vo1.there a ha
    refine ⟨_, ρ1, gh, P1, ?_⟩
    dsimp only at q'
    rw [bind_ap] at q'
    cases eb : b ρ1 with
    | exn x ρ' =>
      rw [eb] at q'
      exact fun cls dx H' R' _ ex => q'.exn hw σ gh cls dx H' R'.unplus (ex.mono (S := fun _ => False) Kp.refl (fun _ z => z.elim) fun a z => z.imp .inl id)
    | stuck => rw [eb] at q'; exact q'
    | ok d2 ρ2 =>
      rw [eb] at q'
      intro v2 H2 L2 R2' kp2 vo2 n2
      rw [o2.h6] at n2
      have R2 := R2'.unplus
      have A2 : Apart (f.plus fun a => a ∈ L1) Γ ρ2 gh σ H2 L2 := Apart.of P1 R2' (Pu.all (f := f.plus fun a => a ∈ L1) (P := (inferInstance : Pu f.js b)) o1.h7 P1 R2' eb) kp2 n2
      have f2 : ∀ a ∈ L2, H1 a = none := fun a ha => (n2.2 a ha).resolve_right fun ⟨_, z, _⟩ => nomatch z
      have f1 : ∀ a ∈ L1, H a = none := fun a ha => (n1.2 a ha).resolve_right fun ⟨_, z, _⟩ => nomatch z
      have A : Apart f Γ ρ2 gh σ H2 (L1 ++ L2) := by
        refine ⟨fun l => (A2.slot l).mono (S := fun _ => False) Kp.refl (fun _ _ z => z) (fun _ z => z.elim) (fun _ _ z => .inl z) fun a z => ?_, fun a ha => ?_, List.nodup_append.mpr ⟨n1.1, n2.1, fun a ha b hb e => ?_⟩⟩
        · rcases z with z | z
          · exact .inl (z.imp .inl id)
          · rcases List.mem_append.mp z with z | z
            · exact .inl (.inl (.inr z))
            · exact .inr z
        · rcases List.mem_append.mp ha with ha | ha
          · exact A1.out a ha
          · obtain ⟨z1, z2, z3⟩ := A2.out a ha
            exact ⟨z1, fun z => z2 (.inl z), z3⟩
        · subst e
          obtain ⟨o, e, _⟩ := vo1.there a ha
          rw [f2 a hb] at e; cases e
      have vo1' : VO f.g (f.oc σ) (Bo f Γ) (fun a => Bx f Γ gh a ∨ a ∈ L2) H2 m1 d1 v1 L1 := VO.kpB (fun a z => .inl (Sx_sub R a z)) (fun a ha z => by
        obtain ⟨o, e⟩ := R.bthere (Sx_sub R a z)
        rw [f1 a ha] at e; cases e) kp2 (vo1.avoid f2)
      have Q1 := Rel.put R2 A vo1' o1.h1 o1.h3 o1.h4 o1.h2 (fun z => absurd z w1) o1.h5
      have ocs : ∀ {m : Md} {B : Addr → Prop} {L : List Addr}, VO f.g (f.oc σ) (Bo f Γ) B H2 m d2 v2 L → isC m = false → VO f.g (f.oc (σ.set i (some v1))) (Bo f (Γ.set i k1)) B H2 m d2 v2 L := fun {m B L} z hC => by
        have hSt : ∀ a, Bo f (Γ.set i k1) a → Bo f Γ a := fun a z => z.imp id fun ⟨z1, l, z2⟩ => ⟨z1, l, by
          rw [getD_set_eq o1.h2] at z2
          split at z2
          · have := o1.h4
            rw [z2] at this
            cases m1 <;> cases this
          · exact z2⟩
        have z := z.sub hSt fun _ z => z
        cases m with
        | cs => cases hC
        | tc U => cases hC
        | _ => exact z
      have vo2' : VO f.g (f.oc (σ.set i (some v1))) (Bo f (Γ.set i k1)) (fun a => Bx f (Γ.set i k1) (fun l => if l = i then ghW k1 L1 else gh l) a ∨ a ∈ []) H2 m2 d2 v2 L2 :=
        (ocs ((show VO f.g (f.oc σ) (Bo (f.plus fun a => a ∈ L1) Γ) (Bx (f.plus fun a => a ∈ L1) Γ gh) H2 m2 d2 v2 L2 from vo2).sub (fun a z => z.imp .inl id) fun _ z => z) hm2).subB fun a z => by
          rcases z with z | z
          · rcases z with z | ⟨l, z⟩
            · exact .inl (.inl z)
            · rw [getD_set_eq o1.h2] at z
              try dsimp only at z
              split at z
              · exact .inl (.inr (ghW_sub (tops_sub z)))
              · exact .inr ⟨l, z⟩
          · cases z
      have Q2 := Rel.put (M := []) Q1.1 (by rw [List.append_nil]; exact Q1.2) vo2' o2.h1 o2.h3 o2.h4 o2.h2 (fun z => absurd z w2) o2.h5
      refine ⟨v1, v2, rfl, q' _ _ H2 Q2.1 ?_⟩
      refine ⟨((StK.of R kp1).1).trans ((StK.of R1 kp2).1), fun a ⟨l, z⟩ => ?_⟩
      rw [getD_set_eq o2.h2] at z
      try dsimp only at z
      split at z
      · exact .inr (kp1.2 a (f2 a (ghW_sub (tops_sub z))))
      · rw [getD_set_eq o1.h2] at z
        split at z
        · exact .inr (f1 a (ghW_sub (tops_sub z)))
        · exact .inl ⟨l, z⟩
end
end PP
-- PP12
/-! PP12: what a loop walks; for; while. -/
namespace PP
open PySem PySem.Spec PyProof.Rows L2
/-- what a loop walks: ds's items one by one, while all but S is kept from H0 on -/
def Src (f : Fr) (cm : Addr → V → Prop) (S B : Addr → Prop) (H0 : Hp) (ds : List D) (J : It) : Prop :=
  ∃ (G : Hp → Prop) (Y : Nat → Hp → V → Hp → Prop), Walk J ds.length G Y ∧ (∀ H, Kp S H0 H → G H) ∧ ∀ i H x H', i < ds.length → Kp S H0 H → Y i H x H' → Kp (fun _ => False) H H' ∧ (NdefX.TabsN f.g.T H → NdefX.TabsN f.g.T H') ∧ ∃ d, ds[i]? = some d ∧ Sh f.g cm (fun a => B a ∨ H0 a = none) H' d x
def sSet (f : Fr) (Γ : List Kd) (gh : Nat → List Addr) (b : Bool) : Addr → Prop := match b with | true => Tp Γ gh | false => Sx f Γ
/-- b: whether a statement walks (it may change what the slots own) -/
def RI (f : Fr) (Γ : List Kd) (c b : Bool) (it : EM (List D)) : TI := fun σ H R => ∃ ρ gh, Rel f Γ ρ gh σ H ∧
  match it ρ with
  | .ok ds ρ' => ∀ J H', Rel f Γ ρ' gh σ H' → Kp (Sx f Γ) H H' → Src f (cmOf f c σ) (sSet f Γ gh b) (Bx f Γ gh) H' ds J → R J H'
  | .exn x ρ' => ∀ cls dx H', Rel f Γ ρ' gh σ H' → Kp (Sx f Γ) H H' → ExV f.g (Bo f Γ) x cls dx H' → f.W cls dx σ H'
  | .stuck => False
section
variable {f : Fr} {cm : Addr → V → Prop} {S B : Addr → Prop} {H0 : Hp} {ds es : List D} {vs ws : List V} {a b : Addr}
theorem src_item {i : Nat} {H : Hp} {x : V} (hS : ∀ a, S a → B a) (k : Kp S H0 H) (s : ShA f.g cm B H0 ds vs) (e : vs[i]? = some x) : ∃ d, ds[i]? = some d ∧ Sh f.g cm (fun a => B a ∨ H0 a = none) H d x := by
  obtain ⟨d, e1, q⟩ := s.getV e
  have q1 : Sh f.g cm (fun a => B a ∨ H0 a = none) H0 d x := Sh.freshP d x (fun a z => z) q
  exact ⟨d, e1, Sh.kp k (fun a z => .inl (hS a z)) q1⟩
theorem src_list (hS : ∀ a, S a → B a) (h : SqL f.g.K H0 a vs) (n : ¬ S a) (s : ShA f.g cm B H0 ds vs) : Src f cm S B H0 ds (Itl f.g.K a) := by
  refine ⟨fun H => SqL f.g.K H a vs, YAt vs, by rw [← s.length]; exact walk_list, fun H k => SqL.kp k n h, fun i H x H' hi k y => ?_⟩
  obtain ⟨rfl, e⟩ := y
  exact ⟨Kp.refl, id, src_item hS k s e⟩
theorem src_tup (hS : ∀ a, S a → B a) (h : SqT f.g.K H0 a vs) (s : ShA f.g cm B H0 ds vs) : Src f cm S B H0 ds (Itt f.g.K a) := by
  refine ⟨fun H => SqT f.g.K H a vs, YAt vs, by rw [← s.length]; exact walk_tup, fun H k => SqT.kp k h, fun i H x H' hi k y => ?_⟩
  obtain ⟨rfl, e⟩ := y
  exact ⟨Kp.refl, id, src_item hS k s e⟩
/-- lo, lo + 1, .. -/
def rangeL (lo : Int) (n : Nat) : List D := (List.range n).map fun i => .int (lo + (i : Nat))
theorem src_range {lo : Int} {n : Nat} : Src f cm S B H0 (rangeL lo n) (Itr lo n) := by
  have hl : (rangeL lo n).length = n := by simp [rangeL]
  refine ⟨fun _ => True, YFn fun i => .int (lo + i), by rw [hl]; exact walk_range, fun _ _ => trivial, fun i H x H' hi k y => ?_⟩
  obtain ⟨rfl, rfl⟩ := y
  rw [hl] at hi
  exact ⟨Kp.refl, id, .int (lo + i), by simp [rangeL, hi], by simp only [Sh]⟩
/-- lo, lo + c, .. -/
def rangeC (lo c : Int) (n : Nat) : List D := (List.range n).map fun i => .int (lo + (i : Nat) * c)
theorem src_rangeC {lo c : Int} {n : Nat} : Src f cm S B H0 (rangeC lo c n) (Itc lo c n) := by
  have hl : (rangeC lo c n).length = n := by simp [rangeC]
  refine ⟨fun _ => True, YFn fun i => .int (lo + (i : Nat) * c), by rw [hl]; exact walk_rangeC, fun _ _ => trivial, fun i H x H' hi k y => ?_⟩
  obtain ⟨rfl, rfl⟩ := y
  rw [hl] at hi
  exact ⟨Kp.refl, id, .int (lo + (i : Nat) * c), by simp [rangeC, hi], by simp only [Sh]⟩
def pairT (x y : D) : D := .tup [x, y]
theorem pair_sh {H : Hp} {T : Addr} {x y : V} {d1 d2 : D} {B' : Addr → Prop} (hT : H T = none) (h1 : Sh f.g cm B' H d1 x) (h2 : Sh f.g cm B' H d2 y) : Sh f.g cm B' (upd H T (.tup [x, y])) (pairT d1 d2) (.ref T) := by
  simp only [pairT, Sh, ShA]
  exact ⟨T, [x, y], rfl, SqT.of upd_same, x, [y], rfl, h1.kp (S := fun _ => False) (Kp.upd_new hT) fun _ z => z.elim, y, [], rfl, h2.kp (S := fun _ => False) (Kp.upd_new hT) fun _ z => z.elim, rfl⟩
def enumL (ds : List D) : List D := (List.range ds.length).zipWith (fun i d => pairT (.int (i : Nat)) d) ds
theorem enumL_len : (enumL ds).length = ds.length := by simp [enumL]
theorem src_enumL (hS : ∀ a, S a → B a) (h : SqL f.g.K H0 a vs) (n : ¬ S a) (s : ShA f.g cm B H0 ds vs) : Src f cm S B H0 (enumL ds) (Ite f.g.K a) := by
  refine ⟨fun H => SqL f.g.K H a vs, YPair (fun i => some (.int (i : Nat))) (fun i => vs[i]?), by rw [enumL_len, ← s.length]; exact walk_enum, fun H k => SqL.kp k n h, fun i H x H' hi k y => ?_⟩
  obtain ⟨T, x, y, rfl, hT, rfl, e1, e2⟩ := y
  cases e1
  obtain ⟨d, e3, q⟩ := src_item hS k s e2
  rw [enumL_len] at hi
  exact ⟨Kp.upd_new hT, fun t => TabsN.upd t hT, pairT (.int (i : Nat)) d, by simp [enumL, hi, (List.getElem?_eq_some_iff.mp e3).2], pair_sh hT (by simp only [Sh]) q⟩
theorem src_enumT (hS : ∀ a, S a → B a) (h : SqT f.g.K H0 a vs) (s : ShA f.g cm B H0 ds vs) : Src f cm S B H0 (enumL ds) (IteT f.g.K a) := by
  refine ⟨fun H => SqT f.g.K H a vs, YPair (fun i => some (.int (i : Nat))) (fun i => vs[i]?), by rw [enumL_len, ← s.length]; exact walk_enumT, fun H k => SqT.kp k h, fun i H x H' hi k y => ?_⟩
  obtain ⟨T, x, y, rfl, hT, rfl, e1, e2⟩ := y
  cases e1
  obtain ⟨d, e3, q⟩ := src_item hS k s e2
  rw [enumL_len] at hi
  exact ⟨Kp.upd_new hT, fun t => TabsN.upd t hT, pairT (.int (i : Nat)) d, by simp [enumL, hi, (List.getElem?_eq_some_iff.mp e3).2], pair_sh hT (by simp only [Sh]) q⟩
def zipL (ds es : List D) : List D := ds.zipWith pairT es
theorem src_zipL (hS : ∀ a, S a → B a) (h : SqL f.g.K H0 a vs) (n : ¬ S a) (s : ShA f.g cm B H0 ds vs) (h' : SqL f.g.K H0 b ws) (n' : ¬ S b) (s' : ShA f.g cm B H0 es ws) : Src f cm S B H0 (zipL ds es) (Itz f.g.K a b) := by
  refine ⟨fun H => SqL f.g.K H a vs ∧ SqL f.g.K H b ws, YPair (fun i => vs[i]?) (fun i => ws[i]?), by rw [zipL, List.length_zipWith, ← s.length, ← s'.length]; exact walk_zip rfl, fun H k => ⟨SqL.kp k n h, SqL.kp k n' h'⟩, fun i H x H' hi k y => ?_⟩
  obtain ⟨T, x, y, rfl, hT, rfl, e1, e2⟩ := y
  obtain ⟨d, e3, q⟩ := src_item hS k s e1
  obtain ⟨d', e4, q'⟩ := src_item hS k s' e2
  exact ⟨Kp.upd_new hT, fun t => TabsN.upd t hT, pairT d d', by simp [zipL, List.getElem?_zipWith, e3, e4], pair_sh hT q q'⟩
theorem src_zipT (hS : ∀ a, S a → B a) (h : SqT f.g.K H0 a vs) (s : ShA f.g cm B H0 ds vs) (h' : SqT f.g.K H0 b ws) (s' : ShA f.g cm B H0 es ws) : Src f cm S B H0 (zipL ds es) (RZ.ItzT f.g.K a b) := by
  refine ⟨fun H => SqT f.g.K H a vs ∧ SqT f.g.K H b ws, YPair (fun i => vs[i]?) (fun i => ws[i]?), by rw [zipL, List.length_zipWith, ← s.length, ← s'.length]; exact walk_zipT rfl, fun H k => ⟨SqT.kp k h, SqT.kp k h'⟩, fun i H x H' hi k y => ?_⟩
  obtain ⟨T, x, y, rfl, hT, rfl, e1, e2⟩ := y
  obtain ⟨d, e3, q⟩ := src_item hS k s e1
  obtain ⟨d', e4, q'⟩ := src_item hS k s' e2
  exact ⟨Kp.upd_new hT, fun t => TabsN.upd t hT, pairT d d', by simp [zipL, List.getElem?_zipWith, e3, e4], pair_sh hT q q'⟩
end
section
variable {X : Cx} {f : Fr} {Γ Γ1 Γ' Γb Γc : List Kd} {e e2 : Expr} {a a2 : EM D} {it : EM (List D)} {r : EM (List D)} {s t : SM} {pos p : Pos} {m m2 : Md} {c b : Bool} {tg : Expr} {es : List Expr}
def srcOk (b : Bool) (m : Md) : Bool := match m with
  | .sh => true
  | .bs => !b
  | _ => false
theorem sSet_sub {ρ : Env} {gh : Nat → List Addr} {σ : L2.St} {H : Hp} (R : Rel f Γ ρ gh σ H) : ∀ a, sSet f Γ gh b a → Bx f Γ gh a := by
  cases b
  · exact Sx_sub R
  · exact fun a z => .inr z
theorem sSet_bo {ρ : Env} {gh : Nat → List Addr} {σ : L2.St} {H : Hp} (R : Rel f Γ ρ gh σ H) : ∀ a, sSet f Γ gh false a → Bo f Γ a := fun a z => .inr z
/-- a list or a tuple that is walked -/
theorem VO.seqL {ρ : Env} {gh : Nat → List Addr} {σ : L2.St} {H : Hp} {ds : List D} {v : V} {L : List Addr} (R : Rel f Γ ρ gh σ H) (hm : srcOk b m = true) (o : VO f.g (f.oc σ) (Bo f Γ) (Bx f Γ gh) H m (.lst ds) v L) : ∃ a vs, v = .ref a ∧ ¬ sSet f Γ gh b a ∧ SqL f.g.K H a vs ∧ ShA f.g nc (Bx f Γ gh) H ds vs := by
  have sh : Sh f.g nc (Bx f Γ gh) H (.lst ds) v → ∃ a vs, v = .ref a ∧ ¬ sSet f Γ gh b a ∧ SqL f.g.K H a vs ∧ ShA f.g nc (Bx f Γ gh) H ds vs := fun q => by
    simp only [Sh] at q
    obtain ⟨a, vs, e, n, q, r⟩ := q
    exact ⟨a, vs, e, fun z => n (sSet_sub R a z), SqL.of q, r⟩
  cases m with
  | sh => exact sh o.2
  | bs =>
    cases b with
    | true => cases hm
    | false =>
      rcases o.2 with q | ⟨a, ds', vs, e1, e2, n, q, r⟩ | ⟨_, _, _, _, e1, _⟩
      · exact sh q
      · cases e1; exact ⟨a, vs, e2, fun z => n (.inr z), SqL.of q, r⟩
      · cases e1
  | _ => cases hm
theorem VO.seqT {gh : Nat → List Addr} {σ : L2.St} {H : Hp} {ds : List D} {v : V} {L : List Addr} (hm : srcOk b m = true) (o : VO f.g (f.oc σ) (Bo f Γ) (Bx f Γ gh) H m (.tup ds) v L) : ∃ a vs, v = .ref a ∧ SqT f.g.K H a vs ∧ ShA f.g nc (Bx f Γ gh) H ds vs := by
  have sh : Sh f.g nc (Bx f Γ gh) H (.tup ds) v → ∃ a vs, v = .ref a ∧ SqT f.g.K H a vs ∧ ShA f.g nc (Bx f Γ gh) H ds vs := fun q => by
    simp only [Sh] at q; exact q
  cases m with
  | sh => exact sh o.2
  | bs =>
    rcases o.2 with q | ⟨a, ds', vs, e1, _⟩ | ⟨_, _, _, _, e1, _⟩
    · exact sh q
    · cases e1
    · cases e1
  | _ => cases hm
/-- xs's items -/
def itS (a : EM D) : EM (List D) := do
  let d ← a
  match d with
  | .lst ds => Pure.pure ds
  | .tup ds => Pure.pure ds
  | _ => M.stuck
theorem RE.fstI {σ : L2.St} {H : Hp} {k : D → EM (List D)} {Rr : It → Hp → Prop} {Q' : VK} {ρ : Env} {gh : Nat → List Addr} (R : Rel f Γ ρ gh σ H) (w : match (a >>= k) ρ with
    | .ok ds ρ' => ∀ J H', Rel f Γ ρ' gh σ H' → Kp (Sx f Γ) H H' → Src f (cmOf f c σ) (sSet f Γ gh b) (Bx f Γ gh) H' ds J → Rr J H'
    | .exn x ρ' => ∀ cls dx H', Rel f Γ ρ' gh σ H' → Kp (Sx f Γ) H H' → ExV f.g (Bo f Γ) x cls dx H' → f.W cls dx σ H'
    | .stuck => False)
    (step : ∀ d ρ' v H' L, Rel f Γ ρ' gh σ H' → Kp (Sx f Γ) H H' → VO f.g (f.oc σ) (Bo f Γ) (Bx f Γ gh) H' m d v L → (match k d ρ' with
      | .ok ds ρ' => ∀ J H', Rel f Γ ρ' gh σ H' → Kp (Sx f Γ) H H' → Src f (cmOf f c σ) (sSet f Γ gh b) (Bx f Γ gh) H' ds J → Rr J H'
      | _ => False) → Q' v H') (hk : ∀ d ρ' x ρ2, k d ρ' ≠ .exn x ρ2) : RE f Γ m a σ H Q' := by
  refine ⟨ρ, gh, R, ?_⟩
  rw [bind_ap] at w
  cases e : a ρ with
  | ok d ρ' =>
    rw [e] at w
    refine fun v H' L R' k' vo n => step d ρ' v H' L R' k' vo ?_
    dsimp only at w
    cases e2 : k d ρ' with
    | ok ds ρ2 => rw [e2] at w; exact w
    | exn x ρ2 => exact absurd e2 (hk d ρ' x ρ2)
    | stuck => rw [e2] at w; exact w
  | exn x ρ' => rw [e] at w; exact w
  | stuck => rw [e] at w; exact w
theorem xi_seq (hK : f.g.K = X.K) (h : XE X f Γ e m a) (hm : srcOk b m = true := by rfl) : PI X tg e (RI f Γ false b (itS a)) :=
  PI.mono (pi_seq h) fun σ H Rr ⟨ρ, gh, R, q⟩ => by
    refine RE.fstI (m := m) (c := false) (b := b) R q (fun d ρ1 v H1 L R1 k1 vo w => ?_) fun d ρ' x ρ2 z => by cases d <;> cases z
    cases d with
    | lst ds =>
      obtain ⟨a, vs, rfl, n, sq, s⟩ := vo.seqL R1 hm
      exact ⟨a, rfl, .inl ⟨vs, hK ▸ sq, hK ▸ w _ H1 R1 k1 (src_list (sSet_sub R1) sq n s)⟩⟩
    | tup ds =>
      obtain ⟨a, vs, rfl, sq, s⟩ := vo.seqT hm
      exact ⟨a, rfl, .inr ⟨vs, hK ▸ sq, hK ▸ w _ H1 R1 k1 (src_tup (sSet_sub R1) sq s)⟩⟩
    | _ => exact w.elim
/-- .. of closures -/
theorem xi_seqC (hK : f.g.K = X.K) (h : XE X f Γ e .cs a) : PI X tg e (RI f Γ true b (itS a)) :=
  PI.mono (pi_seq h) fun σ H Rr ⟨ρ, gh, R, q⟩ => by
    refine RE.fstI (m := .cs) (c := true) (b := b) R q (fun d ρ1 v H1 L R1 k1 vo w => ?_) fun d ρ' x ρ2 z => by cases d <;> cases z
    have vo := vo.2
    cases d with
    | lst ds =>
      simp only [Sh] at vo
      obtain ⟨a, vs, rfl, n, sq, s⟩ := vo
      exact ⟨a, rfl, .inl ⟨vs, SqL.of sq, hK ▸ w _ H1 R1 k1 (src_list (sSet_sub R1) (SqL.of sq) (fun z => n (sSet_sub R1 a z)) s)⟩⟩
    | tup ds =>
      simp only [Sh] at vo
      obtain ⟨a, vs, rfl, sq, s⟩ := vo
      exact ⟨a, rfl, .inr ⟨vs, hK ▸ sq, hK ▸ w _ H1 R1 k1 (src_tup (sSet_sub R1) sq s)⟩⟩
    | _ => exact w.elim
/-- sources by their arguments -/
def itA (fn : List D → Option (List D)) (r : EM (List D)) : EM (List D) := do
  let ds ← r
  match fn ds with
  | some es => Pure.pure es
  | none => M.stuck
theorem RA.fstI {σ : L2.St} {H : Hp} {fn : List D → Option (List D)} {ms : List Md} {Rr : It → Hp → Prop} {Q' : List V → Hp → Prop} {ρ : Env} {gh : Nat → List Addr} (R : Rel f Γ ρ gh σ H) (w : match itA fn r ρ with
    | .ok ds ρ' => ∀ J H', Rel f Γ ρ' gh σ H' → Kp (Sx f Γ) H H' → Src f (cmOf f c σ) (sSet f Γ gh b) (Bx f Γ gh) H' ds J → Rr J H'
    | .exn x ρ' => ∀ cls dx H', Rel f Γ ρ' gh σ H' → Kp (Sx f Γ) H H' → ExV f.g (Bo f Γ) x cls dx H' → f.W cls dx σ H'
    | .stuck => False)
    (step : ∀ ds es ρ' vs H' L, Rel f Γ ρ' gh σ H' → VsO f.g (f.oc σ) (Bo f Γ) (Bx f Γ gh) H' ms ds vs L → fn ds = some es → (∀ J, Src f (cmOf f c σ) (sSet f Γ gh b) (Bx f Γ gh) H' es J → Rr J H') → Q' vs H') : RA f Γ ms r σ H Q' := by
  refine ⟨ρ, gh, R, ?_⟩
  have w : match (r >>= fun ds => match fn ds with
    | some es => Pure.pure es
    | none => M.stuck) ρ with
    | .ok ds ρ' => ∀ J H', Rel f Γ ρ' gh σ H' → Kp (Sx f Γ) H H' → Src f (cmOf f c σ) (sSet f Γ gh b) (Bx f Γ gh) H' ds J → Rr J H'
    | .exn x ρ' => ∀ cls dx H', Rel f Γ ρ' gh σ H' → Kp (Sx f Γ) H H' → ExV f.g (Bo f Γ) x cls dx H' → f.W cls dx σ H'
    | .stuck => False := w
  rw [bind_ap] at w
  cases e : r ρ with
  | ok ds ρ' =>
    rw [e] at w
    intro vs H' L R' k' vo n
    dsimp only at w
    cases e2 : fn ds with
    | some es =>
      rw [e2] at w
      exact step ds es ρ' vs H' L R' vo e2 fun J sr => w J H' R' k' sr
    | none => rw [e2] at w; exact w.elim
  | exn x ρ' => rw [e] at w; exact w
  | stuck => rw [e] at w; exact w
def in62 (j : Int) : Bool := decide (-(2 ^ 62) ≤ j) && decide (j < 2 ^ 62)
theorem in62_of {j : Int} (h : in62 j = true) : -(2 ^ 62) ≤ j ∧ j < 2 ^ 62 := by
  simp only [in62, Bool.and_eq_true, decide_eq_true_eq] at h; exact h
def fnR1 : List D → Option (List D)
  | [.int j] => if in62 j = true then some (rangeL 0 j.toNat) else none
  | _ => none
def fnR2 : List D → Option (List D)
  | [.int i, .int j] => if (in62 i && in62 j) = true then some (rangeL i (j - i).toNat) else none
  | _ => none
theorem xi_range1 (hg : Gl X "range") (hm : X.mg "range" = none) (h : XA X f Γ [e] [.bor] r) (hs : starEach [e] X.env = [(false, eval e X.env)] := by rfl) : PI X tg (.Call (.Name "range" p) [e] [] pos) (RI f Γ false b (itA fnR1 r)) :=
  PI.mono (pi_range1 hg hm h hs) fun σ H Rr ⟨ρ, gh, R, q⟩ => by
    refine RA.fstI (c := false) (b := b) (ms := [.bor]) R q fun ds es ρ' vs H' L R' vo e w => ?_
    unfold fnR1 at e
    split at e
    · rename_i j
      split at e
      · rename_i hj
        cases e
        simp only [VsO] at vo
        obtain ⟨d, r, v, q, L1, L2, e1, rfl, rfl, o, rfl, rfl, rfl⟩ := vo
        cases e1
        exact ⟨j, by rw [bor_int o], (in62_of hj).1, (in62_of hj).2, w _ src_range⟩
      · cases e
    · cases e
theorem xi_range2 (hg : Gl X "range") (hm : X.mg "range" = none) (h : XA X f Γ [e, e2] [.bor, .bor] r) (hs : starEach [e, e2] X.env = [(false, eval e X.env), (false, eval e2 X.env)] := by rfl) (hs2 : starEach [e2] X.env = [(false, eval e2 X.env)] := by rfl) : PI X tg (.Call (.Name "range" p) [e, e2] [] pos) (RI f Γ false b (itA fnR2 r)) :=
  PI.mono (pi_range2 hg hm h hs hs2) fun σ H Rr ⟨ρ, gh, R, q⟩ => by
    refine RA.fstI (c := false) (b := b) (ms := [.bor, .bor]) R q fun ds es ρ' vs H' L R' vo e w => ?_
    unfold fnR2 at e
    split at e
    · rename_i i j
      split at e
      · rename_i hj
        cases e
        simp only [VsO] at vo
        obtain ⟨d, r, v, q, L1, L2, e1, rfl, rfl, o, d2, r2, v2, q2, L3, L4, rfl, rfl, rfl, o2, rfl, rfl, rfl⟩ := vo
        cases e1
        simp only [Bool.and_eq_true] at hj
        refine ⟨i, j, by rw [bor_int o, bor_int o2], ⟨(in62_of hj.1).1, (in62_of hj.1).2, (in62_of hj.2).1, (in62_of hj.2).2⟩, w _ src_range⟩
      · cases e
    · cases e
def seqOf : D → Option (List D)
  | .lst ds => some ds
  | .tup ds => some ds
  | _ => none
def fnEn : List D → Option (List D)
  | [.lst ds] => some (enumL ds)
  | [.tup ds] => some (enumL ds)
  | _ => none
theorem xi_enum {elts : List Expr} {kk : Nat} {tpos : Pos} (hK : f.g.K = X.K) (hg : Gl X "enumerate") (hm : X.mg "enumerate" = none) (h : XA X f Γ [e] [m] r) (hm' : srcOk b m = true := by rfl) (hs : starEach [e] X.env = [(false, eval e X.env)] := by rfl) : PI X (.Tuple elts kk tpos) (.Call (.Name "enumerate" p) [e] [] pos) (RI f Γ false b (itA fnEn r)) :=
  PI.mono (pi_enumA hg hm h hs) fun σ H Rr ⟨ρ, gh, R, q⟩ => by
    refine RA.fstI (c := false) (b := b) (ms := [m]) R q fun ds es ρ' vs H' L R' vo e w => ?_
    simp only [VsO] at vo
    obtain ⟨d, r, v, q, L1, L2, rfl, rfl, rfl, o, rfl, rfl, rfl⟩ := vo
    have o := o.subB fun a z => .inl z
    cases d with
    | lst ds =>
      cases e
      obtain ⟨a, vs, rfl, n, sq, s⟩ := o.seqL R' hm'
      exact ⟨a, vs, rfl, .inl ⟨hK ▸ sq, hK ▸ w _ (src_enumL (sSet_sub R') sq n s)⟩⟩
    | tup ds =>
      cases e
      obtain ⟨a, vs, rfl, sq, s⟩ := o.seqT hm'
      exact ⟨a, vs, rfl, .inr ⟨hK ▸ sq, hK ▸ w _ (src_enumT (sSet_sub R') sq s)⟩⟩
    | _ => cases e
def fnZip : List D → Option (List D)
  | [.lst ds, .lst es] => some (zipL ds es)
  | [.tup ds, .tup es] => some (zipL ds es)
  | _ => none
theorem xi_zip {elts : List Expr} {kk : Nat} {tpos : Pos} (hK : f.g.K = X.K) (hg : Gl X "zip") (hm : X.mg "zip" = none) (h : XA X f Γ [e, e2] [m, m2] r) (hm' : (srcOk b m && srcOk b m2) = true := by rfl)
    (hs : starEach [e, e2] X.env = (false, eval e X.env) :: starEach [e2] X.env := by rfl) (hpl : (backTo pos (starEach [e2] X.env)).any (·.1) = false := by rfl) : PI X (.Tuple elts kk tpos) (.Call (.Name "zip" p) [e, e2] [] pos) (RI f Γ false b (itA fnZip r)) :=
  PI.mono (RZ.pi_zipA hg hm h hs hpl) fun σ H Rr ⟨ρ, gh, R, q⟩ => by
    refine RA.fstI (c := false) (b := b) (ms := [m, m2]) R q fun ds es ρ' vs H' L R' vo e w => ?_
    simp only [Bool.and_eq_true] at hm'
    simp only [VsO] at vo
    obtain ⟨d, r, v, q, L1, L2, rfl, rfl, rfl, o, d2, r2, v2, q2, L3, L4, rfl, rfl, rfl, o2, rfl, rfl, rfl⟩ := vo
    have o := o.subB fun a z => .inl z
    have o2 := o2.subB fun a z => .inl z
    unfold fnZip at e
    split at e
    · rename_i ds es' e1
      cases e1; cases e
      obtain ⟨a, vs, rfl, n, sq, s⟩ := o.seqL R' hm'.1
      obtain ⟨a2, vs2, rfl, n2, sq2, s2⟩ := o2.seqL R' hm'.2
      exact ⟨a, a2, vs, vs2, rfl, .inl ⟨hK ▸ sq, hK ▸ sq2, hK ▸ w _ (src_zipL (sSet_sub R') sq n s sq2 n2 s2)⟩⟩
    · rename_i ds es' e1
      cases e1; cases e
      obtain ⟨a, vs, rfl, sq, s⟩ := o.seqT hm'.1
      obtain ⟨a2, vs2, rfl, sq2, s2⟩ := o2.seqT hm'.2
      exact ⟨a, a2, vs, vs2, rfl, .inr ⟨hK ▸ sq, hK ▸ sq2, hK ▸ w _ (src_zipT (sSet_sub R') sq s sq2 s2)⟩⟩
    · cases e
end
end PP
-- PP13
/-! PP13: for, while. -/
namespace PP
open PySem PySem.Spec PyProof.Rows L2
theorem mask_getD : ∀ {ρ0 ρ : Env} {i : Nat}, ρ0.length = ρ.length → (mask ρ0 ρ).getD i none = match ρ0.getD i none with | none => none | some _ => ρ.getD i none
  | [], [], i, _ => by simp [mask]
  | a :: r, b :: q, 0, _ => by cases a <;> simp [mask]
  | a :: r, b :: q, i + 1, h => by
    have := mask_getD (ρ0 := r) (ρ := q) (i := i) (by simpa using h)
    simpa [mask] using this
  | [], _ :: _, _, h => by cases h
  | _ :: _, [], _, h => by cases h
theorem mask_len {ρ0 ρ : Env} (h : ρ0.length = ρ.length) : (mask ρ0 ρ).length = ρ.length := by simp [mask, h]
theorem SlotOk.some {g : G} {oc : Addr → V → Prop} {B : Addr → Prop} {H : Hp} {k : Kd} {od : Option D} {ov : Option V} {M : List Addr} (h : SlotOk g oc B H k od ov M) (hk : k ≠ .un) : ∃ d, od = Option.some d := by
  cases k with
  | un => exact absurd rfl hk
  | sh => obtain ⟨_, d, v, e, _⟩ := h; exact ⟨d, e⟩
  | cs => obtain ⟨_, d, v, e, _⟩ := h; exact ⟨d, e⟩
  | tp => obtain ⟨d, v, a, e, _⟩ := h; exact ⟨d, e⟩
  | tc => obtain ⟨d, v, a, e, _⟩ := h; exact ⟨d, e⟩
  | ow => obtain ⟨d, v, e, _⟩ := h; exact ⟨d, e⟩
  | ox => obtain ⟨d, v, e, _⟩ := h; exact ⟨d, e⟩
  | st => obtain ⟨d, v, e, _⟩ := h; exact ⟨d, e⟩
section
variable {f : Fr} {Γ : List Kd} {ρ ρ0 : Env} {gh gh0 : Nat → List Addr} {σ σ0 : L2.St} {H H0 : Hp}
theorem Rel.mask (R0 : Rel f Γ ρ0 gh0 σ0 H0) (R : Rel f Γ ρ gh σ H) : Rel f Γ (PP.mask ρ0 ρ) gh σ H where
  lr := by rw [mask_len (by rw [R0.lr, R.lr])]; exact R.lr
  ls := R.ls
  slot := fun i => by
    have s := R.slot i
    by_cases hk : Γ.getD i .un = .un
    · rw [hk] at s ⊢
      exact s
    · obtain ⟨d, e⟩ := (R0.slot i).some hk
      rw [mask_getD (by rw [R0.lr, R.lr]), e]
      exact s
  nd := R.nd
  dj := R.dj
  fresh := R.fresh
  lent := R.lent
  one := R.one
  b0 := R.b0
  nb := R.nb
  s0 := R.s0
  keep := R.keep
  tabs := R.tabs
end
section
variable {X : Cx} {f : Fr} {Γ Γ1 Γ' Γb Γc : List Kd} {it : EM (List D)} {t : D → EM Unit} {s : SM} {pos : Pos} {tg iter : Expr} {body : List Stmt} {ws : List Nat}
theorem xs_for [nx : NoX t] (hi : PI X tg iter (RI f Γ false true it)) (hg : PG X tg (RG f false Γ Γ1 ws t)) (hb : XSs X f Γ1 Γ Γ Γ body s) (hp : PassesOwn (model X.prog X.w) X.A X.env X.xe) (hc : X.calm = true) (hw : wkL Γ f.Γx = true := by rfl)
    (hs : ∀ x, foldedSetIterable iter X.env x = pure x := by intro _; rfl) : XS X f Γ Γ Γb Γc (.For tg iter body [] pos) (sFor it t s) :=
  PS.mono (ps_for hp hc hi hg hb hs) fun D σ H ⟨ρ, gh, R, q⟩ => by
    have q' : ObS f Γ Γb Γc (Tp Γ gh) H ((it >>= fun ds => fun ρ => forM' ρ t s ds ρ) ρ) D := q
    rw [bind_ap] at q'
    refine ⟨ρ, gh, R, ?_⟩
    cases ei : it ρ with
    | exn x ρ' => rw [ei] at q'; exact fun cls dx H' R' _ ex => q'.exn hw σ gh cls dx H' R' ex
    | stuck => rw [ei] at q'; exact q'
    | ok ds ρ0 =>
      rw [ei] at q'
      dsimp only at q'
      intro J H1 R1 k1 src
      obtain ⟨G, Y, wk, hG, hY⟩ := src
      have K1 := StK.of R k1
      refine for_it wk (fun i σ' H' => ∃ ρ' gh', Rel f Γ ρ' gh' σ' H' ∧ StK H1 H' (Tp Γ gh) (Tp Γ gh') ∧ ObS f Γ Γb Γc (Tp Γ gh) H (forM' ρ0 t s (ds.drop i) ρ') D) ⟨ρ0, gh, R1, StK.refl, q'⟩ (fun i σ' H' _ ⟨ρ', gh', R', k', _⟩ => hG H' k'.1) (fun i x σ2 H2 H3 hi ⟨ρ2, gh2, R2, k2, w⟩ y => ?_) (fun σ2 H2 ⟨ρ2, gh2, R2, k2, w⟩ => ?_)
      · obtain ⟨kx, tx, d, ed, sd⟩ := hY i H2 x H3 hi k2.1 y
        have R3 := R2.kp kx (tx R2.tabs)
        have hd : ds.drop i = d :: ds.drop (i + 1) := by
          rw [List.drop_eq_getElem_cons hi, (List.getElem?_eq_some_iff.mp ed).2]
        rw [hd] at w
        have w : ObS f Γ Γb Γc (Tp Γ gh) H ((do
          t d
          let o ← s
          match o with
          | .nx => do (fun ρ => .ok () (mask ρ0 ρ) : EM Unit); forM' ρ0 t s (ds.drop (i + 1))
          | .ct => do (fun ρ => .ok () (mask ρ0 ρ) : EM Unit); forM' ρ0 t s (ds.drop (i + 1))
          | .bk => Pure.pure .nx
          | .rt d => Pure.pure (.rt d) : SM) ρ2) D := w
        rw [bind_ap] at w
        refine ⟨ρ2, gh2, d, R3, sd.sub fun a z => ?_, ?_⟩
        · rcases z with z | z
          · exact .inl (.inl z)
          · exact (k2.2 a z).imp .inr id
        cases et : t d ρ2 with
        | exn x ρ' => exact nx.no _ _ _ _ et
        | stuck => rw [et] at w; exact w
        | ok u ρ3 =>
          rw [et] at w
          dsimp only at w
          rw [bind_ap] at w
          intro σ4 gh4 R4 t4 _
          have k4 : StK H1 H3 (Tp Γ gh) (Tp Γ1 gh4) := (k2.trans ⟨kx.mono fun _ z => z.elim, fun a z => .inl z⟩).trans (StK.sub fun a => (t4 a).1)
          have fin : ∀ {ρ5 : Env} {σ5 : L2.St} {gh5 : Nat → List Addr} {H5 : Hp}, ObS f Γ Γb Γc (Tp Γ gh) H ((do (fun ρ => .ok () (mask ρ0 ρ) : EM Unit); forM' ρ0 t s (ds.drop (i + 1)) : SM) ρ5) D → Rel f Γ ρ5 gh5 σ5 H5 → StK H3 H5 (Tp Γ1 gh4) (Tp Γ gh5) → ∃ ρ' gh', Rel f Γ ρ' gh' σ5 H5 ∧ StK H1 H5 (Tp Γ gh) (Tp Γ gh') ∧ ObS f Γ Γb Γc (Tp Γ gh) H (forM' ρ0 t s (ds.drop (i + 1)) ρ') D := fun {ρ5 σ5 gh5 H5} w R5 k5 =>
            ⟨mask ρ0 ρ5, gh5, Rel.mask R1 R5, k4.trans k5, w⟩
          refine ⟨ρ3, gh4, R4, ?_⟩
          cases es : s ρ3 with
          | exn x ρ' =>
            rw [es] at w
            exact w
          | stuck => rw [es] at w; exact w
          | ok o ρ5 =>
            rw [es] at w
            cases o with
            | nx => exact fun σ5 gh5 H5 R5 k5 => fin w R5 k5
            | ct => exact fun σ5 gh5 H5 R5 k5 => fin w R5 k5
            | bk => exact fun σ5 gh5 H5 R5 k5 => (show ObS f Γ Γb Γc (Tp Γ gh) H (.ok .nx ρ5) D from w) σ5 gh5 H5 R5 (K1.trans (k4.trans k5))
            | rt d => exact w
      · rw [List.drop_length] at w
        exact (show ObS f Γ Γb Γc (Tp Γ gh) H (.ok .nx ρ2) D from w) σ2 gh2 H2 R2 (K1.trans k2)
theorem xs_while {c : Expr} {tc : EM Bool} (fu : Env → Nat) (hcd : XT X f Γ c tc) (hb : XSs X f Γ Γ Γ Γ body s) (hp : PassesOwn (model X.prog X.w) X.A X.env X.xe) (hw : wkL Γ f.Γx = true := by rfl) : XS X f Γ Γ Γb Γc (.While c body [] pos) (sWhile fu tc s) :=
  PS.mono (ps_while hp hcd hb) fun D σ H ⟨ρ, gh, R, q⟩ => by
    have q' : ObS f Γ Γb Γc (Tp Γ gh) H (whileM ρ tc s (fu ρ) ρ) D := q
    generalize fu ρ = n at q'
    refine ⟨fun m σ' H' => ∃ ρ' gh', Rel f Γ ρ' gh' σ' H' ∧ StK H H' (Tp Γ gh) (Tp Γ gh') ∧ ObS f Γ Γb Γc (Tp Γ gh) H (whileM ρ tc s m ρ') D, ⟨n, ρ, gh, R, StK.refl, q'⟩, fun m σ2 H2 ⟨ρ2, gh2, R2, k2, w⟩ => ?_⟩
    cases m with
    | zero => exact w.elim
    | succ m =>
      have w : ObS f Γ Γb Γc (Tp Γ gh) H ((do
        let b ← tc
        if b = true then do
          let o ← s
          match o with
          | .nx => do (fun ρ' => .ok () (mask ρ ρ') : EM Unit); whileM ρ tc s m
          | .ct => do (fun ρ' => .ok () (mask ρ ρ') : EM Unit); whileM ρ tc s m
          | .bk => Pure.pure .nx
          | .rt d => Pure.pure (.rt d)
        else Pure.pure .nx : SM) ρ2) D := w
      refine RT.fstS hw R2 w fun b ρ3 H3 R3 k3 w => ?_
      have K3 := k2.trans (StK.of R2 k3)
      cases b with
      | false =>
        rw [if_neg (by decide)] at w
        rw [if_neg (by decide)]
        exact (show ObS f Γ Γb Γc (Tp Γ gh) H (.ok .nx ρ3) D from w) σ2 gh2 H3 R3 K3
      | true =>
        rw [if_pos rfl] at w
        rw [if_pos rfl]
        rw [bind_ap] at w
        have fin : ∀ {ρ5 : Env} {σ5 : L2.St} {gh5 : Nat → List Addr} {H5 : Hp}, ObS f Γ Γb Γc (Tp Γ gh) H ((do (fun ρ' => .ok () (mask ρ ρ') : EM Unit); whileM ρ tc s m : SM) ρ5) D → Rel f Γ ρ5 gh5 σ5 H5 → StK H3 H5 (Tp Γ gh2) (Tp Γ gh5) → ∃ ρ' gh', Rel f Γ ρ' gh' σ5 H5 ∧ StK H H5 (Tp Γ gh) (Tp Γ gh') ∧ ObS f Γ Γb Γc (Tp Γ gh) H (whileM ρ tc s m ρ') D := fun {ρ5 σ5 gh5 H5} w R5 k5 =>
          ⟨mask ρ ρ5, gh5, Rel.mask R R5, K3.trans k5, w⟩
        refine ⟨fun σ' H' => ∃ ρ' gh', Rel f Γ ρ' gh' σ' H' ∧ StK H H' (Tp Γ gh) (Tp Γ gh') ∧ ObS f Γ Γb Γc (Tp Γ gh) H (whileM ρ tc s m ρ') D, fun σ' H' z => ⟨m, Nat.lt_succ_self m, z⟩, ρ3, gh2, R3, ?_⟩
        cases es : s ρ3 with
        | exn x ρ' => rw [es] at w; exact w
        | stuck => rw [es] at w; exact w
        | ok o ρ5 =>
          rw [es] at w
          cases o with
          | nx => exact fun σ5 gh5 H5 R5 k5 => fin w R5 k5
          | ct => exact fun σ5 gh5 H5 R5 k5 => fin w R5 k5
          | bk => exact fun σ5 gh5 H5 R5 k5 => (show ObS f Γ Γb Γc (Tp Γ gh) H (.ok .nx ρ5) D from w) σ5 gh5 H5 R5 (K3.trans k5)
          | rt d => exact w
end
end PP
-- PP14
/-! PP14: comprehensions. -/
namespace PP
open PySem PySem.Spec PyProof.Rows L2
theorem TabsN.mu {T : List NdefX.NTab} {H H' : Hp} (t : NdefX.TabsN T H) (e : ∀ b o, H b = some o → ¬ Mu o → H' b = some o) : NdefX.TabsN T H' := fun p hp => by
  obtain ⟨ps, h1, h2, h3⟩ := t p hp
  refine ⟨ps, e _ _ h1 (fun m => m), h2, fun pos cv hc => ?_⟩
  obtain ⟨c, e1, e2⟩ := h3 pos cv hc
  exact ⟨c, e1, e _ _ e2 (fun m => m)⟩
/-- where what may change changes -/
theorem Kp.updS {H : Hp} {p : Addr} {o u : HO} (h : H p = some u) (hm : Mu u) : Kp (fun a => a = p) H (upd H p o) := ⟨fun a x e n _ => by
  by_cases z : a = p
  · subst z
    rw [h] at e; cases e
    exact absurd rfl (n hm)
  · rw [upd_ne z]; exact e, fun a e => upd_none e⟩
theorem TabsN.updM {T : List NdefX.NTab} {H : Hp} {p : Addr} {o u : HO} (t : NdefX.TabsN T H) (h : H p = some u) (hm : Mu u) : NdefX.TabsN T (L2.upd H p o) := TabsN.mu t fun b x e n => by
  by_cases z : b = p
  · subst z
    rw [h] at e; cases e
    exact absurd hm n
  · rw [upd_ne z]; exact e
/-! ### frames within -/
abbrev Fr.nox (f : Fr) : Fr := { f with W := fun _ _ _ _ => False }
/-- within a comprehension whose new list is at D -/
abbrev Fr.blk (f : Fr) (D : Addr) : Fr := { f with W := fun _ _ _ _ => False, B0 := fun a => f.B0 a ∨ a = D }
section
variable {f : Fr} {Γ Γ1 : List Kd} {ρ ρ' : Env} {gh gh' : Nat → List Addr} {σ σ' : L2.St} {H H' : Hp}
theorem Rel.nox (R : Rel f Γ ρ gh σ H) : Rel f.nox Γ ρ gh σ H := ⟨R.lr, R.ls, R.slot, R.nd, R.dj, R.fresh, R.lent, R.one, R.b0, R.nb, R.s0, R.keep, R.tabs⟩
theorem Rel.unnox (R : Rel f.nox Γ ρ gh σ H) : Rel f Γ ρ gh σ H := ⟨R.lr, R.ls, R.slot, R.nd, R.dj, R.fresh, R.lent, R.one, R.b0, R.nb, R.s0, R.keep, R.tabs⟩
theorem Rel.blk {D : Addr} (R : Rel f Γ ρ gh σ H) (hD : H D = none) {o : HO} (hm : Mu o) : Rel (f.blk D) Γ ρ gh σ (upd H D o) := by
  have R1 := R.new (o := o) hD
  have A : Apart f Γ ρ gh σ (upd H D o) [D] := by
    refine ⟨fun i => ?_, fun a ha => ?_, by simp⟩
    · exact ((R.slot i).avoid (L := [D]) fun a ha => by rw [List.mem_singleton.mp ha]; exact hD).mono (Kp.upd_new hD) (fun _ _ z => z) (fun _ z => z.elim) (fun _ _ z => .inl z) fun _ z => z
    · rw [List.mem_singleton.mp ha]
      exact ⟨fun i => R.ngh hD i, fun z => R.nbx hD (.inl z), R.keep.2 D hD⟩
  have P := Rel.plusL R1 A fun a ha => ⟨o, by rw [List.mem_singleton.mp ha]; exact upd_same, hm⟩
  have e : ∀ a, (a ∈ [D]) = (a = D) := fun a => by simp
  have P := P.nox
  have hf : (f.plus fun a => a ∈ [D]).nox = f.blk D := by
    unfold Fr.plus Fr.nox Fr.blk
    simp
  rw [hf] at P
  exact P
theorem Rel.unblk {D : Addr} (R : Rel (f.blk D) Γ ρ gh σ H) : Rel f Γ ρ gh σ H := by
  have hf : (f.plus fun a => a = D).nox = f.blk D := rfl
  rw [← hf] at R
  exact R.unnox.unplus
/-- the list at D, that a comprehension builds, is changed -/
theorem Rel.updB {D : Addr} {o u : HO} (R : Rel f Γ ρ gh σ H) (hB : f.B0 D) (h0 : f.H0 D = none) (h : H D = some u) (hm : Mu u) (ho : Mu o) : Rel f Γ ρ gh σ (upd H D o) where
  lr := R.lr
  ls := R.ls
  slot := fun i => (R.slot i).mono (Kp.updS h hm) (fun a ha z => R.nb i a ha (by rw [z]; exact hB)) (fun a z => by rw [z]; exact .inl hB) (fun _ _ z => .inl z) fun _ z => z
  nd := R.nd
  dj := R.dj
  fresh := R.fresh
  lent := R.lent
  one := R.one
  b0 := fun a z => ⟨(R.b0 a z).1, by
    by_cases e : a = D
    · subst e
      exact ⟨o, upd_same, ho⟩
    · rw [upd_ne e]; exact (R.b0 a z).2⟩
  nb := R.nb
  s0 := R.s0
  keep := ⟨fun a x e n t => by
    by_cases z : a = D
    · subst z; rw [h0] at e; cases e
    · rw [upd_ne z]; exact R.keep.1 a x e n t, fun a e => R.keep.2 a (upd_none e)⟩
  tabs := TabsN.updM R.tabs h hm
/-- the slots as they were, the heap grown; the stream's as it is then -/
theorem Rel.back (R : Rel f Γ ρ gh σ H) (k : Kp (Sx f Γ) H H') (t : NdefX.TabsN f.g.T H') (b0 : ∀ a, f.B0 a → a ∉ f.S0 ∧ ∃ o, H' a = some o ∧ Mu o) (hj : jsOk f Γ = true) {s : Option D} (hs : Γ.getD f.js .un = .st → ∃ d, s = some d ∧ Ow f.g H' d f.v0 f.S0) : Rel f Γ (ρ.set f.js s) gh σ H' := by
  have hρ : ∀ i, Γ.getD i .un ≠ .st → (ρ.set f.js s).getD i none = ρ.getD i none := fun i hi => by
    by_cases e : i = f.js
    · rcases Bool.or_eq_true _ _ ▸ hj with z | z
      · rw [e] at hi; exact absurd (of_decide_eq_true z) hi
      · rw [List.set_eq_of_length_le (by rw [R.lr]; exact Nat.le_of_ble_eq_true z)]
    · exact getD_set e
  refine ⟨by rw [List.length_set]; exact R.lr, R.ls, fun i => ?_, R.nd, R.dj, R.fresh, R.lent, R.one, b0, R.nb, R.s0, R.keep.trans (k.mono fun a z => z.1), t⟩
  by_cases est : Γ.getD i .un = .st
  · have ei := R.one i est
    have l := R.lent i est
    rw [est]
    obtain ⟨d, rfl, q⟩ := hs (by rw [← ei]; exact est)
    have hlt : f.js < ρ.length := by
      obtain ⟨d', e'⟩ := (R.slot i).some (by rw [est]; decide)
      rw [List.getD_eq_getElem?_getD] at e'
      by_cases h : i < ρ.length
      · rw [← ei]; exact h
      · rw [List.getElem?_eq_none (by omega)] at e'; cases e'
    refine ⟨d, f.v0, ?_, l.2, ?_⟩
    · rw [getD_set_eq hlt, if_pos ei]
    · rw [l.1]; exact q
  · rw [hρ i est]
    exact (R.slot i).mono k (fun a ha z => est (Sx_gh R z ha)) (fun a z => Sx_sub R a z) (fun _ _ z => .inl z) fun _ z => z
def stEq (Γ Γ1 : List Kd) : Bool := Γ.map (fun k => decide (k = .st)) == Γ1.map (fun k => decide (k = .st))
theorem stEq_at {Γ Γ1 : List Kd} (h : stEq Γ Γ1 = true) (i : Nat) : Γ.getD i .un = .st ↔ Γ1.getD i .un = .st := by
  have e : (Γ.map fun k => decide (k = .st)) = Γ1.map (fun k => decide (k = .st)) := by simpa [stEq] using h
  have q : ∀ Γ : List Kd, (Γ.getD i .un = .st) = ((Γ.map fun k => decide (k = Kd.st)).getD i false = true) := fun Γ => by
    rw [List.getD_eq_getElem?_getD, List.getD_eq_getElem?_getD, List.getElem?_map]
    cases Γ[i]? with
    | none => simp
    | some k => simp
  rw [q Γ, q Γ1, e]
theorem Sx_eq (h : stEq Γ Γ1 = true) : ∀ a, Sx f Γ1 a → Sx f Γ a := fun a ⟨h1, i, h2⟩ => ⟨h1, i, (stEq_at h i).mpr h2⟩
/-- the lent slot's data -/
theorem Rel.js (R : Rel f Γ ρ gh σ H) (h : Γ.getD f.js .un = .st) : ∃ d, ρ.getD f.js none = some d ∧ Ow f.g H d f.v0 f.S0 := by
  have s := R.slot f.js
  have l := R.lent f.js h
  rw [h] at s
  obtain ⟨d, v, e1, e2, q⟩ := s
  rw [l.2] at e2; cases e2
  rw [l.1] at q
  exact ⟨d, e1, q⟩
/-! ### the block's own slots -/
def wipeK (Γ : List Kd) : List Nat → List Kd
  | [] => Γ
  | v :: vs => (wipeK Γ vs).set v .un
theorem wipeK_get {Γ : List Kd} {i : Nat} : ∀ {vs : List Nat}, (wipeK Γ vs).getD i .un = if i ∈ vs then .un else Γ.getD i .un
  | [] => by simp [wipeK]
  | v :: vs => by
    unfold wipeK
    by_cases e : i = v
    · subst e
      rw [if_pos List.mem_cons_self, List.getD_eq_getElem?_getD]
      by_cases l : i < (wipeK Γ vs).length
      · rw [List.getElem?_set_self l]; rfl
      · rw [List.getElem?_eq_none (by simpa using l)]; rfl
    · rw [List.getD_eq_getElem?_getD, List.getElem?_set_ne (Ne.symm e), ← List.getD_eq_getElem?_getD, wipeK_get (vs := vs)]
      by_cases m : i ∈ vs
      · rw [if_pos m, if_pos (List.mem_cons_of_mem _ m)]
      · rw [if_neg m, if_neg (by simp [e, m])]
theorem wipe_get {σ : L2.St} {i : Nat} : ∀ {vs : List Nat}, (wipe σ vs).getD i none = if i ∈ vs then none else σ.getD i none
  | [] => by simp [wipe]
  | v :: vs => by
    unfold wipe
    by_cases e : i = v
    · subst e
      rw [if_pos List.mem_cons_self, List.getD_eq_getElem?_getD]
      by_cases l : i < (wipe σ vs).length
      · rw [List.getElem?_set_self l]; rfl
      · rw [List.getElem?_eq_none (by simpa using l)]; rfl
    · rw [List.getD_eq_getElem?_getD, List.getElem?_set_ne (Ne.symm e), ← List.getD_eq_getElem?_getD, wipe_get (vs := vs)]
      by_cases m : i ∈ vs
      · rw [if_pos m, if_pos (List.mem_cons_of_mem _ m)]
      · rw [if_neg m, if_neg (by simp [e, m])]
theorem getD_ext {σ τ : L2.St} (l : σ.length = τ.length) (h : ∀ i, σ.getD i none = τ.getD i none) : σ = τ := by
  refine List.ext_getElem l fun i h1 h2 => ?_
  have := h i
  rw [List.getD_eq_getElem?_getD, List.getD_eq_getElem?_getD, List.getElem?_eq_getElem h1, List.getElem?_eq_getElem h2] at this
  exact this
theorem wipe_eq {σ σ' : L2.St} {vs ws : List Nat} (l : σ'.length = σ.length) (hw : ∀ i ∈ ws, i ∈ vs) (h : ∀ i, i ∉ ws → σ'.getD i none = (wipe σ vs).getD i none) : wipe σ' vs = wipe σ vs := by
  refine getD_ext (by rw [wipe_length, wipe_length, l]) fun i => ?_
  rw [wipe_get, wipe_get]
  by_cases m : i ∈ vs
  · rw [if_pos m, if_pos m]
  · rw [if_neg m, if_neg m, h i fun z => m (hw i z), wipe_get, if_neg m]
def vsOk (f : Fr) (Γ : List Kd) (c : Bool) (vs : List Nat) : Bool := (vs.all fun v => match Γ.getD v .un with | .un | .sh | .cs => true | _ => false) && ((noC Γ && !c) || vs.all fun v => !f.caps.contains v)
theorem Rel.wipe {c : Bool} {vs : List Nat} (h : vsOk f Γ c vs = true) (R : Rel f Γ ρ gh σ H) : Rel f (wipeK Γ vs) ρ gh (L2.wipe σ vs) H ∧ (∀ a, Tp (wipeK Γ vs) gh a → Tp Γ gh a) ∧ (∀ a, Tp Γ gh a → Tp (wipeK Γ vs) gh a) ∧ (c = true → ∀ a w, f.oc σ a w → f.oc (L2.wipe σ vs) a w) := by
  simp only [vsOk, Bool.and_eq_true, List.all_eq_true] at h
  obtain ⟨h1, h2⟩ := h
  have hv : ∀ v ∈ vs, gh v = [] ∧ ∀ L, tops (Γ.getD v .un) L = [] := fun v hv => by
    have := h1 v hv
    have s := R.slot v
    generalize Γ.getD v .un = k at this s
    cases k <;> first | (exfalso; simp at this; done) | skip
    · exact ⟨s, fun _ => rfl⟩
    · exact ⟨s.1, fun _ => rfl⟩
    · exact ⟨s.1, fun _ => rfl⟩
  have t1 : ∀ a, Tp (wipeK Γ vs) gh a → Tp Γ gh a := fun a ⟨i, z⟩ => ⟨i, by
    rw [wipeK_get] at z
    split at z
    · cases z
    · exact z⟩
  have t2 : ∀ a, Tp Γ gh a → Tp (wipeK Γ vs) gh a := fun a ⟨i, z⟩ => ⟨i, by
    rw [wipeK_get]
    split
    · rename_i m
      rw [(hv i m).2] at z; cases z
    · exact z⟩
  have oc : ((vs.all fun v => !f.caps.contains v) = true) → ∀ a w, f.oc σ a w → f.oc (L2.wipe σ vs) a w := fun q a w ⟨j, h1, h2, h3⟩ => by
    refine ⟨j, h1, h2, ?_⟩
    rw [wipe_get, if_neg fun m => ?_]
    · exact h3
    · have := List.all_eq_true.mp q j m
      simp [h1] at this
  refine ⟨⟨R.lr, by rw [wipe_length]; exact R.ls, fun i => ?_, R.nd, R.dj, fun i e a ha => ?_, fun i e => ?_, fun i e => ?_, R.b0, R.nb, R.s0, R.keep, R.tabs⟩, t1, t2, fun hc => ?_⟩
  · rw [wipeK_get, wipe_get]
    by_cases m : i ∈ vs
    · rw [if_pos m]; exact (hv i m).1
    · rw [if_neg m, if_neg m]
      have hB : ∀ a, Bx f (wipeK Γ vs) gh a → Bx f Γ gh a := fun a z => z.imp id (t1 a)
      rcases Bool.or_eq_true _ _ ▸ h2 with q | q
      · have q := (Bool.and_eq_true _ _ ▸ q).1
        exact SlotOk.oc (noC_at q i) ((R.slot i).mono (S := fun _ => False) Kp.refl (fun _ _ z => z) (fun _ z => z.elim) (fun _ _ z => .inl z) hB)
      · exact (R.slot i).mono (S := fun _ => False) Kp.refl (fun _ _ z => z) (fun _ z => z.elim) (fun a w z => .inl (oc q a w z)) hB
  · by_cases m : i ∈ vs
    · rw [(hv i m).1] at ha; cases ha
    · rw [wipeK_get, if_neg m] at e
      exact R.fresh i e a ha
  · rw [wipeK_get] at e
    split at e
    · cases e
    · rename_i m
      rw [wipe_get, if_neg m]
      exact R.lent i e
  · rw [wipeK_get] at e
    split at e
    · cases e
    · exact R.one i e
  · rcases Bool.or_eq_true _ _ ▸ h2 with q | q
    · have q := (Bool.and_eq_true _ _ ▸ q).2
      rw [hc] at q; cases q
    · exact oc q
end
end PP
-- PP15
/-! PP15: comprehensions, the rules. -/
namespace PP
open PySem PySem.Spec PyProof.Rows L2
/-- the new list's way of being held, from its items' -/
def compMd : Md → Md
  | .own [] => .own []
  | .sh => .tp []
  | .cs => .tc []
  | m => m
def compOk : Md → Bool
  | .own [] | .sh | .cs => true
  | _ => false
theorem compOk_U {m : Md} (h : compOk m = true) : m.U = [] := by
  cases m with
  | own U =>
    cases U with
    | nil => rfl
    | cons _ _ => cases h
  | tp U => cases h
  | tc U => cases h
  | _ => rfl
/-- what is gathered -/
def AccOk (f : Fr) (σ : L2.St) (B : Addr → Prop) (H : Hp) : Md → List D → List V → List Addr → Prop
  | .own _, ds, vs, L => OwA f.g H ds vs L
  | .sh, ds, vs, L => L = [] ∧ ShA f.g nc B H ds vs
  | .cs, ds, vs, L => L = [] ∧ ShA f.g (f.oc σ) B H ds vs
  | _, _, _, _ => False
section
variable {f : Fr} {σ : L2.St} {B S : Addr → Prop} {H H' : Hp} {m : Md} {ds : List D} {vs : List V} {L L' : List Addr}
theorem AccOk.kp (k : Kp S H H') (hS : ∀ a, S a → B a) (hL : ∀ a ∈ L, ¬ S a) (h : AccOk f σ B H m ds vs L) : AccOk f σ B H' m ds vs L := by
  cases m with
  | own U => exact OwA.mono k ds vs L hL h
  | sh => exact ⟨h.1, h.2.kp k hS⟩
  | cs => exact ⟨h.1, h.2.kp k hS⟩
  | _ => exact h.elim
theorem AccOk.there (h : AccOk f σ B H m ds vs L) : ∀ a ∈ L, ∃ o, H a = some o ∧ Mu o := fun a ha => by
  cases m with
  | own U => exact OwA.there ds vs L h a ha
  | sh => rw [h.1] at ha; cases ha
  | cs => rw [h.1] at ha; cases ha
  | _ => exact h.elim
theorem AccOk.nil (h : compOk m = true) : AccOk f σ B H m [] [] [] := by
  cases m <;> first | (exfalso; simp [compOk] at h; done) | simp [AccOk, OwA, ShA]
theorem AccOk.snoc {oc' : Addr → V → Prop} {S' : Addr → Prop} {d : D} {v : V} (hoc : m = .cs → ∀ a w, oc' a w → f.oc σ a w) (hm : compOk m = true) (h : AccOk f σ B H m ds vs L) (o : VO f.g oc' S' B H m d v L') : AccOk f σ B H m (ds ++ [d]) (vs ++ [v]) (L ++ L') := by
  cases m with
  | own U =>
    refine OwA.append h ?_
    simp only [OwA]
    exact ⟨v, [], L', [], rfl, by simp, o, rfl, rfl⟩
  | sh =>
    obtain ⟨rfl, h⟩ := h
    obtain ⟨rfl, o⟩ := o
    refine ⟨rfl, h.append ?_⟩
    simp only [ShA]
    exact ⟨v, [], rfl, o, rfl⟩
  | cs =>
    obtain ⟨rfl, h⟩ := h
    obtain ⟨rfl, o⟩ := o
    refine ⟨rfl, h.append ?_⟩
    simp only [ShA]
    exact ⟨v, [], rfl, Sh.mono (S := fun _ => False) Kp.refl (fun _ z => z.elim) (fun a w z => .inl (hoc rfl a w z)) (fun _ n => n) d v o, rfl⟩
  | _ => exact h.elim
end
theorem PTs.mono {X : Cx} {e : List Expr} {t t' : TT} (h : PTs X e t) (m : ∀ σ H Q, t' σ H Q → t σ H Q) : PTs X e t' := ⟨fun pins s σ H Q I q => h.run pins s σ H Q I (m σ H Q q)⟩
theorem xts_nil {X : Cx} {f : Fr} {Γ : List Kd} : PTs X [] (RT f Γ tYesM) := PTs.mono pts_nil fun σ H Q ⟨ρ, gh, R, q⟩ => q H R Kp.refl
theorem xts_one {X : Cx} {f : Fr} {Γ : List Kd} {e : Expr} {t : EM Bool} (h : XT X f Γ e t) : PTs X [e] (RT f Γ t) := pts_one h
theorem getD_same {ρ : Env} {j : Nat} {x : Option D} : (ρ.set j x).set j ((ρ.set j x).getD j none) = ρ.set j x := by
  by_cases h : j < ρ.length
  · rw [getD_set_eq h, if_pos rfl, List.set_set]
  · have e : ρ.set j x = ρ := List.set_eq_of_length_le (by omega)
    rw [e, List.set_eq_of_length_le (by omega)]
theorem self_set {ρ : Env} {j : Nat} : ρ = ρ.set j (ρ.getD j none) := by
  by_cases h : j < ρ.length
  · rw [List.getD_eq_getElem?_getD, List.getElem?_eq_getElem h]
    show ρ = ρ.set j ρ[j]
    rw [List.set_getElem_self]
  · rw [List.set_eq_of_length_le (by omega)]
/-- one turn's element, appended -/
structure CIx (f : Fr) (Γ Γw : List Kd) (m : Md) (gh : Nat → List Addr) (σ : L2.St) (H1 : Hp) (D : Addr) (vs : List Nat) (ρ0 : Env) (H : Hp) (ρ : Env) (done : List PP.D) (acc : List V) (L : List Addr) : Prop where
  rel : Rel (f.blk D) Γw ρ gh (wipe σ vs) H
  ρe : ∃ s, ρ = ρ0.set f.js s
  lst : H D = some (.lst acc)
  acc : AccOk f σ (fun a => Bx f Γ gh a ∨ a = D) H m done acc L
  nd : L.Nodup
  fr : ∀ a ∈ L, H1 a = none ∧ a ≠ D
  kp : Kp (Sx f Γ) H1 H
section
variable {X : Cx} {f : Fr} {Γ Γ1 : List Kd} {c : Bool} {m : Md} {it : EM (List D)} {t : D → EM Unit} {tt : EM Bool} {a : EM D} {tg iter elt : Expr} {ifs : List Expr} {scope : Scope} {own : List (Str × Nat)} {ws : List Nat} {pos : Pos}
/-- the end of all -/
theorem CIx.fin {gh : Nat → List Addr} {σ : L2.St} {H1 H : Hp} {D : Addr} {vs : List Nat} {ρ0 ρ : Env} {done : List PP.D} {acc : List V} {L : List Addr} {Q : VK} (hm : compOk m = true) (hj : jsOk f Γ = true) (hst : stEq Γ (wipeK Γ vs) = true) (R1 : Rel f Γ ρ0 gh σ H1) (hD : H1 D = none) (I : CIx f Γ (wipeK Γ vs) m gh σ H1 D vs ρ0 H ρ done acc L)
    (w : Ob f Γ (compMd m) gh σ H1 (.ok (.lst done) ρ) Q) : Q (.ref D) H := by
  obtain ⟨s, rfl⟩ := I.ρe
  have js : Γ.getD f.js .un = .st → ∃ d, s = some d ∧ Ow f.g H d f.v0 f.S0 := fun e => by
    obtain ⟨d, e1, q⟩ := I.rel.js ((stEq_at hst _).mp e)
    have hlt : f.js < ρ0.length := by
      obtain ⟨d', e'⟩ := (R1.slot f.js).some (by rw [e]; decide)
      rw [List.getD_eq_getElem?_getD] at e'
      by_cases h : f.js < ρ0.length
      · exact h
      · rw [List.getElem?_eq_none (by omega)] at e'; cases e'
    have e1 : (ρ0.set f.js s).getD f.js none = some d := e1
    rw [getD_set_eq hlt, if_pos rfl] at e1
    exact ⟨d, e1, q⟩
  have R2 : Rel f Γ (ρ0.set f.js s) gh σ H := R1.back I.kp I.rel.tabs (fun a z => I.rel.b0 a (.inl z)) hj js
  cases m with
  | own U =>
    cases U with
    | cons _ _ => cases hm
    | nil =>
      refine w (.ref D) H (D :: L) R2 I.kp ?_ ⟨List.nodup_cons.mpr ⟨fun z => (I.fr D z).2 rfl, I.nd⟩, fun a ha => ?_⟩
      · show Ow f.g H (.lst done) (.ref D) (D :: L)
        simp only [Ow]
        exact ⟨D, acc, L, rfl, rfl, I.lst, I.acc⟩
      · rcases List.mem_cons.mp ha with rfl | ha
        · exact .inl hD
        · exact .inl (I.fr a ha).1
  | sh =>
    refine w (.ref D) H [D] R2 I.kp ⟨D, rfl, rfl, .inl ⟨done, acc, rfl, I.lst, I.acc.2⟩⟩ ⟨by simp, fun a ha => .inl ?_⟩
    rw [List.mem_singleton.mp ha]; exact hD
  | cs =>
    refine w (.ref D) H [D] R2 I.kp ⟨D, rfl, rfl, .inl ⟨done, acc, rfl, I.lst, I.acc.2⟩⟩ ⟨by simp, fun a ha => .inl ?_⟩
    rw [List.mem_singleton.mp ha]; exact hD
  | _ => cases hm
/-- a turn without an element, or ahead of it: the heap has grown -/
theorem CIx.step {gh gh3 : Nat → List Addr} {σ σ3 : L2.St} {H1 H H3 : Hp} {D : Addr} {vs : List Nat} {ρ0 ρ ρ3 : Env} {done : List PP.D} {acc : List V} {L : List Addr} (hj : jsOk f Γ = true) (hst : stEq Γ (wipeK Γ vs) = true) (hst1 : stEq Γ Γ1 = true) (hw : ∀ a, Tp Γ gh a → Tp (wipeK Γ vs) gh a) (R1 : Rel f Γ ρ0 gh σ H1) (hD : H1 D = none) (I : CIx f Γ (wipeK Γ vs) m gh σ H1 D vs ρ0 H ρ done acc L)
    (R3 : Rel (f.blk D) Γ1 ρ3 gh3 σ3 H3) (k : Kp (Sx f Γ) H H3) : CIx f Γ (wipeK Γ vs) m gh σ H1 D vs ρ0 H3 (ρ0.set f.js (ρ3.getD f.js none)) done acc L := by
  have hSx : ∀ a, Sx f Γ a → Sx (f.blk D) (wipeK Γ vs) a := fun a ⟨h1, i, h2⟩ => ⟨h1, i, (stEq_at hst i).mp h2⟩
  have hj' : jsOk (f.blk D) (wipeK Γ vs) = true := by
    rcases Bool.or_eq_true _ _ ▸ hj with z | z
    · have := (stEq_at hst f.js).mp (of_decide_eq_true z)
      show (decide ((wipeK Γ vs).getD f.js .un = .st) || _) = true
      rw [this]; rfl
    · show (_ || Nat.ble f.n f.js) = true
      rw [z, Bool.or_true]
  have sB : ∀ a, Sx f Γ a → ∃ o, H1 a = some o := fun a z => R1.bthere (Sx_sub R1 a z)
  have r := I.rel.back (s := ρ3.getD f.js none) (k.mono hSx) R3.tabs R3.b0 hj' fun e => by
    obtain ⟨d, e1, q⟩ := R3.js ((stEq_at hst1 f.js).mp ((stEq_at hst f.js).mpr e))
    exact ⟨d, e1, q⟩
  obtain ⟨s, rfl⟩ := I.ρe
  have e : (ρ0.set f.js s).set (f.blk D).js (ρ3.getD f.js none) = ρ0.set f.js (ρ3.getD f.js none) := by
    show (ρ0.set f.js s).set f.js _ = _
    rw [List.set_set]
  rw [e] at r
  refine ⟨r, ⟨_, rfl⟩, k.1 D _ I.lst (fun _ z => ?_) (fun ps z => by cases z), I.acc.kp k (fun a z => .inl (Sx_sub R1 a z)) (fun a ha z => ?_), I.nd, I.fr, I.kp.trans k⟩
  · obtain ⟨o, q⟩ := sB D z
    rw [hD] at q; cases q
  · obtain ⟨o, q⟩ := sB a z
    rw [(I.fr a ha).1] at q; cases q
/-- the element is appended -/
theorem CIx.app {gh gh4 : Nat → List Addr} {σ σ4 : L2.St} {H1 H5 H : Hp} {D : Addr} {vs : List Nat} {ρ0 ρ : Env} {done : List PP.D} {acc : List V} {L L' : List Addr} {d : PP.D} {v : V} (hm : compOk m = true) (R1 : Rel f Γ ρ0 gh σ H1) (hD : H1 D = none) (I5 : ∀ a, H5 a = none → H1 a = none) (I : CIx f Γ (wipeK Γ vs) m gh σ H1 D vs ρ0 H ρ done acc L)
    (hoc : m = .cs → ∀ a w, f.oc σ4 a w → f.oc σ a w) (there5 : ∀ a ∈ L, ∃ o, H5 a = some o) (hD5 : ∃ o, H5 D = some o)
    (vo : VO f.g (f.oc σ4) (Bo (f.blk D) Γ1) (fun a => Bx f Γ gh a ∨ a = D) H m d v L') (n : NewIn H5 Γ1 gh4 m.U L') :
    CIx f Γ (wipeK Γ vs) m gh σ H1 D vs ρ0 (upd H D (.lst (acc ++ [v]))) ρ (done ++ [d]) (acc ++ [v]) (L ++ L') := by
  have fr5 : ∀ a ∈ L', H5 a = none := fun a ha => (n.2 a ha).resolve_right fun ⟨i, z, _⟩ => by
    have : m.U = [] := compOk_U hm
    rw [this] at z; cases z
  have h0 : (f.blk D).H0 D = none := R1.keep.2 D hD
  refine ⟨I.rel.updB (.inr rfl) h0 I.lst trivial trivial, I.ρe, upd_same, ?_, List.nodup_append.mpr ⟨I.nd, n.1, fun a ha b hb e => ?_⟩, fun a ha => ?_, ⟨fun a o e nS nt => ?_, fun a e => I.kp.2 a (upd_none e)⟩⟩
  · refine (AccOk.snoc hoc hm I.acc vo).kp (Kp.updS I.lst trivial) (fun a z => .inr z) (fun a ha z => ?_)
    rcases List.mem_append.mp ha with ha | ha
    · exact (I.fr a ha).2 z
    · obtain ⟨o, e⟩ := hD5
      rw [z] at ha
      rw [fr5 D ha] at e; cases e
  · subst e
    obtain ⟨o, e⟩ := there5 a ha
    rw [fr5 a hb] at e; cases e
  · rcases List.mem_append.mp ha with ha | ha
    · exact I.fr a ha
    · refine ⟨I5 a (fr5 a ha), fun z => ?_⟩
      obtain ⟨o, e⟩ := hD5
      rw [z] at ha
      rw [fr5 D ha] at e; cases e
  · by_cases z : a = D
    · rw [z, hD] at e; cases e
    · rw [upd_ne z]; exact I.kp.1 a o e nS nt
/-- what a comprehension's reading is, by its turns -/
theorem comp_read {σ : L2.St} {H : Hp} {Q : VK} [nx : NoX t] (hm : compOk m = true) (hv : vsOk f Γ c (own.map (·.2)) = true) (hws : (ws.all fun i => (own.map (·.2)).contains i) = true) (hj : jsOk f Γ = true) (hst : stEq Γ (wipeK Γ (own.map (·.2))) = true) (hst1 : stEq Γ Γ1 = true) (hcs : (c || !isCs m) = true)
    (h : RE f Γ (compMd m) (eComp f.js it t tt a) σ H Q) : tLc (RI f Γ c false it) (fun v σ H Q => ∃ D, RG (f.blk D) c (wipeK Γ (own.map (·.2))) Γ1 ws t v σ H Q) (fun σ H Q => ∃ D, RT (f.blk D) Γ1 tt σ H Q) (fun σ H Q => ∃ D, RE (f.blk D) Γ1 m a σ H Q) (own.map (·.2)) σ H Q := by
  have hws' : ∀ i ∈ ws, i ∈ own.map (·.2) := fun i hi => by
    have := List.all_eq_true.mp hws i hi
    simpa using this
  obtain ⟨ρ, gh, R, q⟩ := h
  have q' : Ob f Γ (compMd m) gh σ H ((it >>= fun ds => fun ρ => if ds.length ≤ PySem.sizeLine then (match compM f.js ρ t tt a ds ρ with
    | .ok xs ρ' => .ok (.lst xs) ρ'
    | .exn _ _ => .stuck
    | .stuck => .stuck) else .stuck) ρ) Q := q
  rw [bind_ap] at q'
  refine ⟨ρ, gh, R, ?_⟩
  cases ei : it ρ with
  | exn x ρ' => rw [ei] at q'; exact q'
  | stuck => rw [ei] at q'; exact q'
  | ok ds ρ0 =>
    rw [ei] at q'
    dsimp only at q'
    intro J H1 R1 k1 src D hD
    obtain ⟨G, Y, wk, hG, hY⟩ := src
    have q1 := q'.shift k1
    by_cases hlen : ds.length ≤ PySem.sizeLine
    case neg => rw [if_neg hlen] at q1; exact q1.elim
    rw [if_pos hlen] at q1
    obtain ⟨W1, W2, W3, W4⟩ := R1.wipe hv
    have t0 : ∀ a, Sx f Γ a → ∃ o, H1 a = some o := fun a z => R1.bthere (Sx_sub R1 a z)
    refine lc_it (g := fun v σ H Q => ∃ D, RG (f.blk D) c (wipeK Γ (own.map (·.2))) Γ1 ws t v σ H Q) (tt := fun σ H Q => ∃ D, RT (f.blk D) Γ1 tt σ H Q) (te := fun σ H Q => ∃ D, RE (f.blk D) Γ1 m a σ H Q) (vs := own.map (·.2)) (σ := σ) (H1 := H1) (D := D) (Qd := fun H => Q (.ref D) H) wk (fun i H => ∃ ρ done acc L, CIx f Γ (wipeK Γ (own.map (·.2))) m gh σ H1 D (own.map (·.2)) ρ0 H ρ done acc L ∧ acc.length ≤ i ∧ Ob f Γ (compMd m) gh σ H1 (match compM f.js ρ0 t tt a (ds.drop i) ρ with
      | .ok xs ρ' => .ok (.lst (done ++ xs)) ρ'
      | .exn _ _ => .stuck
      | .stuck => .stuck) Q) ?_ (fun i H _ ⟨ρ, done, acc, L, I, _⟩ => hG H I.kp) (fun i x H2 H3 hi ⟨ρ2, done, acc, L, I, hl, w⟩ y => ?_) (fun H2 ⟨ρ2, done, acc, L, I, hl, w⟩ => ?_)
    · refine ⟨ρ0, [], [], [], ⟨W1.blk hD trivial, ⟨_, self_set⟩, upd_same, AccOk.nil hm, List.nodup_nil, (fun a ha => nomatch ha), Kp.upd_new hD⟩, Nat.le_refl _, ?_⟩
      simpa using q1
    · obtain ⟨kx, tx, d, ed, sd⟩ := hY i H2 x H3 hi I.kp y
      have R3 := I.rel.kp kx (tx I.rel.tabs)
      have hd : ds.drop i = d :: ds.drop (i + 1) := by
        rw [List.drop_eq_getElem_cons hi, (List.getElem?_eq_some_iff.mp ed).2]
      rw [hd] at w
      have w : Ob f Γ (compMd m) gh σ H1 (match ((do
          t d
          let b ← tt
          if b = true then do
            let x ← a
            back f.js ρ0
            let xs ← compM f.js ρ0 t tt a (ds.drop (i + 1))
            Pure.pure (x :: xs)
          else do
            back f.js ρ0
            compM f.js ρ0 t tt a (ds.drop (i + 1)) : EM (List PP.D)) ρ2) with
        | .ok xs ρ' => .ok (.lst (done ++ xs)) ρ'
        | .exn _ _ => .stuck
        | .stuck => .stuck) Q := w
      rw [bind_ap] at w
      have hB : ∀ a, Bx (f.blk D) (wipeK Γ (own.map (·.2))) gh a → Bx f Γ gh a ∨ a = D := fun a z => by
        rcases z with (z | z) | z
        · exact .inl (.inl z)
        · exact .inr z
        · exact .inl (.inr (W2 a z))
      refine ⟨D, ρ2, gh, d, R3, ?_, ?_⟩
      · have s1 := sd.sub (B' := Bx (f.blk D) (wipeK Γ (own.map (·.2))) gh) fun a z => (hB a z).imp id fun z => by rw [z]; exact hD
        cases c with
        | false => exact s1
        | true => exact Sh.mono (S := fun _ => False) Kp.refl (fun _ z => z.elim) (fun a w z => .inl (W4 rfl a w z)) (fun _ n => n) d x s1
      cases et : t d ρ2 with
      | exn x ρ' => exact nx.no _ _ _ _ et
      | stuck => rw [et] at w; exact w
      | ok u ρ3 =>
        rw [et] at w
        dsimp only at w
        rw [bind_ap] at w
        intro σ4 gh4 R4 t4 o4
        refine ⟨wipe_eq (by rw [R4.ls]; exact R1.ls.symm) hws' o4, D, ρ3, gh4, R4, ?_⟩
        cases eb : tt ρ3 with
        | exn x ρ' => rw [eb] at w; exact fun cls dx H' R' _ ex => w.elim
        | stuck => rw [eb] at w; exact w
        | ok b ρ5 =>
          rw [eb] at w
          dsimp only at w
          intro H5 R5 k5
          have k23 : Kp (Sx f Γ) H2 H5 := (kx.mono fun _ z => z.elim).trans (k5.mono (Sx_eq hst1))
          cases b with
          | false =>
            rw [if_neg (by decide)] at w
            rw [if_neg (by decide)]
            refine ⟨_, done, acc, L, I.step hj hst hst1 W3 R1 hD R5 k23, by omega, ?_⟩
            exact w
          | true =>
            rw [if_pos rfl] at w
            rw [if_pos rfl]
            rw [bind_ap] at w
            refine ⟨D, ρ5, gh4, R5, ?_⟩
            cases ex : a ρ5 with
            | exn x ρ' => rw [ex] at w; exact fun cls dx H' R' _ ex => w.elim
            | stuck => rw [ex] at w; exact w
            | ok dv ρ6 =>
              rw [ex] at w
              dsimp only at w
              intro v H6 L6 R6 k6 vo6 n6
              have I6 := I.step hj hst hst1 W3 R1 hD R6 (k23.trans (k6.mono (Sx_eq hst1)))
              have I5 := I.step hj hst hst1 W3 R1 hD R5 k23
              have vo7 : VO f.g (f.oc σ4) (Bo (f.blk D) Γ1) (fun a => Bx f Γ gh a ∨ a = D) H6 m dv v L6 := VO.subB (fun a z => by
                rcases z with (z | z) | z
                · exact .inl (.inl z)
                · exact .inr ((t4 a).2 (W3 a z))
                · exact .inl (.inr z)) vo6
              refine ⟨acc, I6.lst, by omega, ρ0.set f.js (ρ6.getD f.js none), done ++ [dv], acc ++ [v], L ++ L6, I6.app hm R1 hD (fun a z => I5.kp.2 a z) (fun e => ?_) (fun a ha => let ⟨o, e, _⟩ := I5.acc.there a ha; ⟨o, e⟩) ⟨_, I5.lst⟩ vo7 n6, by simp; omega, ?_⟩
              · subst e
                have hc : c = true := by simpa [isCs] using hcs
                intro a w ⟨j, h1, h2, h3⟩
                refine ⟨j, h1, h2, ?_⟩
                have hv' := hv
                simp only [vsOk, Bool.and_eq_true, Bool.or_eq_true] at hv'
                have hno : j ∉ own.map (·.2) := fun z => by
                  rcases hv'.2 with q | q
                  · rw [hc] at q; simp at q
                  · have := List.all_eq_true.mp q j z
                    simp [h1] at this
                have := o4 j fun z => hno (hws' j z)
                rw [this, wipe_get, if_neg hno] at h3
                exact h3
              · have w : Ob f Γ (compMd m) gh σ H1 (match ((compM f.js ρ0 t tt a (ds.drop (i + 1)) >>= fun xs => Pure.pure (dv :: xs) : EM (List PP.D)) (ρ0.set f.js (ρ6.getD f.js none))) with
                  | .ok xs ρ' => .ok (.lst (done ++ xs)) ρ'
                  | .exn _ _ => .stuck
                  | .stuck => .stuck) Q := w
                rw [bind_ap] at w
                cases er : compM f.js ρ0 t tt a (ds.drop (i + 1)) (ρ0.set f.js (ρ6.getD f.js none)) with
                | ok xs ρ8 =>
                  rw [er] at w
                  show Ob f Γ (compMd m) gh σ H1 (.ok (.lst (done ++ [dv] ++ xs)) ρ8) Q
                  rw [List.append_assoc]
                  exact w
                | exn _ _ => rw [er] at w; exact w
                | stuck => rw [er] at w; exact w
    · rw [List.drop_length] at w
      have w : Ob f Γ (compMd m) gh σ H1 (.ok (.lst (done ++ [])) ρ2) Q := w
      rw [List.append_nil] at w
      exact I.fin hm hj hst R1 hD w
/-- [elt for tg in iter if ..] -/
theorem xe_comp (hN : X.N.Nodup) (hc : X.calm = true) (hi : PI X tg iter (RI f Γ c false it)) (ok : blkC X.N X.env.scope scope own = true)
    (hg : ∀ (s : Shared) (H : Hp) (C : Addr) (cl : List (Str × Addr)) (fp : List Addr) (D : Addr), PG (X.blk s H scope (compEnvC scope cl C X.env) fp) tg (RG (f.blk D) c (wipeK Γ (own.map (·.2))) Γ1 ws t)) (ht : ∀ (s : Shared) (H : Hp) (C : Addr) (cl : List (Str × Addr)) (fp : List Addr) (D : Addr), PTs (X.blk s H scope (compEnvC scope cl C X.env) fp) ifs (RT (f.blk D) Γ1 tt))
    (he : ∀ (s : Shared) (H : Hp) (C : Addr) (cl : List (Str × Addr)) (fp : List Addr) (D : Addr), PE (X.blk s H scope (compEnvC scope cl C X.env) fp) elt (RE (f.blk D) Γ1 m a)) [nx : NoX t]
    (hm : compOk m = true := by rfl) (hv : vsOk f Γ c (own.map (·.2)) = true := by rfl) (hws : (ws.all fun i => (own.map (·.2)).contains i) = true := by rfl) (hj : jsOk f Γ = true := by rfl) (hst : stEq Γ (wipeK Γ (own.map (·.2))) = true := by rfl) (hst1 : stEq Γ Γ1 = true := by rfl) (hcs : (c || !isCs m) = true := by rfl)
    (hs : ∀ x, foldedSetIterable iter X.env x = pure x := by intro _; rfl) : XE X f Γ (.ListComp elt [⟨tg, iter, ifs, 0⟩] scope pos) (compMd m) (eComp f.js it t tt a) := by
  have hg' : ∀ (s : Shared) (H : Hp) (C : Addr) (cl : List (Str × Addr)) (fp : List Addr), PG (X.blk s H scope (compEnvC scope cl C X.env) fp) tg (fun v σ H Q => ∃ D, RG (f.blk D) c (wipeK Γ (own.map (·.2))) Γ1 ws t v σ H Q) := fun s H C cl fp => ⟨fun pins s' σ H' v u Q I r ⟨D, q⟩ => (hg s H C cl fp D).run pins s' σ H' v u Q I r q⟩
  have ht' : ∀ (s : Shared) (H : Hp) (C : Addr) (cl : List (Str × Addr)) (fp : List Addr), PTs (X.blk s H scope (compEnvC scope cl C X.env) fp) ifs (fun σ H Q => ∃ D, RT (f.blk D) Γ1 tt σ H Q) := fun s H C cl fp => ⟨fun pins s' σ H' Q I ⟨D, q⟩ => (ht s H C cl fp D).run pins s' σ H' Q I q⟩
  have he' : ∀ (s : Shared) (H : Hp) (C : Addr) (cl : List (Str × Addr)) (fp : List Addr), PE (X.blk s H scope (compEnvC scope cl C X.env) fp) elt (fun σ H Q => ∃ D, RE (f.blk D) Γ1 m a σ H Q) := fun s H C cl fp => ⟨fun pins s' σ H' Q I ⟨D, q⟩ => (he s H C cl fp D).run pins s' σ H' Q I q⟩
  exact PE.mono (pe_lc hc hN hi (blkOk_by ok) hg' ht' he' hs) fun σ H Q q => comp_read hm hv hws hj hst hst1 hcs q
end
end PP
-- PP16
/-! PP16: defs; calls that change what is lent. -/
namespace PP
open PySem PySem.Spec PyProof.Rows L2
/-- a def that does not fall off its end -/
def defT (n : Nat) (b : SM) : Fn := fun ds s => match b (startE n ds) with
  | .ok (.rt d) _ => .ok d s
  | .ok _ _ => .stuck
  | .exn e _ => .exn e s
  | .stuck => .stuck
def kinds0 (m n : Nat) : List Kd := List.replicate m .sh ++ List.replicate (n - m) .un
abbrev frF (g : G) (n : Nat) (rm : Md) (caps : List Nat) (cell : Nat → Addr) (B : Addr → Prop) (H : Hp) (E : XK) : Fr :=
  { g := g, n := n, B0 := B, H0 := H, S0 := [], W := fun cls d _ H' => E cls d H', caps := caps, cell := cell, rm := rm, io := false, v0 := .non, Γx := List.replicate n .un, js := n }
abbrev frIo (g : G) (n : Nat) (rm : Md) (caps : List Nat) (cell : Nat → Addr) (B : Addr → Prop) (H : Hp) (E : XK) (L : List Addr) (v0 : V) : Fr :=
  { g := g, n := n, B0 := B, H0 := H, S0 := L, W := fun cls d _ H' => E cls d H', caps := caps, cell := cell, rm := rm, io := true, v0 := v0, Γx := .st :: List.replicate (n - 1) .un, js := 0 }
theorem start_get {α : Type} {vs : List α} {n i : Nat} : (vs.map some ++ List.replicate n none).getD i none = vs[i]? := by
  rw [List.getD_eq_getElem?_getD]
  by_cases h : i < vs.length
  · rw [List.getElem?_append_left (by simpa using h), List.getElem?_map, List.getElem?_eq_getElem h]; rfl
  · rw [List.getElem?_append_right (by simpa using h), List.getElem?_eq_none (l := vs) (by omega), List.getElem?_replicate]
    split <;> rfl
theorem kinds0_get {m n i : Nat} : (kinds0 m n).getD i .un = if i < m then .sh else .un := by
  unfold kinds0
  rw [List.getD_eq_getElem?_getD]
  by_cases h : i < m
  · rw [if_pos h, List.getElem?_append_left (by simpa using h), List.getElem?_replicate, if_pos h]; rfl
  · rw [if_neg h, List.getElem?_append_right (by simpa using h), List.getElem?_replicate]
    split <;> rfl
theorem start_rel {g : G} {n : Nat} {rm : Md} {caps : List Nat} {cell : Nat → Addr} {B : Addr → Prop} {H : Hp} {E : XK} {ds : List D} {vs : List V} {N : List Str} (hn : N.length = n) (hl : ds.length ≤ n) (hB : ∀ a, B a → ∃ o, H a = some o ∧ Mu o) (s : ShA g nc B H ds vs) (t : NdefX.TabsN g.T H) :
    Rel (frF g n rm caps cell B H E) (kinds0 ds.length n) (startE n ds) (fun _ => []) (L2.start N vs) H := by
  have hv := s.length
  refine ⟨(by show (startE n ds).length = n; simp [startE]; omega), ?_, fun i => ?_, (fun i => List.nodup_nil), (fun i j a h => nomatch h), (fun i _ a h => nomatch h), fun i h => ?_, fun i h => ?_, fun a h => ⟨fun z => (nomatch z), hB a h⟩, fun i a h => (nomatch h), fun a h => (nomatch h), ⟨fun a o e _ _ => e, fun a e => e⟩, t⟩
  · show (L2.start N vs).length = n
    unfold L2.start; simp [hn, hv]; omega
  · rw [kinds0_get]
    by_cases h : i < ds.length
    · rw [if_pos h]
      have e1 : (startE n ds).getD i none = ds[i]? := start_get
      have e2 : (L2.start N vs).getD i none = vs[i]? := start_get
      rw [e1, e2, List.getElem?_eq_getElem h]
      obtain ⟨v, e, q⟩ := s.get (List.getElem?_eq_getElem h)
      refine ⟨rfl, _, v, rfl, e, q.sub fun a z => z.elim id fun ⟨i, z⟩ => ?_⟩
      generalize (kinds0 ds.length n).getD i .un = k at z
      cases k <;> cases z
    · rw [if_neg h]; rfl
  · rw [kinds0_get] at h
    split at h <;> cases h
  · rw [kinds0_get] at h
    split at h <;> cases h
theorem VR.non {g : G} {B : Addr → Prop} {H H' : Hp} {rm : Md} (h : rm = .sh ∨ rm = .own []) : VR g B H H' rm .non .non := by
  rcases h with rfl | rfl
  · show Sh g nc B H' .non .non
    simp only [Sh]
  · exact ⟨[], ⟨rfl, rfl⟩, List.nodup_nil, (fun a h => nomatch h)⟩
section
variable {P : Program} {w : World} {K : PySem.W.Frag} {mg : Str → Option Value} {base : Heap} {x qual : Str} {params : Arguments} {body : List Stmt} {scope : Scope} {fa : Addr} {fd : FuncData} {N ps : List Str} {g : G} {k : Nat} {rm : Md} {caps : List Nat} {s : SM} {Γ' Γb Γc : List Kd}
theorem FunD.okW {CX : CXT} {sp : Sp} (F : FunD K x qual params body scope [] [] fa fd) (S : FnScope N ps scope) (len : ∀ vs H Q E, sp vs H Q E → vs.length = ps.length)
    (hbody : ∀ (cdv : Value), fd.code = cdv → ∀ (A : Around) (outer : List PySem.Env) (s : Shared) (H : Hp) (vs : List V) (Q : VK) (E : XK), Room k (A.deeper (envOfC qual scope s.heap.objs.size fa cdv)) → sp vs H Q E →
      ∃ t, PSs (cxOf CX P w K mg base N qual scope fa cdv A outer s H E) body t ∧ t { nx := fun _ H' => Q .non H', rt := Q } (L2.start N vs) H) : FnOk P w K mg base CX (k + 1) fa fd ps sp := by
  obtain ⟨oc, od, dV, kV, doc, pm, an, cdv, ct, osl, rfl, lk, hcd, _, _⟩ := F.ex
  exact fn_of lk hcd S len fun A outer s H vs Q E hr hsp => hbody cdv rfl A outer s H vs Q E hr hsp
def cellFn (N : List Str) (cells : List (Str × Addr)) (i : Nat) : Addr := (cells.lookup (N.getD i "")).getD 0
/-- THE RULE for a def: its body's derivation -/
theorem def_ok (F : FunD K x qual params body scope [] [] fa fd) (S : FnScope N ps scope) (hrm : rm = .sh ∨ rm = .own [])
    (hb : ∀ (cdv : Value), fd.code = cdv → ∀ (A : Around) (outer : List PySem.Env) (s0 : Shared) (H : Hp) (E : XK) (B : Addr → Prop), Room k (A.deeper (envOfC qual scope s0.heap.objs.size fa cdv)) →
      XSs (cxOf (L2.CX P w) P w K mg base N qual scope fa cdv A outer s0 H E) (frF g N.length rm caps (cellFn N (envOfC qual scope s0.heap.objs.size fa cdv).cells) B H E) (kinds0 ps.length N.length) Γ' Γb Γc body s) :
    FnOk P w K mg base (L2.CX P w) (k + 1) fa fd ps (spF g ps.length rm (defF N.length s)) := by
  refine PP.FunD.okW (CX := L2.CX P w) F S (fun vs H Q E ⟨B, ds, _, hl, sa, _⟩ => by rw [sa.length, hl]) (fun cdv hcv A outer s0 H vs Q E hr ⟨B, ds, hB, hl, sa, tb, q⟩ => ⟨_, hb cdv hcv A outer s0 H E B hr, ?_⟩)
  have hpl : ps.length ≤ N.length := by
    have q := congrArg List.length S.pre
    rw [List.length_take] at q
    omega
  have R := start_rel (rm := rm) (caps := caps) (cell := cellFn N (envOfC qual scope s0.heap.objs.size fa cdv).cells) (E := E) (N := N) (n := N.length) rfl (by omega) hB sa tb
  rw [hl] at R
  refine ⟨_, _, R, ?_⟩
  unfold defF at q
  have kf : ∀ {H' : Hp}, Kp (fun a => a ∈ ([] : List Addr)) H H' → Kp (fun _ => False) H H' := fun k => k.mono fun a z => nomatch z
  cases e : s (startE N.length ds) with
  | ok o ρ' =>
    rw [e] at q
    cases o with
    | nx => exact fun σ' gh' H' R' _ => q .non H' (kf R'.keep) R'.tabs (VR.non hrm)
    | rt d => exact fun v H' r => q v H' (kf r.2.1) r.2.2.1 r.1
    | bk => exact q.elim
    | ct => exact q.elim
  | exn y ρ' =>
    rw [e] at q
    exact fun cls dx σ' gh' H' R' ex => q cls dx H' (kf R'.keep) R'.tabs (ex.mono (S := fun _ => False) Kp.refl (fun _ z => z.elim) fun a z => .inl z)
  | stuck => rw [e] at q; exact q
theorem def_okT (F : FunD K x qual params body scope [] [] fa fd) (S : FnScope N ps scope)
    (hb : ∀ (cdv : Value), fd.code = cdv → ∀ (A : Around) (outer : List PySem.Env) (s0 : Shared) (H : Hp) (E : XK) (B : Addr → Prop), Room k (A.deeper (envOfC qual scope s0.heap.objs.size fa cdv)) →
      XSs (cxOf (L2.CX P w) P w K mg base N qual scope fa cdv A outer s0 H E) (frF g N.length rm caps (cellFn N (envOfC qual scope s0.heap.objs.size fa cdv).cells) B H E) (kinds0 ps.length N.length) Γ' Γb Γc body s) :
    FnOk P w K mg base (L2.CX P w) (k + 1) fa fd ps (spF g ps.length rm (defT N.length s)) := by
  refine PP.FunD.okW (CX := L2.CX P w) F S (fun vs H Q E ⟨B, ds, _, hl, sa, _⟩ => by rw [sa.length, hl]) (fun cdv hcv A outer s0 H vs Q E hr ⟨B, ds, hB, hl, sa, tb, q⟩ => ⟨_, hb cdv hcv A outer s0 H E B hr, ?_⟩)
  have hpl : ps.length ≤ N.length := by
    have q := congrArg List.length S.pre
    rw [List.length_take] at q
    omega
  have R := start_rel (rm := rm) (caps := caps) (cell := cellFn N (envOfC qual scope s0.heap.objs.size fa cdv).cells) (E := E) (N := N) (n := N.length) rfl (by omega) hB sa tb
  rw [hl] at R
  refine ⟨_, _, R, ?_⟩
  unfold defT at q
  have kf : ∀ {H' : Hp}, Kp (fun a => a ∈ ([] : List Addr)) H H' → Kp (fun _ => False) H H' := fun k => k.mono fun a z => nomatch z
  cases e : s (startE N.length ds) with
  | ok o ρ' =>
    rw [e] at q
    cases o with
    | nx => exact q.elim
    | rt d => exact fun v H' r => q v H' (kf r.2.1) r.2.2.1 r.1
    | bk => exact q.elim
    | ct => exact q.elim
  | exn y ρ' =>
    rw [e] at q
    exact fun cls dx σ' gh' H' R' ex => q cls dx H' (kf R'.keep) R'.tabs (ex.mono (S := fun _ => False) Kp.refl (fun _ z => z.elim) fun a z => .inl z)
  | stuck => rw [e] at q; exact q
/-! ### a def whose first parameter is lent -/
def kindsIo (m n : Nat) : List Kd := .st :: (List.replicate m .sh ++ List.replicate (n - 1 - m) .un)
theorem startIo_rel {n : Nat} {cell : Nat → Addr} {B : Addr → Prop} {H : Hp} {E : XK} {L : List Addr} {v0 : V} {d0 : D} {ds : List D} {vs : List V} {N : List Str} (hn : N.length = n) (hl : ds.length + 1 ≤ n) (hB : ∀ a, B a → ∃ o, H a = some o ∧ Mu o)
    (o0 : Ow g H d0 v0 L) (nd : L.Nodup) (LB : ∀ a ∈ L, ¬ B a) (s : ShA g nc (fun a => B a ∨ a ∈ L) H ds vs) (t : NdefX.TabsN g.T H) :
    Rel (frIo g n rm caps cell B H E L v0) (kindsIo ds.length n) (startE n (d0 :: ds)) (fun i => if i = 0 then L else []) (L2.start N (v0 :: vs)) H := by
  have hv := s.length
  have kg : ∀ i, (kindsIo ds.length n).getD (i + 1) .un = if i < ds.length then .sh else .un := fun i => by
    have : (kindsIo ds.length n).getD (i + 1) .un = (kinds0 ds.length (n - 1)).getD i .un := by
      simp [kindsIo, kinds0]
    rw [this, kinds0_get]
  have st0 : ∀ i, (kindsIo ds.length n).getD i .un = .st → i = 0 := fun i e => by
    cases i with
    | zero => rfl
    | succ i =>
      rw [kg i] at e
      split at e <;> cases e
  refine ⟨(by show (startE n (d0 :: ds)).length = n; simp [startE]; omega), ?_, fun i => ?_, fun i => ?_, fun i j a h h' => ?_, fun i e a h => ?_, fun i h => ?_, fun i h => ?_, fun a h => ⟨fun z => LB a z h, hB a h⟩, fun i a h => ?_, fun a h z => ?_, ⟨fun a o e _ _ => e, fun a e => e⟩, t⟩
  · show (L2.start N (v0 :: vs)).length = n
    unfold L2.start; simp [hn, hv]; omega
  · cases i with
    | zero => exact ⟨d0, v0, rfl, rfl, o0⟩
    | succ i =>
      rw [kg i, if_neg (Nat.succ_ne_zero i)]
      by_cases h : i < ds.length
      · rw [if_pos h]
        have e1 : (startE n (d0 :: ds)).getD (i + 1) none = (d0 :: ds)[i + 1]? := start_get
        have e2 : (L2.start N (v0 :: vs)).getD (i + 1) none = (v0 :: vs)[i + 1]? := start_get
        rw [e1, e2, List.getElem?_cons_succ, List.getElem?_cons_succ, List.getElem?_eq_getElem h]
        obtain ⟨v, e, q⟩ := s.get (List.getElem?_eq_getElem h)
        refine ⟨rfl, _, v, rfl, e, q.sub fun a z => z.elim .inl fun ⟨j, z⟩ => ?_⟩
        dsimp only at z
        by_cases hj : j = 0
        · subst hj; exact .inr z
        · rw [if_neg hj] at z
          generalize (kindsIo ds.length n).getD j .un = k at z
          cases k <;> cases z
      · rw [if_neg h]; rfl
  · try dsimp only
    split
    · exact nd
    · exact List.nodup_nil
  · try dsimp only at h h'
    split at h
    · split at h'
      · omega
      · cases h'
    · cases h
  · try dsimp only at h
    split at h
    · rename_i e0; subst e0; exact absurd rfl e
    · cases h
  · obtain rfl := st0 i h
    exact ⟨rfl, rfl⟩
  · exact st0 i h
  · try dsimp only at h
    split at h
    · exact LB a h
    · cases h
  · obtain ⟨o, e, _⟩ := Ow.there d0 v0 L o0 a h
    have z : H a = none := z
    rw [e] at z; cases z
theorem defIo_ok (F : FunD K x qual params body scope [] [] fa fd) (S : FnScope N ps scope) (hrm : rm = .sh ∨ rm = .own []) (hps : 1 ≤ ps.length)
    (hb : ∀ (cdv : Value), fd.code = cdv → ∀ (A : Around) (outer : List PySem.Env) (s0 : Shared) (H : Hp) (E : XK) (B : Addr → Prop) (L : List Addr) (v0 : V), Room k (A.deeper (envOfC qual scope s0.heap.objs.size fa cdv)) →
      XSs (cxOf (L2.CX P w) P w K mg base N qual scope fa cdv A outer s0 H E) (frIo g N.length rm caps (cellFn N (envOfC qual scope s0.heap.objs.size fa cdv).cells) B H E L v0) (kindsIo (ps.length - 1) N.length) Γ' Γb Γc body s) (hst : Γ'.getD 0 .un = .st) :
    FnOk P w K mg base (L2.CX P w) (k + 1) fa fd ps (spIo g (ps.length - 1) rm (defIo N.length s)) := by
  refine PP.FunD.okW (CX := L2.CX P w) F S (fun vs H Q E h => ?_) (fun cdv hcv A outer s0 H vs Q E hr h => ?_)
  · obtain ⟨B, ds, st, v0, ws, L, _, hl, rfl, _, _, _, sa, _⟩ := h
    rw [List.length_cons, sa.length, hl]; omega
  obtain ⟨B, ds, st, v0, ws, L, hB, hl, rfl, o0, nd, LB, sa, tb, q⟩ := h
  refine ⟨_, hb cdv hcv A outer s0 H E B L v0 hr, ?_⟩
  have hpl : ps.length ≤ N.length := by
    have q := congrArg List.length S.pre
    rw [List.length_take] at q
    omega
  have R := startIo_rel (rm := rm) (caps := caps) (cell := cellFn N (envOfC qual scope s0.heap.objs.size fa cdv).cells) (E := E) (N := N) (n := N.length) rfl (by omega) hB o0 nd LB sa tb
  rw [hl] at R
  refine ⟨_, _, R, ?_⟩
  unfold defIo at q
  cases e : s (startE N.length (st :: ds)) with
  | ok o ρ' =>
    rw [e] at q
    cases o with
    | nx =>
      intro σ' gh' H' R' _
      obtain ⟨d', e1, o1⟩ := R'.js hst
      have e1 : ρ'.getD 0 none = some d' := e1
      dsimp only at q
      rw [e1] at q
      exact q .non H' R'.keep R'.tabs o1 (VR.non hrm)
    | rt d =>
      intro v H' r
      obtain ⟨d', e1, o1, vr⟩ := r.2.2.2 rfl
      dsimp only at q
      rw [e1] at q
      exact q v H' r.2.1 r.2.2.1 o1 vr
    | bk => exact q.elim
    | ct => exact q.elim
  | exn y ρ' =>
    rw [e] at q
    intro cls dx σ' gh' H' R' ex
    obtain ⟨d', e1, o1⟩ := R'.js rfl
    have e1 : ρ'.getD 0 none = some d' := e1
    dsimp only at q
    rw [e1] at q
    exact q cls dx H' R'.keep R'.tabs o1 (ex.mono (S := fun _ => False) Kp.refl (fun _ z => z.elim) fun a z => z.imp id fun z => ⟨z, 0, rfl⟩)
  | stuck => rw [e] at q; exact q
end
end PP
-- PP17
/-! PP17: isinstance, truth, items of what is lent, calls that change it, own lists changed. -/
namespace PP
open PySem PySem.Spec PyProof.Rows L2
inductive Ty where
  | int | bool | str | list | tuple | dict
def Ty.nm : Ty → String
  | .int => "int"
  | .bool => "bool"
  | .str => "str"
  | .list => "list"
  | .tuple => "tuple"
  | .dict => "dict"
def D.tyN : D → Option String
  | .non => some "NoneType"
  | .bl _ => some "bool"
  | .int _ => some "int"
  | .str _ => some "str"
  | .lst _ => some "list"
  | .tup _ => some "tuple"
  | .dct _ _ => some "dict"
  | _ => none
def isTy (t : Ty) : D → Option Bool
  | .non => some false
  | .bl _ => some (match t with | .int => true | .bool => true | _ => false)
  | .int _ => some (match t with | .int => true | _ => false)
  | .str _ => some (match t with | .str => true | _ => false)
  | .lst _ => some (match t with | .list => true | _ => false)
  | .tup _ => some (match t with | .tuple => true | _ => false)
  | .dct _ _ => some (match t with | .dict => true | _ => false)
  | _ => none
theorem isTy_kit {K : PySem.W.Frag} {t : Ty} {d : D} {n : String} {b : Bool} (h1 : d.tyN = some n) (h2 : isTy t d = some b) : PySem.W.kitOne K (.type n) (.type t.nm) = some b := by
  apply kit_ty
  cases d <;> (first | (simp only [D.tyN] at h1; done) | skip) <;> simp only [D.tyN, Option.some.injEq, reduceCtorEq] at h1 <;> subst h1 <;> cases t <;> simp only [isTy, Option.some.injEq] at h2 <;> subst h2 <;> decide +kernel
def isAny : List Ty → D → Option Bool
  | [], _ => some false
  | t :: ts, d => match isTy t d with
    | some true => some true
    | some false => isAny ts d
    | none => none
theorem isAny_kit {K : PySem.W.Frag} {d : D} {n : String} : ∀ {ts : List Ty} {b : Bool}, d.tyN = some n → isAny ts d = some b → PySem.W.kitAny K (.type n) (ts.map fun t => .type t.nm) = some b
  | [], b, _, h => by simp only [isAny, Option.some.injEq] at h; subst h; exact kitAny_nil
  | t :: ts, b, h1, h => by
    simp only [isAny] at h
    split at h
    · rename_i e
      cases h
      exact kitAny_cons (isTy_kit h1 e) (fun z => by cases z) fun _ => rfl
    · rename_i e
      exact kitAny_cons (isTy_kit h1 e) (fun _ => isAny_kit h1 h) fun z => by cases z
    · cases h
theorem Sh.tyX {g : G} {cm : Addr → V → Prop} {B : Addr → Prop} {H : Hp} {d : D} {v : V} {n : String} (hn : d.tyN = some n) (h : Sh g cm B H d v) : TyX g.K H v (.type n) := by
  cases d with
  | non => simp only [Sh] at h; subst h; cases hn; exact .base .non
  | bl b => simp only [Sh] at h; subst h; cases hn; exact .base (.bl b)
  | int i => simp only [Sh] at h; subst h; cases hn; exact .base (.int i)
  | str x => simp only [Sh] at h; subst h; cases hn; exact .base (.str x)
  | lst ds =>
    simp only [Sh] at h
    obtain ⟨a, vs, rfl, _, q, _⟩ := h
    cases hn; exact .base (.lst q)
  | tup ds =>
    simp only [Sh] at h
    obtain ⟨a, vs, rfl, q, _⟩ := h
    cases hn
    rcases q with (q | ⟨o, q⟩) | ⟨o, its, m, q, c, _⟩
    · exact .base (.tup q)
    · exact .fTuple q
    · exact .kTuple q c
  | dct ks ds =>
    simp only [Sh] at h
    obtain ⟨a, kvs, rfl, _, q, _⟩ := h
    cases hn
    rcases q with q | ⟨o, q⟩
    · exact .base (.dK q)
    · exact .fDict q
  | glo x => cases hn
  | lid ds => simp only [D.tyN] at hn; cases hn
  | clo c ds => cases hn
def isD (ts : List Ty) : D → P D := fun d => match d.tyN, isAny ts d with
  | some _, some b => Pure.pure (.bl b)
  | _, _ => M.stuck
section
variable {X : Cx} {f : Fr} {Γ Γ1 Γ' Γb Γc : List Kd} {e e2 : Expr} {es : List Expr} {a b : EM D} {r : EM (List D)} {s t : SM} {pos p p2 p3 apos cpos tpos : Pos} {m ma : Md} {ms : List Md} {k n : Nat} {x : Str}
theorem isD_k {ts : List Ty} {σ : L2.St} {gh : Nat → List Addr} {ρ : Env} {H : Hp} {d : D} {v : V} {L : List Addr} {Q : VK} (R : Rel f Γ ρ gh σ H) (o : VO f.g (f.oc σ) (Bo f Γ) (Bx f Γ gh) H .bor d v L) (w : Ob f Γ (.own []) gh σ H ((lift (isD ts d) : EM D) ρ) Q) :
    ∃ n b, TyX f.g.K H v (.type n) ∧ d.tyN = some n ∧ isAny ts d = some b ∧ ∀ H', Kp (fun _ => False) H H' → NdefX.TabsN f.g.T H' → Q (.bl b) H' := by
  unfold isD at w
  split at w
  · rename_i n b h1 h2
    refine ⟨n, b, o.2.tyX h1, h1, h2, fun H' k' t' => ?_⟩
    exact (show Ob f Γ (.own []) gh σ H (.ok (.bl b) ρ) Q from w) (.bl b) H' [] (R.kp k' t') (k'.mono fun _ z => z.elim) ⟨rfl, rfl⟩ nil_new
  · exact w.elim
/-- isinstance(e, T) -/
theorem xe_isi (ty : Ty) {tn : Str} (hK : f.g.K = X.K) (h : XE X f Γ e .bor a) (hm : X.mg "isinstance" = none) (hmt : X.mg tn = none) (hv : bootBuiltins tn = some (.type ty.nm)) (hg : Gl X "isinstance" := by rfl) (hgt : Gl X tn := by rfl) (hn : tn ≠ "__name__" := by decide) (hdb : (tn == ("__debug__" : Str)) = false := by decide)
    (he : starEach (e :: [.Name tn p2]) X.env = (false, eval e X.env) :: starEach [.Name tn p2] X.env := by rfl) (he2 : starEach [.Name tn p2] X.env = (false, eval (.Name tn p2) X.env) :: starEach [] X.env := by rfl) (hpl : (backTo pos (starEach [.Name tn p2] X.env)).any (·.1) = false := by rfl) :
    XE X f Γ (.Call (.Name "isinstance" p) [e, .Name tn p2] [] pos) (.own []) (eP1 (isD [ty]) a) :=
  PE.mono (pe_callB call_isi hg hm boot_isinstance (pa_cons h (pa_cons (pe_bltn (v := .ty ty.nm) hgt hmt hv rfl hn hdb) pa_nil he2) he) (by decide) (by decide) he hpl) fun σ H Q ⟨ρ, gh, R, q⟩ => by
    refine RE.fst (ma := .bor) R (show Ob f Γ (.own []) gh σ H ((a >>= fun x => lift (isD [ty] x)) ρ) Q from q) fun d ρ1 v H1 L R1 k1 vo n w => ?_
    obtain ⟨n, b, h1, h2, h3, w⟩ := isD_k R1 vo w
    have h4 : isTy ty d = some b := by
      simp only [isAny] at h3
      split at h3 <;> first | (cases h3; assumption) | cases h3
    exact ⟨v, .ty ty.nm, .type n, .type ty.nm, b, rfl, .ty _, hK ▸ h1, isTy_kit h2 h4, w H1 Kp.refl R1.tabs⟩
/-- the names of types, as written -/
structure TyE (X : Cx) (tn : Str) (ty : Ty) : Prop where
  mg : X.mg tn = none
  boot : bootBuiltins tn = some (.type ty.nm)
  gl : Gl X tn
  n1 : tn ≠ "__name__"
  n2 : (tn == ("__debug__" : Str)) = false
inductive TyEs (X : Cx) : List Expr → List Ty → Prop where
  | nil : TyEs X [] []
  | cons {tn : Str} {ty : Ty} {p : Pos} {es : List Expr} {ts : List Ty} (h : TyE X tn ty) (hs : starEach (.Name tn p :: es) X.env = (false, eval (.Name tn p) X.env) :: starEach es X.env) (t : TyEs X es ts) : TyEs X (.Name tn p :: es) (ty :: ts)
theorem TyEs.pa {es : List Expr} {ts : List Ty} (h : TyEs X es ts) : PA X es (fun σ H Q => Q (ts.map fun t => V.ty t.nm) H) := by
  induction h with
  | nil => exact PA.mono pa_nil fun _ _ _ q => q
  | @cons tn ty p es ts h hs t ih => exact PA.mono (pa_cons (pe_bltn (v := .ty ty.nm) h.gl h.mg h.boot rfl h.n1 h.n2) ih hs) fun σ H Q q => q
theorem ClsVs : ∀ ts : List Ty, Paired ClsV (ts.map fun t => V.ty t.nm) (ts.map fun t => Value.type t.nm)
  | [] => .nil
  | t :: ts => .cons (.ty t.nm) (ClsVs ts)
/-- isinstance(e, (T, U, ..)) -/
theorem xe_isiT {ts : List Ty} {x1 : Nat} (hK : f.g.K = X.K) (h : XE X f Γ e .bor a) (ht : TyEs X es ts) (hl : Nat.ble ts.length 1000 = true := by rfl) (hm : X.mg "isinstance" = none) (hg : Gl X "isinstance" := by rfl)
    (he : starEach (e :: [.Tuple es x1 p2]) X.env = (false, eval e X.env) :: starEach [.Tuple es x1 p2] X.env := by rfl) (he2 : starEach [.Tuple es x1 p2] X.env = (false, eval (.Tuple es x1 p2) X.env) :: starEach [] X.env := by rfl) (hpl : (backTo pos (starEach [.Tuple es x1 p2] X.env)).any (·.1) = false := by rfl) :
    XE X f Γ (.Call (.Name "isinstance" p) [e, .Tuple es x1 p2] [] pos) (.own []) (eP1 (isD ts) a) :=
  PE.mono (pe_callB call_isiT hg hm boot_isinstance (pa_cons h (pa_cons (pe_tup ht.pa) pa_nil he2) he) (by decide) (by decide) he hpl) fun σ H Q ⟨ρ, gh, R, q⟩ => by
    refine RE.fst (ma := .bor) R (show Ob f Γ (.own []) gh σ H ((a >>= fun x => lift (isD ts x)) ρ) Q from q) fun d ρ1 v H1 L R1 k1 vo n w => ?_
    refine ⟨by rw [List.length_map]; exact line_of hl, fun tp htp => ?_⟩
    have k2 := Kp.upd_new (S := fun _ => False) (o := .tup (ts.map fun t => V.ty t.nm)) htp
    have vo2 : VO f.g (f.oc σ) (Bo f Γ) (Bx f Γ gh) (upd H1 tp (.tup (ts.map fun t => V.ty t.nm))) .bor d v L := ⟨vo.1, vo.2.kp k2 fun _ z => z.elim⟩
    have R2 := R1.new (o := .tup (ts.map fun t => V.ty t.nm)) htp
    obtain ⟨n, b, h1, h2, h3, w⟩ := isD_k R2 vo2 (w.shift (Kp.upd_new htp))
    exact ⟨v, tp, _, .type n, _, b, rfl, upd_same, ClsVs ts, hK ▸ h1, isAny_kit h2 h3, w _ Kp.refl R2.tabs⟩
/-! ### truth -/
def truD : D → Option Bool
  | .non => some false
  | .bl b => some b
  | .int i => some (i != 0)
  | .str x => if x.length ≤ sizeLine then some ((x.length : Int) != 0) else none
  | .lst ds => some (!ds.isEmpty)
  | .tup ds => some (!ds.isEmpty)
  | _ => none
def tTru (a : EM D) : EM Bool := do
  let x ← a
  match truD x with
  | some b => Pure.pure b
  | none => M.stuck
theorem ShA.emp {g : G} {cm : Addr → V → Prop} {B : Addr → Prop} {H : Hp} {ds : List D} {vs : List V} (h : ShA g cm B H ds vs) : ds.isEmpty = vs.isEmpty := by
  have := h.length
  cases ds <;> cases vs <;> first | rfl | simp at this
theorem xt_truth (hK : f.g.K = X.K) (h : XE X f Γ e .bor a) (he : ∀ whole, isTrue e X.env whole = (do let v ← whole; standAt e.pos; holding [v] (truthy v)) := by intro _; rfl) : XT X f Γ e (tTru a) :=
  PT.mono (pt_truth h he) fun σ H Q ⟨ρ, gh, R, q⟩ => by
    refine RE.fstT (ma := .bor) R (show ObT f Γ gh σ H ((a >>= fun x => match truD x with | some b => Pure.pure b | none => M.stuck) ρ) Q from q) fun d ρ1 v H1 L R1 k1 vo n w => ?_
    cases et : truD d with
    | none => simp only [et] at w; exact w.elim
    | some b =>
      simp only [et] at w
      refine ⟨b, ?_, (show ObT f Γ gh σ H1 (.ok b ρ1) Q from w) H1 R1 Kp.refl⟩
      have s := vo.2
      rw [← hK]
      cases d with
      | non => simp only [Sh] at s; subst s; cases et; rfl
      | bl b => simp only [Sh] at s; subst s; cases et; rfl
      | int i => simp only [Sh] at s; subst s; cases et; rfl
      | str x =>
        simp only [Sh] at s; subst s
        have et : (if x.length ≤ sizeLine then some ((x.length : Int) != 0) else none) = some b := et
        by_cases hl : x.length ≤ sizeLine
        · rw [if_pos hl] at et
          cases et
          exact ⟨hl, rfl⟩
        · rw [if_neg hl] at et; cases et
      | lst ds =>
        simp only [Sh] at s
        obtain ⟨a, vs, rfl, _, q, r⟩ := s
        cases et
        exact .inl ⟨vs, SqL.of q, by rw [r.emp]⟩
      | tup ds =>
        simp only [Sh] at s
        obtain ⟨a, vs, rfl, q, r⟩ := s
        cases et
        exact .inr (.inl ⟨vs, q, by rw [r.emp]⟩)
      | _ => cases et
/-! ### values made one's own -/
/-- data without lists or dicts is everybody's own -/
def nfD (d : D) : P D := if d.nf = true then Pure.pure d else M.stuck
def eNf (a : EM D) : EM D := eP1 nfD a
theorem xe_nf (h : XE X f Γ e .bor a) : XE X f Γ e (.own []) (eNf a) :=
  PE.mono h fun σ H Q ⟨ρ, gh, R, q⟩ => by
    refine RE.fst R (show Ob f Γ (.own []) gh σ H ((a >>= fun x => lift (nfD x)) ρ) Q from q) fun d ρ1 v H1 L R1 k1 vo n w => ?_
    by_cases c : d.nf = true
    · have w : Ob f Γ (.own []) gh σ H1 (.ok d ρ1) Q := by unfold nfD at w; rw [if_pos c] at w; exact w
      exact w v H1 [] R1 Kp.refl (Sh.nf d v c vo.2) nil_new
    · have w : Ob f Γ (.own []) gh σ H1 .stuck Q := by unfold nfD at w; rw [if_neg c] at w; exact w
      exact w.elim
/-- a list of such data -/
def nfL (d : D) : P D := match d with
  | .lst ds => if D.nfA ds = true then Pure.pure (.lst ds) else M.stuck
  | _ => M.stuck
theorem RE.fst0 {ma m : Md} {k : D → EM D} {σ : L2.St} {H : Hp} {Q Q' : VK} {ρ : Env} {gh : Nat → List Addr} (R : Rel f Γ ρ gh σ H) (w : Ob f Γ m gh σ H ((a >>= k) ρ) Q)
    (step : ∀ d ρ' v H' L, Rel f Γ ρ' gh σ H' → Kp (Sx f Γ) H H' → VO f.g (f.oc σ) (Bo f Γ) (Bx f Γ gh) H' ma d v L → NewIn H Γ gh ma.U L → Ob f Γ m gh σ H (k d ρ') Q → Q' v H') : RE f Γ ma a σ H Q' :=
  RE.first (Wr := fun _ r => Ob f Γ m gh σ H r Q) R w (fun x ρ' h => h) (fun h => h) step
theorem xe_nfL {U : List Nat} (h : XE X f Γ e (.tp U) a) : XE X f Γ e (.own U) (eP1 nfL a) :=
  PE.mono h fun σ H Q ⟨ρ, gh, R, q⟩ => by
    refine RE.fst0 R (show Ob f Γ (.own U) gh σ H ((a >>= fun x => lift (nfL x)) ρ) Q from q) fun d ρ1 v H1 L R1 k1 vo n w => ?_
    cases d with
    | lst ds =>
      by_cases c : D.nfA ds = true
      · have w : Ob f Γ (.own U) gh σ H (.ok (.lst ds) ρ1) Q := by unfold nfL at w; dsimp only at w; rw [if_pos c] at w; exact w
        obtain ⟨l, e1, rfl, t⟩ := vo
        rcases t with ⟨ds', vs, e2, q, r⟩ | ⟨_, _, _, e2, _⟩
        · cases e2
          refine w (.ref l) H1 [l] R1 k1 ?_ (by rw [e1] at n; exact n)
          show Ow f.g H1 (.lst ds) (.ref l) [l]
          simp only [Ow]
          exact ⟨l, vs, [], rfl, rfl, q, ShA.nf ds vs c r⟩
        · cases e2
      · have w : Ob f Γ (.own U) gh σ H .stuck Q := by unfold nfL at w; dsimp only at w; rw [if_neg c] at w; exact w
        exact w.elim
    | _ => exact w.elim
end
end PP
-- PP18
/-! PP18: what is lent (the stream): its items, stores to it, calls that change it. -/
namespace PP
open PySem PySem.Spec PyProof.Rows L2
section
variable {X : Cx} {f : Fr} {Γ Γ1 Γ' Γb Γc : List Kd} {e e2 : Expr} {es : List Expr} {a b : EM D} {r : EM (List D)} {s t : SM} {pos p p2 p3 apos cpos tpos : Pos} {m ma : Md} {ms : List Md} {k n : Nat} {x : Str}
theorem getD_some {σ : L2.St} {i : Nat} {v : V} (h : σ.getD i none = some v) : σ[i]? = some (some v) := by
  rw [List.getD_eq_getElem?_getD] at h
  cases q : σ[i]? with
  | none => rw [q] at h; cases h
  | some o => rw [q] at h; rw [show o = some v from h]
theorem OwA.get {g : G} {H : Hp} : ∀ {ds : List D} {vs : List V} {L : List Addr} {i : Nat} {d : D}, OwA g H ds vs L → ds[i]? = some d → ∃ v L', vs[i]? = some v ∧ Ow g H d v L' ∧ ∀ a ∈ L', a ∈ L
  | [], _, _, _, _, _, e => by simp at e
  | d :: ds, vs, L, 0, d', h, e => by
    simp only [OwA] at h
    obtain ⟨v, r, L1, L2, rfl, rfl, h1, _⟩ := h
    cases e
    exact ⟨v, L1, rfl, h1, fun a ha => List.mem_append_left _ ha⟩
  | d :: ds, vs, L, i + 1, d', h, e => by
    simp only [OwA] at h
    obtain ⟨v, r, L1, L2, rfl, rfl, _, h2⟩ := h
    obtain ⟨w, L', e1, e2, e3⟩ := OwA.get h2 (i := i) (d := d') (by simpa using e)
    exact ⟨w, L', by simpa using e1, e2, fun a ha => List.mem_append_right _ (e3 a ha)⟩
/-- an item without nodes is replaced -/
theorem OwA.set {g : G} {H : Hp} : ∀ {ds : List D} {vs : List V} {L : List Addr} {i : Nat} {d d' : D} {v' : V}, OwA g H ds vs L → ds[i]? = some d → d.nf = true → Ow g H d' v' [] → OwA g H (ds.set i d') (vs.set i v') L
  | [], _, _, _, _, _, _, _, e, _, _ => by simp at e
  | d :: ds, vs, L, 0, d0, d', v', h, e, n, o => by
    simp only [OwA] at h
    obtain ⟨v, r, L1, L2, rfl, rfl, h1, h2⟩ := h
    cases e
    have z := Ow.nf d v L1 n h1
    subst z
    simp only [List.set_cons_zero, OwA]
    exact ⟨v', r, [], L2, rfl, rfl, o, h2⟩
  | d :: ds, vs, L, i + 1, d0, d', v', h, e, n, o => by
    simp only [OwA] at h
    obtain ⟨v, r, L1, L2, rfl, rfl, h1, h2⟩ := h
    simp only [List.set_cons_succ, OwA]
    exact ⟨v, r.set i v', L1, L2, rfl, rfl, h1, OwA.set h2 (by simpa using e) n o⟩
/-- the lent slot has new data -/
theorem Rel.stPut {ρ : Env} {gh : Nat → List Addr} {σ : L2.St} {H H' : Hp} {d' : D} (R : Rel f Γ ρ gh σ H) (hst : Γ.getD f.js .un = .st) (k : Kp (fun a => a ∈ f.S0) H H') (t : NdefX.TabsN f.g.T H') (o : Ow f.g H' d' f.v0 f.S0) : Rel f Γ (ρ.set f.js (some d')) gh σ H' :=
  R.back (k.mono fun a z => (⟨z, f.js, hst⟩ : Sx f Γ a)) t (fun a z => by
    obtain ⟨n, o, e, q⟩ := R.b0 a z
    exact ⟨n, o, k.1 a o e (fun _ => n) q.nt, q⟩) (by unfold jsOk; rw [decide_eq_true hst]; rfl) fun _ => ⟨d', rfl, o⟩
/-! ### an item that is lent -/
def stItem (k : Nat) : D → P D := fun d => match d with
  | .lst ds => (match ds[k]? with
    | some x => if x.nf = true then Pure.pure x else M.stuck
    | none => M.stuck)
  | _ => M.stuck
def eItS (j k : Nat) : EM D := fun ρ => match ρ.getD j none with
  | some d => (lift (stItem k d) : EM D) ρ
  | none => .stuck
instance {j i k : Nat} : Pu j (eItS i k) := Pu.same fun ρ y ρ' e => by
  unfold eItS at e
  split at e
  · unfold PP.lift at e
    split at e <;> cases e
    rfl
  · cases e
theorem atI_nat {vs : List V} {k : Nat} {v : V} (h : vs[k]? = some v) : atI vs (k : Int) = some v := by
  have hl := (List.getElem?_eq_some_iff.mp h).1
  unfold atI
  have : ixN vs.length (k : Int) = some k := by
    unfold ixN
    simp [hl]
  rw [this]
  exact h
/-- s[k], s what is lent, a plain item -/
theorem xe_itS (k : Nat) {x : Str} {j : Nat} (hst : Γ.getD f.js .un = .st) (hN : X.N[f.js]? = some x := by rfl) (hv : Vis X.env.scope x := by first | exact Or.inl rfl | exact Or.inr (Or.inl rfl) | exact Or.inr (Or.inr rfl))
    (hd : (x == ("__debug__" : Str)) = false := by decide) (hcd : (x == ("__classdict__" : Str)) = false := by decide) : XE X f Γ (.Subscript (.Name x p) (.Constant (.int (k : Int)) j p2) pos) (.own []) (eItS f.js k) :=
  PE.mono (pe_ix ix_seq (pe_var hN hv hd hcd) pe_int fun _ _ => rfl) fun σ H Q ⟨ρ, gh, R, q⟩ => by
    have sl := R.slot f.js
    rw [hst] at sl
    obtain ⟨d, v, e1, e2, o⟩ := sl
    have q : Ob f Γ (.own []) gh σ H (eItS f.js k ρ) Q := q
    unfold eItS at q
    rw [e1] at q
    dsimp only at q
    refine ⟨v, getD_some e2, ?_⟩
    unfold stItem at q
    cases d with
    | lst ds =>
      dsimp only at q
      simp only [Ow] at o
      obtain ⟨a, vs, L', rfl, eL, hq, r⟩ := o
      cases e3 : ds[k]? with
      | none => rw [e3] at q; exact q.elim
      | some y =>
        rw [e3] at q
        dsimp only at q
        by_cases c : y.nf = true
        · rw [if_pos c] at q
          obtain ⟨w, L2, e4, o4, _⟩ := r.get e3
          have z := Ow.nf y w L2 c o4
          subst z
          exact .inl ⟨a, vs, (k : Int), w, rfl, rfl, SqL.of hq, atI_nat e4, Ob.ok0 (show Ob f Γ (.own []) gh σ H (.ok y ρ) Q from q) R o4⟩
        · rw [if_neg c] at q; exact q.elim
    | _ => exact q.elim
/-! ### a store to an item that is lent -/
def sSetS (j k : Nat) (a : EM D) : SM := do
  let d ← a
  fun ρ => match ρ.getD j none with
    | some (.lst ds) => (match ds[k]? with
      | some y => if (y.nf && d.nf) = true then .ok .nx (ρ.set j (some (.lst (ds.set k d)))) else .stuck
      | none => .stuck)
    | _ => .stuck
theorem ixN_nat {n k : Nat} (h : k < n) : ixN n (k : Int) = some k := by
  unfold ixN
  simp [h]
theorem xs_setS (k : Nat) {x : Str} {j : Nat} (h : XE X f Γ e (.own []) a) (hst : Γ.getD f.js .un = .st) (hw : wkL Γ f.Γx = true := by rfl) (hN : X.N[f.js]? = some x := by rfl) (hv : Vis X.env.scope x := by first | exact Or.inl rfl | exact Or.inr (Or.inl rfl) | exact Or.inr (Or.inr rfl))
    (hs : swapsWithSole [.Subscript (.Name x p) (.Constant (.int (k : Int)) j p2) p3] e pos.line X.env = pure false := by rfl) (hww : swappedStores [.Subscript (.Name x p) (.Constant (.int (k : Int)) j p2) p3] e X.env = pure none := by rfl)
    (hd : (x == ("__debug__" : Str)) = false := by decide) (hcd : (x == ("__classdict__" : Str)) = false := by decide) : XS X f Γ Γ Γb Γc (.Assign [.Subscript (.Name x p) (.Constant (.int (k : Int)) j p2) p3] e pos) (sSetS f.js k a) :=
  PS.mono (ps_asg h (pg_sub (pe_var hN hv hd hcd) pe_int set_list) hs hww) fun D σ H ⟨ρ, gh, R, q⟩ => by
    refine RE.fstS (m := .own []) hw R (show ObS f Γ Γb Γc (Tp Γ gh) H ((a >>= fun d => fun ρ => match ρ.getD f.js none with
      | some (.lst ds) => (match ds[k]? with
        | some y => if (y.nf && d.nf) = true then .ok .nx (ρ.set f.js (some (.lst (ds.set k d)))) else .stuck
        | none => .stuck)
      | _ => .stuck) ρ) D from q) fun d ρ1 v H1 L R1 k1 vo n w => ?_
    have sl := R1.slot f.js
    have ln := R1.lent f.js hst
    rw [hst, ln.1] at sl
    obtain ⟨d0, v', e1, e2, o⟩ := sl
    rw [ln.2] at e2; cases e2
    rw [e1] at w
    refine ⟨f.v0, getD_some ln.2, ?_⟩
    cases d0 with
    | lst ds =>
      dsimp only at w
      simp only [Ow] at o
      obtain ⟨l, vs, L', ev, eL, hq, r⟩ := o
      cases e3 : ds[k]? with
      | none => rw [e3] at w; exact w.elim
      | some y =>
        rw [e3] at w
        dsimp only at w
        by_cases c : (y.nf && d.nf) = true
        · rw [if_pos c] at w
          simp only [Bool.and_eq_true] at c
          have z := Ow.nf d v L c.2 vo
          subst z
          obtain ⟨wv, _, e4, _, _⟩ := r.get e3
          have hlt := (List.getElem?_eq_some_iff.mp e4).1
          refine ⟨l, vs, (k : Int), k, ev, rfl, hq, ixN_nat hlt, ?_⟩
          have lS : l ∈ f.S0 := by rw [eL]; exact List.mem_cons_self
          have kp : Kp (fun a => a ∈ f.S0) H1 (upd H1 l (.lst (vs.set k v))) := (Kp.updS hq trivial).mono fun a z => by rw [z]; exact lS
          have lL : l ∉ L' := by
            have := R1.nd f.js
            rw [ln.1, eL] at this
            exact (List.nodup_cons.mp this).1
          have R2 := R1.stPut (d' := .lst (ds.set k d)) hst kp (TabsN.updM R1.tabs hq trivial) (by
            simp only [Ow]
            exact ⟨l, vs.set k v, L', ev, eL, upd_same, OwA.mono (Kp.updS hq trivial) _ _ L' (fun a ha z => lL (by rw [← z]; exact ha)) (r.set e3 c.1 vo)⟩)
          exact w σ gh _ R2 (StK.of R (k1.trans (kp.mono fun a z => ⟨z, f.js, hst⟩)))
        · rw [if_neg c] at w; exact w.elim
    | _ => exact w.elim
/-! ### s[0].pop(0) -/
def ePopS (j : Nat) : EM D := fun ρ => match ρ.getD j none with
  | some (.lst (.lst (c :: cs) :: rest)) => if c.nf = true then .ok c (ρ.set j (some (.lst (.lst cs :: rest)))) else .stuck
  | _ => .stuck
instance {j : Nat} : Pu j (ePopS j) := ⟨fun ρ y ρ' e i hi => by
  unfold ePopS at e
  split at e
  · split at e
    · cases e; exact getD_set hi
    · cases e
  · cases e⟩
theorem xe_popS {x : Str} {j j2 : Nat} (hst : Γ.getD f.js .un = .st) (hN : X.N[f.js]? = some x := by rfl) (hv : Vis X.env.scope x := by first | exact Or.inl rfl | exact Or.inr (Or.inl rfl) | exact Or.inr (Or.inr rfl))
    (hd : (x == ("__debug__" : Str)) = false := by decide) (hcd : (x == ("__classdict__" : Str)) = false := by decide)
    (hbase : attributeBase (.Subscript (.Name x p) (.Constant (.int 0) j p2) pos) "pop" X.env (eval (.Subscript (.Name x p) (.Constant (.int 0) j p2) pos) X.env) = eval (.Subscript (.Name x p) (.Constant (.int 0) j p2) pos) X.env := by rfl)
    (hfew : ((backTo cpos (starEach [.Constant (.int 0) j2 p3] X.env)).all (fun x => !x.1) && (backToKw cpos (keywordEach [] X.env)).all (fun x => x.1.isSome)
      && decide (([.Constant (.int 0) j2 p3] : List Expr).length + ([] : List Keyword).length + (if ([] : List Keyword).isEmpty then 0 else 1) < 30)) = true := by rfl)
    (hline : (apos.endLine == cpos.line) = true := by rfl) (hs : starEach [.Constant (.int 0) j2 p3] X.env = (false, eval (.Constant (.int 0) j2 p3) X.env) :: starEach [] X.env := by rfl) (hplain : (backTo cpos (starEach [] X.env)).any (·.1) = false := by rfl) :
    XE X f Γ (.Call (.Attribute (.Subscript (.Name x p) (.Constant (.int 0) j p2) pos) "pop" apos) [.Constant (.int 0) j2 p3] [] cpos) (.own []) (ePopS f.js) :=
  PE.mono (pe_bm F.plainAttrs_list F.slot_list_pop F.type_list_pop mt_popAt (pe_ix ix_seq (pe_var hN hv hd hcd) pe_int fun _ _ => rfl) (pa_cons pe_int pa_nil hs) hbase hfew hline hs hplain) fun σ H Q ⟨ρ, gh, R, q⟩ => by
    have sl := R.slot f.js
    have ln := R.lent f.js hst
    rw [hst, ln.1] at sl
    obtain ⟨d0, v', e1, e2, o⟩ := sl
    rw [ln.2] at e2; cases e2
    have q : Ob f Γ (.own []) gh σ H (ePopS f.js ρ) Q := q
    unfold ePopS at q
    rw [e1] at q
    split at q
    · rename_i c cs rest e3
      cases e3
      split at q
      · rename_i hc
        simp only [Ow, OwA] at o
        obtain ⟨l, vs, L', ev, eL, hq, v1, vr, L1, L2, rfl, rfl, ⟨l1, ws, L1', rfl, rfl, hq1, c1, wr, La, Lb, rfl, rfl, oc, ocs⟩, orest⟩ := o
        have z := Ow.nf c c1 La hc oc
        subst z
        have nd : f.S0.Nodup := by rw [← ln.1]; exact R.nd f.js
        have ne : l ≠ l1 := fun z => by
          rw [eL, z] at nd
          simp at nd
        have l1L : l1 ∈ f.S0 := by rw [eL]; simp
        have kp : Kp (fun a => a ∈ f.S0) H (upd H l1 (.lst wr)) := (Kp.updS hq1 trivial).mono fun a z => by rw [z]; exact l1L
        have k1 := Kp.updS (o := .lst wr) hq1 trivial
        have nLb : l1 ∉ Lb ∧ l1 ∉ L2 := by
          rw [eL] at nd
          simp only [List.nil_append, List.cons_append, List.nodup_cons, List.mem_append, List.mem_cons] at nd
          exact ⟨fun z => nd.2.1 (.inl z), fun z => nd.2.1 (.inr z)⟩
        have R2 := R.stPut (d' := .lst (.lst cs :: rest)) hst kp (TabsN.updM R.tabs hq1 trivial) (by
          simp only [Ow, OwA]
          refine ⟨l, V.ref l1 :: vr, _, ev, eL, ?_, .ref l1, vr, l1 :: Lb, L2, rfl, ?_, ⟨l1, wr, Lb, rfl, rfl, upd_same, OwA.mono k1 cs wr Lb (fun a ha z => nLb.1 (by rw [← z]; exact ha)) ocs⟩, OwA.mono k1 rest vr L2 (fun a ha z => nLb.2 (by rw [← z]; exact ha)) orest⟩
          · rw [upd_ne ne]; exact hq
          · simp)
        refine ⟨f.v0, getD_some ln.2, .inl ⟨l, V.ref l1 :: vr, 0, .ref l1, ev, rfl, SqL.of hq, atI_nat (k := 0) rfl, .inl ⟨rfl, _, SqL.of hq1⟩, ?_⟩⟩
        refine ⟨l1, c1 :: wr, 0, 0, c1, rfl, rfl, hq1, by decide, by decide, ?_, rfl, ?_⟩
        · unfold seqIndex?
          simp
        · exact (show Ob f Γ (.own []) gh σ H (.ok c (ρ.set f.js (some (.lst (.lst cs :: rest))))) Q from q) c1 _ [] R2 (kp.mono fun a z => ⟨z, f.js, hst⟩) (Ow.mono k1 c c1 [] (fun _ z => nomatch z) oc) nil_new
      · exact q.elim
    · exact q.elim
end
end PP
-- PP19
/-! PP19: calls that change what is lent; own lists changed; slices; stores with an operator. -/
namespace PP
open PySem PySem.Spec PyProof.Rows L2
section
variable {X : Cx} {f : Fr} {Γ Γ1 Γ' Γb Γc : List Kd} {e e2 : Expr} {es : List Expr} {a b : EM D} {r : EM (List D)} {s t : SM} {pos p p2 p3 apos cpos tpos : Pos} {m ma : Md} {ms : List Md} {k n : Nat} {x y : Str}
/-! ### s[0] != [] -/
def tNeS (j : Nat) : EM Bool := fun ρ => match ρ.getD j none with
  | some (.lst (.lst cs :: _)) => (match D.toPA cs with
    | some qs => if SeqAt.shaped (.list qs) = true then .ok (!PyData.eqv (.list qs) (.list [])) ρ else .stuck
    | none => .stuck)
  | _ => .stuck
theorem xt_neS {j : Nat} (hK : f.g.K = X.K) (hu : X.A.units + 64 < cLine) (hst : Γ.getD f.js .un = .st) (hN : X.N[f.js]? = some x := by rfl) (hv : Vis X.env.scope x := by first | exact Or.inl rfl | exact Or.inr (Or.inl rfl) | exact Or.inr (Or.inr rfl))
    (hd : (x == ("__debug__" : Str)) = false := by decide) (hcd : (x == ("__classdict__" : Str)) = false := by decide) (hm : behindInMarks .NotEq (.List [] p3) = false := by rfl) :
    XT X f Γ (.Compare (.Subscript (.Name x p) (.Constant (.int 0) j p2) tpos) [.NotEq] [.List [] p3] pos) (tNeS f.js) :=
  PT.mono (pt_cmpR (op_neD hu) (pe_ix ix_seq (pe_var hN hv hd hcd) pe_int fun _ _ => rfl) (pe_lst pa_nil) hm) fun σ H Q ⟨ρ, gh, R, q⟩ => by
    have sl := R.slot f.js
    rw [hst] at sl
    obtain ⟨d0, v', e1, e2, o⟩ := sl
    have q : ObT f Γ gh σ H (tNeS f.js ρ) Q := q
    unfold tNeS at q
    rw [e1] at q
    split at q
    · rename_i cs rest e3
      cases e3
      split at q
      · rename_i qs eq
        split at q
        · rename_i hsh
          simp only [Ow, OwA] at o
          obtain ⟨l, vs, L', rfl, eL, hq, v1, vr, L1, L2, rfl, rfl, ⟨l1, ws, L1', rfl, rfl, hq1, ocs⟩, orest⟩ := o
          refine ⟨_, getD_some e2, .inl ⟨l, V.ref l1 :: vr, 0, .ref l1, rfl, rfl, SqL.of hq, atI_nat (k := 0) rfl, ?_⟩⟩
          refine ⟨by show 0 ≤ sizeLine; decide, fun p hp => ?_⟩
          have k2 := Kp.upd_new (S := fun _ => False) (o := .lst []) hp
          have s1 : ShA f.g nc (fun _ => False) (upd H p (.lst [])) cs ws := (OwA.sh cs ws L1' (fun _ _ z => z) ocs).kp k2 fun _ z => z
          have h1 : upd H p (.lst []) l1 = some (.lst ws) := by rw [upd_ne (ne_of_none hq1 hp)]; exact hq1
          refine ⟨.list qs, .list [], .lst (SqL.of h1) (hK ▸ ShA.dp cs ws qs eq s1), .lst (SqL.of upd_same) .nil, hsh, by decide, ?_⟩
          exact ⟨_, rfl, q _ (R.new hp) (Kp.upd_new hp)⟩
        · exact q.elim
      · exact q.elim
    · exact q.elim
/-! ### a call that changes what is lent -/
theorem spIo_any {F : FnIo} {σ : L2.St} {gh : Nat → List Addr} {ρ : Env} {H : Hp} {Q : VK} {ds : List D} {vs : List V} {L : List Addr} (hst : Γ.getD f.js .un = .st) (hm : argOk m ms = true) (hmt : m = .sh ∨ m = .own []) (R : Rel f Γ ρ gh σ H) (s : VsO f.g (f.oc σ) (Bo f Γ) (Bx f Γ gh) H ms ds vs L)
    (w : Ob f Γ m gh σ H ((match ρ.getD f.js none with
    | some s => (match F ds s with
      | .ok d s' => .ok d (ρ.set f.js (some s'))
      | .exn e s' => .exn e (ρ.set f.js (some s'))
      | .stuck => .stuck)
    | none => .stuck)) Q) : spIo f.g ms.length m F (f.v0 :: vs) H Q (fun cls d H' => f.W cls d σ H') := by
  have ln := R.lent f.js hst
  obtain ⟨d0, e1, o⟩ := R.js hst
  rw [e1] at w
  dsimp only at w
  have nd : f.S0.Nodup := by rw [← ln.1]; exact R.nd f.js
  have sx : ∀ a, a ∈ f.S0 → Sx f Γ a := fun a z => ⟨z, f.js, hst⟩
  have go : ∀ (B : Addr → Prop), (∀ a, B a → Bx f Γ gh a) → (∀ a, f.B0 a → B a) → (∀ a ∈ f.S0, ¬ B a) → ShA f.g nc (fun a => B a ∨ a ∈ f.S0) H ds vs →
      (∀ (d : D) (v : V) (H' : Hp), VR f.g (fun a => B a ∨ a ∈ f.S0) H H' m d v → ∃ L', VO f.g (f.oc σ) (Bo f Γ) (Bx f Γ gh) H' m d v L' ∧ NewIn H Γ gh m.U L') → spIo f.g ms.length m F (f.v0 :: vs) H Q (fun cls d H' => f.W cls d σ H') := fun B hB hB0 hBS sa vr => by
    refine ⟨B, ds, d0, f.v0, vs, f.S0, fun a z => R.bx a (hB a z), s.len.2, rfl, o, nd, hBS, sa, R.tabs, ?_⟩
    cases e : F ds d0 with
    | ok d s' =>
      rw [e] at w
      intro v H' k t o' r
      obtain ⟨L', vo, n⟩ := vr d v H' r
      exact w v H' L' (R.stPut hst k t o') (k.mono sx) vo n
    | exn y s' =>
      rw [e] at w
      intro cls dx H' k t o' ex
      exact w cls dx H' (R.stPut hst k t o') (k.mono sx) (ex.mono (S := fun _ => False) Kp.refl (fun _ z => z.elim) fun a z => z.imp (hB0 a) fun z => z.1)
    | stuck => rw [e] at w; exact w.elim
  rcases hmt with rfl | rfl
  · refine go (fun a => Bx f Γ gh a ∧ a ∉ f.S0) (fun a z => z.1) (fun a z => ⟨.inl z, (R.b0 a z).1⟩) (fun a h z => z.2 h) ((VsO.sh hm s).1.sub fun a z => z.elim And.left fun z => Sx_sub R a (sx a z)) fun d v H' r => ⟨[], ⟨rfl, Sh.sub r fun a z => ?_⟩, nil_new⟩
    by_cases h : a ∈ f.S0
    · exact .inr h
    · exact .inl ⟨z, h⟩
  · refine go f.B0 (fun a z => .inl z) (fun a z => z) (fun a h => R.nb f.js a (by rw [ln.1]; exact h)) ((VsO.bor hm s).1.sub fun a z => z.imp id (sx a)) fun d v H' r => ?_
    obtain ⟨L', o', nd', fr⟩ := r
    exact ⟨L', o', nd', fun a ha => .inl (fr a ha)⟩
theorem xe_io {F : FnIo} (A : FnIoAt X.prog X.w X.K X.mg X.base f.g k x ms.length m F) (hr : Room k X.A) (tk : Takes X f.W) (ha : XA X f Γ es ms r) (hst : Γ.getD f.js .un = .st) (hm : argOk m ms = true := by rfl) (hmt : m = .sh ∨ m = .own [] := by first | exact Or.inl rfl | exact Or.inr rfl) (hg : Gl X x := by rfl)
    (hN : X.N[f.js]? = some y := by rfl) (hv : Vis X.env.scope y := by first | exact Or.inl rfl | exact Or.inr (Or.inl rfl) | exact Or.inr (Or.inr rfl)) (hd : (y == ("__debug__" : Str)) = false := by decide) (hcd : (y == ("__classdict__" : Str)) = false := by decide)
    (hdb : (x == ("__debug__" : Str)) = false := by decide) (he : starEach (.Name y p2 :: es) X.env = (false, eval (.Name y p2) X.env) :: starEach es X.env := by rfl) (hpl : (backTo pos (starEach es X.env)).any (·.1) = false := by rfl) :
    XE X f Γ (.Call (.Name x p) (.Name y p2 :: es) [] pos) m (eIo F f.js r) := by
  obtain ⟨fa, fd, ps, h1, h2, h3, h4, h5⟩ := A.ex
  refine PE.mono (pe_callSD (E := fun σ cls d H' => f.W cls d σ H') h5 hr hg h1 h2 h4 .nil (fun σ => passAt tk σ) (pa_cons (pe_var hN hv hd hcd) ha he) hdb he hpl) fun σ H Q ⟨ρ, gh, R, q⟩ => ?_
  refine ⟨f.v0, getD_some (R.lent f.js hst).2, ?_⟩
  have q : Ob f Γ m gh σ H ((r >>= fun xs => fun ρ => match ρ.getD f.js none with
    | some s => (match F xs s with
      | .ok d s' => .ok d (ρ.set f.js (some s'))
      | .exn e s' => .exn e (ρ.set f.js (some s'))
      | .stuck => .stuck)
    | none => .stuck) ρ) Q := q
  refine RA.fst R q fun ds ρ1 vs H1 L R1 k1 vo n1 w => ?_
  show spIo f.g ms.length m F ((f.v0 :: vs) ++ []) H1 Q (fun cls d H' => f.W cls d σ H')
  rw [List.append_nil]
  exact spIo_any hst hm hmt R1 vo (w.shift k1)
/-! ### own lists changed -/
/-- a slot's own list of shared items, rewritten -/
theorem Rel.tpPut {i : Nat} {ρ : Env} {gh : Nat → List Addr} {σ : L2.St} {H : Hp} {l : Addr} {ds' : List D} {vs vs' : List V} (hi : i < f.n) (hk : Γ.getD i .un = .tp) (R : Rel f Γ ρ gh σ H) (hv : σ.getD i none = some (.ref l)) (hl : H l = some (.lst vs)) (hg : gh i = [l]) (s : ShA f.g nc (Bx f Γ gh) H ds' vs') :
    Rel f Γ (ρ.set i (some (.lst ds'))) gh σ (upd H l (.lst vs')) ∧ Kp (Tp Γ gh) H (upd H l (.lst vs')) := by
  have tl : Tp Γ gh l := ⟨i, by rw [hk, hg]; exact List.mem_singleton.mpr rfl⟩
  have bl : Bx f Γ gh l := .inr tl
  have kp : Kp (fun a => a = l) H (upd H l (.lst vs')) := Kp.updS hl trivial
  have h0 : f.H0 l = none := R.fresh i (by rw [hk]; decide) l (by rw [hg]; exact List.mem_singleton.mpr rfl)
  refine ⟨⟨by rw [List.length_set]; exact R.lr, R.ls, fun j => ?_, R.nd, R.dj, R.fresh, R.lent, R.one, fun a z => ⟨(R.b0 a z).1, ?_⟩, R.nb, R.s0, ⟨fun a o e n t => ?_, fun a e => R.keep.2 a (upd_none e)⟩, TabsN.updM R.tabs hl trivial⟩, kp.mono fun a z => by rw [z]; exact tl⟩
  · rw [getD_set_eq (by rw [R.lr]; exact hi)]
    by_cases ej : j = i
    · subst ej
      rw [if_pos rfl, hk]
      exact ⟨_, _, l, rfl, hv, hg, rfl, .inl ⟨ds', vs', rfl, upd_same, s.kp kp fun a z => by rw [z]; exact bl⟩⟩
    · rw [if_neg ej]
      exact (R.slot j).mono kp (fun a ha z => ej (R.dj j i a ha (by rw [hg, z]; exact List.mem_singleton.mpr rfl))) (fun a z => by rw [z]; exact bl) (fun _ _ z => .inl z) fun _ z => z
  · obtain ⟨o, e, t⟩ := (R.b0 a z).2
    have ne : a ≠ l := fun q => R.nb i l (by rw [hg]; exact List.mem_singleton.mpr rfl) (by rw [← q]; exact z)
    exact ⟨o, by rw [upd_ne ne]; exact e, t⟩
  · have ne : a ≠ l := fun q => by rw [q, h0] at e; cases e
    rw [upd_ne ne]; exact R.keep.1 a o e n t
theorem Rel.tpGet {i : Nat} {ρ : Env} {gh : Nat → List Addr} {σ : L2.St} {H : Hp} (hk : Γ.getD i .un = .tp) (R : Rel f Γ ρ gh σ H) : ∃ d l, ρ.getD i none = some d ∧ σ.getD i none = some (.ref l) ∧ gh i = [l] ∧ TopOk f.g nc (Bx f Γ gh) H l d := by
  have s := R.slot i
  rw [hk] at s
  obtain ⟨d, v, l, e1, e2, e3, rfl, t⟩ := s
  exact ⟨d, l, e1, e2, e3, t⟩
/-- an own list is changed by fn of its items -/
def updL (i : Nat) (fn : List D → Option (List D)) : EM Unit := fun ρ => match ρ.getD i none with
  | some (.lst ds) => (match fn ds with
    | some es => .ok () (ρ.set i (some (.lst es)))
    | none => .stuck)
  | _ => .stuck
def appD (d : D) (ds : List D) : Option (List D) := if ds.length < sizeLine then some (ds ++ [d]) else none
/-- the slot holds a list -/
def chkL (i : Nat) : EM Unit := fun ρ => match ρ.getD i none with
  | some (.lst _) => .ok () ρ
  | _ => .stuck
/-- x.append(e) -/
def sApp (i : Nat) (a : EM D) : SM := do chkL i; let d ← a; updL i (appD d); Pure.pure .nx
theorem chkL_of {i : Nat} {s : SM} {ρ : Env} {gh : Nat → List Addr} {T : Addr → Prop} {σ : L2.St} {H H0 : Hp} {D : Ends} (hk : Γ.getD i .un = .tp) (R : Rel f Γ ρ gh σ H) (q : ObS f Γ' Γb Γc T H0 ((do chkL i; s : SM) ρ) D) :
    ∃ ds l vs, ρ.getD i none = some (.lst ds) ∧ σ.getD i none = some (.ref l) ∧ gh i = [l] ∧ H l = some (.lst vs) ∧ ShA f.g nc (Bx f Γ gh) H ds vs ∧ ObS f Γ' Γb Γc T H0 (s ρ) D := by
  obtain ⟨d0, l, e1, e2, e3, t⟩ := R.tpGet hk
  rw [bind_ap] at q
  unfold chkL at q
  rw [e1] at q
  rcases t with ⟨ds, vs, rfl, hq, s⟩ | ⟨_, _, _, rfl, _⟩
  · exact ⟨ds, l, vs, e1, e2, e3, hq, s, q⟩
  · exact q.elim
theorem xs_app (i : Nat) (hk : Γ.getD i .un = .tp) (h : XE X f Γ e .sh a) (hK : f.g.K = X.K) (hi : Nat.blt i f.n = true := by rfl) (hw : wkL Γ f.Γx = true := by rfl) (hN : X.N[i]? = some x := by rfl) (hv : Vis X.env.scope x := by first | exact Or.inl rfl | exact Or.inr (Or.inl rfl) | exact Or.inr (Or.inr rfl))
    (hd : (x == ("__debug__" : Str)) = false := by decide) (hcd : (x == ("__classdict__" : Str)) = false := by decide)
    (hbase : attributeBase (.Name x p) "append" X.env (eval (.Name x p) X.env) = eval (.Name x p) X.env := by rfl)
    (hfew : ((backTo cpos (starEach [e] X.env)).all (fun x => !x.1) && (backToKw cpos (keywordEach [] X.env)).all (fun x => x.1.isSome)
      && decide (([e] : List Expr).length + ([] : List Keyword).length + (if ([] : List Keyword).isEmpty then 0 else 1) < 30)) = true := by rfl)
    (hline : (apos.endLine == cpos.line) = true := by rfl) (hs : starEach [e] X.env = (false, eval e X.env) :: starEach [] X.env := by rfl) (hplain : (backTo cpos (starEach [] X.env)).any (·.1) = false := by rfl)
    (hsw : swapsWith (.Call (.Attribute (.Name x p) "append" apos) [e] [] cpos) none pos.line X.env = pure false := by rfl) :
    XS X f Γ Γ Γb Γc (.Expr (.Call (.Attribute (.Name x p) "append" apos) [e] [] cpos) pos) (sApp i a) :=
  PS.mono (ps_expr (pe_bm F.plainAttrs_list F.slot_list_append F.type_list_append mt_append (pe_var hN hv hd hcd) (pa_cons h pa_nil hs) hbase hfew hline hs hplain) hsw) fun D σ H ⟨ρ, gh, R, q⟩ => by
    obtain ⟨_, l, vs0, _, e2, e3, hq0, _, q⟩ := chkL_of hk R (show ObS f Γ Γb Γc (Tp Γ gh) H ((do chkL i; (a >>= fun d => (updL i (appD d) >>= fun _ => Pure.pure .nx)) : SM) ρ) D from q)
    refine ⟨.ref l, getD_some e2, .inl ⟨rfl, vs0, SqL.of hq0⟩, ?_⟩
    refine RE.fstS (m := .sh) hw R q fun d ρ1 v H1 L R1 k1 vo n w => ?_
    obtain ⟨d1, l1, e4, e5, e6, t1⟩ := R1.tpGet hk
    rw [e2] at e5; cases e5
    rw [bind_ap] at w
    unfold updL at w
    rw [e4] at w
    rcases t1 with ⟨ds, vs, rfl, hq, s⟩ | ⟨_, _, _, rfl, _⟩
    · dsimp only at w
      unfold appD at w
      by_cases c : ds.length < sizeLine
      · rw [if_pos c] at w
        have P := R1.tpPut (Nat.le_of_ble_eq_true hi) hk e2 hq e6 (s.append (es := [d]) (ws := [v]) (by simp only [ShA]; exact ⟨v, [], rfl, vo.2, rfl⟩))
        refine ⟨l, vs, v, rfl, rfl, hq, by rw [s.length]; exact c, ?_⟩
        exact w σ gh _ P.1 ((StK.of R k1).trans ⟨P.2, fun a z => .inl z⟩)
      · rw [if_neg c] at w; exact w.elim
    · exact w.elim
/-- a method of a list, what a name holds -/
theorem tyL {K : PySem.W.Frag} {l : Addr} {vs : List V} {H : Hp} (h : H l = some (.lst vs)) : tyV K "list" (.ref l) H := .inl ⟨rfl, vs, SqL.of h⟩
def extD : List D → D → Option (List D)
  | ds, .lst es => if ds.length + es.length ≤ sizeLine then some (ds ++ es) else none
  | _, _ => none
/-- x.extend(e) -/
def sExt (i : Nat) (a : EM D) : SM := do chkL i; let d ← a; updL i (fun ds => extD ds d); Pure.pure .nx
theorem xs_ext (i : Nat) (hk : Γ.getD i .un = .tp) (h : XE X f Γ e .bs a) (hK : f.g.K = X.K) (hi : Nat.blt i f.n = true := by rfl) (hw : wkL Γ f.Γx = true := by rfl) (hN : X.N[i]? = some x := by rfl) (hv : Vis X.env.scope x := by first | exact Or.inl rfl | exact Or.inr (Or.inl rfl) | exact Or.inr (Or.inr rfl))
    (hd : (x == ("__debug__" : Str)) = false := by decide) (hcd : (x == ("__classdict__" : Str)) = false := by decide)
    (hbase : attributeBase (.Name x p) "extend" X.env (eval (.Name x p) X.env) = eval (.Name x p) X.env := by rfl)
    (hfew : ((backTo cpos (starEach [e] X.env)).all (fun x => !x.1) && (backToKw cpos (keywordEach [] X.env)).all (fun x => x.1.isSome)
      && decide (([e] : List Expr).length + ([] : List Keyword).length + (if ([] : List Keyword).isEmpty then 0 else 1) < 30)) = true := by rfl)
    (hline : (apos.endLine == cpos.line) = true := by rfl) (hs : starEach [e] X.env = (false, eval e X.env) :: starEach [] X.env := by rfl) (hplain : (backTo cpos (starEach [] X.env)).any (·.1) = false := by rfl)
    (hsw : swapsWith (.Call (.Attribute (.Name x p) "extend" apos) [e] [] cpos) none pos.line X.env = pure false := by rfl) :
    XS X f Γ Γ Γb Γc (.Expr (.Call (.Attribute (.Name x p) "extend" apos) [e] [] cpos) pos) (sExt i a) :=
  PS.mono (ps_expr (pe_bm F.plainAttrs_list F.slot_list_extend F.type_list_extend mt_extend (pe_var hN hv hd hcd) (pa_cons h pa_nil hs) hbase hfew hline hs hplain) hsw) fun D σ H ⟨ρ, gh, R, q⟩ => by
    obtain ⟨_, l, vs0, _, e2, e3, hq0, _, q⟩ := chkL_of hk R (show ObS f Γ Γb Γc (Tp Γ gh) H ((do chkL i; (a >>= fun d => (updL i (fun ds => extD ds d) >>= fun _ => Pure.pure .nx)) : SM) ρ) D from q)
    refine ⟨.ref l, getD_some e2, tyL hq0, ?_⟩
    refine RE.fstS (m := .bs) hw R q fun d ρ1 v H1 L R1 k1 vo n w => ?_
    obtain ⟨d1, l1, e4, e5, e6, t1⟩ := R1.tpGet hk
    rw [e2] at e5; cases e5
    rw [bind_ap] at w
    unfold updL at w
    rw [e4] at w
    rcases t1 with ⟨ds, vs, rfl, hq, s⟩ | ⟨_, _, _, rfl, _⟩
    · dsimp only at w
      cases d with
      | lst es =>
        obtain ⟨l2, ws, rfl, hq2, s2⟩ := bs_lst vo
        unfold extD at w
        dsimp only at w
        by_cases c : ds.length + es.length ≤ sizeLine
        · rw [if_pos c] at w
          have P := R1.tpPut (Nat.le_of_ble_eq_true hi) hk e2 hq e6 (s.append s2)
          refine ⟨l, l2, vs, ws, rfl, rfl, hq, hq2, by rw [s.length, s2.length]; exact c, ?_⟩
          exact w σ gh _ P.1 ((StK.of R k1).trans ⟨P.2, fun a z => .inl z⟩)
        · rw [if_neg c] at w; exact w.elim
      | _ => exact w.elim
    · exact w.elim
/-! ### x[i] = e -/
theorem ShA.set {g : G} {cm : Addr → V → Prop} {B : Addr → Prop} {H : Hp} {d' : D} {v' : V} (o : Sh g cm B H d' v') : ∀ {ds : List D} {vs : List V} (i : Nat), ShA g cm B H ds vs → ShA g cm B H (ds.set i d') (vs.set i v')
  | [], _, _, h => by simp only [ShA] at h; subst h; simp [ShA]
  | d :: ds, vs, 0, h => by
    simp only [ShA] at h
    obtain ⟨v, r, rfl, _, h2⟩ := h
    simp only [List.set_cons_zero, ShA]
    exact ⟨v', r, rfl, o, h2⟩
  | d :: ds, vs, i + 1, h => by
    simp only [ShA] at h
    obtain ⟨v, r, rfl, h1, h2⟩ := h
    simp only [List.set_cons_succ, ShA]
    exact ⟨v, _, rfl, h1, ShA.set o i h2⟩
def setD (j d : D) (ds : List D) : Option (List D) := match j with
  | .int k => (match ixN ds.length k with
    | some n => some (ds.set n d)
    | none => none)
  | _ => none
/-- x[j] = e: e first, then j -/
def sPutI (i : Nat) (a j : EM D) : SM := do let d ← a; chkL i; let n ← j; updL i (setD n d); Pure.pure .nx
theorem RE.fstSP {ma : Md} {σ : L2.St} {H H0 : Hp} {k : D → SM} {D : Ends} {Q' : VK} {ρ : Env} {gh : Nat → List Addr} {T : Addr → Prop} (hw : wkL Γ f.Γx = true) (R : Rel f Γ ρ gh σ H) (w : ObS f Γ' Γb Γc T H0 ((a >>= k) ρ) D)
    (step : ∀ d ρ' v H' L, Rel f Γ ρ' gh σ H' → Kp (Sx f Γ) H H' → VO f.g (f.oc σ) (Bo f Γ) (Bx f Γ gh) H' ma d v L → NewIn H Γ gh ma.U L → ObS f Γ' Γb Γc T H0 (k d ρ') D → Q' v H') : RE f Γ ma a σ H Q' := RE.fstS hw R w step
theorem xs_set (i : Nat) {j : EM D} (hk : Γ.getD i .un = .tp) (h : XE X f Γ e .sh a) (h2 : XE X f Γ e2 .bor j) (hi : Nat.blt i f.n = true := by rfl) (hw : wkL Γ f.Γx = true := by rfl) (hN : X.N[i]? = some x := by rfl) (hv : Vis X.env.scope x := by first | exact Or.inl rfl | exact Or.inr (Or.inl rfl) | exact Or.inr (Or.inr rfl))
    (hd : (x == ("__debug__" : Str)) = false := by decide) (hcd : (x == ("__classdict__" : Str)) = false := by decide)
    (hs : swapsWithSole [.Subscript (.Name x p) e2 p3] e pos.line X.env = pure false := by rfl) (hww : swappedStores [.Subscript (.Name x p) e2 p3] e X.env = pure none := by rfl)
    (hsub : ∀ v, assign (.Subscript (.Name x p) e2 p3) X.env v = (do
      let ov ← holding [v] (eval (.Name x p) X.env)
      let iv ← holding [v, ov] (eval e2 X.env)
      standAt p3
      holding [v, ov, iv] (setItem ov iv v)
      release [v, ov, iv] []) := by intro _; rfl) : XS X f Γ Γ Γb Γc (.Assign [.Subscript (.Name x p) e2 p3] e pos) (sPutI i a j) :=
  PS.mono (ps_asg h (pg_sub (pe_var hN hv hd hcd) h2 set_list hsub) hs hww) fun D σ H ⟨ρ, gh, R, q⟩ => by
    refine RE.fstSP (ma := .sh) hw R (show ObS f Γ Γb Γc (Tp Γ gh) H ((a >>= fun d => (do chkL i; (j >>= fun n => (updL i (setD n d) >>= fun _ => Pure.pure .nx)) : SM)) ρ) D from q) fun d ρ1 v H1 L R1 k1 vo n w => ?_
    obtain ⟨_, l, vs0, _, e2, e3, hq0, _, w⟩ := chkL_of hk R1 w
    refine ⟨.ref l, getD_some e2, ?_⟩
    refine RE.fstSP (ma := .bor) hw R1 w fun jd ρ2 jv H2 L2 R2 k2 jo n2 w => ?_
    obtain ⟨d1, l1, e4, e5, e6, t1⟩ := R2.tpGet hk
    rw [e2] at e5; cases e5
    rw [bind_ap] at w
    unfold updL at w
    rw [e4] at w
    rcases t1 with ⟨ds, vs, rfl, hq, s⟩ | ⟨_, _, _, rfl, _⟩
    · dsimp only at w
      cases jd with
      | int z =>
        unfold setD at w
        dsimp only at w
        cases ex : ixN ds.length z with
        | none => rw [ex] at w; exact w.elim
        | some m =>
          rw [ex] at w
          have P := R2.tpPut (Nat.le_of_ble_eq_true hi) hk e2 hq e6 (ShA.set (Sh.kp k2 (Sx_sub R1) vo.2) m s)
          refine ⟨l, vs, z, m, rfl, bor_int jo, hq, by rw [s.length]; exact ex, ?_⟩
          exact w σ gh _ P.1 ((StK.of R (k1.trans k2)).trans ⟨P.2, fun a z => .inl z⟩)
      | _ => exact w.elim
    · exact w.elim
end
end PP
-- PP20
/-! PP20: stores with an operator; found.append(left.pop(e)); slices; defs by their facts. -/
namespace PP
open PySem PySem.Spec PyProof.Rows L2
section
variable {X : Cx} {f : Fr} {Γ Γ1 Γ' Γb Γc : List Kd} {e e2 : Expr} {es : List Expr} {a b : EM D} {r : EM (List D)} {s t : SM} {pos p p2 p3 apos cpos tpos : Pos} {m ma : Md} {ms : List Md} {k n : Nat} {x y : Str}
theorem pget_list : PGet X (rIxL X.K) := by
  intro pins s σ H o i ov iv Q I ro ri h
  obtain ⟨l, xs, z, y, rfl, rfl, hq, he, q⟩ := h
  cases ro
  obtain ⟨t, rfl⟩ := ri
  obtain ⟨its, rv, pl, hz⟩ := I.list hq
  obtain ⟨j, h1, h2, h3, h4, h5⟩ := atI_get he
  obtain ⟨w, ew, rw'⟩ := rv.get h2
  have hl := rv.length
  have hn := line63
  have fin : EP X pins σ Q w s := ⟨y, H, I, rw', q⟩
  by_cases h0 : 0 ≤ z
  · have hj : z.toNat = j := by
      rw [seqIndex_of h0 h5] at h1
      exact Option.some.inj h1
    exact wpAny_getItem_list pl.isList h0 (by omega) (by rw [hj]; simpa using ew) fin
  · have hj : (z + (its.toArray.size : Int)).toNat = j := by
      rw [seqIndex_neg (by omega) h4] at h1
      rw [List.size_toArray, ← hl]
      exact Option.some.inj h1
    exact wpAny_getItem_list_neg pl.isList (by omega) (by rw [List.size_toArray] <;> omega) (by omega) (by rw [hj]; simpa using ew) fin
/-- x op= e, ints -/
def sAug (i : Nat) (fn : D → D → P D) (a : EM D) : SM := do let u ← eV i; let d ← a; let z ← (lift (fn u d) : EM D); setSlot i (some z); Pure.pure .nx
def isAdd : Bool → Int → Int → Int
  | true, i, j => i + j
  | false, i, j => i - j
theorem ip_two (w : Bool) : PIp X (if w = true then .Add else .Sub) (ipI (isAdd w)) := by
  cases w
  · exact ip_sub
  · exact ip_add
def augI (w : Bool) : D → D → P D := intOp (fun _ _ => true) fun i j => .int (isAdd w i j)
theorem augI_or {w : Bool} {d1 d2 : D} {ρ : Env} : (∃ i j, d1 = .int i ∧ d2 = .int j ∧ (lift (augI w d1 d2) : EM D) ρ = .ok (.int (isAdd w i j)) ρ) ∨ (lift (augI w d1 d2) : EM D) ρ = .stuck := by
  unfold augI intOp
  split
  · rename_i i j
    exact .inl ⟨i, j, rfl, rfl, rfl⟩
  · exact .inr rfl
theorem xs_aug (i : Nat) (pl : Bool) {pos' : Pos} (h : XE X f Γ e .bor a) (hN : X.N.Nodup) (hk : Γ.getD i .un = .sh) (hg : gOk f Γ i (cKd false) = true := by rfl) (hw : wkL Γ f.Γx = true := by rfl) (hi : X.N[i]? = some x := by rfl) (hx : Loc X.env.scope x := by first | exact .inl rfl | exact .inr rfl) (hf : X.fn x = true ∨ X.env.scope.names.lookup x = some .local := by first | exact .inl rfl | exact .inr rfl) :
    XS X f Γ (Γ.set i .sh) Γb Γc (.AugAssign (.Name x pos') (if pl = true then .Add else .Sub) e pos) (sAug i (augI pl) a) :=
  PS.mono (ps_aug hN hi hx h (ip_two pl) hf) fun D σ H ⟨ρ, gh, R, q⟩ => by
    have s := R.slot i
    rw [hk] at s
    obtain ⟨e0, d0, v0, e1, e2, s0⟩ := s
    have q : ObS f (Γ.set i .sh) Γb Γc (Tp Γ gh) H ((eV i >>= fun u => a >>= fun d => ((lift (augI pl u d) : EM PP.D) >>= fun z => (setSlot i (some z) >>= fun _ => Pure.pure .nx))) ρ) D := q
    rw [bind_ap] at q
    unfold eV at q
    rw [e1] at q
    dsimp only at q
    refine ⟨v0, getD_some e2, ?_⟩
    refine RE.fstSP (ma := .bor) hw R q fun d ρ1 v H1 L R1 k1 vo n w => ?_
    rw [bind_ap] at w
    rcases augI_or (w := pl) (d1 := d0) (d2 := d) (ρ := ρ1) with ⟨z1, z2, rfl, rfl, ez⟩ | ez
    case inr => rw [ez] at w; exact w.elim
    rw [ez] at w
    simp only [Sh] at s0
    subst s0
    refine ⟨z1, z2, rfl, bor_int vo, ?_⟩
    obtain ⟨gh', P1, P2, _⟩ := Rel.putC (c := false) (d := .int (isAdd pl z1 z2)) (v := .int (isAdd pl z1 z2)) hg R1 (by show Sh f.g nc _ H1 _ _; simp only [Sh])
    exact w _ gh' H1 P1 ((StK.of R k1).trans (StK.sub fun a => (P2 a).1))
/-- x[j] op= e -/
def sAugI (i : Nat) (w : Bool) (j a : EM D) : SM := do
  chkL i
  let n ← j
  let u ← (fun ρ => match ρ.getD i none with
    | some d => (lift (idxD d n) : EM D) ρ
    | none => .stuck : EM D)
  let d ← a
  let z ← (lift (augI w u d) : EM D)
  updL i (setD n z)
  Pure.pure .nx
theorem xs_augI (i : Nat) (pl : Bool) {j : EM D} (hK : f.g.K = X.K) (hk : Γ.getD i .un = .tp) (h : XE X f Γ e .bor a) (h2 : XE X f Γ e2 .bor j) (hi : Nat.blt i f.n = true := by rfl) (hw : wkL Γ f.Γx = true := by rfl) (hN : X.N[i]? = some x := by rfl) (hv : Vis X.env.scope x := by first | exact Or.inl rfl | exact Or.inr (Or.inl rfl) | exact Or.inr (Or.inr rfl))
    (hd : (x == ("__debug__" : Str)) = false := by decide) (hcd : (x == ("__classdict__" : Str)) = false := by decide)
    (hst : ∀ ov iv new, augStore e2 ov iv new = (do holding [new, ov, iv] (setItem ov iv new); release [new, ov, iv] []; pure .next) := by intros; rfl) :
    XS X f Γ Γ Γb Γc (.AugAssign (.Subscript (.Name x p) e2 p3) (if pl = true then .Add else .Sub) e pos) (sAugI i pl j a) :=
  PS.mono (ps_augS (pe_var hN hv hd hcd) h2 pget_list h (ip_two pl) set_list hst) fun D σ H ⟨ρ, gh, R, q⟩ => by
    obtain ⟨_, l, vs0, _, e1, e3, hq0, _, w0⟩ := chkL_of hk R (show ObS f Γ Γb Γc (Tp Γ gh) H ((do chkL i; (j >>= fun n => (fun ρ => match ρ.getD i none with
      | some d => (lift (idxD d n) : EM PP.D) ρ
      | none => .stuck : EM PP.D) >>= fun u => a >>= fun d => ((lift (augI pl u d) : EM PP.D) >>= fun z => (updL i (setD n z) >>= fun _ => Pure.pure .nx)) : SM) : SM) ρ) D from q)
    refine ⟨.ref l, getD_some e1, ?_⟩
    refine RE.fstSP (ma := .bor) hw R w0 fun jd ρ1 jv H1 L1 R1 k1 jo n1 w1 => ?_
    rw [bind_ap] at w1
    obtain ⟨d1, l1, e4, e5, e6, t1⟩ := R1.tpGet hk
    rw [e1] at e5; cases e5
    rw [e4] at w1
    dsimp only at w1
    rcases t1 with ⟨ds, vs, rfl, hq, s⟩ | ⟨_, _, _, rfl, _⟩
    · cases jd with
      | int z =>
        unfold idxD at w1
        dsimp only at w1
        cases ea : atI ds z with
        | none => rw [ea] at w1; exact w1.elim
        | some it =>
          rw [ea] at w1
          obtain ⟨iv, e7, si⟩ := atI_sh s ea
          refine ⟨l, vs, z, iv, rfl, bor_int jo, SqL.of hq, e7, ?_⟩
          refine RE.fstSP (ma := .bor) hw R1 w1 fun d ρ2 v H2 L2 R2 k2 vo n2 w2 => ?_
          rw [bind_ap] at w2
          rcases augI_or (w := pl) (d1 := it) (d2 := d) (ρ := ρ2) with ⟨z1, z2, rfl, rfl, ez⟩ | ez
          case inr => rw [ez] at w2; exact w2.elim
          rw [ez] at w2
          dsimp only at w2
          simp only [Sh] at si
          subst si
          refine ⟨z1, z2, rfl, bor_int vo, ?_⟩
          rw [bind_ap] at w2
          obtain ⟨d1, l1, e4, e5, e6, t1⟩ := R2.tpGet hk
          rw [e1] at e5; cases e5
          unfold updL at w2
          rw [e4] at w2
          rcases t1 with ⟨ds, vs, rfl, hq, s⟩ | ⟨_, _, _, rfl, _⟩
          · unfold setD at w2
            dsimp only at w2
            cases ex : ixN ds.length z with
            | none => rw [ex] at w2; exact w2.elim
            | some m =>
              rw [ex] at w2
              have P := R2.tpPut (Nat.le_of_ble_eq_true hi) hk e1 hq e6 (ShA.set (d' := .int (isAdd pl z1 z2)) (v' := .int (isAdd pl z1 z2)) (by simp only [Sh]) m s)
              exact ⟨l, vs, z, m, rfl, bor_int jo, hq, by rw [s.length]; exact ex, w2 σ gh _ P.1 ((StK.of R (k1.trans k2)).trans ⟨P.2, fun a z => .inl z⟩)⟩
          · exact w2.elim
      | _ => exact w1.elim
    · cases jd <;> exact w1.elim
/-! ### x.append(y.pop(e)) -/
def sAppPop (i j : Nat) (a : EM D) : SM := do
  chkL i
  chkL j
  let n ← a
  (fun ρ => match ρ.getD i none, ρ.getD j none, n with
    | some (.lst ds), some (.lst es), .int z => (match seqIndex? z es.length with
      | some k => (match es[k]? with
        | some d => if (decide (ds.length < sizeLine) && (decide (-(2 ^ 63) ≤ z) && decide (z < 2 ^ 63))) = true then .ok .nx ((ρ.set j (some (.lst (es.eraseIdx k)))).set i (some (.lst (ds ++ [d])))) else .stuck
        | none => .stuck)
      | none => .stuck)
    | _, _, _ => .stuck : SM)
theorem ShA.erase {g : G} {cm : Addr → V → Prop} {B : Addr → Prop} {H : Hp} : ∀ {ds : List D} {vs : List V} (i : Nat), ShA g cm B H ds vs → ShA g cm B H (ds.eraseIdx i) (vs.eraseIdx i)
  | [], _, _, h => by simp only [ShA] at h; subst h; simp [ShA]
  | d :: ds, vs, 0, h => by
    simp only [ShA] at h
    obtain ⟨v, r, rfl, _, h2⟩ := h
    simpa using h2
  | d :: ds, vs, i + 1, h => by
    simp only [ShA] at h
    obtain ⟨v, r, rfl, h1, h2⟩ := h
    simp only [List.eraseIdx_cons_succ, ShA]
    exact ⟨v, _, rfl, h1, ShA.erase i h2⟩
theorem xs_appPop (i j : Nat) {apos2 cpos2 : Pos} (hij : i ≠ j) (hki : Γ.getD i .un = .tp) (hkj : Γ.getD j .un = .tp) (h : XE X f Γ e .bor a) (hi : Nat.blt i f.n = true := by rfl) (hj : Nat.blt j f.n = true := by rfl) (hw : wkL Γ f.Γx = true := by rfl)
    (hN : X.N[i]? = some x := by rfl) (hv : Vis X.env.scope x := by first | exact Or.inl rfl | exact Or.inr (Or.inl rfl) | exact Or.inr (Or.inr rfl)) (hd : (x == ("__debug__" : Str)) = false := by decide) (hcd : (x == ("__classdict__" : Str)) = false := by decide)
    (hN2 : X.N[j]? = some y := by rfl) (hv2 : Vis X.env.scope y := by first | exact Or.inl rfl | exact Or.inr (Or.inl rfl) | exact Or.inr (Or.inr rfl)) (hd2 : (y == ("__debug__" : Str)) = false := by decide) (hcd2 : (y == ("__classdict__" : Str)) = false := by decide)
    (hbase2 : attributeBase (.Name y p2) "pop" X.env (eval (.Name y p2) X.env) = eval (.Name y p2) X.env := by rfl)
    (hfew2 : ((backTo cpos2 (starEach [e] X.env)).all (fun x => !x.1) && (backToKw cpos2 (keywordEach [] X.env)).all (fun x => x.1.isSome)
      && decide (([e] : List Expr).length + ([] : List Keyword).length + (if ([] : List Keyword).isEmpty then 0 else 1) < 30)) = true := by rfl)
    (hline2 : (apos2.endLine == cpos2.line) = true := by rfl) (hs2 : starEach [e] X.env = (false, eval e X.env) :: starEach [] X.env := by rfl) (hplain2 : (backTo cpos2 (starEach [] X.env)).any (·.1) = false := by rfl)
    (hbase : attributeBase (.Name x p) "append" X.env (eval (.Name x p) X.env) = eval (.Name x p) X.env := by rfl)
    (hfew : ((backTo cpos (starEach [.Call (.Attribute (.Name y p2) "pop" apos2) [e] [] cpos2] X.env)).all (fun x => !x.1) && (backToKw cpos (keywordEach [] X.env)).all (fun x => x.1.isSome)
      && decide (([.Call (.Attribute (.Name y p2) "pop" apos2) [e] [] cpos2] : List Expr).length + ([] : List Keyword).length + (if ([] : List Keyword).isEmpty then 0 else 1) < 30)) = true := by rfl)
    (hline : (apos.endLine == cpos.line) = true := by rfl) (hs : starEach [.Call (.Attribute (.Name y p2) "pop" apos2) [e] [] cpos2] X.env = (false, eval (.Call (.Attribute (.Name y p2) "pop" apos2) [e] [] cpos2) X.env) :: starEach [] X.env := by rfl) (hplain : (backTo cpos (starEach [] X.env)).any (·.1) = false := by rfl)
    (hsw : swapsWith (.Call (.Attribute (.Name x p) "append" apos) [.Call (.Attribute (.Name y p2) "pop" apos2) [e] [] cpos2] [] cpos) none pos.line X.env = pure false := by rfl) :
    XS X f Γ Γ Γb Γc (.Expr (.Call (.Attribute (.Name x p) "append" apos) [.Call (.Attribute (.Name y p2) "pop" apos2) [e] [] cpos2] [] cpos) pos) (sAppPop i j a) :=
  PS.mono (ps_expr (pe_bm F.plainAttrs_list F.slot_list_append F.type_list_append mt_append (pe_var hN hv hd hcd) (pa_cons (pe_bm F.plainAttrs_list F.slot_list_pop F.type_list_pop mt_popAt (pe_var hN2 hv2 hd2 hcd2) (pa_cons h pa_nil hs2) hbase2 hfew2 hline2 hs2 hplain2) pa_nil hs) hbase hfew hline hs hplain) hsw) fun D σ H ⟨ρ, gh, R, q⟩ => by
    obtain ⟨_, l, vs0, _, e2, e3, hq0, _, q⟩ := chkL_of hki R (s := (do chkL j; (a >>= fun n => (fun ρ => match ρ.getD i none, ρ.getD j none, n with
    | some (.lst ds), some (.lst es), .int z => (match seqIndex? z es.length with
      | some k => (match es[k]? with
        | some d => if (decide (ds.length < sizeLine) && (decide (-(2 ^ 63) ≤ z) && decide (z < 2 ^ 63))) = true then .ok .nx ((ρ.set j (some (.lst (es.eraseIdx k)))).set i (some (.lst (ds ++ [d])))) else .stuck
        | none => .stuck)
      | none => .stuck)
    | _, _, _ => .stuck)) : SM)) q
    obtain ⟨_, l2, ws0, _, e2', e3', hq0', _, q⟩ := chkL_of hkj R q
    refine ⟨.ref l, getD_some e2, tyL hq0, .ref l2, getD_some e2', tyL hq0', ?_⟩
    refine RE.fstSP (ma := .bor) hw R q fun d ρ1 v H1 L R1 k1 vo n w => ?_
    obtain ⟨d1, l1, e4, e5, e6, t1⟩ := R1.tpGet hki
    rw [e2] at e5; cases e5
    obtain ⟨d1', l1', e4', e5', e6', t1'⟩ := R1.tpGet hkj
    rw [e2'] at e5'; cases e5'
    rw [e4, e4'] at w
    split at w
    · rename_i ds es z h1 h2
      cases h1; cases h2
      rcases t1 with ⟨ds, vs, ee, hq, s⟩ | ⟨_, _, _, ee, _⟩
      case inr => cases ee
      cases ee
      rcases t1' with ⟨es, us, ee, hq', s'⟩ | ⟨_, _, _, ee, _⟩
      case inr => cases ee
      cases ee
      split at w
      · rename_i kk ek
        split at w
        · rename_i dd ed
          split at w
          · rename_i hc
            simp only [Bool.and_eq_true, decide_eq_true_eq] at hc
            obtain ⟨uu, eu, su⟩ := s'.get ed
            have P := R1.tpPut (Nat.le_of_ble_eq_true hj) hkj e2' hq' e6' (s'.erase kk)
            have ne : l ≠ l2 := fun z => hij (R1.dj i j l (by rw [e6]; exact List.mem_singleton.mpr rfl) (by rw [e6', z]; exact List.mem_singleton.mpr rfl))
            have hq2 : upd H1 l2 (.lst (us.eraseIdx kk)) l = some (.lst vs) := by rw [upd_ne ne]; exact hq
            have kp2 : Kp (Tp Γ gh) H1 (upd H1 l2 (.lst (us.eraseIdx kk))) := P.2
            have sB : ∀ a, Tp Γ gh a → Bx f Γ gh a := fun a z => .inr z
            have P' := P.1.tpPut (Nat.le_of_ble_eq_true hi) hki e2 hq2 e6 ((s.kp kp2 sB).append (es := [dd]) (ws := [uu]) (by simp only [ShA]; exact ⟨uu, [], rfl, su.kp kp2 sB, rfl⟩))
            refine ⟨l2, us, z, kk, uu, rfl, by rw [bor_int vo], hq', hc.2.1, hc.2.2, by rw [s'.length]; exact ek, eu, ?_⟩
            refine ⟨l, vs, uu, rfl, rfl, hq2, by rw [s.length]; exact hc.1, ?_⟩
            exact w σ gh _ P'.1 ((StK.of R k1).trans (StK.trans ⟨P.2, fun a z => .inl z⟩ ⟨P'.2, fun a z => .inl z⟩))
          · exact w.elim
        · exact w.elim
      · exact w.elim
    · exact w.elim
end
end PP
-- PP21
/-! PP21: slices; defs by their facts; what is never run. -/
namespace PP
open PySem PySem.Spec PyProof.Rows L2
section
variable {X : Cx} {f : Fr} {Γ Γ1 Γ' Γb Γc : List Kd} {e e2 : Expr} {es : List Expr} {a b : EM D} {r : EM (List D)} {s t : SM} {pos p p2 p3 apos cpos tpos : Pos} {m ma : Md} {ms : List Md} {k n : Nat} {x y : Str}
def poN : EM (Option Int) := Pure.pure none
def poE (a : EM D) : EM (Option Int) := do
  let x ← a
  match x with
  | .int i => Pure.pure (some i)
  | _ => M.stuck
instance {j : Nat} : Pu j poN := Pu.pure _
instance {j : Nat} (a : EM D) [Pu j a] : Pu j (poE a) := Pu.bind ‹_› fun x => by cases x <;> infer_instance
def RO (f : Fr) (Γ : List Kd) (o : EM (Option Int)) : TO := fun σ H Q => ∃ ρ gh, Rel f Γ ρ gh σ H ∧
  match o ρ with
  | .ok i ρ' => ∀ H', Rel f Γ ρ' gh σ H' → Kp (Sx f Γ) H H' → Q i H'
  | .exn x ρ' => ∀ cls dx H', Rel f Γ ρ' gh σ H' → Kp (Sx f Γ) H H' → ExV f.g (Bo f Γ) x cls dx H' → f.W cls dx σ H'
  | .stuck => False
theorem PO.mono {X : Cx} {e : Option Expr} {t t' : TO} (h : PO X e t) (m : ∀ σ H Q, t' σ H Q → t σ H Q) : PO X e t' := ⟨fun pins s σ H Q I q => h.run pins s σ H Q I (m σ H Q q)⟩
theorem xo_none : PO X none (RO f Γ poN) := PO.mono po_none fun σ H Q ⟨ρ, gh, R, q⟩ => q H R Kp.refl
theorem xo_some (h : XE X f Γ e .bor a) : PO X (some e) (RO f Γ (poE a)) := PO.mono (po_some h) fun σ H Q ⟨ρ, gh, R, q⟩ => by
  refine ⟨ρ, gh, R, ?_⟩
  have q : match (a >>= fun x => match x with
    | .int i => Pure.pure (some i)
    | _ => M.stuck) ρ with
    | .ok i ρ' => ∀ H', Rel f Γ ρ' gh σ H' → Kp (Sx f Γ) H H' → Q i H'
    | .exn x ρ' => ∀ cls dx H', Rel f Γ ρ' gh σ H' → Kp (Sx f Γ) H H' → ExV f.g (Bo f Γ) x cls dx H' → f.W cls dx σ H'
    | .stuck => False := q
  rw [bind_ap] at q
  cases ea : a ρ with
  | ok d ρ' =>
    rw [ea] at q
    intro v H' L R' k' vo n
    cases d with
    | int i => exact ⟨i, bor_int vo, q H' R' k'⟩
    | _ => exact q.elim
  | exn x ρ' => rw [ea] at q; exact q
  | stuck => rw [ea] at q; exact q
def cutL {α : Type} (xs : List α) (lo hi : Option Int) : List α := (xs.drop (HT.sIx xs.length 0 lo)).take (HT.sIx xs.length xs.length hi - HT.sIx xs.length 0 lo)
theorem ShA.cut {g : G} {cm : Addr → V → Prop} {B : Addr → Prop} {H : Hp} {ds : List D} {vs : List V} (h : ShA g cm B H ds vs) (lo hi : Option Int) : ShA g cm B H (cutL ds lo hi) (cutV vs lo hi) := by
  unfold cutL cutV
  rw [h.length]
  exact (h.drop _).take _
def eSl (fn : D → Option Int → Option Int → P D) (a : EM D) (lo hi : EM (Option Int)) : EM D := do
  let x ← a
  let l ← lo
  let h ← hi
  lift (fn x l h)
instance {j : Nat} (fn : D → Option Int → Option Int → P D) (a : EM D) (lo hi : EM (Option Int)) [Pu j a] [Pu j lo] [Pu j hi] : Pu j (eSl fn a lo hi) := Pu.bind ‹_› fun _ => Pu.bind ‹_› fun _ => Pu.bind ‹_› fun _ => Pu.lift _
theorem RO.fst {σ : L2.St} {H : Hp} {o : EM (Option Int)} {k : Option Int → EM D} {Q : VK} {Q' : Option Int → Hp → Prop} {ρ : Env} {gh : Nat → List Addr} (R : Rel f Γ ρ gh σ H) (w : Ob f Γ m gh σ H ((o >>= k) ρ) Q)
    (step : ∀ i ρ' H', Rel f Γ ρ' gh σ H' → Kp (Sx f Γ) H H' → Ob f Γ m gh σ H' (k i ρ') Q → Q' i H') : RO f Γ o σ H Q' := by
  refine ⟨ρ, gh, R, ?_⟩
  rw [bind_ap] at w
  cases eo : o ρ with
  | ok i ρ' => rw [eo] at w; exact fun H' R' k' => step i ρ' H' R' k' (Ob.shift w k')
  | exn x ρ' => rw [eo] at w; exact w
  | stuck => rw [eo] at w; exact w
/-- a slice, by values -/
theorem xe_slice {lo hi : Option Expr} {l h : EM (Option Int)} {fn : D → Option Int → Option Int → P D} {rr : V → Option Int → Option Int → Hp → VK → Prop} (hr : SlR X rr)
    (kk : ∀ (σ : L2.St) (gh : Nat → List Addr) (ρ : Env) (H : Hp) (d : D) (v : V) (L : List Addr) (i j : Option Int) (Q : VK), Rel f Γ ρ gh σ H → VO f.g (f.oc σ) (Bo f Γ) (Bx f Γ gh) H ma d v L → Ob f Γ m gh σ H ((lift (fn d i j) : EM D) ρ) Q → rr v i j H Q)
    (hU : ma.U = []) (ha : XE X f Γ e ma a) (hl : PO X lo (RO f Γ l)) (hh : PO X hi (RO f Γ h)) : XE X f Γ (.Subscript e (.Slice lo hi none p2) pos) m (eSl fn a l h) :=
  PE.mono (pe_slice hr ha hl hh) fun σ H Q ⟨ρ, gh, R, q⟩ => by
    refine RE.fst (ma := ma) R (show Ob f Γ m gh σ H ((a >>= fun x => (l >>= fun i => (h >>= fun j => lift (fn x i j)))) ρ) Q from q) fun d ρ1 v H1 L R1 k1 vo n w => ?_
    refine RO.fst R1 w fun i ρ2 H2 R2 k2 w => ?_
    refine RO.fst R2 w fun j ρ3 H3 R3 k3 w => ?_
    exact kk σ gh ρ3 H3 d v L i j Q R3 (vo.kp R n (k2.trans k3)) w
def slL : D → Option Int → Option Int → P D
  | .lst ds, i, j => Pure.pure (.lst (cutL ds i j))
  | _, _, _ => M.stuck
/-- of a list: a new list -/
theorem xe_slL {lo hi : Option Expr} {l h : EM (Option Int)} (hK : f.g.K = X.K) (ha : XE X f Γ e .bs a) (hl : PO X lo (RO f Γ l)) (hh : PO X hi (RO f Γ h)) : XE X f Γ (.Subscript e (.Slice lo hi none p2) pos) (.tp []) (eSl slL a l h) :=
  xe_slice (rr := rSlL X.K) sl_list (fun σ gh ρ H d v L i j Q R vo w => by
    cases d with
    | lst ds =>
      obtain ⟨l, vs, rfl, q, r⟩ := bs_lst vo
      exact ⟨l, vs, rfl, SqL.of q, fun p hp => Ob.newT (show Ob f Γ (.tp []) gh σ H (.ok (.lst (cutL ds i j)) ρ) Q from w) R hp (r.cut i j)⟩
    | _ => exact w.elim) rfl ha hl hh
def slA : D → Option Int → Option Int → P D
  | .lst ds, i, j => Pure.pure (.lst (cutL ds i j))
  | .tup ds, i, j => Pure.pure (.tup (cutL ds i j))
  | .str z, i, j => if z.length ≤ sizeLine then Pure.pure (.str (cutS z i j)) else M.stuck
  | _, _, _ => M.stuck
/-- of a list, a tuple, a text -/
theorem xe_slA {lo hi : Option Expr} {l h : EM (Option Int)} (hK : f.g.K = X.K) (ha : XE X f Γ e .sh a) (hl : PO X lo (RO f Γ l)) (hh : PO X hi (RO f Γ h)) : XE X f Γ (.Subscript e (.Slice lo hi none p2) pos) .sh (eSl slA a l h) :=
  xe_slice (sl_list.or (sl_tupA.or sl_str)) (fun σ gh ρ H d v L i j Q R vo w => by
    obtain ⟨rfl, vo⟩ := vo
    cases d with
    | lst ds =>
      simp only [Sh] at vo
      obtain ⟨l, vs, rfl, nl, q, r⟩ := vo
      have w : Ob f Γ .sh gh σ H (.ok (.lst (cutL ds i j)) ρ) Q := w
      refine .inl ⟨l, vs, rfl, SqL.of q, fun p hp => ?_⟩
      refine w (.ref p) _ [] (R.new hp) (Kp.upd_new hp) ⟨rfl, ?_⟩ nil_new
      simp only [Sh]
      exact ⟨p, _, rfl, R.nbx hp, upd_same, (r.cut i j).kp (S := fun _ => False) (Kp.upd_new hp) fun _ z => z.elim⟩
    | tup ds =>
      have s0 := vo
      simp only [Sh] at vo
      obtain ⟨l, vs, rfl, q, r⟩ := vo
      have w : Ob f Γ .sh gh σ H (.ok (.tup (cutL ds i j)) ρ) Q := w
      refine .inr (.inl ⟨l, vs, rfl, hK ▸ q, fun hw => ?_, fun _ p hp => Ob.newTup w R hp (r.cut i j)⟩)
      have e : cutL ds i j = ds := by
        unfold cutL
        rw [← r.length, hw.1, hw.2]
        simp [r.length]
      rw [e] at w
      exact w.ok0 R ⟨rfl, s0⟩
    | str z =>
      simp only [Sh] at vo
      subst vo
      unfold slA at w
      by_cases c : z.length ≤ sizeLine
      · dsimp only at w
        rw [if_pos c] at w
        exact .inr (.inr ⟨z, rfl, c, (show Ob f Γ .sh gh σ H (.ok (.str (cutS z i j)) ρ) Q from w).ok0 R ⟨rfl, by simp only [Sh]⟩⟩)
      · dsimp only at w
        rw [if_neg c] at w
        exact w.elim
    | _ => exact w.elim) rfl ha hl hh
/-! ### what is never run -/
theorem xe_never : XE X f Γ e m M.stuck := ⟨fun _ _ _ _ _ _ ⟨_, _, _, q⟩ => q.elim⟩
theorem xs_never {st : Stmt} : XS X f Γ Γ' Γb Γc st M.stuck := ⟨fun _ _ _ _ _ _ ⟨_, _, _, q⟩ => q.elim⟩
theorem xss_never {st : List Stmt} : XSs X f Γ Γ' Γb Γc st M.stuck := ⟨fun _ _ _ _ _ _ ⟨_, _, _, q⟩ => q.elim⟩
instance {j : Nat} : Pu j (M.stuck : EM D) := Pu.stuck
theorem xs_asg0 {st : Stmt} {s s' : SM} (h : XS X f Γ Γ' Γb Γc st s) (e : s = s') : XS X f Γ Γ' Γb Γc st s' := e ▸ h
end
section
variable {P : Program} {w : World} {K : PySem.W.Frag} {mg : Str → Option Value} {base : Heap} {x qual : Str} {params : Arguments} {body : List Stmt} {scope : Scope} {fa : Addr} {fd : FuncData} {N ps : List Str} {g : G} {k : Nat} {rm : Md} {F0 : Fn} {F1 : FnIo} {n : Nat}
abbrev BindE (x qual : Str) (params : Arguments) (body : List Stmt) (scope : Scope) (ps : List Str) : Prop := ∀ (kV doc pm : Value) (an : Option Addr) (cdv ct : Value) (us : List Value), us.length = ps.length → bindArgs (PySem.W.fnOf x qual params body scope .none kV doc pm an cdv ct) ⟨us, []⟩ = pure (ps.zip us)
theorem fnAt_of (F : FunD K x qual params body scope [] [] fa fd) (hm : mg x = some (.ref fa)) (hb : BindE x qual params body scope ps) (ok : FnOk P w K mg base (L2.CX P w) k fa fd ps (spF g ps.length rm F0)) (hn : ps.length = n := by rfl) : FnAt P w K mg base g k x n rm F0 := by
  subst hn
  exact ⟨fa, fd, ps, hm, F.kp, rfl, F.bindsN hb, ok⟩
theorem fnIoAt_of (F : FunD K x qual params body scope [] [] fa fd) (hm : mg x = some (.ref fa)) (hb : BindE x qual params body scope ps) (ok : FnOk P w K mg base (L2.CX P w) k fa fd ps (spIo g (ps.length - 1) rm F1)) (hn : ps.length = n + 1 := by rfl) : FnIoAt P w K mg base g k x n rm F1 := by
  have e : ps.length - 1 = n := by omega
  rw [e] at ok
  exact ⟨fa, fd, ps, hm, F.kp, hn, F.bindsN hb, ok⟩
/-- a def that is never called to an end -/
theorem fnAt_never (F : FunD K x qual params body scope [] [] fa fd) (hm : mg x = some (.ref fa)) (hb : BindE x qual params body scope ps) (hn : ps.length = n := by rfl) : FnAt P w K mg base g k x n rm (fun _ _ => .stuck) := by
  subst hn
  refine ⟨fa, fd, ps, hm, F.kp, rfl, F.bindsN hb, ⟨fun vs H Q E h => ?_, fun A outer s H args us vs Q E hr e0 b r h => ?_⟩⟩
  · obtain ⟨_, _, _, _, _, _, q⟩ := h; exact q.elim
  · obtain ⟨_, _, _, _, _, _, q⟩ := h; exact q.elim
end
theorem hu64 {k : Nat} {A : Around} (hr : Room k A) : A.units + 64 < cLine := by
  have := hr.units
  omega
def fnR3 : List D → Option (List D)
  | [.int i, .int j, .int c] => if (decide (c ≠ 0) && (decide (c.natAbs < 1073741824) && (Builtin.Range.small i j c && decide (0 ≤ Builtin.Range.rangeSize i j c)))) = true then some (rangeC i c (Builtin.Range.rangeSize i j c).toNat) else none
  | _ => none
theorem xi_range3 {X : Cx} {f : Fr} {Γ : List Kd} {b : Bool} {tg e e2 e3 : Expr} {p pos : Pos} {r : EM (List D)} (_hc : X.calm = true) (hg : Gl X "range") (hm : X.mg "range" = none) (h : XA X f Γ [e, e2, e3] [.bor, .bor, .bor] r)
    (hs : starEach [e, e2, e3] X.env = (false, eval e X.env) :: starEach [e2, e3] X.env := by rfl) (hpl : (backTo pos (starEach [e2, e3] X.env)).any (·.1) = false := by rfl) : PI X tg (.Call (.Name "range" p) [e, e2, e3] [] pos) (RI f Γ false b (itA fnR3 r)) :=
  PI.mono (pi_range3 hg hm h hs hpl) fun σ H Rr ⟨ρ, gh, R, q⟩ => by
    refine RA.fstI (c := false) (b := b) (ms := [.bor, .bor, .bor]) R q fun ds es ρ' vs H' L R' vo e w => ?_
    unfold fnR3 at e
    split at e
    · rename_i i j c
      split at e
      · rename_i hj
        cases e
        simp only [VsO] at vo
        obtain ⟨d, r, v, q, L1, L2, e1, rfl, rfl, o, d2, r2, v2, q2, L3, L4, rfl, rfl, rfl, o2, d3, r3, v3, q3, L5, L6, rfl, rfl, rfl, o3, rfl, rfl, rfl⟩ := vo
        cases e1
        simp only [Bool.and_eq_true, decide_eq_true_eq] at hj
        exact ⟨i, j, c, _, by rw [bor_int o, bor_int o2, bor_int o3], ⟨hj.1, hj.2.1, hj.2.2.1, by omega⟩, w _ src_rangeC⟩
      · cases e
    · cases e
/-! ### is None -/
def isN1 (neg : Bool) (x : D) : P D := Pure.pure (.bl (x.isNon != neg))
section
variable {X : Cx} {f : Fr} {Γ : List Kd} {e : Expr} {a : EM D} {pos pos' : Pos} {j : Nat}
theorem isN1_k {neg : Bool} {σ : L2.St} {gh : Nat → List Addr} {ρ : Env} {H : Hp} {d : D} {v : V} {L : List Addr} {Q : VK} (R : Rel f Γ ρ gh σ H) (o : VO f.g (f.oc σ) (Bo f Γ) (Bx f Γ gh) H .bor d v L) (w : Ob f Γ (.own []) gh σ H ((lift (isN1 neg d) : EM D) ρ) Q) : Q (.bl (decide (v = .non) != neg)) H := by
  rw [bor_non o]
  exact (show Ob f Γ (.own []) gh σ H (.ok (.bl (d.isNon != neg)) ρ) Q from w).flat R rfl
theorem xe_isN (h : XE X f Γ e .bor a) : XE X f Γ (.Compare e [.Is] [.Constant .none j pos'] pos) (.own []) (eP1 (isN1 false) a) :=
  PE.mono (pe_cmp (pc_isN h)) fun σ H Q ⟨ρ, gh, R, q⟩ => by
    refine RE.fst (ma := .bor) R (show Ob f Γ (.own []) gh σ H ((a >>= fun x => lift (isN1 false x)) ρ) Q from q) fun d ρ1 v H1 L R1 k1 vo n w => ?_
    have := isN1_k R1 vo w
    rwa [Bool.bne_false] at this
theorem xe_notN (h : XE X f Γ e .bor a) : XE X f Γ (.Compare e [.IsNot] [.Constant .none j pos'] pos) (.own []) (eP1 (isN1 true) a) :=
  PE.mono (pe_cmp (pc_notN h)) fun σ H Q ⟨ρ, gh, R, q⟩ => by
    refine RE.fst (ma := .bor) R (show Ob f Γ (.own []) gh σ H ((a >>= fun x => lift (isN1 true x)) ρ) Q from q) fun d ρ1 v H1 L R1 k1 vo n w => ?_
    have := isN1_k R1 vo w
    rwa [Bool.bne_true] at this
theorem xt_isN (h : XE X f Γ e .bor a) : XT X f Γ (.Compare e [.Is] [.Constant .none j pos'] pos) (tB (eP1 (isN1 false) a)) :=
  PT.mono (pt_cmp (pc_isN h)) fun σ H Q ⟨ρ, gh, R, q⟩ => by
    have q' : Ob f Γ (.own []) gh σ H (eP1 (isN1 false) a ρ) (fun x H' => ∃ k, x = .bl k ∧ Q k H') := ObT.of q own_bl
    refine RE.fst (ma := .bor) R (show Ob f Γ (.own []) gh σ H ((a >>= fun x => lift (isN1 false x)) ρ) _ from q') fun d ρ1 v H1 L R1 k1 vo n w => ?_
    have := isN1_k R1 vo w
    rwa [Bool.bne_false] at this
theorem xt_notN (h : XE X f Γ e .bor a) : XT X f Γ (.Compare e [.IsNot] [.Constant .none j pos'] pos) (tB (eP1 (isN1 true) a)) :=
  PT.mono (pt_cmp (pc_notN h)) fun σ H Q ⟨ρ, gh, R, q⟩ => by
    have q' : Ob f Γ (.own []) gh σ H (eP1 (isN1 true) a ρ) (fun x H' => ∃ k, x = .bl k ∧ Q k H') := ObT.of q own_bl
    refine RE.fst (ma := .bor) R (show Ob f Γ (.own []) gh σ H ((a >>= fun x => lift (isN1 true x)) ρ) _ from q') fun d ρ1 v H1 L R1 k1 vo n w => ?_
    have := isN1_k R1 vo w
    rwa [Bool.bne_true] at this
end
end PP
-- PP22
/-! PP22: a lambda's run; cells put in and out of what is tracked. -/
namespace PP
open PySem PySem.Spec PyProof.Rows L2
/-- a lambda's words, as a nested def without a body -/
abbrev Lam.nf (l : Lam) (cl : List (Str × Addr)) (c' : Addr) : NdefX.NF := ⟨"<lambda>", l.qual, l.params, [], l.scope, cl, c'⟩
section
variable {P : Program} {w : World} {K : PySem.W.Frag} {mg : Str → Option Value} {base : Heap} {CX : CXT} {N ps : List Str} {l : Lam} {f c' : Addr} {cl : List (Str × Addr)} {k : Nat}
theorem lam_run {pm ctv : Value} {A : Around} {outer : List PySem.Env} {s : Shared} {H : Hp} {us : List Value} {vs : List V} {ws : List (Option V)} {Q : VK} {E : XK} {te : TE} (S : NdefX.NScope N ps l.fr l.scope)
    (hb : bindArgs (PySem.W.kla_fn "<lambda>" l.qual l.params l.body l.scope cl pm (.ref c') ctv) ⟨us, []⟩ = pure (ps.zip us))
    (hbody : Room k (A.deeper (NdefX.envF (l.nf cl c') f s.heap.objs.size)) → PE (NdefX.ncx CX P w K mg base N (l.nf cl c') f A outer s H E) l.body te)
    (hr : Room (k + 1) A) (e0 : Env0 P w K mg base A outer s H) (hf : s.heap.get? f = some (PySem.W.kla_obj "<lambda>" l.qual l.params l.body l.scope cl pm c' ctv)) (hc : s.heap.CodeRec (.ref c') l.qual)
    (C : NdefX.CellsAt cl l.fr ws s.heap H) (r : Vals vs us) (hl : vs.length = ps.length) (hq : te (NdefX.startF N vs ws) H Q) : codeAny (model P w) A (.call (.ref f) ⟨us, []⟩) (CR CX outer P w H s Q E) s := by
  have lim : s.heap.NoLimit := e0.mod.nolimit.keeps fun b o e => (e0.bs b o e).1
  refine PySem.W.kla_callFunE hr.depth hf rfl S.co S.gen rfl hc ?_
  rw [hb]
  refine wpAny_pure (wpAny_newFunctionEnv S.nocell (fun ⟨n, _⟩ hy => S.par n (List.of_mem_zip hy).1) (fun hp2 hns hsb => ⟨lim.fresh _ hsb, ?_⟩) S.kind)
  have kp : ∀ b o, s.heap.get? b = some o → hp2.get? b = some o := fun b o e => hsb.extBut b o (Nat.ne_of_lt (Heap.lt_size e)) (Heap.get?_push_of_some _ e)
  have J := NdefX.inv_startN (CX := CX) (E := E) (F := l.nf cl c') (f := f) (tk := s.toks + (ps.zip us).length) S hr.hd e0 hl r C hns kp
  refine PySem.W.kla_codeExpr (wpAny_mono ((hbody (hr.deeper _)).run [] _ _ H Q J hq) (fun u s' h => ?_) fun _ _ h => h)
  obtain ⟨v, H', J', rv, q⟩ := h
  exact ⟨v, H', J'.os, J'.bare, J'.base, J'.hok, rv, q⟩
end
/-! ### cells in, cells out -/
/-- a cell's record, tracked -/
abbrev cellO (a : Addr) (o : Obj) : HO := .frz o (.own a)
/-- the cells cs tracked -/
def pin (cs : List (Addr × Obj)) (H : Hp) : Hp := fun b => match cs.lookup b with
  | some o => some (cellO b o)
  | none => H b
/-- .. not tracked -/
def unpin (cs : List (Addr × Obj)) (H : Hp) : Hp := fun b => match cs.lookup b with
  | some _ => none
  | none => H b
section
variable {cs : List (Addr × Obj)} {H H' : Hp} {h h' : Heap} {P : Program} {w : World} {fs : List Addr}
theorem pin_at {b : Addr} {o : Obj} (e : cs.lookup b = some o) : pin cs H b = some (cellO b o) := by unfold pin; rw [e]
theorem pin_out {b : Addr} (e : cs.lookup b = none) : pin cs H b = H b := by unfold pin; rw [e]
theorem unpin_at {b : Addr} {o : Obj} (e : cs.lookup b = some o) : unpin cs H b = none := by unfold unpin; rw [e]
theorem unpin_out {b : Addr} (e : cs.lookup b = none) : unpin cs H b = H b := by unfold unpin; rw [e]
/-- what an object's description leans on, at other tracked things -/
theorem ObjOk.lean {a : Addr} {o : HO} (x : ObjOk P w H h a o) (h1 : ∀ b y, H b = some (.own y) → H' b = some (.own y)) (h2 : ∀ b xs, H b = some (.tup xs) → H' b = some (.tup xs)) : ObjOk P w H' h a o :=
  x.stay (fun _ _ _ e => e) (fun b => h1 b a) h2
theorem pin_hok (x : HOk P w H h) (hn : ∀ b o, cs.lookup b = some o → H b = none) (hc : ∀ b o, cs.lookup b = some o → h.get? b = some o) : HOk P w (pin cs H) h := fun a o e => by
  have l1 : ∀ b y, H b = some (HO.own y) → pin cs H b = some (HO.own y) := fun b y q => by
    cases z : cs.lookup b with
    | none => rw [pin_out z]; exact q
    | some o => rw [hn b o z] at q; cases q
  have l2 : ∀ b xs, H b = some (HO.tup xs) → pin cs H b = some (HO.tup xs) := fun b y q => by
    cases z : cs.lookup b with
    | none => rw [pin_out z]; exact q
    | some o => rw [hn b o z] at q; cases q
  cases z : cs.lookup a with
  | none =>
    rw [pin_out z] at e
    exact ObjOk.lean (x a o e) l1 l2
  | some oc =>
    rw [pin_at z] at e
    cases e
    exact ⟨hc a oc z, oc, hc a oc z⟩
theorem unpin_hok (x : HOk P w H h) (hp : ∀ b o, cs.lookup b = some o → H b = some (cellO b o)) : HOk P w (unpin cs H) h := fun a o e => by
  have l1 : ∀ b y, H b = some (HO.own y) → unpin cs H b = some (HO.own y) := fun b y q => by
    cases z : cs.lookup b with
    | none => rw [unpin_out z]; exact q
    | some o => rw [hp b o z] at q; cases q
  have l2 : ∀ b xs, H b = some (HO.tup xs) → unpin cs H b = some (HO.tup xs) := fun b y q => by
    cases z : cs.lookup b with
    | none => rw [unpin_out z]; exact q
    | some o => rw [hp b o z] at q; cases q
  cases z : cs.lookup a with
  | none =>
    rw [unpin_out z] at e
    exact ObjOk.lean (x a o e) l1 l2
  | some oc => rw [unpin_at z] at e; cases e
/-- from a run with the cells tracked: H without, the run's end H' with them -/
theorem un_pin (u : Un fs [] (pin cs H) H' h h') (x : HOk P w H' h') (hn : ∀ b o, cs.lookup b = some o → H b = none) (hc : ∀ b o, cs.lookup b = some o → h.get? b = some o) : Un fs [] H (unpin cs H') h h' := by
  have back : ∀ b o, cs.lookup b = some o → h'.get? b = some o := fun b o z => by
    have := u.frzs b o _ (pin_at z)
    exact (x b _ this).1
  refine ⟨fun b o q n hb he => ?_, fun b o q n hb he => ?_, fun b o q n he => ?_, u.there, fun b xs q => ?_, fun b o y q => ?_, fun b ps q => ?_⟩
  · cases z : cs.lookup b with
    | none => exact u.keep b o q (by rw [pin_out z]; exact n) hb he
    | some oc =>
      have qq := hc b oc z
      rw [q] at qq; cases qq
      exact back b o z
  · cases z : cs.lookup b with
    | none => exact u.slot b o q (by rw [pin_out z]; exact n) hb he
    | some oc =>
      have qq := hc b oc z
      rw [q] at qq; cases qq
      exact ⟨o.slots, back b o z⟩
  · cases z : cs.lookup b with
    | none => rw [unpin_out z]; exact u.free b o q (by rw [pin_out z]; exact n) he
    | some oc => exact unpin_at z
  · cases z : cs.lookup b with
    | none => rw [unpin_out z]; exact u.tups b xs (by rw [pin_out z]; exact q)
    | some oc => rw [hn b oc z] at q; cases q
  · cases z : cs.lookup b with
    | none => rw [unpin_out z]; exact u.frzs b o y (by rw [pin_out z]; exact q)
    | some oc => rw [hn b oc z] at q; cases q
  · cases z : cs.lookup b with
    | none =>
      obtain ⟨m, e⟩ := u.tbls b ps (by rw [pin_out z]; exact q)
      exact ⟨m, by rw [unpin_out z]; exact e⟩
    | some oc => rw [hn b oc z] at q; cases q
/-- from a run without them: H with them -/
theorem un_unpin (u : Un fs [] (unpin cs H) H' h h') (hp : ∀ b o, cs.lookup b = some o → H b = some (cellO b o)) (hc : ∀ b o, cs.lookup b = some o → h.get? b = some o) (hfs : ∀ b o, cs.lookup b = some o → b ∉ fs) : Un fs [] H (pin cs H') h h' ∧ ∀ b o, cs.lookup b = some o → h'.get? b = some o ∧ H' b = none := by
  have back : ∀ b o, cs.lookup b = some o → h'.get? b = some o ∧ H' b = none := fun b o z => ⟨u.keep b o (hc b o z) (unpin_at z) (hfs b o z) (by simp), u.free b o (hc b o z) (unpin_at z) (by simp)⟩
  refine ⟨⟨fun b o q n hb he => ?_, fun b o q n hb he => ?_, fun b o q n he => ?_, u.there, fun b xs q => ?_, fun b o y q => ?_, fun b ps q => ?_⟩, back⟩
  · cases z : cs.lookup b with
    | none => exact u.keep b o q (by rw [unpin_out z]; exact n) hb he
    | some oc => rw [hp b oc z] at n; cases n
  · cases z : cs.lookup b with
    | none => exact u.slot b o q (by rw [unpin_out z]; exact n) hb he
    | some oc => rw [hp b oc z] at n; cases n
  · cases z : cs.lookup b with
    | none => rw [pin_out z]; exact u.free b o q (by rw [unpin_out z]; exact n) he
    | some oc => rw [hp b oc z] at n; cases n
  · cases z : cs.lookup b with
    | none => rw [pin_out z]; exact u.tups b xs (by rw [unpin_out z]; exact q)
    | some oc => rw [hp b oc z] at q; cases q
  · cases z : cs.lookup b with
    | none => rw [pin_out z]; exact u.frzs b o y (by rw [unpin_out z]; exact q)
    | some oc =>
      rw [hp b oc z] at q
      cases q
      exact pin_at z
  · cases z : cs.lookup b with
    | none =>
      obtain ⟨m, e⟩ := u.tbls b ps (by rw [unpin_out z]; exact q)
      exact ⟨m, by rw [pin_out z]; exact e⟩
    | some oc => rw [hp b oc z] at q; cases q
end
end PP
-- PP23
/-! PP23: runs with cells put in and out. -/
namespace PP
open PySem PySem.Spec PyProof.Rows L2
section
variable {cs : List (Addr × Obj)} {H H' : Hp} {h h' hB : Heap} {P : Program} {w : World} {fs : List Addr} {outer : List PySem.Env} {s s' : Shared} {Q Q' : VK} {E E' : XK}
theorem ub_pin (u : UB fs (pin cs H) H' h hB h') (x : HOk P w H' hB) (hn : ∀ b o, cs.lookup b = some o → H b = none) (hc : ∀ b o, cs.lookup b = some o → h.get? b = some o) : UB fs H (unpin cs H') h hB h' := by
  have back : ∀ b o, cs.lookup b = some o → hB.get? b = some o := fun b o z => by
    have := u.frzs b o _ (pin_at z)
    exact (x b _ this).1
  refine ⟨fun b o q n hb => ?_, u.slot, fun b o q n => ?_, u.there, fun b xs q => ?_, fun b o y q => ?_, fun b ps q => ?_⟩
  · cases z : cs.lookup b with
    | none => exact u.keep b o q (by rw [pin_out z]; exact n) hb
    | some oc =>
      have qq := hc b oc z
      rw [q] at qq; cases qq
      exact back b o z
  · cases z : cs.lookup b with
    | none => rw [unpin_out z]; exact u.free b o q (by rw [pin_out z]; exact n)
    | some oc => exact unpin_at z
  · cases z : cs.lookup b with
    | none => rw [unpin_out z]; exact u.tups b xs (by rw [pin_out z]; exact q)
    | some oc => rw [hn b oc z] at q; cases q
  · cases z : cs.lookup b with
    | none => rw [unpin_out z]; exact u.frzs b o y (by rw [pin_out z]; exact q)
    | some oc => rw [hn b oc z] at q; cases q
  · cases z : cs.lookup b with
    | none =>
      obtain ⟨m, e⟩ := u.tbls b ps (by rw [pin_out z]; exact q)
      exact ⟨m, by rw [unpin_out z]; exact e⟩
    | some oc => rw [hn b oc z] at q; cases q
theorem ub_unpin (u : UB fs (unpin cs H) H' h hB h') (hp : ∀ b o, cs.lookup b = some o → H b = some (cellO b o)) (hc : ∀ b o, cs.lookup b = some o → h.get? b = some o) (hfs : ∀ b o, cs.lookup b = some o → b ∉ fs) : UB fs H (pin cs H') h hB h' ∧ ∀ b o, cs.lookup b = some o → hB.get? b = some o ∧ H' b = none := by
  have back : ∀ b o, cs.lookup b = some o → hB.get? b = some o ∧ H' b = none := fun b o z => ⟨u.keep b o (hc b o z) (unpin_at z) (hfs b o z), u.free b o (hc b o z) (unpin_at z)⟩
  refine ⟨⟨fun b o q n hb => ?_, u.slot, fun b o q n => ?_, u.there, fun b xs q => ?_, fun b o y q => ?_, fun b ps q => ?_⟩, back⟩
  · cases z : cs.lookup b with
    | none => exact u.keep b o q (by rw [unpin_out z]; exact n) hb
    | some oc => rw [hp b oc z] at n; cases n
  · cases z : cs.lookup b with
    | none => rw [pin_out z]; exact u.free b o q (by rw [unpin_out z]; exact n)
    | some oc => rw [hp b oc z] at n; cases n
  · cases z : cs.lookup b with
    | none => rw [pin_out z]; exact u.tups b xs (by rw [unpin_out z]; exact q)
    | some oc => rw [hp b oc z] at q; cases q
  · cases z : cs.lookup b with
    | none => rw [pin_out z]; exact u.frzs b o y (by rw [unpin_out z]; exact q)
    | some oc =>
      rw [hp b oc z] at q
      cases q
      exact pin_at z
  · cases z : cs.lookup b with
    | none =>
      obtain ⟨m, e⟩ := u.tbls b ps (by rw [unpin_out z]; exact q)
      exact ⟨m, by rw [pin_out z]; exact e⟩
    | some oc => rw [hp b oc z] at q; cases q
/-- a record that is no cell is none of them -/
theorem no_cell {a : Addr} {oe : Obj} {vs : Array Value} (cell : ∀ b o, cs.lookup b = some o → ∃ v, o.data = .cell v) (he : h.get? a = some oe) (hd : oe.data = .fields vs) (hc : ∀ b o, cs.lookup b = some o → h.get? b = some o) : cs.lookup a = none := by
  cases z : cs.lookup a with
  | none => rfl
  | some o =>
    obtain ⟨v, e⟩ := cell a o z
    have := hc a o z
    rw [he] at this; cases this
    rw [hd] at e; cases e
/-- the run had the cells tracked; they are not in H -/
theorem cr_pin {r : Result} (hn : ∀ b o, cs.lookup b = some o → H b = none) (hc : ∀ b o, cs.lookup b = some o → s.heap.get? b = some o) (x : CR (L2.CX P w) outer P w (pin cs H) s Q' E' r s')
    (hQ : ∀ v H', (∀ b o, cs.lookup b = some o → H' b = some (cellO b o)) → Q' v H' → Q v (unpin cs H')) (hE : ∀ c d H', (∀ b o, cs.lookup b = some o → H' b = some (cellO b o)) → E' c d H' → E c d (unpin cs H')) : CR (L2.CX P w) outer P w H s Q E r s' := by
  cases r with
  | ok fl =>
    cases fl with
    | ret u =>
      obtain ⟨v, H1, os, bare, un, hok, rv, q⟩ := x
      exact ⟨v, unpin cs H1, os, bare, un_pin un hok hn hc, unpin_hok hok fun b o z => un.frzs b o _ (pin_at z), rv, hQ v H1 (fun b o z => un.frzs b o _ (pin_at z)) q⟩
    | next => exact x
    | brk => exact x
    | cont => exact x
  | error e =>
    obtain ⟨a, B, H1, cls, d, rfl, fl, hok, ub, na, os, ag, q⟩ := x
    have fz : ∀ b o, cs.lookup b = some o → H1 b = some (cellO b o) := fun b o z => ub.frzs b o _ (pin_at z)
    refine ⟨a, B, unpin cs H1, cls, d, rfl, fl, unpin_hok hok fz, ub_pin ub hok hn hc, ?_, os, ag, hE cls d H1 fz q⟩
    cases z : cs.lookup a with
    | none => rw [unpin_out z]; exact na
    | some o => exact unpin_at z
/-- the run had them not tracked; they are in H -/
theorem cr_unpin {r : Result} (cell : ∀ b o, cs.lookup b = some o → ∃ v, o.data = .cell v) (hp : ∀ b o, cs.lookup b = some o → H b = some (cellO b o)) (hc : ∀ b o, cs.lookup b = some o → s.heap.get? b = some o) (hfs : ∀ b o, cs.lookup b = some o → b ∉ frs outer) (x : CR (L2.CX P w) outer P w (unpin cs H) s Q' E' r s')
    (hQ : ∀ v H', (∀ b o, cs.lookup b = some o → H' b = none) → Q' v H' → Q v (pin cs H')) (hE : ∀ c d H', (∀ b o, cs.lookup b = some o → H' b = none) → E' c d H' → E c d (pin cs H')) : CR (L2.CX P w) outer P w H s Q E r s' := by
  cases r with
  | ok fl =>
    cases fl with
    | ret u =>
      obtain ⟨v, H1, os, bare, un, hok, rv, q⟩ := x
      obtain ⟨u2, back⟩ := un_unpin un hp hc hfs
      exact ⟨v, pin cs H1, os, bare, u2, pin_hok hok (fun b o z => (back b o z).2) fun b o z => (back b o z).1, rv, hQ v H1 (fun b o z => (back b o z).2) q⟩
    | next => exact x
    | brk => exact x
    | cont => exact x
  | error e =>
    obtain ⟨a, B, H1, cls, d, rfl, fl, hok, ub, na, os, ag, q⟩ := x
    obtain ⟨u2, back⟩ := ub_unpin ub hp hc hfs
    refine ⟨a, B, pin cs H1, cls, d, rfl, fl, pin_hok hok (fun b o z => (back b o z).2) fun b o z => (back b o z).1, u2, ?_, os, ag, hE cls d H1 (fun b o z => (back b o z).2) q⟩
    obtain ⟨oe, vs, he, hz, hd⟩ := fl.there
    have st : B.StaysIn s'.heap := fl.1
    rw [pin_out (no_cell cell he hd fun b o z => st b o (back b o z).1)]
    exact na
end
end PP
-- PP24
/-! PP24: calls of closures. -/
namespace PP
open PySem PySem.Spec PyProof.Rows L2
mutual
def D.noClo : D → Bool
  | .lst ds => D.noCloA ds
  | .tup ds => D.noCloA ds
  | .dct _ ds => D.noCloA ds
  | .clo _ _ => false
  | .lid ds => D.noCloA ds
  | _ => true
def D.noCloA : List D → Bool
  | [] => true
  | d :: ds => d.noClo && D.noCloA ds
end
mutual
/-- data without closures stands where the cells are not tracked -/
theorem Sh.moved {g : G} {cm cm' : Addr → V → Prop} {B : Addr → Prop} {H H' : Hp} (k : ∀ a o, H a = some o → (∀ o', o ≠ cellO a o') → H' a = some o) : ∀ (d : D) (v : V), d.noClo = true → Sh g cm B H d v → Sh g cm' B H' d v
  | .non, _, _, h => by simp only [Sh] at h ⊢; exact h
  | .bl _, _, _, h => by simp only [Sh] at h ⊢; exact h
  | .int _, _, _, h => by simp only [Sh] at h ⊢; exact h
  | .str _, _, _, h => by simp only [Sh] at h ⊢; exact h
  | .glo _, _, _, h => by simp only [Sh] at h ⊢; exact h
  | .clo _ _, _, n, _ => by simp [D.noClo] at n
  | .lid ds, v, n, h => by
    simp only [Sh] at h ⊢
    obtain ⟨a, vs, e, t, nb, q, r⟩ := h
    exact ⟨a, vs, e, t, nb, k _ _ q (fun o' z => by cases z), ShA.moved k ds vs (by simpa [D.noClo] using n) r⟩
  | .lst ds, v, n, h => by
    simp only [Sh] at h ⊢
    obtain ⟨a, vs, e, nb, q, r⟩ := h
    exact ⟨a, vs, e, nb, k _ _ q (fun o' z => by cases z), ShA.moved k ds vs (by simpa [D.noClo] using n) r⟩
  | .tup ds, v, n, h => by
    simp only [Sh] at h ⊢
    obtain ⟨a, vs, e, q, r⟩ := h
    refine ⟨a, vs, e, ?_, ShA.moved k ds vs (by simpa [D.noClo] using n) r⟩
    rcases q with (q | ⟨o, q⟩) | q
    · exact .inl (.inl (k _ _ q fun o' z => by cases z))
    · exact .inl (.inr ⟨o, k _ _ q fun o' z => by cases z⟩)
    · exact .inr q
  | .dct ks ds, v, n, h => by
    simp only [Sh] at h ⊢
    obtain ⟨a, kvs, e, nb, q, m, r⟩ := h
    refine ⟨a, kvs, e, nb, ?_, m, ShA.moved k ds _ (by simpa [D.noClo] using n) r⟩
    rcases q with q | ⟨o, q⟩
    · exact .inl (k _ _ q fun o' z => by cases z)
    · exact .inr ⟨o, k _ _ q fun o' z => by cases z⟩
theorem ShA.moved {g : G} {cm cm' : Addr → V → Prop} {B : Addr → Prop} {H H' : Hp} (k : ∀ a o, H a = some o → (∀ o', o ≠ cellO a o') → H' a = some o) : ∀ (ds : List D) (vs : List V), D.noCloA ds = true → ShA g cm B H ds vs → ShA g cm' B H' ds vs
  | [], _, _, h => by simp only [ShA] at h ⊢; exact h
  | d :: ds, vs, n, h => by
    simp only [ShA] at h ⊢
    obtain ⟨v, r, e, h1, h2⟩ := h
    simp only [D.noCloA, Bool.and_eq_true] at n
    exact ⟨v, r, e, Sh.moved k d v n.1 h1, ShA.moved k ds r n.2 h2⟩
end
theorem noCloA_append : ∀ {ds es : List D}, D.noCloA (ds ++ es) = (D.noCloA ds && D.noCloA es)
  | [], _ => by simp [D.noCloA]
  | d :: ds, es => by simp [D.noCloA, noCloA_append (ds := ds), Bool.and_assoc]
/-- the records of a closure's cells -/
theorem cells_list {H : Hp} {cl : List (Str × Addr)} : ∀ (ys : List Str), (∀ y ∈ ys, ∃ a o u, cl.lookup y = some a ∧ H a = some (cellO a o) ∧ o.data = .cell (some u)) →
    ∃ cs : List (Addr × Obj), (∀ b o, cs.lookup b = some o → H b = some (cellO b o) ∧ (∃ u, o.data = .cell (some u)) ∧ ∃ y, cl.lookup y = some b) ∧ ∀ y ∈ ys, ∀ a, cl.lookup y = some a → ∃ o, cs.lookup a = some o
  | [], _ => ⟨[], fun b o e => by simp at e, fun y h => by cases h⟩
  | y :: ys, h => by
    obtain ⟨cs, h1, h2⟩ := cells_list ys fun z hz => h z (List.mem_cons_of_mem _ hz)
    obtain ⟨a, o, u, e1, e2, e3⟩ := h y List.mem_cons_self
    refine ⟨(a, o) :: cs, fun b ob e => ?_, fun z hz b eb => ?_⟩
    · by_cases q : b = a
      · subst q
        rw [List.lookup_cons_self] at e
        cases e
        exact ⟨e2, ⟨u, e3⟩, y, e1⟩
      · rw [List.lookup_cons, show (b == a) = false from by simpa using q] at e
        exact h1 b ob e
    · by_cases q : b = a
      · subst q; exact ⟨o, List.lookup_cons_self⟩
      · rcases List.mem_cons.mp hz with rfl | hz
        · rw [e1] at eb; cases eb; exact absurd rfl q
        · obtain ⟨ob, eo⟩ := h2 z hz b eb
          exact ⟨ob, by rw [List.lookup_cons, show (b == a) = false from by simpa using q]; exact eo⟩
/-- a lambda's body as a function: its parameters, then what it captured -/
def lamF (n : Nat) (e : EM D) : Fn := fun ds s => match e (startE n ds) with
  | .ok d _ => .ok d s
  | .exn x _ => .exn x s
  | .stuck => .stuck
/-- the lambda c of the text does F; N its names: parameters ps, captured ones, then others -/
structure LamAt (P : Program) (w : World) (K : PySem.W.Frag) (mg : Str → Option Value) (base : Heap) (g : G) (k : Nat) (c : Nat) (ar : Nat) (m : Md) (F : Fn) : Prop where
  ex : ∃ (N ps : List Str) (e : EM D), ps.length = ar ∧ F = lamF N.length e ∧ NdefX.NScope N ps (g.CT c).fr (g.CT c).scope ∧
    (∀ (cl : List (Str × Addr)) (pm ctv : Value) (c' : Addr) (us : List Value), us.length = ps.length → bindArgs (PySem.W.kla_fn "<lambda>" (g.CT c).qual (g.CT c).params (g.CT c).body (g.CT c).scope cl pm (.ref c') ctv) ⟨us, []⟩ = pure (ps.zip us)) ∧
    ∀ (f c' : Addr) (cl : List (Str × Addr)) (A : Around) (outer : List PySem.Env) (s0 : Shared) (H : Hp) (E : XK) (B : Addr → Prop), Room k (A.deeper (NdefX.envF ((g.CT c).nf cl c') f s0.heap.objs.size)) →
      XE (NdefX.ncx (L2.CX P w) P w K mg base N ((g.CT c).nf cl c') f A outer s0 H E) (frF g N.length m [] (fun _ => 0) B H E) (kinds0 (ar + (g.CT c).fr.length) N.length) (g.CT c).body m e
theorem LamAt.mono {P : Program} {w : World} {K : PySem.W.Frag} {mg : Str → Option Value} {base : Heap} {g : G} {j k : Nat} {c ar : Nat} {m : Md} {F : Fn} (h : LamAt P w K mg base g j c ar m F) (l : j ≤ k) : LamAt P w K mg base g k c ar m F := by
  obtain ⟨N, ps, e, h1, h2, h3, h4, h5⟩ := h.ex
  exact ⟨N, ps, e, h1, h2, h3, h4, fun f c' cl A outer s0 H E B hr => h5 f c' cl A outer s0 H E B (hr.mono l)⟩
section
variable {P : Program} {w : World} {K : PySem.W.Frag} {mg : Str → Option Value} {base : Heap} {g : G} {k c ar : Nat} {m : Md} {F : Fn}
/-- the promise of a closure's call, in a heap that tracks its cells -/
theorem clo_call {A : Around} {outer : List PySem.Env} {s : Shared} {H : Hp} {us : List Value} {vs ws : List V} {as ds : List D} {f c' : Addr} {cl : List (Str × Addr)} {Q : VK} {E : XK} {B : Addr → Prop} (L : LamAt P w K mg base g k c ar m F) (hm : m = .sh ∨ m = .own []) (hr : Room (k + 1) A) (e0 : Env0 P w K mg base A outer s H)
    (C : CloAt g nc H c ws f cl c') (hB : ∀ a, B a → ∃ o, H a = some o ∧ Mu o) (s1 : ShA g nc B H as vs) (s2 : ShA g nc B (hide cl H) ds ws) (n1 : D.noCloA as = true) (ha : as.length = ar) (r : Vals vs us) (tb : NdefX.TabsN g.T H)
    (q : match F (as ++ ds) () with
      | .ok d _ => ∀ v H', Kp (fun _ => False) H H' → NdefX.TabsN g.T H' → VR g B H H' m d v → Q v H'
      | .exn x _ => ∀ cls dx H', Kp (fun _ => False) H H' → NdefX.TabsN g.T H' → ExV g B x cls dx H' → E cls dx H'
      | .stuck => False) : codeAny (model P w) A (.call (.ref f) ⟨us, []⟩) (CR (L2.CX P w) outer P w H s Q E) s := by
  obtain ⟨N, ps, e, rfl, rfl, S, hb, hbody⟩ := L.ex
  obtain ⟨cs, h1, h2⟩ := cells_list (H := H) (cl := cl) (g.CT c).fr fun y hy => by
    obtain ⟨a, ea⟩ := List.mem_iff_getElem?.mp hy |>.elim fun i hi => C.has i y hi
    obtain ⟨i, hi⟩ := List.mem_iff_getElem?.mp hy
    obtain ⟨w', _, cw⟩ := C.at_ i y a hi ea
    rcases cw with z | ⟨o, u, e1, e2, _⟩
    · exact z.elim
    · exact ⟨a, o, u, ea, e1, e2⟩
  have hp : ∀ b o, cs.lookup b = some o → H b = some (cellO b o) := fun b o z => (h1 b o z).1
  have hc : ∀ b o, cs.lookup b = some o → s.heap.get? b = some o := fun b o z => (e0.hok b _ (hp b o z)).1
  have cell : ∀ b o, cs.lookup b = some o → ∃ v, o.data = .cell v := fun b o z => let ⟨_, ⟨u, e⟩, _⟩ := h1 b o z; ⟨_, e⟩
  have hfs : ∀ b o, cs.lookup b = some o → b ∉ frs outer := fun b o z m => by
    have := e0.frf b m
    rw [hp b o z] at this; cases this
  have mv : ∀ a o, H a = some o → (∀ o', o ≠ cellO a o') → unpin cs H a = some o := fun a o e n => by
    cases z : cs.lookup a with
    | none => rw [unpin_out z]; exact e
    | some oc =>
      rw [hp a oc z] at e; cases e
      exact absurd rfl (n oc)
  have e1 : Env0 P w K mg base A outer s (unpin cs H) := ⟨e0.frames, e0.mod, fun b o x => ⟨(e0.bs b o x).1, by
    cases z : cs.lookup b with
    | none => rw [unpin_out z]; exact (e0.bs b o x).2
    | some oc => exact unpin_at z⟩, e0.bsz, e0.funs, fun b hb => by
    cases z : cs.lookup b with
    | none => rw [unpin_out z]; exact e0.frf b hb
    | some oc => exact unpin_at z, unpin_hok e0.hok hp, e0.bare⟩
  obtain ⟨⟨pm, ctv, hf⟩, _, _⟩ := e0.hok f _ C.fn
  have CA : NdefX.CellsAt cl (g.CT c).fr (ws.map some) s.heap (unpin cs H) := by
    refine ⟨by rw [List.length_map]; exact C.len, fun y a ea => ?_, C.inj, fun i y hi => ?_⟩
    · obtain ⟨o, eo⟩ := h2 y (C.sub y a ea) a ea
      obtain ⟨v, ev⟩ := cell a o eo
      exact ⟨unpin_at eo, v, o, hc a o eo, ev⟩
    · obtain ⟨a, ea⟩ := C.has i y hi
      obtain ⟨w', ew, cw⟩ := C.at_ i y a hi ea
      refine ⟨a, ea, fun v ev => ?_⟩
      rw [List.getElem?_map, ew] at ev
      cases ev
      rcases cw with z | ⟨o, u, q1, q2, q3⟩
      · exact z.elim
      · exact ⟨u, q3, o, (e0.hok a _ q1).1, q2⟩
  have lens : vs.length = ps.length := by rw [s1.length, ha]
  refine codeAny_mono (lam_run (E := fun cls d H' => (∀ b o, cs.lookup b = some o → H' b = none) → E cls d (pin cs H')) (Q := fun v H' => (∀ b o, cs.lookup b = some o → H' b = none) → Q v (pin cs H')) S (hb cl pm ctv c' us (by rw [← r.length]; exact lens)) (fun hr' => hbody f c' cl A outer s (unpin cs H) (fun cls d H' => (∀ b o, cs.lookup b = some o → H' b = none) → E cls d (pin cs H')) B hr') hr e1 hf (NdefX.codeO_at e0.hok C.code) CA r lens ?_) fun rr s' x => cr_unpin cell hp hc hfs x (fun v H' hn z => z hn) fun cl d H' hn z => z hn
  have hN : ps.length + (g.CT c).fr.length ≤ N.length := by
    have q := congrArg List.length S.pre
    rw [List.length_take, List.length_append] at q
    omega
  have dl : ds.length = (g.CT c).fr.length := by rw [← s2.length, C.len]
  have st : NdefX.startF N vs (ws.map some) = L2.start N (vs ++ ws) := by
    unfold NdefX.startF L2.start
    rw [List.map_append, List.append_assoc, List.length_append, List.length_map, Nat.sub_sub]
  rw [st]
  have hu : hide cl H = unpin cs H := by
    funext b
    by_cases z : ∃ y, cl.lookup y = some b
    · obtain ⟨y, ey⟩ := z
      obtain ⟨o, eo⟩ := h2 y (C.sub y b ey) b ey
      rw [hide_in ⟨y, ey⟩, unpin_at eo]
    · rw [hide_out z]
      cases q : cs.lookup b with
      | none => rw [unpin_out q]
      | some o => exact absurd (h1 b o q).2.2 z
  rw [hu] at s2
  have sA : ShA g nc B (unpin cs H) (as ++ ds) (vs ++ ws) := (ShA.moved mv _ _ n1 s1).append s2
  have tb1 : NdefX.TabsN g.T (unpin cs H) := fun p hpT => by
    obtain ⟨pz, t1, t2, t3⟩ := tb p hpT
    refine ⟨pz, mv _ _ t1 (fun o' z => by cases z), t2, fun pos cv hcv => ?_⟩
    obtain ⟨x, x1, x2⟩ := t3 pos cv hcv
    exact ⟨x, x1, mv _ _ x2 fun o' z => by unfold LamX.CodeO at z; cases z⟩
  have R := start_rel (g := g) (rm := m) (caps := []) (cell := fun _ => 0) (E := fun cls d H' => (∀ b o, cs.lookup b = some o → H' b = none) → E cls d (pin cs H')) (N := N) (n := N.length) rfl (by rw [List.length_append, ha, dl]; exact hN) (fun a z => let ⟨o, x1, x2⟩ := hB a z; ⟨o, mv a o x1 (fun o' q => by rw [q] at x2; exact x2), x2⟩) sA tb1
  rw [List.length_append, ha, dl] at R
  refine ⟨_, _, R, ?_⟩
  -- from the run's heap to the caller's
  have kf : ∀ {H' : Hp}, Kp (fun a => a ∈ ([] : List Addr)) (unpin cs H) H' → (∀ b o, cs.lookup b = some o → H' b = none) → Kp (fun _ => False) H (pin cs H') := fun {H'} kk hn => by
    refine ⟨fun a o x _ nt => ?_, fun a x => ?_⟩
    · cases z : cs.lookup a with
      | none =>
        rw [pin_out z]
        exact kk.1 a o (by rw [unpin_out z]; exact x) (fun _ z => nomatch z) nt
      | some oc =>
        rw [hp a oc z] at x; cases x
        exact pin_at z
    · cases z : cs.lookup a with
      | none =>
        rw [pin_out z] at x
        have := kk.2 a x
        rw [unpin_out z] at this
        exact this
      | some oc => rw [pin_at z] at x; cases x
  have ext : ∀ {H' : Hp}, (∀ b o, cs.lookup b = some o → H' b = none) → ∀ b o, H' b = some o → pin cs H' b = some o := fun {H'} hn b o x => by
    cases z : cs.lookup b with
    | none => rw [pin_out z]; exact x
    | some oc => rw [hn b oc z] at x; cases x
  have kx : ∀ {H' : Hp}, (∀ b o, cs.lookup b = some o → H' b = none) → Kp (fun _ => False) H' (pin cs H') := fun {H'} hn => ⟨fun b o x _ _ => ext hn b o x, fun b x => by
    cases y : H' b with
    | none => rfl
    | some o => rw [ext hn b o y] at x; cases x⟩
  unfold lamF at q
  cases ee : e (startE N.length (as ++ ds)) with
  | ok d ρ' =>
    rw [ee] at q
    intro v H' Ls R' k' vo n hn
    refine q v _ (kf R'.keep hn) (R'.tabs.ext (ext hn)) ?_
    rcases hm with rfl | rfl
    · show Sh g nc B (pin cs H') d v
      exact (Sh.kp (kx hn) (fun _ z => z.elim) vo.2).sub fun a z => .inl z
    · refine ⟨Ls, Ow.mono (kx hn) d v Ls (fun _ _ z => z) vo, n.1, fun a ha => ?_⟩
      have hu : unpin cs H a = none := (n.2 a ha).resolve_right fun ⟨_, z, _⟩ => nomatch z
      cases z : cs.lookup a with
      | none => rw [unpin_out z] at hu; exact hu
      | some oc =>
        obtain ⟨o, eo, _⟩ := Ow.there d v Ls vo a ha
        have eo : H' a = some o := eo
        rw [hn a oc z] at eo; cases eo
  | exn y ρ' =>
    rw [ee] at q
    intro cls dx H' R' k' ex hn
    exact q cls dx _ (kf R'.keep hn) (R'.tabs.ext (ext hn)) (ex.mono (kx hn) (fun _ z => z.elim) fun a z => .inl z)
  | stuck => rw [ee] at q; exact q
end
end PP
-- PP25
/-! PP25: a closure that a name holds is called. -/
namespace PP
open PySem PySem.Spec PyProof.Rows L2
/-- y(e, ..), y a closure of those that tab tells -/
def eClo (tab : List (Nat × Fn)) (i : Nat) (r : EM (List D)) : EM D := do
  let v ← eV i
  match v with
  | .clo c ds => do
    let xs ← r
    match tab.lookup c with
    | some F => if D.noCloA xs = true then lift (F (xs ++ ds)) else M.stuck
    | none => M.stuck
  | _ => M.stuck
section
variable {X : Cx} {f : Fr} {Γ : List Kd} {e : Expr} {es : List Expr} {r : EM (List D)} {pos p : Pos} {m : Md} {ms : List Md} {k : Nat} {y : Str}
theorem xe_clo {tab : List (Nat × Fn)} (i : Nat) (A : ∀ c F, tab.lookup c = some F → LamAt X.prog X.w X.K X.mg X.base f.g k c ms.length m F) (hr : Room (k + 1) X.A) (tk : Takes X f.W) (ha : XA X f Γ (e :: es) ms r) (hk : Γ.getD i .un = .sh) (hm : argOk m ms = true := by rfl) (hmt : m = .sh ∨ m = .own [] := by first | exact Or.inl rfl | exact Or.inr rfl)
    (hN : X.N[i]? = some y := by rfl) (hv : Vis X.env.scope y := by first | exact Or.inl rfl | exact Or.inr (Or.inl rfl) | exact Or.inr (Or.inr rfl)) (hd : (y == ("__debug__" : Str)) = false := by decide) (hcd : (y == ("__classdict__" : Str)) = false := by decide)
    (he : starEach (e :: es) X.env = (false, eval e X.env) :: starEach es X.env := by rfl) (hpl : (backTo pos (starEach es X.env)).any (·.1) = false := by rfl) :
    XE X f Γ (.Call (.Name y p) (e :: es) [] pos) m (eClo tab i r) := by
  refine ⟨fun pins s σ H Q I ⟨ρ, gh, R, q⟩ => ?_⟩
  have sl := R.slot i
  rw [hk] at sl
  obtain ⟨_, d0, v0, e1, e2, s0⟩ := sl
  have q : Ob f Γ m gh σ H ((eV i >>= fun v => match v with
    | .clo c ds => (r >>= fun xs => match tab.lookup c with
      | some F => if D.noCloA xs = true then lift (F (xs ++ ds)) else M.stuck
      | none => M.stuck)
    | _ => M.stuck) ρ) Q := q
  rw [bind_ap] at q
  unfold eV at q
  rw [e1] at q
  dsimp only at q
  cases d0 with
  | clo c ds =>
    dsimp only at q
    simp only [Sh] at s0
    obtain ⟨fa, cl, c', ws, rfl, C, sd⟩ := s0
    refine wpAny_Call_Name_kw (thn ((pe_var (pos := p) hN hv hd hcd).run pins s σ H (fun v H1 => v = .ref fa ∧ H1 = H) I ⟨.ref fa, getD_some e2, rfl, rfl⟩) fun u s1 ⟨v, H1, I1, r1, q1⟩ => ?_)
    obtain ⟨rfl, rfl⟩ := q1
    obtain rfl : u = Value.ref fa := r1
    have fAt : ∀ {s : Shared} {H : Hp}, Inv X pins σ H s → H fa = some (LamO fa (f.g.CT c) cl c') → PySem.W.FnAt fa s.heap := fun {s H} J x => by
      obtain ⟨⟨pm, ctv, hf⟩, _, _⟩ := J.hok fa _ x
      exact ⟨_, _, _, _, hf⟩
    refine PySem.W.callWith_F (first := []) (fAt I1 C.fn) (thn (ha.run pos pins s1 σ H1 (fun vs H2 => ∀ us s2, Inv X pins σ H2 s2 → Vals vs us → PySem.W.FnAt fa s2.heap ∧ wpAny (model X.prog X.w) X.A (call (.ref fa) ([] ++ us)) (EP X pins σ Q) X.xe s2) I1 ?_) fun us s2 ⟨vs, H2, I2, rv, z⟩ => z us s2 I2 rv) he hpl
    refine RA.fst R q fun xs ρ1 vs H2 L R1 k1 vo n1 w => ?_
    intro us s2 I2 rv
    have sb := Sx_sub R
    have C2 := C.kp k1
    have sd2 := sd.kp (k1.hide cl) sb
    refine ⟨fAt I2 C2.fn, ?_⟩
    cases el : tab.lookup c with
    | none => rw [el] at w; exact w.elim
    | some F =>
      rw [el] at w
      dsimp only at w
      by_cases hc : D.noCloA xs = true
      case neg => rw [if_neg hc] at w; exact w.elim
      rw [if_pos hc] at w
      have w := w.shift k1
      show wpAny (model X.prog X.w) X.A (call (.ref fa) us) (EP X pins σ Q) X.xe s2
      have fin : ∀ (B : Addr → Prop), (∀ a, B a → Bx f Γ gh a) → (∀ a, Bo f Γ a → B a) → ShA f.g nc B H2 xs vs → (∀ d v H', VR f.g B H2 H' m d v → ∃ L', VO f.g (f.oc σ) (Bo f Γ) (Bx f Γ gh) H' m d v L' ∧ NewIn H2 Γ gh m.U L') → wpAny (model X.prog X.w) X.A (call (.ref fa) us) (EP X pins σ Q) X.xe s2 := fun B hB hBo sx vr => by
        refine wpAny_call (codeAny_mono (clo_call (Q := Q) (E := fun cls d H' => f.W cls d σ H') (B := B) (A c F el) hmt hr I2.env0 C2 (fun a z => R1.bx a (hB a z)) sx (sd2.sub hB) hc vo.len.2 rv R1.tabs ?_) fun rr s' hq => ?_)
        · cases ef : F (xs ++ ds) () with
          | ok d u =>
            rw [lift_ok' ef] at w
            intro v H' kk t rr
            obtain ⟨L', vo', n'⟩ := vr d v H' rr
            exact w v H' L' (R1.kp kk t) (kk.mono fun _ z => z.elim) vo' n'
          | exn x u =>
            rw [lift_exn ef] at w
            intro cls dx H' kk t ex
            exact w cls dx H' (R1.kp kk t) (kk.mono fun _ z => z.elim) (ex.mono (S := fun _ => False) Kp.refl (fun _ z => z.elim) hBo)
          | stuck => rw [lift_stuck ef] at w; exact w.elim
        · cases rr with
          | error e => exact tk e s' (XE.of_call I2 (fun _ _ _ h => h) hq)
          | ok fl =>
            cases fl with
            | ret u => exact I2.after hq
            | next => exact False.elim hq
            | brk => exact False.elim hq
            | cont => exact False.elim hq
      rcases hmt with rfl | rfl
      · exact fin (Bx f Γ gh) (fun _ z => z) (Bo_sub R1) (VsO.sh hm vo).1 fun d v H' rr => ⟨[], ⟨rfl, rr⟩, nil_new⟩
      · refine fin (Bo f Γ) (Bo_sub R1) (fun _ z => z) (VsO.bor hm vo).1 fun d v H' rr => ?_
        obtain ⟨L', o', nd', fr⟩ := rr
        exact ⟨L', o', nd', fun a ha => .inl (fr a ha)⟩
  | _ => exact q.elim
theorem xe_clo0 {tab : List (Nat × Fn)} (i : Nat) (A : ∀ c F, tab.lookup c = some F → LamAt X.prog X.w X.K X.mg X.base f.g k c 0 m F) (hr : Room (k + 1) X.A) (tk : Takes X f.W) (hk : Γ.getD i .un = .sh) (hmt : m = .sh ∨ m = .own [] := by first | exact Or.inl rfl | exact Or.inr rfl)
    (hN : X.N[i]? = some y := by rfl) (hv : Vis X.env.scope y := by first | exact Or.inl rfl | exact Or.inr (Or.inl rfl) | exact Or.inr (Or.inr rfl)) (hd : (y == ("__debug__" : Str)) = false := by decide) (hcd : (y == ("__classdict__" : Str)) = false := by decide) :
    XE X f Γ (.Call (.Name y p) [] [] pos) m (eClo tab i eNil) := by
  refine ⟨fun pins s σ H Q I ⟨ρ, gh, R, q⟩ => ?_⟩
  have sl := R.slot i
  rw [hk] at sl
  obtain ⟨_, d0, v0, e1, e2, s0⟩ := sl
  have q : Ob f Γ m gh σ H ((eV i >>= fun v => match v with
    | .clo c ds => (eNil >>= fun xs => match tab.lookup c with
      | some F => if D.noCloA xs = true then lift (F (xs ++ ds)) else M.stuck
      | none => M.stuck)
    | _ => M.stuck) ρ) Q := q
  rw [bind_ap] at q
  unfold eV at q
  rw [e1] at q
  dsimp only at q
  cases d0 with
  | clo c ds =>
    dsimp only at q
    simp only [Sh] at s0
    obtain ⟨fa, cl, c', ws, rfl, C, sd⟩ := s0
    refine wpAny_Call_Name_kw (thn ((pe_var (pos := p) hN hv hd hcd).run pins s σ H (fun v H1 => v = .ref fa ∧ H1 = H) I ⟨.ref fa, getD_some e2, rfl, rfl⟩) fun u s1 ⟨v, H1, I1, r1, q1⟩ => ?_)
    obtain ⟨rfl, rfl⟩ := q1
    obtain rfl : u = Value.ref fa := r1
    have fAt : ∀ {s : Shared} {H : Hp}, Inv X pins σ H s → H fa = some (LamO fa (f.g.CT c) cl c') → PySem.W.FnAt fa s.heap := fun {s H} J x => by
      obtain ⟨⟨pm, ctv, hf⟩, _, _⟩ := J.hok fa _ x
      exact ⟨_, _, _, _, hf⟩
    refine PySem.W.callWith_F0 (first := []) (fAt I1 C.fn) ?_
    have C2 := C
    have sd2 := sd
    have R1 := R
    have I2 := I1
    have q : Ob f Γ m gh σ H1 ((match tab.lookup c with
      | some F => if D.noCloA [] = true then lift (F ([] ++ ds)) else M.stuck
      | none => M.stuck : EM D) ρ) Q := q
    have w := q
    cases el : tab.lookup c with
    | none => rw [el] at w; exact w.elim
    | some F =>
      rw [el] at w
      dsimp only at w
      by_cases hc : D.noCloA [] = true
      case neg => rw [if_neg hc] at w; exact w.elim
      rw [if_pos hc] at w
      show wpAny (model X.prog X.w) X.A (call (.ref fa) []) (EP X pins σ Q) X.xe s1
      have fin : ∀ (B : Addr → Prop), (∀ a, B a → Bx f Γ gh a) → (∀ a, Bo f Γ a → B a) → (∀ d v H', VR f.g B H1 H' m d v → ∃ L', VO f.g (f.oc σ) (Bo f Γ) (Bx f Γ gh) H' m d v L' ∧ NewIn H1 Γ gh m.U L') → wpAny (model X.prog X.w) X.A (call (.ref fa) []) (EP X pins σ Q) X.xe s1 := fun B hB hBo vr => by
        refine wpAny_call (codeAny_mono (clo_call (Q := Q) (E := fun cls d H' => f.W cls d σ H') (B := B) (A c F el) hmt hr I2.env0 C2 (fun a z => R1.bx a (hB a z)) (as := []) (vs := []) (by simp only [ShA]) (sd2.sub hB) hc rfl .nil R1.tabs ?_) fun rr s' hq => ?_)
        · cases ef : F ([] ++ ds) () with
          | ok d u =>
            rw [lift_ok' ef] at w
            intro v H' kk t rr
            obtain ⟨L', vo', n'⟩ := vr d v H' rr
            exact w v H' L' (R1.kp kk t) (kk.mono fun _ z => z.elim) vo' n'
          | exn x u =>
            rw [lift_exn ef] at w
            intro cls dx H' kk t ex
            exact w cls dx H' (R1.kp kk t) (kk.mono fun _ z => z.elim) (ex.mono (S := fun _ => False) Kp.refl (fun _ z => z.elim) hBo)
          | stuck => rw [lift_stuck ef] at w; exact w.elim
        · cases rr with
          | error e => exact tk e s' (XE.of_call I2 (fun _ _ _ h => h) hq)
          | ok fl =>
            cases fl with
            | ret u => exact I2.after hq
            | next => exact False.elim hq
            | brk => exact False.elim hq
            | cont => exact False.elim hq
      rcases hmt with rfl | rfl
      · exact fin (Bx f Γ gh) (fun _ z => z) (Bo_sub R1) fun d v H' rr => ⟨[], ⟨rfl, rr⟩, nil_new⟩
      · refine fin (Bo f Γ) (Bo_sub R1) (fun _ z => z) fun d v H' rr => ?_
        obtain ⟨L', o', nd', fr⟩ := rr
        exact ⟨L', o', nd', fun a ha => .inl (fr a ha)⟩
  | _ => exact q.elim
end
end PP
-- PP26
/-! PP26: a lambda is made. -/
namespace PP
open PySem PySem.Spec PyProof.Rows L2
section
variable {X : Cx} {pins : List (Addr × Obj)} {σ : L2.St} {H : Hp} {s : Shared}
theorem lam_mk {T : List (Addr × Str)} {cd tb : Addr} {ar : Arguments} {bd : Expr} {sc : Scope} {at_ : Pos} {E : Value → Shared → Prop} {Q : Value → Shared → Prop} (J : Inv X pins σ H s) (TB : LamX.TabB X.base X.mg cd tb) (hcode : X.env.code = .ref cd)
    (hm : (tb, X.env.qual ++ "<lambda>") ∈ T) (hu : ∀ p ∈ T, p.1 = tb → p.2 = X.env.qual ++ "<lambda>") (hT : LamX.Tabs T H) (hdef : defaultsOf ar X.env = ([], [])) (hfree : ∀ y ∈ sc.names, y.2 = .free → ∃ c, X.env.cells.lookup y.1 = some c)
    (fr : List Str) (go : ∀ (f c2 : Addr) (H1 : Hp) (s2 : Shared), Inv X pins σ (upd H1 f (LamO f ⟨X.env.qual ++ "<lambda>", ar, bd, sc, fr⟩ (cloFrom X.env.cells sc.names []) c2)) s2 → LamX.ExtN H H1 → (∀ b, H1 b = none → H b = none) → LamX.Tabs T H1 →
      H1 f = none → s.heap.objs.size ≤ f → H1 c2 = some (LamX.CodeO c2 (X.env.qual ++ "<lambda>")) → Q (.ref f) s2) :
    wpAny (model X.prog X.w) X.A (eval (.Lambda ar bd sc at_) X.env) Q E s := by
  obtain ⟨tps, eT, tok, told⟩ := hT _ hm
  have lamOk : ∀ {H' : Hp} {h : Heap} {f nc : Addr} {pm ctv : Value}, h.get? f = some (PySem.W.kla_obj "<lambda>" (X.env.qual ++ "<lambda>") ar bd sc (cloFrom X.env.cells sc.names []) pm nc ctv) → ObjOk X.prog X.w H' h f (LamO f ⟨X.env.qual ++ "<lambda>", ar, bd, sc, fr⟩ (cloFrom X.env.cells sc.names []) nc) := fun {H' h f nc pm ctv} e =>
    ⟨⟨pm, ctv, e⟩, ⟨_, e⟩, fun h1 h2 ⟨p1, c1, e1⟩ k => ⟨p1, c1, k _ e1⟩⟩
  refine PySem.W.kla_eval hdef ?_
  have bT : s.heap.BuiltinsAt X.mg tb := TB.bm.keeps J.bk
  have oT : s.heap.get? tb = some { cls := .none, data := .fields tps } := J.hok tb _ eT
  cases hit : codeAmong at_ tps.toList with
  | none =>
    refine PySem.W.kla_makeFunction (mg := X.mg) (c := cd) (P := tb) (ps := tps) (closure_ok hfree) J.ok.glob (J.mod.glob.keeps J.bk) hcode (TB.code.keeps J.bk) oT tok hit TB.gP bT fun nc ctv hp2 tk2 kx ge lt rec_ wr => ?_
    obtain ⟨c2, oc, vs, t, e2, hoc, hd, hv⟩ := rec_
    cases e2
    have szl : s.heap.objs.size ≤ hp2.objs.size := Nat.le_trans ge (Nat.le_of_lt lt)
    have nC : H nc = none := J.hok.fresh ge
    have J0 := LamX.inv_table (t' := tk2) (more := #[rawInt at_.line, rawInt at_.col, .ref nc]) (h' := hp2) J eT (fun b o hb e => kx b o hb e) wr ge ⟨oc, vs, t, hoc, hd, hv⟩
    have J1 := J0.laid (t' := tk2) (h' := hp2.push (PySem.W.kla_obj "<lambda>" (X.env.qual ++ "<lambda>") ar bd sc (cloFrom X.env.cells sc.names []) ((X.mg "__name__").getD .none) nc ctv)) (fun b o e => Heap.get?_push_of_some _ e) (Nat.le_refl _) (lamOk (Heap.get?_push_size _ rfl))
    have ext : LamX.ExtN H (upd (upd H tb (.tbl (tps ++ #[rawInt at_.line, rawInt at_.col, .ref nc]))) nc (LamX.CodeO nc (X.env.qual ++ "<lambda>"))) := fun b o e nt => by
      rw [upd_ne (ne_of_none e nC), upd_ne (fun z => nt tps (Option.some.inj (e.symm.trans (by rw [z]; exact eT))))]
      exact e
    have tl : (tps ++ #[rawInt at_.line, rawInt at_.col, .ref nc]).toList = tps.toList ++ [rawInt at_.line, rawInt at_.col, .ref nc] := by simp
    refine go hp2.objs.size nc _ _ J1 ext (fun b e => upd_none (upd_none e)) (fun p hp => ?_) ?_ szl upd_same
    · by_cases hb : p.1 = tb
      · rw [hu p hp hb, hb]
        refine ⟨_, by rw [upd_ne (ne_of_none eT nC), upd_same], by rw [tl]; exact PySem.TriplesOk_snoc _ _ _ _ tok, fun q cv hcv => ?_⟩
        rw [tl] at hcv
        rcases LamX.among_app _ tok hcv with z | z
        · obtain ⟨c0, e1, e2⟩ := told q cv z
          exact ⟨c0, e1, ext _ _ e2 LamX.codeO_ne⟩
        · exact ⟨nc, z, upd_same⟩
      · obtain ⟨qs, a1, a2, a3⟩ := hT p hp
        refine ⟨qs, by rw [upd_ne (ne_of_none a1 nC), upd_ne hb]; exact a1, a2, fun q cv hcv => ?_⟩
        obtain ⟨c0, e1, e2⟩ := a3 q cv hcv
        exact ⟨c0, e1, ext _ _ e2 LamX.codeO_ne⟩
    · have n1 : hp2.objs.size ≠ nc := Nat.ne_of_gt lt
      have n2 : hp2.objs.size ≠ tb := Nat.ne_of_gt (Nat.lt_of_lt_of_le (Heap.lt_size oT) szl)
      rw [upd_ne n1, upd_ne n2]
      exact J.hok.fresh szl
  | some cv =>
    obtain ⟨nc, e, hco⟩ := told at_ cv hit
    subst e
    refine PySem.W.kla_makeFunctionHit (mg := X.mg) (c := cd) (P := tb) (ps := tps) (closure_ok hfree) J.ok.glob (J.mod.glob.keeps J.bk) hcode (TB.code.keeps J.bk) oT tok hit bT fun ctv hp2 tk2 kx szl => ?_
    have J0 : Inv X pins σ H { s with heap := hp2, toks := tk2 } := J.kept fun b o e => kx b o e
    have J1 := J0.laid (t' := tk2) (h' := hp2.push (PySem.W.kla_obj "<lambda>" (X.env.qual ++ "<lambda>") ar bd sc (cloFrom X.env.cells sc.names []) ((X.mg "__name__").getD .none) nc ctv)) (fun b o e => Heap.get?_push_of_some _ e) (Nat.le_refl _) (lamOk (Heap.get?_push_size _ rfl))
    exact go hp2.objs.size nc H _ J1 (LamX.ExtN.refl H) (fun _ e => e) hT (J.hok.fresh szl) szl hco
end
end PP
-- PP27
/-! PP27: a lambda as a value. -/
namespace PP
open PySem PySem.Spec PyProof.Rows L2
/-- what the slots js hold -/
def slotsD (ρ : Env) : List Nat → Option (List D)
  | [] => some []
  | j :: js => (ρ.getD j none).bind fun d => (slotsD ρ js).map fun ds => d :: ds
def eLam (ci : Nat) (js : List Nat) : EM D := fun ρ => match slotsD ρ js with
  | some ds => .ok (.clo ci ds) ρ
  | none => .stuck
instance {j ci : Nat} {js : List Nat} : Pu j (eLam ci js) := Pu.same fun ρ y ρ' e => by
  unfold eLam at e
  split at e <;> cases e
  rfl
structure LamOk (X : Cx) (f : Fr) (sc : Scope) (fr : List Str) (js : List Nat) : Prop where
  names : js.map (fun j => X.N[j]?) = fr.map some
  caps : ∀ j ∈ js, j ∈ f.caps
  cell : ∀ j ∈ js, ∀ y, X.N[j]? = some y → X.env.cells.lookup y = some (f.cell j)
  free : ∀ y ∈ sc.names, y.2 = .free → y.1 ∈ fr
  frees : ∀ y ∈ fr, (y, NameKind.free) ∈ sc.names
section
variable {X : Cx} {f : Fr} {Γ : List Kd}
theorem slots_sh {ρ : Env} {gh : Nat → List Addr} {σ : L2.St} {H : Hp} (R : Rel f Γ ρ gh σ H) : ∀ {js : List Nat} {ds : List D}, (∀ j ∈ js, Γ.getD j .un = .sh) → slotsD ρ js = some ds → ∃ ws, ShA f.g nc (Bx f Γ gh) H ds ws ∧ ws.length = js.length ∧ ∀ (i j : Nat), js[i]? = some j → ∃ w, ws[i]? = some w ∧ σ.getD j none = some w
  | [], ds, _, e => by
    cases e
    exact ⟨[], by simp only [ShA], rfl, fun i j e => by simp at e⟩
  | j :: js, ds, hk, e => by
    simp only [slotsD, Option.bind_eq_some_iff, Option.map_eq_some_iff] at e
    obtain ⟨d, e1, ds', e2, rfl⟩ := e
    obtain ⟨ws, h1, h2, h3⟩ := slots_sh R (fun j hj => hk j (List.mem_cons_of_mem _ hj)) e2
    have s := R.slot j
    rw [hk j List.mem_cons_self] at s
    obtain ⟨_, d', v, e3, e4, sv⟩ := s
    rw [e1] at e3; cases e3
    refine ⟨v :: ws, by simp only [ShA]; exact ⟨v, ws, rfl, sv, h1⟩, by simp [h2], fun i k e => ?_⟩
    cases i with
    | zero => cases e; exact ⟨v, rfl, e4⟩
    | succ i => exact h3 i k (by simpa using e)
theorem xe_lam (ci : Nat) (js : List Nat) {T0 : List (Addr × Str)} {ar : Arguments} {bd : Expr} {sc : Scope} {fr : List Str} {cd tb : Addr} {pos : Pos} (hCT : f.g.CT ci = ⟨X.env.qual ++ "<lambda>", ar, bd, sc, fr⟩) (TB : LamX.TabB X.base X.mg cd tb) (hcode : X.env.code = .ref cd)
    (hT0 : f.g.T = T0.map fun p => (p.1, fun _ _ => p.2)) (hm : (tb, X.env.qual ++ "<lambda>") ∈ T0) (hu : ∀ p ∈ T0, p.1 = tb → p.2 = X.env.qual ++ "<lambda>") (L : LamOk X f sc fr js) (hk : ∀ j ∈ js, Γ.getD j .un = .sh) (hdef : defaultsOf ar X.env = ([], []) := by rfl) :
    XE X f Γ (.Lambda ar bd sc pos) .cs (eLam ci js) := by
  refine ⟨fun pins s σ H Q I ⟨ρ, gh, R, q⟩ => ?_⟩
  have q : Ob f Γ .cs gh σ H (eLam ci js ρ) Q := q
  unfold eLam at q
  cases es : slotsD ρ js with
  | none => rw [es] at q; exact q.elim
  | some ds =>
    rw [es] at q
    dsimp only at q
    obtain ⟨ws, sw, lw, aw⟩ := slots_sh R hk es
    have ljs : js.length = fr.length := by simpa using congrArg List.length L.names
    have nm : ∀ (i : Nat) (y : Str), fr[i]? = some y → ∃ j, js[i]? = some j ∧ j ∈ js ∧ X.N[j]? = some y := fun i y e => by
      have := congrArg (fun l => l[i]?) L.names
      simp only [List.getElem?_map, e, Option.map_some] at this
      cases ej : js[i]? with
      | none => rw [ej] at this; cases this
      | some j =>
        rw [ej] at this
        exact ⟨j, rfl, List.mem_of_getElem? ej, by simpa using this⟩
    have cellOf : ∀ y ∈ fr, ∃ c, X.env.cells.lookup y = some c := fun y hy => by
      obtain ⟨i, hi⟩ := List.mem_iff_getElem?.mp hy
      obtain ⟨j, _, hj, hn⟩ := nm i y hi
      exact ⟨_, L.cell j hj y hn⟩
    have hfree : ∀ y ∈ sc.names, y.2 = .free → ∃ c, X.env.cells.lookup y.1 = some c := fun y hy e => cellOf y.1 (L.free y hy e)
    have T1 : LamX.Tabs T0 H := fun p hp => NdefX.TabN.to (R.tabs (p.1, fun _ _ => p.2) (by rw [hT0]; exact List.mem_map.mpr ⟨p, hp, rfl⟩))
    refine lam_mk I TB hcode hm hu T1 hdef hfree fr fun fa c2 H1 s2 J ext nn T2 nf _ hc2 => ?_
    have kp : Kp (fun _ => False) H H1 := ⟨fun a o e _ nt => ext a o e nt, nn⟩
    have tn : NdefX.TabsN f.g.T H1 := fun p hp => by
      rw [hT0] at hp
      obtain ⟨p0, h0, rfl⟩ := List.mem_map.mp hp
      exact NdefX.TabN.of (T2 p0 h0)
    have R2 := (R.kp kp tn).new (o := LamO fa ⟨X.env.qual ++ "<lambda>", ar, bd, sc, fr⟩ (cloFrom X.env.cells sc.names []) c2) nf
    have kp2 : Kp (fun _ => False) H (upd H1 fa (LamO fa ⟨X.env.qual ++ "<lambda>", ar, bd, sc, fr⟩ (cloFrom X.env.cells sc.names []) c2)) := kp.trans (Kp.upd_new nf)
    have kp3 : Kp (fun _ => False) H (hide (cloFrom X.env.cells sc.names []) (upd H1 fa (LamO fa ⟨X.env.qual ++ "<lambda>", ar, bd, sc, fr⟩ (cloFrom X.env.cells sc.names []) c2))) := by
      have hz : ∀ b y, (cloFrom X.env.cells sc.names []).lookup y = some b → H b = none := fun b y e => I.freeC y b (NdefX.clo_cm hfree e)
      refine ⟨fun a o e m t => ?_, fun a e => ?_⟩
      · rw [hide_out fun ⟨y, z⟩ => by rw [hz a y z] at e; cases e]
        exact kp2.1 a o e m t
      · by_cases q : ∃ y, (cloFrom X.env.cells sc.names []).lookup y = some a
        · obtain ⟨y, q⟩ := q; exact hz a y q
        · rw [hide_out q] at e; exact kp2.2 a e
    refine ⟨.ref fa, _, J, rfl, q (.ref fa) _ [] R2 (kp2.mono fun _ z => z.elim) ⟨rfl, ?_⟩ nil_new⟩
    simp only [Sh]
    refine ⟨fa, cloFrom X.env.cells sc.names [], c2, ws, rfl, ⟨by rw [hCT]; exact upd_same, ?_, by rw [hCT]; show ws.length = fr.length; rw [lw, ljs], fun i y e => ?_, fun y a e => ?_, fun x y a e1 e2 => ?_, fun i y a e1 e2 => ?_⟩, sw.kp kp3 fun _ z => z.elim⟩
    · rw [hCT, upd_ne (ne_of_none hc2 nf)]; exact hc2
    · rw [hCT] at e
      have hy : y ∈ fr := List.mem_of_getElem? e
      obtain ⟨c, hc⟩ := cellOf y hy
      exact ⟨c, NdefX.clo_has hfree (L.frees y hy) hc⟩
    · rw [hCT]
      rcases cloFrom_mem (PySem.mem_of_lookup e) with z | ⟨z, _⟩
      · cases z
      · exact L.free _ z rfl
    · exact I.ok.inj x y a (NdefX.clo_cm hfree e1) (NdefX.clo_cm hfree e2)
    · rw [hCT] at e1
      obtain ⟨j, e3, hj, hn⟩ := nm i y e1
      obtain ⟨w, e4, e5⟩ := aw i j e3
      refine ⟨w, e4, .inl ⟨j, L.caps j hj, ?_, e5⟩⟩
      have h1 := NdefX.clo_cm hfree e2
      rw [L.cell j hj y hn] at h1
      exact Option.some.inj h1
end
end PP
-- PP28
/-! PP28: closures handed to a call. -/
namespace PP
open PySem PySem.Spec PyProof.Rows L2
section
variable {X : Cx} {pins : List (Addr × Obj)} {σ : L2.St} {H : Hp} {s : Shared}
/-- the frame's own cells, their records now -/
structure OwnCells (X : Cx) (s : Shared) (cs : List (Addr × Obj)) : Prop where
  own : ∀ b o, cs.lookup b = some o → ∃ x, (X.fn x = true ∨ (X.base.objs.size ≤ b ∧ b ∉ frs X.stack)) ∧ X.env.cells.lookup x = some b
  at_ : ∀ b o, cs.lookup b = some o → s.heap.get? b = some o ∧ ∃ v, o.data = .cell v
theorem env0_pin {cs : List (Addr × Obj)} (I : Inv X pins σ H s) (O : OwnCells X s cs) : Env0 X.prog X.w X.K X.mg X.base X.A X.stack s (pin cs H) := by
  have e0 := I.env0
  have hn : ∀ b o, cs.lookup b = some o → H b = none := fun b o z => let ⟨x, _, h2⟩ := O.own b o z; I.freeC x b h2
  have gb : ∀ b o, cs.lookup b = some o → X.base.objs.size ≤ b := fun b o z => by
    obtain ⟨x, h1 | h1, h2⟩ := O.own b o z
    · exact Nat.le_trans I.ok.bsz (I.ok.cab x b h1 h2)
    · exact h1.1
  have gf : ∀ b o, cs.lookup b = some o → b ∉ frs X.stack := fun b o z hb => by
    obtain ⟨x, h1 | h1, h2⟩ := O.own b o z
    · have ge := I.ok.cab x b h1 h2
      have out : b ∉ X.fs := fun hfs => by
        obtain ⟨_, o', e', _⟩ := I.ok.funs.mem hfs
        exact absurd (Nat.lt_of_lt_of_le (Heap.lt_size e') ge) (Nat.lt_irrefl _)
      rcases I.ok.stk with hst | ⟨hst, hf⟩
      · rw [hst] at hb; exact out hb
      · rw [hst] at hb
        obtain ⟨en, hen, q⟩ := List.mem_filterMap.mp hb
        rcases List.mem_cons.mp hen with rfl | hen
        · rw [hf] at q
          exact I.cne x b h2 (Option.some.inj q).symm
        · exact out (List.mem_filterMap.mpr ⟨en, hen, q⟩)
    · exact h1.2 hb
  refine ⟨e0.frames, e0.mod, fun b o e => ⟨(e0.bs b o e).1, ?_⟩, e0.bsz, e0.funs, fun b hb => ?_, pin_hok e0.hok hn fun b o z => (O.at_ b o z).1, e0.bare⟩
  · cases z : cs.lookup b with
    | none => rw [pin_out z]; exact (e0.bs b o e).2
    | some oc => exact absurd (Nat.lt_of_lt_of_le (Heap.lt_size e) (gb b oc z)) (Nat.lt_irrefl _)
  · cases z : cs.lookup b with
    | none => rw [pin_out z]; exact e0.frf b hb
    | some oc => exact absurd hb (gf b oc z)
/-- a call with the own cells tracked -/
theorem run_pin {k : Nat} {fa : Addr} {fd : FuncData} {ps : List Str} {sp : Sp} {us : List Value} {vs : List V} {Q : VK} {W : WX} {cs : List (Addr × Obj)} (F : FnOk X.prog X.w X.K X.mg X.base (L2.CX X.prog X.w) k fa fd ps sp) (hr : Room k X.A) (hb : Binds X.K fd ps []) (tk : Takes X W)
    (I : Inv X pins σ H s) (O : OwnCells X s cs) (r : Vals vs us)
    (h : sp vs (pin cs H) (fun v H' => (∀ b o, cs.lookup b = some o → H' b = some (cellO b o)) → Q v (unpin cs H')) (fun c d H' => (∀ b o, cs.lookup b = some o → H' b = some (cellO b o)) → W c d σ (unpin cs H'))) : wpAny (model X.prog X.w) X.A (call (.ref fa) us) (EP X pins σ Q) X.xe s := by
  have hl : us.length = ps.length := by rw [← r.length]; exact F.len _ _ _ _ h
  have hn : ∀ b o, cs.lookup b = some o → H b = none := fun b o z => let ⟨x, _, h2⟩ := O.own b o z; I.freeC x b h2
  have hb2 := hb s us I.kIn (by rw [List.append_nil]; exact hl)
  rw [List.append_nil] at hb2
  refine wpAny_call (codeAny_mono (F.run X.A X.stack s (pin cs H) ⟨us, []⟩ us vs _ _ hr (env0_pin I O) hb2 r h) fun rr s' x => ?_)
  have hq := cr_pin (Q := Q) (E := fun c d H' => W c d σ H') hn (fun b o z => (O.at_ b o z).1) x (fun v H' hp z => z hp) (fun c d H' hp z => z hp)
  cases rr with
  | error e => exact tk e s' (XE.of_call I (fun _ _ _ h => h) hq)
  | ok fl =>
    cases fl with
    | ret u => exact I.after hq
    | next => exact False.elim hq
    | brk => exact False.elim hq
    | cont => exact False.elim hq
end
end PP
-- PP29
/-! PP29: own cells' records. -/
namespace PP
open PySem PySem.Spec PyProof.Rows L2
section
variable {X : Cx} {pins : List (Addr × Obj)} {σ : L2.St} {H : Hp} {s : Shared} {f : Fr}
/-- which slots are own cells -/
structure CapsOk (X : Cx) (f : Fr) : Prop where
  cap : ∀ j ∈ f.caps, ∃ y, X.N[j]? = some y ∧ (X.fn y = true ∨ (X.base.objs.size ≤ f.cell j ∧ f.cell j ∉ frs X.stack)) ∧ X.env.cells.lookup y = some (f.cell j) ∧ X.env.scope.names.lookup y = some .cell
theorem own_cells (I : Inv X pins σ H s) (C : CapsOk X f) : ∀ js : List Nat, (∀ j ∈ js, j ∈ f.caps) → ∃ cs, OwnCells X s cs ∧ ∀ j ∈ js, ∀ w, σ.getD j none = some w → ∃ o u, cs.lookup (f.cell j) = some o ∧ o.data = .cell (some u) ∧ RelV w u
  | [], _ => ⟨[], ⟨fun b o e => by simp at e, fun b o e => by simp at e⟩, fun j h => by cases h⟩
  | j :: js, hj => by
    obtain ⟨cs, O, h2⟩ := own_cells I C js fun k hk => hj k (List.mem_cons_of_mem _ hk)
    obtain ⟨y, hN, hf, hc, hk⟩ := C.cap j (hj j List.mem_cons_self)
    obtain ⟨v, o, ho, hd⟩ := I.cell y _ hc
    refine ⟨(f.cell j, o) :: cs, ⟨fun b ob e => ?_, fun b ob e => ?_⟩, fun k hk w hw => ?_⟩
    · by_cases q : b = f.cell j
      · exact ⟨y, by rw [q]; exact hf, by rw [q]; exact hc⟩
      · rw [List.lookup_cons, show (b == f.cell j) = false from by simpa using q] at e
        exact O.own b ob e
    · by_cases q : b = f.cell j
      · rw [q, List.lookup_cons_self] at e
        cases e
        exact ⟨by rw [q]; exact ho, v, hd⟩
      · rw [List.lookup_cons, show (b == f.cell j) = false from by simpa using q] at e
        exact O.at_ b ob e
    · have look : ∀ i, i ∈ j :: js → f.cell i = f.cell j → ∀ w, σ.getD i none = some w → ∃ u, o.data = .cell (some u) ∧ RelV w u := fun i hi ec w hw => by
        obtain ⟨z, zN, zf, zc, zk⟩ := C.cap i (hj i hi)
        obtain ⟨m, hns, hl⟩ := I.loc
        obtain ⟨u, ru, lk⟩ := hl i z w zN (getD_some hw) (.inr (.inl zk))
        rcases lk with ⟨k1, _⟩ | ⟨_, c, e1, oc, e2, e3⟩
        · have k1 : X.env.scope.names.lookup z = some .local := k1
          rw [zk] at k1; cases k1
        · rw [zc] at e1; cases e1
          rw [ec, ho] at e2; cases e2
          exact ⟨u, e3, ru⟩
      by_cases q : f.cell k = f.cell j
      · obtain ⟨u, e1, e2⟩ := look k hk q w hw
        exact ⟨o, u, by rw [q]; exact List.lookup_cons_self, e1, e2⟩
      · rcases List.mem_cons.mp hk with rfl | hk
        · exact absurd rfl q
        · obtain ⟨ob, u, e1, e2, e3⟩ := h2 k hk w hw
          exact ⟨ob, u, by rw [List.lookup_cons, show (f.cell k == f.cell j) = false from by simpa using q]; exact e1, e2, e3⟩
end
end PP
-- PP30
/-! PP30: several except clauses, with names or without. -/
namespace PP
open PySem PySem.Spec PyProof.Rows L2
/-- a clause: its class, the slot of its name, its suite's reading -/
abbrev Cl := Value × Option Nat × (Addr → Value → Option Addr → TS)
/-- the ends of a suite whose name goes -/
abbrev endsAs (i : Nat) (D : Ends) : Ends := { nx := fun τ G => D.nx (τ.set i none) G, rt := D.rt, bk := fun τ G => D.bk (τ.set i none) G, ct := fun τ G => D.ct (τ.set i none) G }
/-- what a clause's suite is asked -/
def clAsk (D : Ends) (io : Option Nat) (ts : Addr → Value → Option Addr → TS) (a : Addr) (cls : Value) (d : Option Addr) (σ : L2.St) (H : Hp) : Prop := match io with
  | none => ts a cls d D σ H
  | some i => ts a cls d (endsAs i D) (σ.set i (some (.ref a))) H
def wCls (K : PySem.W.Frag) (Wout : WX) (D : Ends) : List Cl → WX
  | [] => Wout
  | k :: r => fun cls d σ H => ∃ b, PySem.W.exmOne K cls k.1 = some b ∧ (b = true → ∀ a, H a = none → clAsk D k.2.1 k.2.2 a cls d σ H) ∧ (b = false → wCls K Wout D r cls d σ H)
/-- the name of a clause and its slot -/
def slotN (X : Cx) : Option Str → Option Nat → Prop
  | none, none => True
  | some n, some i => X.N[i]? = some n ∧ X.env.kindOf n = some .local
  | _, _ => False
abbrev SuiteOk (X : Cx) (body : List Stmt) (ts : Addr → Value → Option Addr → TS) : Prop := ∀ (a : Addr) (oe : Obj) (cls : Value) (d : Option Addr) (pn : List (Addr × Obj)), Zc cls d oe → (∃ vs, oe.data = .fields vs) → PSs (X.suite a ((a, oe) :: pn)) body (ts a cls d)
inductive ClsOk (X : Cx) : List ExceptHandler → List Cl → Prop
  | nil : ClsOk X [] []
  | cons {x : Str} {no : Option Str} {io : Option Nat} {c : Value} {ts : Addr → Value → Option Addr → TS} {st : Stmt} {rest : List Stmt} {np p : Pos} {hds : List ExceptHandler} {l : List Cl} (hc : Names X x c) (hs : slotN X no io)
      (su : SuiteOk X (st :: rest) ts) (r : ClsOk X hds l) : ClsOk X (.ExceptHandler (some (.Name x np)) no (st :: rest) p :: hds) ((c, io, ts) :: l)
/-- an exception that our frame has noted: B the ground, sI the state without it -/
structure Noted (X : Cx) (pins : List (Addr × Obj)) (σ : L2.St) (H : Hp) (cls : Value) (d : Option Addr) (a : Addr) (B : Heap) (sI s : Shared) : Prop where
  inv : Inv X pins σ H sI
  gr : ∀ b o, sI.heap.get? b = some o → b ∉ frs X.stack → B.get? b = some o
  up : sI.heap.UpToSlots s.heap
  fl : PySem.HandSPX.FlyingZ B (X.env :: X.outer) a (Zc cls d) s.heap
  na : H a = none
  os : s.os = sI.os
  ag : AllBare s.gens
section
variable {X : Cx} {pins : List (Addr × Obj)} {σ : L2.St} {H : Hp} {cls : Value} {d : Option Addr} {a : Addr} {B : Heap} {sI s : Shared}
theorem Noted.here (n : Noted X pins σ H cls d a B sI s) : Inv X pins σ H s := n.inv.landed n.gr n.fl.1 n.up n.os n.ag
theorem Noted.obj (n : Noted X pins σ H cls d a B sI s) (hf : X.env.frame = some X.env.locals) : ∃ oe vs, s.heap.get? a = some oe ∧ Zc cls d oe ∧ oe.data = .fields vs ∧ a ≠ X.env.locals ∧ a ∉ X.fs := by
  obtain ⟨oe, vs, e1, e2, e3⟩ := n.fl.there
  have out : a ∉ frs (X.env :: X.outer) := fun z => by
    obtain ⟨_, u, e4, nf⟩ := n.fl.2.2.1.mem z
    rw [e1] at e4
    cases e4
    exact nf vs e3
  refine ⟨oe, vs, e1, e2, e3, fun z => out ?_, fun z => out ?_⟩
  · unfold frs
    rw [List.filterMap_cons, hf]
    exact z ▸ List.mem_cons_self
  · obtain ⟨en, he, q⟩ := List.mem_filterMap.mp z
    exact List.mem_filterMap.mpr ⟨en, List.mem_cons_of_mem _ he, q⟩
theorem Noted.next (n : Noted X pins σ H cls d a B sI s) {h : Heap} (fl : PySem.HandSPX.FlyingZ B (X.env :: X.outer) a (Zc cls d) h) (up : s.heap.UpToSlots h) : Noted X pins σ H cls d a B sI { s with heap := h } := ⟨n.inv, n.gr, n.up.trans up, fl, n.na, n.os, n.ag⟩
/-- no clause is left: it goes on -/
theorem Noted.away {Wout : WX} {D : Ends} (n : Noted X pins σ H cls d a B sI s) (hs : X.stack = X.env :: X.outer) (hf : X.env.frame = some X.env.locals) (tk : Takes X Wout) (w : Wout cls d σ H) : wpAny (model X.prog X.w) X.A (handleBy (.ref a) X.env []) (SP X pins D) X.xe s := by
  refine wpAny_handleBy_nil ?_
  have onward : wpAny (model X.prog X.w) X.A (setFlight (.ref a) X.env.frame) (fun _ t => wpAny (model X.prog X.w) X.A (throw (.ref a) : Sem Flow) (SP X pins D) X.xe t) X.xe s := by
    rw [hf]
    exact PySem.HandSPX.setFlight_upZ n.fl fun h held up => wpAny_throw (tk _ _ ⟨a, B, sI, pins, σ, H, cls, d, rfl, n.inv, n.gr, n.up.trans up, .inr (.inr (by rw [hs]; exact held)), n.na, n.os, n.ag, w⟩)
  have fl := n.fl
  obtain ⟨_, _, _, oe, vs, T, _, _, he, _, hd, h1, _⟩ := fl
  unfold PySem.passOn
  refine wpAny_bind (wpAny_field he hd h1 ?_)
  rw [if_neg (by simp)]
  first
    | exact wpAny_bind (wpAny_pure (wpAny_bind onward))
    | exact wpAny_bind onward
/-- in a clause's suite -/
theorem Noted.suite (n : Noted X pins σ H cls d a B sI s) {oe : Obj} {vs : Array Value} (e1 : s.heap.get? a = some oe) (e2 : oe.data = .fields vs) (nl : a ≠ X.env.locals) (nf : a ∉ X.fs) : Inv (X.suite a ((a, oe) :: (X.pn ++ pins))) [] σ H s := n.here.suite e1 e2 n.na nl nf
theorem SP.unsuite {q : Addr × Obj} {D : Ends} {t : Shared} {fl : Flow} (ok : X.Ok) (h : SP (X.suite a (q :: (X.pn ++ pins))) [] D fl t) : SP X pins D fl t := by
  cases fl with
  | next => obtain ⟨τ, G, J, r⟩ := h; exact ⟨τ, G, J.unsuite ok, r⟩
  | brk => obtain ⟨τ, G, J, r⟩ := h; exact ⟨τ, G, J.unsuite ok, r⟩
  | cont => obtain ⟨τ, G, J, r⟩ := h; exact ⟨τ, G, J.unsuite ok, r⟩
  | ret u => obtain ⟨v, τ, G, J, ru, r⟩ := h; exact ⟨v, τ, G, J.unsuite ok, ru, r⟩
theorem SP.gone {i : Nat} {nm : Str} {p : Pos} {D : Ends} {t : Shared} {fl : Flow} (hN : X.N.Nodup) (hi : X.N[i]? = some nm) (hl : X.env.kindOf nm = some .local) (h : SP X pins (endsAs i D) fl t) :
    wpAny (model X.prog X.w) X.A (do bindName X.env nm .none; unbindBehindTheSuite X.env nm p) (fun _ t' => SP X pins D fl t') X.xe t := by
  cases fl with
  | next => obtain ⟨τ, G, J, r⟩ := h; exact gone_ok J hN hi hl fun t' J' => ⟨_, G, J', r⟩
  | brk => obtain ⟨τ, G, J, r⟩ := h; exact gone_ok J hN hi hl fun t' J' => ⟨_, G, J', r⟩
  | cont => obtain ⟨τ, G, J, r⟩ := h; exact gone_ok J hN hi hl fun t' J' => ⟨_, G, J', r⟩
  | ret u => obtain ⟨v, τ, G, J, ru, r⟩ := h; exact gone_ok J hN hi hl fun t' J' => ⟨v, _, G, J', ru, r⟩
/-- the clauses one by one -/
theorem Noted.clauses {Wout : WX} {D : Ends} (hs : X.stack = X.env :: X.outer) (hf : X.env.frame = some X.env.locals) (hN : X.N.Nodup) (tk : Takes X Wout) {hds : List ExceptHandler} {l : List Cl} (ok : ClsOk X hds l)
    (n : Noted X pins σ H cls d a B sI s) (w : wCls X.K Wout D l cls d σ H) : wpAny (model X.prog X.w) X.A (handleBy (.ref a) X.env hds) (SP X pins D) X.xe s := by
  induction ok with
  | nil => exact n.away hs hf tk w
  | @cons x no io c ts st rest np p hds l hc hsl su r ih =>
    obtain ⟨b, hb, yes, nope⟩ := w
    obtain ⟨oe, vs, e1, e2, e3, nl, nf⟩ := n.obj hf
    refine wpAny_handleBy_cons (codeAny_handlers_test ?_) (by intro q; cases q)
    have ty : PySem.W.Looks (model X.prog X.w) s.heap (typeOf (.ref a)) cls := fun A Q E t k q => wpAny_typeOf_ref (k _ _ e1) (by rw [e2.1]; exact q)
    have ex := PySem.W.exm_one (M := model X.prog X.w) n.here.kIn ty hb
    have named : ∀ {Q E : Value → Shared → Prop}, Q c s → wpAny (model X.prog X.w) (X.A.mark (some (.ref a))) (eval (.Name x np) X.env) Q E s := fun {Q E} q => by
      have S := n.suite e1 e3 nl nf
      rcases hc with ⟨hg, hz, hm | ⟨hm, hv, hn⟩⟩
      · exact ld_glob (X := X.suite a ((a, oe) :: (X.pn ++ pins))) S hg hm q hz
      · exact ld_blt (X := X.suite a ((a, oe) :: (X.pn ++ pins))) S hg hm hv q hn hz
    refine named (ex.here ?_)
    cases b with
    | false =>
      show wpAny _ X.A (handleBy (.ref a) X.env hds) _ _ _
      exact ih (nope rfl)
    | true =>
      have y := yes rfl a n.na
      cases no with
      | none =>
        cases io with
        | some i => exact hsl.elim
        | none =>
          refine codeAny_handlers_suite (PySem.HandSPX.lands_againZ n.fl fun h fl up => ?_)
          have n2 := n.next fl up
          obtain ⟨o2, v2, f1, f2, f3, _, _⟩ := n2.obj hf
          exact wpAny_mono ((su a o2 cls d (X.pn ++ pins) f2 ⟨_, f3⟩).run [] _ σ H D (n2.suite f1 f3 nl nf) y) (fun fl t sp => SP.unsuite n.inv.ok sp) fun _ _ z => False.elim z
      | some nm =>
        cases io with
        | none => exact hsl.elim
        | some i =>
          obtain ⟨hi, hl⟩ := hsl
          refine codeAny_handlers_suite_as (PySem.HandSPX.lands_againZ n.fl fun h fl up => ?_)
          have n2 := n.next fl up
          obtain ⟨o2, v2, f1, f2, f3, _, _⟩ := n2.obj hf
          have lo : Loc X.env.scope nm := .inl hl
          refine store_ok (X := X.suite a ((a, o2) :: (X.pn ++ pins))) (v := .ref a) (n2.suite f1 f3 nl nf) hN hi lo rfl (fun t J => ?_) (.inr hl)
          exact wpAny_mono ((su a o2 cls d (X.pn ++ pins) f2 ⟨_, f3⟩).run [] t _ H (endsAs i D) J y) (fun fl t sp => SP.gone hN hi hl (SP.unsuite n.inv.ok sp)) fun _ _ z => False.elim z
theorem ps_tryC {body : List Stmt} {h₀ : ExceptHandler} {hds : List ExceptHandler} {l : List Cl} {pos : Pos} {tb : WX → TS} {Wout : WX} (hs : X.stack = X.env :: X.outer) (hf : X.env.frame = some X.env.locals) (hN : X.N.Nodup) (tk : Takes X Wout)
    (hb : ∀ (W : WX) (pn : List (Addr × Obj)) (xe : Value → Shared → Prop), Takes (X.tr pn xe) W → PassesOwn (model X.prog X.w) X.A X.env xe → PSs (X.tr pn xe) body (tb W))
    (ok : ClsOk X (h₀ :: hds) l) : PS X (.Try body (h₀ :: hds) [] [] pos) (fun D σ H => tb (wCls X.K Wout D l) D σ H) := by
  refine ⟨fun pins s σ H D I q => wpAny_Try_except ?_⟩
  have xe : Value → Shared → Prop := fun e t => True
  refine wpAny_mono ((hb (wCls X.K Wout D l) (X.pn ++ pins) (fun e t => wpAny (model X.prog X.w) X.A (noteFrame e X.env) (fun _ t2 => wpAny (model X.prog X.w) X.A (setFlight e none) (fun _ t3 => wpAny (model X.prog X.w) X.A (handleBy e X.env (h₀ :: hds)) (SP X pins D) X.xe t3) X.xe t2) X.xe t)
    (fun u t air => ?_) PassesOwn.looking).run [] s σ H D (I.toTry _) q) (fun fl t sp => ?_) fun _ _ z => z
  · obtain ⟨a, B, sI, ps, τ, G, cls, d, rfl, J, gr, up, sky, na, os, ag, w⟩ := air
    have fr : X.A.frames = some (X.env :: X.outer) := I.ok.frames.trans (congrArg some hs)
    exact Sky.land Zc.steady fr hf (show Sky B (X.env :: X.outer) a (Zc cls d) X.env.locals t.heap from hs ▸ sky) fun h fl up2 => Noted.clauses hs hf hN tk ok ⟨J.ofTry I.ok, gr, up.trans up2, fl, na, os, ag⟩ w
  · cases fl with
    | next => obtain ⟨τ, G, J, r⟩ := sp; exact wpAny_execs_nil ⟨τ, G, J.ofTry I.ok, r⟩
    | brk => obtain ⟨τ, G, J, r⟩ := sp; exact ⟨τ, G, J.ofTry I.ok, r⟩
    | cont => obtain ⟨τ, G, J, r⟩ := sp; exact ⟨τ, G, J.ofTry I.ok, r⟩
    | ret u => obtain ⟨v, τ, G, J, ru, r⟩ := sp; exact ⟨v, τ, G, J.ofTry I.ok, ru, r⟩
end
end PP
-- PP31
/-! PP31: closures of the frame handed to a def. -/
namespace PP
open PySem PySem.Spec PyProof.Rows L2
section
variable {g : G} {H H' H1 : Hp} {oc : Addr → V → Prop} {S B T : Addr → Prop}
mutual
theorem Ow.moved (k : ∀ a o, H a = some o → (∀ o', o ≠ cellO a o') → H' a = some o) : ∀ (d : D) (v : V) (L : List Addr), Ow g H d v L → Ow g H' d v L
  | .non, _, _, h => by simp only [Ow] at h ⊢; exact h
  | .bl _, _, _, h => by simp only [Ow] at h ⊢; exact h
  | .int _, _, _, h => by simp only [Ow] at h ⊢; exact h
  | .str _, _, _, h => by simp only [Ow] at h ⊢; exact h
  | .glo _, _, _, h => by simp only [Ow] at h ⊢; exact h
  | .clo _ _, _, _, h => by simp only [Ow] at h
  | .lid _, _, _, h => by simp only [Ow] at h
  | .lst ds, v, L, h => by
    simp only [Ow] at h ⊢
    obtain ⟨a, vs, L', e, eL, q, r⟩ := h
    exact ⟨a, vs, L', e, eL, k _ _ q (fun o' z => by cases z), OwA.moved k ds vs L' r⟩
  | .tup ds, v, L, h => by
    simp only [Ow] at h ⊢
    obtain ⟨a, vs, e, q, r⟩ := h
    refine ⟨a, vs, e, ?_, OwA.moved k ds vs L r⟩
    rcases q with (q | ⟨o, q⟩) | q
    · exact .inl (.inl (k _ _ q fun o' z => by cases z))
    · exact .inl (.inr ⟨o, k _ _ q fun o' z => by cases z⟩)
    · exact .inr q
  | .dct ks ds, v, L, h => by
    simp only [Ow] at h ⊢
    obtain ⟨a, kvs, L', e, eL, q, m, r⟩ := h
    exact ⟨a, kvs, L', e, eL, k _ _ q (fun o' z => by cases z), m, OwA.moved k ds _ L' r⟩
theorem OwA.moved (k : ∀ a o, H a = some o → (∀ o', o ≠ cellO a o') → H' a = some o) : ∀ (ds : List D) (vs : List V) (L : List Addr), OwA g H ds vs L → OwA g H' ds vs L
  | [], _, _, h => by simp only [OwA] at h ⊢; exact h
  | d :: ds, vs, L, h => by
    simp only [OwA] at h ⊢
    obtain ⟨v, r, L1, L2, e, eL, h1, h2⟩ := h
    exact ⟨v, r, L1, L2, e, eL, Ow.moved k d v L1 h1, OwA.moved k ds r L2 h2⟩
end
theorem TopOk.moved {cm cm' : Addr → V → Prop} {a : Addr} {d : D} (k : ∀ a o, H a = some o → (∀ o', o ≠ cellO a o') → H' a = some o) (n : d.noClo = true) (h : TopOk g cm B H a d) : TopOk g cm' B H' a d := by
  rcases h with ⟨ds, vs, rfl, q, r⟩ | ⟨ks, ds, kvs, rfl, q, m, r⟩
  · exact .inl ⟨ds, vs, rfl, k _ _ q (fun o' z => by cases z), ShA.moved k ds vs (by simpa [D.noClo] using n) r⟩
  · exact .inr ⟨ks, ds, kvs, rfl, k _ _ q (fun o' z => by cases z), m, ShA.moved k ds _ (by simpa [D.noClo] using n) r⟩
/-- the arguments, where the own cells are tracked -/
theorem VsO.pins {b : Bool} (kp : Kp (fun _ => False) H H1) (hc : ∀ a w, oc a w → CellW nc H1 a w) (hT : ∀ a, T a → B a) (hb : b = true → ∀ a, T a → S a) : ∀ {ms : List Md} {ds : List D} {vs : List V} {L : List Addr},
    (ms.all fun m => isSh m || isCs m || (b && isBor m)) = true → VsO g oc S B H ms ds vs L → ShA g nc T H1 ds vs
  | [], ds, vs, L, _, h => by
    obtain ⟨rfl, rfl, rfl⟩ := h
    simp only [ShA]
  | m :: ms, ds, vs, L, hm, h => by
    simp only [VsO] at h
    obtain ⟨d, r, v, q, L1, L2, rfl, rfl, rfl, h1, h2⟩ := h
    simp only [List.all_cons, Bool.and_eq_true] at hm
    simp only [ShA]
    refine ⟨v, q, rfl, ?_, VsO.pins kp hc hT hb hm.2 h2⟩
    have h1 := h1.subB (B' := B) fun a z => .inl z
    cases m with
    | sh => exact (Sh.mono kp (fun _ z => z.elim) (fun _ _ z => z.elim) (fun _ n => n) d v h1.2).sub hT
    | cs => exact (Sh.mono kp (fun _ z => z.elim) hc (fun _ n => n) d v h1.2).sub hT
    | bor =>
      have hb' : b = true := by simpa [isSh, isCs, isBor] using hm.1
      exact (Sh.mono kp (fun _ z => z.elim) (fun _ _ z => z.elim) (fun _ n => n) d v h1.2).sub (hb hb')
    | _ => simp [isSh, isCs, isBor] at hm
theorem ExV.moved {x : Ex} {cls : Value} {dx : Option Addr} (k : ∀ a o, H a = some o → (∀ o', o ≠ cellO a o') → H' a = some o) (n : D.noCloA (x.fs.map (·.2)) = true) (h : ExV g B x cls dx H) : ExV g B x cls dx H' := by
  obtain ⟨C, e1, e2, q⟩ := h
  exact ⟨C, e1, e2, q.imp id fun ⟨d, fs, e3, e4, e5, q⟩ => ⟨d, fs, e3, k _ _ e4 (fun o' z => by cases z), e5, ShA.moved k _ _ n q⟩⟩
end
def argOkC : Md → List Md → Bool
  | .own [], ms => ms.all fun m => isSh m || isCs m || (true && isBor m)
  | .sh, ms | .tp [], ms => ms.all fun m => isSh m || isCs m || (false && isBor m)
  | _, _ => false
/-- an answer without closures -/
def guardC (p : P D) : P D := fun u => match p u with
  | .ok d v => if d.noClo = true then .ok d v else .stuck
  | .exn x v => if D.noCloA (x.fs.map (·.2)) = true then .exn x v else .stuck
  | .stuck => .stuck
def eCallC (F : Fn) (r : EM (List D)) : EM D := do let xs ← r; lift (guardC (F xs))
instance {j : Nat} (F : Fn) (r : EM (List D)) [Pu j r] : Pu j (eCallC F r) := Pu.bind ‹_› fun _ => Pu.lift _
section
variable {X : Cx} {f : Fr} {Γ : List Kd} {e : Expr} {es : List Expr} {r : EM (List D)} {pos p : Pos} {m : Md} {ms : List Md} {k n : Nat} {x : Str} {ρ : Env} {gh : Nat → List Addr} {σ : L2.St} {H : Hp} {Q : VK} {cs : List (Addr × Obj)} {F : Fn} {ds : List D} {vs : List V} {L : List Addr}
theorem kp_pin (hn : ∀ b o, cs.lookup b = some o → H b = none) : Kp (fun _ => False) H (pin cs H) := by
  refine ⟨fun a o e _ _ => ?_, fun a e => ?_⟩
  · cases z : cs.lookup a with
    | none => rw [pin_out z]; exact e
    | some oc => rw [hn a oc z] at e; cases e
  · cases z : cs.lookup a with
    | none => rw [pin_out z] at e; exact e
    | some oc => exact hn a oc z
/-- the promise's wish, the own cells tracked -/
theorem sp_pin (hm : argOkC m ms = true) (R : Rel f Γ ρ gh σ H) (hn : ∀ b o, cs.lookup b = some o → H b = none) (hc : ∀ a w, f.oc σ a w → CellW nc (pin cs H) a w) (s : VsO f.g (f.oc σ) (Bo f Γ) (Bx f Γ gh) H ms ds vs L) (w : Ob f Γ m gh σ H ((lift (guardC (F ds)) : EM D) ρ) Q) :
    spF f.g ms.length m F vs (pin cs H) (fun v H' => (∀ b o, cs.lookup b = some o → H' b = some (cellO b o)) → Q v (unpin cs H')) (fun cls d H' => (∀ b o, cs.lookup b = some o → H' b = some (cellO b o)) → f.W cls d σ (unpin cs H')) := by
  have kp := kp_pin hn
  have tb : NdefX.TabsN f.g.T (pin cs H) := R.tabs.ext fun b o e => by
    cases z : cs.lookup b with
    | none => rw [pin_out z]; exact e
    | some oc => rw [hn b oc z] at e; cases e
  have mu : ∀ {a : Addr} {B : Addr → Prop}, (∀ a, B a → ∃ o, H a = some o ∧ Mu o) → B a → ∃ o, pin cs H a = some o ∧ Mu o := fun {a B} hB z => by
    obtain ⟨o, e, t⟩ := hB a z
    exact ⟨o, kp.1 a o e (fun _ z => z) t.nt, t⟩
  have mv : ∀ {H' : Hp}, (∀ b o, cs.lookup b = some o → H' b = some (cellO b o)) → ∀ a o, H' a = some o → (∀ o', o ≠ cellO a o') → unpin cs H' a = some o := fun {H'} hz a o e n => by
    cases z : cs.lookup a with
    | none => rw [unpin_out z]; exact e
    | some oc => rw [hz a oc z] at e; cases e; exact absurd rfl (n oc)
  have kf : ∀ {H' : Hp}, Kp (fun _ => False) (pin cs H) H' → Kp (fun _ => False) H (unpin cs H') := fun {H'} kk => by
    refine ⟨fun a o e u t => ?_, fun a e => ?_⟩
    · cases z : cs.lookup a with
      | none => rw [unpin_out z]; exact kk.1 a o (by rw [pin_out z]; exact e) (fun _ z => z) t
      | some oc => rw [hn a oc z] at e; cases e
    · cases z : cs.lookup a with
      | none =>
        rw [unpin_out z] at e
        have := kk.2 a e
        rw [pin_out z] at this; exact this
      | some oc => exact hn a oc z
  have tf : ∀ {H' : Hp}, (∀ b o, cs.lookup b = some o → H' b = some (cellO b o)) → NdefX.TabsN f.g.T H' → NdefX.TabsN f.g.T (unpin cs H') := fun {H'} hz tb p hp => by
    obtain ⟨pz, t1, t2, t3⟩ := tb p hp
    refine ⟨pz, mv hz _ _ t1 (fun o' z => by cases z), t2, fun pos cv hcv => ?_⟩
    obtain ⟨x, x1, x2⟩ := t3 pos cv hcv
    exact ⟨x, x1, mv hz _ _ x2 fun o' z => by unfold LamX.CodeO at z; cases z⟩
  have fr : ∀ {a : Addr}, pin cs H a = none → H a = none := fun {a} e => kp.2 a e
  have fin : ∀ (B : Addr → Prop), (∀ a, B a → ∃ o, H a = some o ∧ Mu o) → (∀ a, Bo f Γ a → B a) → ShA f.g nc B (pin cs H) ds vs → (∀ d v H', d.noClo = true → (∀ b o, cs.lookup b = some o → H' b = some (cellO b o)) → VR f.g B (pin cs H) H' m d v → ∃ L', VO f.g (f.oc σ) (Bo f Γ) (Bx f Γ gh) (unpin cs H') m d v L' ∧ NewIn H Γ gh m.U L') →
      spF f.g ms.length m F vs (pin cs H) (fun v H' => (∀ b o, cs.lookup b = some o → H' b = some (cellO b o)) → Q v (unpin cs H')) (fun cls d H' => (∀ b o, cs.lookup b = some o → H' b = some (cellO b o)) → f.W cls d σ (unpin cs H')) := fun B hB hBo sh vr => by
    refine ⟨B, ds, fun a z => mu hB z, s.len.2, sh, tb, ?_⟩
    cases ef : F ds () with
    | ok d u =>
      intro v H' kk t rr hz
      by_cases hd : d.noClo = true
      · have eg : guardC (F ds) () = .ok d u := by unfold guardC; rw [ef]; simp [hd]
        rw [lift_ok' eg] at w
        obtain ⟨L', vo, nw⟩ := vr d v H' hd hz rr
        exact w v _ L' (R.kp (kf kk) (tf hz t)) ((kf kk).mono fun _ z => z.elim) vo nw
      · have eg : guardC (F ds) () = .stuck := by unfold guardC; rw [ef]; simp [hd]
        rw [lift_stuck eg] at w
        exact w.elim
    | exn y u =>
      intro cls dx H' kk t ex hz
      by_cases hd : D.noCloA (y.fs.map (·.2)) = true
      · have eg : guardC (F ds) () = .exn y u := by unfold guardC; rw [ef]; simp [hd]
        rw [lift_exn eg] at w
        exact w cls dx _ (R.kp (kf kk) (tf hz t)) ((kf kk).mono fun _ z => z.elim) ((ex.moved (mv hz) hd).mono (S := fun _ => False) Kp.refl (fun _ z => z.elim) hBo)
      · have eg : guardC (F ds) () = .stuck := by unfold guardC; rw [ef]; simp [hd]
        rw [lift_stuck eg] at w
        exact w.elim
    | stuck =>
      have eg : guardC (F ds) () = .stuck := by unfold guardC; rw [ef]
      rw [lift_stuck eg] at w
      exact w.elim
  cases m with
  | own U =>
    cases U with
    | nil =>
      refine fin (Bo f Γ) R.bo (fun _ z => z) (VsO.pins kp hc (Bo_sub R) (fun _ _ z => z) hm s) fun d v H' hd hz ⟨L', o, nd, fr'⟩ => ⟨L', Ow.moved (mv hz) d v L' o, nd, fun a ha => .inl (fr (fr' a ha))⟩
    | cons _ _ => cases hm
  | sh =>
    refine fin (Bx f Γ gh) R.bx (Bo_sub R) (VsO.pins kp hc (fun _ z => z) (fun z => by cases z) hm s) fun d v H' hd hz o => ⟨[], ⟨rfl, Sh.moved (mv hz) d v hd o⟩, nil_new⟩
  | tp U =>
    cases U with
    | nil =>
      refine fin (Bx f Γ gh) R.bx (Bo_sub R) (VsO.pins kp hc (fun _ z => z) (fun z => by cases z) hm s) fun d v H' hd hz ⟨a, e1, e2, o⟩ => ⟨[a], ⟨a, rfl, e1, o.moved (mv hz) hd⟩, by simp, fun b hb => .inl (by rw [List.mem_singleton.mp hb]; exact fr e2)⟩
    | cons _ _ => cases hm
  | _ => cases hm
/-- f(e, ..), closures of the frame among the arguments -/
theorem xe_callB (A : FnAt X.prog X.w X.K X.mg X.base f.g k x ms.length m F) (hr : Room k X.A) (tk : Takes X f.W) (C : CapsOk X f) (ha : XA X f Γ (e :: es) ms r) (hm : argOkC m ms = true := by rfl) (hg : Gl X x := by rfl)
    (hdb : (x == ("__debug__" : Str)) = false := by decide) (he : starEach (e :: es) X.env = (false, eval e X.env) :: starEach es X.env := by rfl) (hpl : (backTo pos (starEach es X.env)).any (·.1) = false := by rfl) :
    XE X f Γ (.Call (.Name x p) (e :: es) [] pos) m (eCallC F r) := by
  obtain ⟨fa, fd, ps, h1, h2, h3, h4, h5⟩ := A.ex
  refine ⟨fun pins s σ H Q I ⟨ρ, gh, R, q⟩ => ?_⟩
  refine wpAny_Call_Name_kw (ld_glob I hg h1 ?_ hdb)
  refine PySem.W.callWith_K (h₀ := X.base) I.ok.mod.kin h2 (thn (ha.run pos pins s σ H (fun vs H1 => ∀ us s1, Inv X pins σ H1 s1 → Vals vs us → wpAny (model X.prog X.w) X.A (call (.ref fa) us) (EP X pins σ Q) X.xe s1) I ?_) fun us s1 ⟨vs, H1, I1, rv, z⟩ => ⟨I1.kIn, z us s1 I1 rv⟩) he hpl
  refine RA.fst R (show Ob f Γ m gh σ H ((r >>= fun xs => lift (guardC (F xs))) ρ) Q from q) fun ds ρ1 vs H1 L R1 k1 vo n1 w => ?_
  intro us s1 I1 rv
  obtain ⟨cs, O, hcs⟩ := own_cells I1 C f.caps fun _ z => z
  have hn : ∀ b o, cs.lookup b = some o → H1 b = none := fun b o z => let ⟨y, _, e2⟩ := O.own b o z; I1.freeC y b e2
  refine run_pin h5 hr h4 tk I1 O rv (sp_pin hm R1 hn (fun a w ⟨i, hi, ea, ew⟩ => ?_) vo (w.shift k1))
  obtain ⟨o, u, e1, e2, e3⟩ := hcs i hi w ew
  rw [ea] at e1
  exact .inr ⟨o, u, pin_at e1, e2, e3⟩
theorem xe_callC (A : FnAt X.prog X.w X.K X.mg X.base f.g k x ms.length m F) (hr : Room k X.A) (tk : Takes X f.W) (C : CapsOk X f) (hst : X.stack = X.env :: X.outer) (hf : X.env.frame = some X.env.locals) (ha : XA X f Γ (e :: es) ms r) (hm : argOkC m ms = true := by rfl) (hg : Gl X x := by rfl)
    (hdb : (x == ("__debug__" : Str)) = false := by decide) (he : starEach (e :: es) X.env = (false, eval e X.env) :: starEach es X.env := by rfl) (hpl : (backTo pos (starEach es X.env)).any (·.1) = false := by rfl) :
    XE X f Γ (.Call (.Name x p) (e :: es) [] pos) m (eCallC F r) := xe_callB A hr tk C ha hm hg hdb he hpl
end
end PP
-- PP32
/-! PP32: calls with keywords. -/
namespace PP
open PySem PySem.Spec PyProof.Rows L2
def pick {α : Type} (perm : List Nat) (xs : List α) : List α := perm.filterMap fun i => xs[i]?
theorem pick_cons {α : Type} {i : Nat} {perm : List Nat} {xs : List α} {x : α} (h : xs[i]? = some x) : pick (i :: perm) xs = x :: pick perm xs := by
  unfold pick
  rw [List.filterMap_cons, h]
theorem pick_vals {vs : List V} {us : List Value} (r : Vals vs us) : ∀ perm : List Nat, Vals (pick perm vs) (pick perm us)
  | [] => .nil
  | i :: perm => by
    have hl := r.length
    by_cases h : i < vs.length
    · have h2 : i < us.length := by omega
      rw [pick_cons (List.getElem?_eq_getElem h), pick_cons (List.getElem?_eq_getElem h2)]
      refine .cons ?_ (pick_vals r perm)
      clear pick_vals
      induction r generalizing i with
      | nil => simp at h
      | cons a b ih =>
        cases i with
        | zero => exact a
        | succ i => exact ih i b.length (by simpa using h) (by simpa using h2)
    · unfold pick
      rw [List.filterMap_cons, List.filterMap_cons, List.getElem?_eq_none (by omega), List.getElem?_eq_none (by omega)]
      exact pick_vals r perm
theorem ShA.pick {g : G} {cm : Addr → V → Prop} {B : Addr → Prop} {H : Hp} {ds : List D} {vs : List V} (h : ShA g cm B H ds vs) : ∀ perm : List Nat, ShA g cm B H (PP.pick perm ds) (PP.pick perm vs)
  | [] => by simp [PP.pick, ShA]
  | i :: perm => by
    have hl := h.length
    by_cases hi : i < ds.length
    · obtain ⟨v, e, q⟩ := h.get (List.getElem?_eq_getElem hi)
      rw [pick_cons (List.getElem?_eq_getElem hi), pick_cons e]
      simp only [ShA]
      exact ⟨v, _, rfl, q, ShA.pick h perm⟩
    · unfold PP.pick
      rw [List.filterMap_cons, List.filterMap_cons, List.getElem?_eq_none (by omega), List.getElem?_eq_none (by omega)]
      exact ShA.pick h perm
theorem pick_len {α : Type} {n : Nat} {xs : List α} (h : xs.length = n) : ∀ {perm : List Nat}, (perm.all fun i => decide (i < n)) = true → (pick perm xs).length = perm.length
  | [], _ => rfl
  | i :: perm, hp => by
    simp only [List.all_cons, Bool.and_eq_true, decide_eq_true_eq] at hp
    rw [pick_cons (List.getElem?_eq_getElem (by omega)), List.length_cons, pick_len h hp.2, List.length_cons]
structure FnKAt (P : Program) (w : World) (K : PySem.W.Frag) (mg : Str → Option Value) (base : Heap) (g : G) (k : Nat) (x : Str) (n : Nat) (ks : List Str) (perm : List Nat) (rm : Md) (F : Fn) : Prop where
  ex : ∃ (fa : Addr) (fd : FuncData) (ps : List Str), mg x = some (.ref fa) ∧ PySem.W.keepIn K (.ref fa) = true ∧ ps.length = perm.length ∧ (∀ (s : Shared) (us ws : List Value), us.length = n → ws.length = ks.length → BindsTo s fd ⟨us, ks.zip ws⟩ (ps.zip (pick perm (us ++ ws)))) ∧
    FnOk P w K mg base (L2.CX P w) k fa fd ps (spF g ps.length rm F)
theorem FnKAt.mono {P : Program} {w : World} {K : PySem.W.Frag} {mg : Str → Option Value} {base : Heap} {g : G} {j k : Nat} {x : Str} {n : Nat} {ks : List Str} {perm : List Nat} {rm : Md} {F : Fn} (h : FnKAt P w K mg base g j x n ks perm rm F) (l : j ≤ k) : FnKAt P w K mg base g k x n ks perm rm F := by
  obtain ⟨fa, fd, ps, h1, h2, h3, h4, h5⟩ := h.ex
  exact ⟨fa, fd, ps, h1, h2, h3, h4, h5.mono l⟩
abbrev BindKE (x qual : Str) (params : Arguments) (body : List Stmt) (scope : Scope) (ps : List Str) (n : Nat) (ks : List Str) (perm : List Nat) : Prop := ∀ (kV doc pm : Value) (an : Option Addr) (cdv ct : Value) (us ws : List Value), us.length = n → ws.length = ks.length →
  bindArgs (PySem.W.fnOf x qual params body scope .none kV doc pm an cdv ct) ⟨us, ks.zip ws⟩ = pure (ps.zip (pick perm (us ++ ws)))
theorem fnKAt_of {P : Program} {w : World} {K : PySem.W.Frag} {mg : Str → Option Value} {base : Heap} {x qual : Str} {params : Arguments} {body : List Stmt} {scope : Scope} {fa : Addr} {fd : FuncData} {ps : List Str} {g : G} {k : Nat} {rm : Md} {F0 : Fn} {n : Nat} {ks : List Str} {perm : List Nat}
    (F : FunD K x qual params body scope [] [] fa fd) (hm : mg x = some (.ref fa)) (hb : BindKE x qual params body scope ps n ks perm) (ok : FnOk P w K mg base (L2.CX P w) k fa fd ps (spF g ps.length rm F0)) (hn : ps.length = perm.length := by rfl) : FnKAt P w K mg base g k x n ks perm rm F0 := by
  refine ⟨fa, fd, ps, hm, F.kp, hn, ?_, ok⟩
  obtain ⟨oc, od, dV, kV, doc, pm, an, cdv, ct, osl, rfl, lk, hcd, hD, hK⟩ := F.ex
  rcases hD with ⟨_, rfl⟩ | ⟨e, _⟩
  · exact fun s us ws h1 h2 => .of_eq (hb kV doc pm an cdv ct us ws h1 h2)
  · exact absurd rfl e
section
variable {X : Cx} {f : Fr} {Γ : List Kd} {e : Expr} {es : List Expr} {kws : List Keyword} {r1 r2 : EM (List D)} {a : EM D} {b : EM (List D)} {pos p kpos : Pos} {m : Md} {ms ms1 ms2 : List Md} {k n : Nat} {x : Str} {F : Fn}
abbrev XKw (X : Cx) (f : Fr) (Γ : List Kd) (kws : List Keyword) (ms : List Md) (a : EM (List D)) : Prop := PK X kws (RA f Γ ms a)
theorem PK.mono {t t' : TA} (h : PK X kws t) (m : ∀ σ H Q, t' σ H Q → t σ H Q) : PK X kws t' := ⟨fun pos pins s σ H Q I q => h.run pos pins s σ H Q I (m σ H Q q)⟩
theorem tCons_RA (hd : ∀ i ∈ m.U, i ∉ ms.flatMap Md.U) {σ : L2.St} {H : Hp} {Q : List V → Hp → Prop} (h : RA f Γ (m :: ms) (eCons a b) σ H Q) : tCons (RE f Γ m a) (RA f Γ ms b) σ H Q := by
  obtain ⟨ρ, gh, R, q⟩ := h
  have q' : ObA f Γ (m :: ms) gh σ H ((a >>= fun x => b >>= fun xs => Pure.pure (x :: xs)) ρ) Q := q
  refine RE.fstA R q' fun d ρ1 v H1 L1 R1 k1 vo1 n1 w => ?_
  refine ⟨ρ1, gh, R1, ?_⟩
  rw [bind_ap] at w
  cases e : b ρ1 with
  | ok ds ρ2 =>
    rw [e] at w
    intro vs H2 L2 R2 k2 vo2 n2
    have w' : ObA f Γ (m :: ms) gh σ H (.ok (d :: ds) ρ2) Q := w
    refine w' (v :: vs) H2 (L1 ++ L2) R2 (k1.trans k2) ?_ ?_
    · simp only [VsO]
      refine ⟨d, ds, v, vs, L1, L2, rfl, rfl, rfl, VO.kpB (fun a z => .inl (Sx_sub R a z)) (n1.nS R) k2 ?_, vo2⟩
      by_cases u : ms.flatMap Md.U = []
      · exact (vo1.avoid (M := L2) fun a ha => (n2.2 a ha).resolve_right fun ⟨i, z, _⟩ => by rw [u] at z; cases z).subB fun a z => z.imp id And.left
      · exact vo1.subB fun a z => z.elim id fun z => absurd z.2 u
    · have := NewIn.append (H1 := H1) R n1 (fun a ha => let ⟨o, e, _⟩ := vo1.there a ha; ⟨o, e⟩) n2 k1.2 hd
      simpa [List.flatMap_cons] using this
  | exn x ρ2 =>
    rw [e] at w
    exact fun cls dx H' R2 k2 ex => w cls dx H' R2 (k1.trans k2) ex
  | stuck =>
    rw [e] at w
    exact w
theorem xk_nil : XKw X f Γ [] [] eNil := PK.mono pk_nil fun σ H Q ⟨ρ, gh, R, q⟩ => q [] H [] R Kp.refl ⟨rfl, rfl, rfl⟩ nil_new
theorem xk_cons {nm : Option Str} (ha : XE X f Γ e m a) (hb : XKw X f Γ kws ms b) (hd : ∀ i ∈ m.U, i ∉ ms.flatMap Md.U := by decide) : XKw X f Γ (⟨nm, e, kpos⟩ :: kws) (m :: ms) (eCons a b) :=
  PK.mono (pk_cons ha hb) fun σ H Q q => tCons_RA hd q
def eCallK (F : Fn) (perm : List Nat) (r1 r2 : EM (List D)) : EM D := do let xs ← r1; let ys ← r2; lift (F (pick perm (xs ++ ys)))
instance {j : Nat} (F : Fn) (perm : List Nat) (r1 r2 : EM (List D)) [Pu j r1] [Pu j r2] : Pu j (eCallK F perm r1 r2) := Pu.bind ‹_› fun _ => Pu.bind ‹_› fun _ => Pu.lift _
/-- where the arguments stand: forbidden at hand, or to be kept away from -/
def argB (f : Fr) (Γ : List Kd) (gh : Nat → List Addr) : Md → Addr → Prop
  | .own _ => Bo f Γ
  | _ => Bx f Γ gh
theorem argOk_sh {gh : Nat → List Addr} {σ : L2.St} {H : Hp} {ds : List D} {vs : List V} {L : List Addr} (hm : argOk m ms = true) (s : VsO f.g (f.oc σ) (Bo f Γ) (Bx f Γ gh) H ms ds vs L) : ShA f.g nc (argB f Γ gh m) H ds vs ∧ L = [] := by
  cases m with
  | own U =>
    cases U with
    | nil => exact VsO.bor hm s
    | cons _ _ => cases hm
  | sh => exact VsO.sh hm s
  | tp U =>
    cases U with
    | nil => exact VsO.sh hm s
    | cons _ _ => cases hm
  | _ => cases hm
theorem sp_args {σ : L2.St} {gh : Nat → List Addr} {ρ : Env} {H : Hp} {Q : VK} {ds : List D} {vs : List V} (hm : argOk m [] = true) (hl : ds.length = n) (R : Rel f Γ ρ gh σ H) (s : ShA f.g nc (argB f Γ gh m) H ds vs) (w : Ob f Γ m gh σ H ((lift (F ds) : EM D) ρ) Q) :
    spF f.g n m F vs H Q (fun cls d H' => f.W cls d σ H') := by
  cases m with
  | own U =>
    cases U with
    | nil => exact sp_own hl R s w
    | cons _ _ => cases hm
  | sh => exact sp_sh hl R s w
  | tp U =>
    cases U with
    | nil => exact sp_tp hl R s w
    | cons _ _ => cases hm
  | _ => cases hm
theorem argB_kp {ρ : Env} {gh : Nat → List Addr} {σ : L2.St} {H H' : Hp} {ds : List D} {vs : List V} (R : Rel f Γ ρ gh σ H) (k : Kp (Sx f Γ) H H') (s : ShA f.g nc (argB f Γ gh m) H ds vs) : ShA f.g nc (argB f Γ gh m) H' ds vs := by
  cases m with
  | own U => exact s.kp k SxBo
  | _ => exact s.kp k (Sx_sub R)
/-- f(e, .., k = v, ..) -/
theorem xe_callK {ks : List Str} {perm : List Nat} (A : FnKAt X.prog X.w X.K X.mg X.base f.g k x ms1.length ks perm m F) (hr : Room k X.A) (tk : Takes X f.W) (ha : XA X f Γ es ms1 r1) (hkw : XKw X f Γ kws ms2 r2) (hm1 : argOk m ms1 = true := by rfl) (hm2 : argOk m ms2 = true := by rfl) (hm0 : argOk m [] = true := by rfl)
    (hl2 : ms2.length = ks.length := by rfl) (hp : (perm.all fun i => decide (i < ms1.length + ms2.length)) = true := by rfl) (hg : Gl X x := by rfl)
    (hall : (backToKw pos (keywordEach kws X.env)).all (·.1.isSome) = true := by rfl) (hks : (backToKw pos (keywordEach kws X.env)).filterMap (·.1) = ks := by rfl)
    (hdb : (x == ("__debug__" : Str)) = false := by decide) (he : (es = [] ∧ ms1 = [] ∧ r1 = eNil) ∨ ∃ e0 r0, es = e0 :: r0 ∧ starEach (e0 :: r0) X.env = (false, eval e0 X.env) :: starEach r0 X.env := by first | exact Or.inl ⟨rfl, rfl, rfl⟩ | exact Or.inr ⟨_, _, rfl, rfl⟩)
    (hpl : ((backTo pos (starEach es X.env)).any (·.1) || (backToKw pos (keywordEach kws X.env)).any (·.1.isNone)) = false := by rfl) :
    XE X f Γ (.Call (.Name x p) es kws pos) m (eCallK F perm r1 r2) := by
  obtain ⟨fa, fd, ps, h1, h2, h3, h4, h5⟩ := A.ex
  refine ⟨fun pins s σ H Q I ⟨ρ, gh, R, q⟩ => ?_⟩
  refine wpAny_Call_Name_kw (ld_glob I hg h1 ?_ hdb)
  have q : Ob f Γ m gh σ H ((r1 >>= fun xs => r2 >>= fun ys => lift (F (pick perm (xs ++ ys)))) ρ) Q := q
  -- behind the arguments
  have fin : ∀ (ds zs : List D) (us ws : List Value) (vs ys : List V) (ρ2 : Env) (H2 : Hp) (s2 : Shared), ds.length = ms1.length → zs.length = ms2.length → Inv X pins σ H2 s2 → Rel f Γ ρ2 gh σ H2 → Vals vs us → Vals ys ws → ShA f.g nc (argB f Γ gh m) H2 ds vs → ShA f.g nc (argB f Γ gh m) H2 zs ys →
      Ob f Γ m gh σ H2 ((lift (F (pick perm (ds ++ zs))) : EM D) ρ2) Q → wpAny (model X.prog X.w) X.A (call (.ref fa) us (ks.zip ws)) (EP X pins σ Q) X.xe s2 := fun ds zs us ws vs ys ρ2 H2 s2 l1 l2 I2 R2 rv rz s1 s3 w => by
    have sp : spF f.g ps.length m F (pick perm (vs ++ ys)) H2 Q (fun cls d H' => f.W cls d σ H') := sp_args hm0 (by rw [pick_len (n := ms1.length + ms2.length) (by rw [List.length_append, l1, l2]) hp, h3]) R2 ((s1.append s3).pick perm) w
    have lu : us.length = ms1.length := by rw [← rv.length, s1.length, l1]
    have lw : ws.length = ks.length := by rw [← rz.length, s3.length, l2, hl2]
    refine wpAny_call (codeAny_mono (h5.run X.A X.stack s2 H2 ⟨us, ks.zip ws⟩ (pick perm (us ++ ws)) (pick perm (vs ++ ys)) Q _ hr I2.env0 (h4 s2 us ws lu lw) (pick_vals (rv.append rz) perm) sp) fun rr s' hq => ?_)
    cases rr with
    | error e => exact tk e s' (XE.of_call I2 (fun _ _ _ h => h) hq)
    | ok fl =>
      cases fl with
      | ret u => exact I2.after hq
      | next => exact False.elim hq
      | brk => exact False.elim hq
      | cont => exact False.elim hq
  have kwp : ∀ (ds : List D) (us : List Value) (vs : List V) (ρ1 : Env) (H1 : Hp) (s1 : Shared), ds.length = ms1.length → Inv X pins σ H1 s1 → Rel f Γ ρ1 gh σ H1 → Vals vs us → ShA f.g nc (argB f Γ gh m) H1 ds vs → Ob f Γ m gh σ H1 ((r2 >>= fun ys => lift (F (pick perm (ds ++ ys)))) ρ1) Q →
      wpAny (model X.prog X.w) X.A (evalAll ((backToKw pos (keywordEach kws X.env)).map (·.2))) (fun kvs s₂ => X.K.In s₂.heap ∧ wpAny (model X.prog X.w) X.A (call (.ref fa) ([] ++ us) (((backToKw pos (keywordEach kws X.env)).filterMap (·.1)).zip kvs)) (EP X pins σ Q) X.xe s₂) X.xe s1 := fun ds us vs ρ1 H1 s1 l1 I1 R1 rv sv w => by
    refine thn (hkw.run pos pins s1 σ H1 (fun ys H2 => ∀ ws s2, Inv X pins σ H2 s2 → Vals ys ws → wpAny (model X.prog X.w) X.A (call (.ref fa) us (ks.zip ws)) (EP X pins σ Q) X.xe s2) I1 ?_) fun ws s2 ⟨ys, H2, I2, rz, z⟩ => ⟨I2.kIn, by rw [hks]; exact z ws s2 I2 rz⟩
    refine RA.fst R1 w fun zs ρ2 ys H2 L R2 k2 vo n2 w2 => ?_
    intro ws s2 I2 rz
    exact fin ds zs us ws vs ys ρ2 H2 s2 l1 vo.len.2 I2 R2 rv rz (argB_kp R1 k2 sv) (argOk_sh hm2 vo).1 (w2.shift k2)
  rcases he with ⟨rfl, rfl, rfl⟩ | ⟨e0, r0, rfl, he⟩
  · refine PySem.W.callWith_KW0 (h₀ := X.base) I.ok.mod.kin h2 hall ?_ hpl
    exact kwp [] [] [] ρ H s rfl I R .nil (by simp only [ShA]) q
  · refine PySem.W.callWith_KW (h₀ := X.base) I.ok.mod.kin h2 hall (thn (ha.run pos pins s σ H (fun vs H1 => ∀ us s1, Inv X pins σ H1 s1 → Vals vs us → wpAny (model X.prog X.w) X.A (evalAll ((backToKw pos (keywordEach kws X.env)).map (·.2))) (fun kvs s₂ => X.K.In s₂.heap ∧ wpAny (model X.prog X.w) X.A (call (.ref fa) ([] ++ us) (((backToKw pos (keywordEach kws X.env)).filterMap (·.1)).zip kvs)) (EP X pins σ Q) X.xe s₂) X.xe s1) I
      (RA.fst R q fun ds ρ1 vs H1 L R1 k1 vo n1 w => fun us s1 I1 rv => kwp ds us vs ρ1 H1 s1 vo.len.2 I1 R1 rv (argOk_sh hm1 vo).1 (w.shift k1))) fun us s1 ⟨vs, H1, I1, rv, z⟩ => z us s1 I1 rv) hpl he
end
end PP
-- PP33
/-! PP33: defs that hand closures of their own back. -/
namespace PP
open PySem PySem.Spec PyProof.Rows L2
abbrev EndR := L2.St → V → Hp → Prop
/-- a block that ends by a return, its end told with the slots -/
structure PSr (X : Cx) (sts : List Stmt) (t : EndR → L2.St → Hp → Prop) : Prop where
  run : ∀ (pins : List (Addr × Obj)) (s : Shared) (σ : L2.St) (H : Hp) (D : EndR), Inv X pins σ H s → t D σ H → wpAny (model X.prog X.w) X.A (execs sts X.env) (fun fl s' => match fl with
    | .ret u => ∃ v τ G, Inv X pins τ G s' ∧ RelV v u ∧ D τ v G
    | _ => False) X.xe s
section
variable {X : Cx} {f : Fr} {Γ Γ1 : List Kd} {e : Expr} {a b : EM D} {s : SM} {st : Stmt} {rest : List Stmt} {pos : Pos} {m : Md}
/-- the answer, with closures of the frame -/
def RetC (f : Fr) (m : Md) (d : D) (v : V) (σ : L2.St) (H' : Hp) : Prop := Kp (fun a => a ∈ f.S0) f.H0 H' ∧ NdefX.TabsN f.g.T H' ∧ match m with
  | .cs => Sh f.g (f.oc σ) f.B0 H' d v
  | .tc _ => ∃ a, v = .ref a ∧ f.H0 a = none ∧ TopOk f.g (f.oc σ) (fun x => f.B0 x ∨ x = a) H' a d
  | _ => False
def ObR (f : Fr) (m : Md) (r : R Env D) (E : EndR) : Prop := match r with
  | .ok d _ => ∀ σ' v H', RetC f m d v σ' H' → E σ' v H'
  | .exn x ρ' => ∀ cls dx σ' gh' H', Rel f f.Γx ρ' gh' σ' H' → ExV f.g (Bo f f.Γx) x cls dx H' → f.W cls dx σ' H'
  | .stuck => False
def RSr (f : Fr) (Γ : List Kd) (m : Md) (b : EM D) : EndR → L2.St → Hp → Prop := fun E σ H => ∃ ρ gh, Rel f Γ ρ gh σ H ∧ ObR f m (b ρ) E
abbrev XSr (X : Cx) (f : Fr) (Γ : List Kd) (m : Md) (sts : List Stmt) (b : EM D) : Prop := PSr X sts (RSr f Γ m b)
def rSeq (s : SM) (b : EM D) : EM D := do
  let o ← s
  match o with
  | .nx => b
  | _ => M.stuck
theorem xr_cons (h1 : XS X f Γ Γ1 [] [] st s) (h2 : XSr X f Γ1 m rest b) : XSr X f Γ m (st :: rest) (rSeq s b) := by
  refine ⟨fun pins s0 σ H E I ⟨ρ, gh, R, q⟩ => ?_⟩
  have q : ObR f m ((s >>= fun o => match o with | .nx => b | _ => M.stuck) ρ) E := q
  rw [bind_ap] at q
  refine wpAny_execs_cons (thn (h1.run pins s0 σ H { nx := fun τ G => RSr f Γ1 m b E τ G, rt := fun _ _ => False } I ⟨ρ, gh, R, ?_⟩) fun fl s1 z => ?_)
  · cases es : s ρ with
    | ok o ρ1 =>
      rw [es] at q
      cases o with
      | nx => exact fun τ gh1 G R1 _ => ⟨ρ1, gh1, R1, q⟩
      | rt _ => exact q.elim
      | bk => exact q.elim
      | ct => exact q.elim
    | exn x ρ1 => rw [es] at q; exact q
    | stuck => rw [es] at q; exact q.elim
  · cases fl with
    | next =>
      obtain ⟨τ, G, J, r⟩ := z
      exact h2.run pins s1 τ G E J r
    | ret u => obtain ⟨_, _, _, _, _, r⟩ := z; exact r.elim
    | brk => obtain ⟨_, _, _, r⟩ := z; exact r.elim
    | cont => obtain ⟨_, _, _, r⟩ := z; exact r.elim
def isRc : Md → Bool
  | .cs => true
  | .tc _ => true
  | _ => false
def rcEq : Md → Md → Bool
  | .cs, .cs => true
  | .tc _, .tc _ => true
  | _, _ => false
theorem xr_ret {m' : Md} (h : XE X f Γ e m' a) (hm : rcEq m' m = true := by rfl) (hw : wkL Γ f.Γx = true := by rfl) : XSr X f Γ m [.Return (some e) pos] a := by
  refine ⟨fun pins s0 σ H E I ⟨ρ, gh, R, q⟩ => ?_⟩
  refine wpAny_execs_cons (wpAny_Return_some (thn (h.run pins s0 σ H (fun v G => E σ v G) I ⟨ρ, gh, R, ?_⟩) fun u s1 ⟨v, G, J, r, z⟩ => ⟨v, σ, G, J, r, z⟩))
  cases ea : a ρ with
  | ok d ρ1 =>
    rw [ea] at q
    intro v H' L R' k' vo n
    refine q σ v H' ⟨R'.keep, R'.tabs, ?_⟩
    cases m' with
    | cs => cases m <;> first | exact vo.2.sub fun a z => Bo_sub R a (.inl z) | cases hm
    | tc U =>
      cases m <;> first | cases hm; done | skip
      obtain ⟨a, e1, e2, t⟩ := vo
      refine ⟨a, e2, ?_, t.mono (S := fun _ => False) Kp.refl (fun z => z) (fun _ z => z.elim) (fun _ _ z => .inl z) fun a z => z.imp (fun z => Bo_sub R a (.inl z)) id⟩
      rcases n.2 a (by rw [e1]; simp) with z | ⟨i, _, z, ne⟩
      · exact R.keep.2 a z
      · exact R.fresh i ne a z
    | _ => cases m <;> cases hm
  | exn x ρ1 =>
    rw [ea] at q
    exact fun cls dx H' R' k' ex => q cls dx σ _ H' (R'.weak hw) (ex.mono (S := fun _ => False) Kp.refl (fun _ z => z.elim) fun a z => z.imp id (SxW' hw a))
  | stuck => rw [ea] at q; exact q
end
/-- a def's way of answering, as its callers see it -/
def rcMd : Md → Md
  | .cs => .sh
  | .tc _ => .tp []
  | m => m
section
variable {P : Program} {w : World} {K : PySem.W.Frag} {mg : Str → Option Value} {base : Heap} {x qual : Str} {params : Arguments} {body : List Stmt} {scope : Scope} {fa : Addr} {fd : FuncData} {N ps : List Str} {g : G} {k : Nat} {rm : Md} {caps : List Nat} {b : EM D}
def capsB (N : List Str) (scope : Scope) (caps : List Nat) : Bool := caps.all fun j => match N[j]? with
  | some y => decide (scope.names.lookup y = some .cell)
  | none => false
theorem caps_ok {CX : CXT} {cdv : Value} {A : Around} {outer : List PySem.Env} {s0 : Shared} {H : Hp} {E : XK} {f : Fr} (h : capsB N scope caps = true) (h1 : f.caps = caps) (h2 : f.cell = cellFn N (envOfC qual scope s0.heap.objs.size fa cdv).cells) : CapsOk (cxOf CX P w K mg base N qual scope fa cdv A outer s0 H E) f := by
  refine ⟨fun j hj => ?_⟩
  rw [h1] at hj
  have hb := List.all_eq_true.mp h j hj
  cases en : N[j]? with
  | none => rw [en] at hb; cases hb
  | some y =>
    rw [en] at hb
    have hk : scope.names.lookup y = some .cell := of_decide_eq_true hb
    obtain ⟨c, ec⟩ := cell_has (n := s0.heap.objs.size + 1) hk
    refine ⟨y, en, .inl rfl, ?_, hk⟩
    have ec : (envOfC qual scope s0.heap.objs.size fa cdv).cells.lookup y = some c := ec
    rw [h2]
    unfold cellFn
    rw [List.getD_eq_getElem?_getD, en]
    show _ = some (((envOfC qual scope s0.heap.objs.size fa cdv).cells.lookup y).getD 0)
    rw [ec]
    exact ec
/-- THE RULE for a def that hands closures of its own back -/
theorem def_okC (F : FunD K x qual params body scope [] [] fa fd) (S : FnScope N ps scope) (hc : capsB N scope caps = true) (hrm : isRc rm = true)
    (hb : ∀ (cdv : Value), fd.code = cdv → ∀ (A : Around) (outer : List PySem.Env) (s0 : Shared) (H : Hp) (E : XK) (B : Addr → Prop), Room k (A.deeper (envOfC qual scope s0.heap.objs.size fa cdv)) →
      XSr (cxOf (L2.CX P w) P w K mg base N qual scope fa cdv A outer s0 H E) (frF g N.length rm caps (cellFn N (envOfC qual scope s0.heap.objs.size fa cdv).cells) B H E) (kinds0 ps.length N.length) rm body b) :
    FnOk P w K mg base (L2.CX P w) (k + 1) fa fd ps (spF g ps.length (rcMd rm) (lamF N.length b)) := by
  obtain ⟨oc, od, dV, kV, doc, pm, an, cdv, ct, osl, rfl, lk, hcd, _, _⟩ := F.ex
  have len : ∀ vs H Q E, spF g ps.length (rcMd rm) (lamF N.length b) vs H Q E → vs.length = ps.length := fun vs H Q E ⟨B, ds, _, hl, sa, _⟩ => by rw [sa.length, hl]
  refine ⟨len, fun A outer s H args us vs Q E hr e0 hbind r hsp => ?_⟩
  have hl := len _ _ _ _ hsp
  obtain ⟨B, ds, hB, hdl, sa, tb, q⟩ := hsp
  have kin : K.In s.heap := e0.mod.kin.keeps fun b o e => (e0.bs b o e).1
  have parKind : ∀ y ∈ ps.zip us, scope.names.lookup y.1 = some .local ∨ (scope.names.lookup y.1 = some .cell ∧ ((cellsFrom (s.heap.objs.size + 1) scope.names []).lookup y.1).isSome = true) := fun y hy =>
    (S.par y.1 (List.of_mem_zip (a := y.1) (b := y.2) hy).1).imp id fun z => ⟨z, PySem.W.cellsFrom_some _ _ _ (.inl z)⟩
  refine codeAny_call_function hr.depth (kin _ _ lk) rfl S.co S.gen rfl (PySem.W.codeRec_of kin hcd) (hbind _ _ _ _ (wpAny_newFunctionEnv_cells S.kind parKind fun env he s1 entered => ?_))
  subst he
  refine ⟨(e0.mod.nolimit.keeps fun b o e => (e0.bs b o e).1).keeps entered.toInCall.keep, codeAny_func ?_⟩
  have hpl : ps.length ≤ N.length := by
    have z := congrArg List.length S.pre
    rw [List.length_take] at z
    omega
  have R := start_rel (rm := rm) (caps := caps) (cell := cellFn N (envOfC qual scope s.heap.objs.size fa cdv).cells) (E := E) (N := N) (n := N.length) rfl (by omega) hB sa tb
  rw [hdl] at R
  have J0 := inv_start (CX := L2.CX P w) (E := E) S hr.hd e0 hl r entered
  let endD : EndR := fun τ v G => ∃ d, lamF N.length b ds () = .ok d () ∧ RetC (frF g N.length rm caps (cellFn N (envOfC qual scope s.heap.objs.size fa cdv).cells) B H E) rm d v τ G
  refine wpAny_mono ((hb cdv rfl A outer s H E B (hr.deeper _)).run [] s1 (L2.start N vs) H endD J0 ⟨_, _, R, ?_⟩) (fun fl s' z => ?_) fun _ _ z => z
  · cases eb : b (startE N.length ds) with
    | ok d ρ' => exact fun τ v G rc => ⟨d, by unfold lamF; rw [eb], rc⟩
    | exn y ρ' =>
      unfold lamF at q
      rw [eb] at q
      exact fun cls dx σ' gh' H' R' ex => q cls dx H' (R'.keep.mono fun a z => nomatch z) R'.tabs (ex.mono (S := fun _ => False) Kp.refl (fun _ z => z.elim) fun a z => .inl z)
    | stuck => unfold lamF at q; rw [eb] at q; exact q
  · cases fl with
    | next => exact False.elim z
    | brk => exact False.elim z
    | cont => exact False.elim z
    | ret u =>
      obtain ⟨v, τ, G, J, rv, d, ed, rc⟩ := z
      rw [ed] at q
      obtain ⟨cs, O, hcs⟩ := own_cells J (f := frF g N.length rm caps (cellFn N (envOfC qual scope s.heap.objs.size fa cdv).cells) B H E) (caps_ok hc rfl rfl) caps fun _ z => z
      have hn : ∀ b o, cs.lookup b = some o → G b = none := fun b o z => let ⟨y, _, e2⟩ := O.own b o z; J.freeC y b e2
      have new : ∀ b o, cs.lookup b = some o → s.heap.objs.size ≤ b := fun b o z => let ⟨y, _, e2⟩ := O.own b o z; J.ok.cab y b rfl e2
      have outside : ∀ b o, s.heap.get? b = some o → cs.lookup b = none := fun b o e => by
        cases z : cs.lookup b with
        | none => rfl
        | some oc => exact absurd (Heap.lt_size e) (Nat.not_lt.mpr (new b oc z))
      have un : Un (frs outer) [] H G s.heap s'.heap := J.base
      have tracked : ∀ b o, H b = some o → cs.lookup b = none := fun b o e => by
        cases z : cs.lookup b with
        | none => rfl
        | some oc => rw [e0.hok.fresh (new b oc z)] at e; cases e
      have un2 : Un (frs outer) [] H (pin cs G) s.heap s'.heap := ⟨un.keep, un.slot, fun b o e n hx => by rw [pin_out (outside b o e)]; exact un.free b o e n hx, un.there, fun b xs e => by rw [pin_out (tracked b _ e)]; exact un.tups b xs e,
        fun b o y e => by rw [pin_out (tracked b _ e)]; exact un.frzs b o y e, fun b ps e => by rw [pin_out (tracked b _ e)]; exact un.tbls b ps e⟩
      have kp := kp_pin hn
      have ocs : ∀ a w', (frF g N.length rm caps (cellFn N (envOfC qual scope s.heap.objs.size fa cdv).cells) B H E).oc τ a w' → CellW nc (pin cs G) a w' := fun a w' ⟨i, hi, ea, ew⟩ => by
        obtain ⟨o, u, e1, e2, e3⟩ := hcs i hi w' ew
        rw [ea] at e1
        exact .inr ⟨o, u, pin_at e1, e2, e3⟩
      have tb2 : NdefX.TabsN g.T (pin cs G) := rc.2.1.ext fun b o e => by
        cases z : cs.lookup b with
        | none => rw [pin_out z]; exact e
        | some oc => rw [hn b oc z] at e; cases e
      refine ⟨v, pin cs G, J.os, J.bare, un2, pin_hok J.hok hn fun b o z => (O.at_ b o z).1, rv, q v _ ((rc.1.mono fun a z => nomatch z).trans kp) tb2 ?_⟩
      have rc3 := rc.2.2
      cases rm with
      | cs => exact Sh.mono kp (fun _ z => z.elim) ocs (fun _ n => n) d v rc3
      | tc U =>
        obtain ⟨a, e1, e2, t⟩ := rc3
        exact ⟨a, e1, e2, t.mono kp (fun z => z) (fun _ z => z.elim) ocs fun _ z => z⟩
      | _ => cases hrm
end
end PP
-- PP34
/-! PP34: own exceptions of one field: made, raised. -/
namespace PP
open PySem PySem.Spec PyProof.Rows L2
/-- a class's record is that of an exception over ValueError -/
def oexB (K : PySem.W.Frag) (C : Addr) : Bool := match K.lookup C with
  | some ⟨cls, _, .cls cd, sl⟩ => decide (cls = .type "type") && (decide (sl.size = 6) && (decide (sl[4]? = some (some (.builtin "ValueError.__new__"))) && ((match cd.mro with
    | .ref C' :: bm => decide (C' = C) && PySem.HandSPX.refsVE bm
    | _ => false) && (cd.hasDict && !cd.hasDel))))
  | _ => false
theorem arr6 {α : Type} {a : Array α} (h : a.size = 6) : ∃ k0 k1 k2 k3 k4 k5, a = #[k0, k1, k2, k3, k4, k5] := by
  obtain ⟨l⟩ := a
  match l, h with
  | [k0, k1, k2, k3, k4, k5], _ => exact ⟨_, _, _, _, _, _, rfl⟩
theorem oexB_ok {K : PySem.W.Frag} {C : Addr} (h : oexB K C = true) : ∃ nm q N bs bm sn sub ab col dd k0 k1 k2 k3 k5, K.lookup C = some (excClassObj nm q C N bs bm true sn sub ab col dd k0 k1 k2 k3 k5 "ValueError.__new__") ∧ PySem.HandSPX.refsVE bm = true := by
  unfold oexB at h
  split at h
  case h_2 => cases h
  case h_1 cls dd cd sl e =>
    simp only [Bool.and_eq_true, decide_eq_true_eq, Bool.not_eq_true'] at h
    obtain ⟨h1, h2, h3, h4, h5, h6⟩ := h
    obtain ⟨k0, k1, k2, k3, k4, k5, rfl⟩ := arr6 h2
    obtain ⟨nm, bs, mro, ns, qn, hd, sn, sb, ab, col, del⟩ := cd
    dsimp only at h4 h5 h6
    split at h4
    case h_2 => cases h4
    case h_1 C' bm =>
      simp only [Bool.and_eq_true, decide_eq_true_eq] at h4
      subst h1
      subst h5
      subst h6
      obtain ⟨rfl, hb⟩ := h4
      have h3 : some k4 = some (some (Value.builtin "ValueError.__new__")) := h3
      cases h3
      exact ⟨nm, qn, ns, bs, bm, sn, sb, ab, col, dd, k0, k1, k2, k3, k5, e, hb⟩
/-- what is looked at of an exception class x with the field f -/
def exB (K : PySem.W.Frag) (x f : Str) : Bool :=
  let C := He.ga K x
  oexB K C && (decide (PySem.W.findIn K (.ref C) "__setattr__" = some (some (.builtin "object.__setattr__"))) && (decide (PySem.W.subIn K (.ref C) (.type "BaseException") = some true) && (decide (PySem.W.typeIn K (.ref C) = some (.type "type")) &&
    (PySem.W.keepIn K (.ref C) && (decide (PySem.W.findIn K (.ref C) "__getattribute__" = some (some (.builtin "BaseException.__getattribute__"))) && (decide (PySem.W.findIn K (.ref C) "__getattr__" = some none) && (PySem.W.hasDictIn K C &&
    (decide (PySem.W.findIn K (.ref C) f = some none) && (decide (PySem.W.nsIn K mainGlobals x = some (some (.ref C))) &&
    (decide (PySem.W.findIn K (.ref C) "__init__" = some (some (.ref (He.ma K C "__init__")))) && decide (PySem.W.typeIn K (.ref (He.ma K C "__init__")) = some (.type "function"))))))))))))
structure ExC (K : PySem.W.Frag) (x f : Str) : Prop where
  o : OexC K (He.ga K x)
  xf : XfC K (He.ga K x)
  no : PySem.W.findIn K (.ref (He.ga K x)) f = some none
  ns : PySem.W.nsIn K mainGlobals x = some (some (.ref (He.ga K x)))
  i : PySem.W.findIn K (.ref (He.ga K x)) "__init__" = some (some (.ref (He.ma K (He.ga K x) "__init__")))
  ti : PySem.W.typeIn K (.ref (He.ma K (He.ga K x) "__init__")) = some (.type "function")
theorem exB_ok {K : PySem.W.Frag} {x f : Str} (h : exB K x f = true) : ExC K x f := by
  unfold exB at h
  simp only [Bool.and_eq_true, decide_eq_true_eq] at h
  obtain ⟨h1, h2, h3, h4, h5, h6, h7, h8, h9, h10, h11, h12⟩ := h
  exact ⟨⟨oexB_ok h1, h2, h3, h4, h5⟩, ⟨h6, h7, h3, h8⟩, h9, h10, h11, h12⟩
/-- __init__ of such a class: self.f = f -/
def spInit (K : PySem.W.Frag) (C : Addr) (f : Str) : Sp := fun vs H Q _ => ∃ (a : Addr) (y : V), vs = [.ref a, y] ∧ H a = some (exo a C none) ∧ ∀ dx, H dx = none → dx ≠ a → Q .non (upd (upd H dx (exd dx [(f, y)])) a (exo a C (some dx)))
section
variable {P : Program} {w : World} {K : PySem.W.Frag} {mg : Str → Option Value} {base : Heap} {x f qual : Str} {params : Arguments} {scope : Scope} {fa : Addr} {fd : FuncData} {p1 p2 p3 pos : Pos}
theorem init_ok {CX : CXT} (T : ExC K x f) (F : FunD K "__init__" qual params [.Assign [.Attribute (.Name "self" p1) f p2] (.Name f p3) pos] scope [] [] fa fd) (S : FnScope ["self", f] ["self", f] scope) (hl : scope.names.lookup ("self" : Str) = some NameKind.local) (hl2 : scope.names.lookup f = some NameKind.local)
    (hd : (f == ("__debug__" : Str)) = false) (hcd : (f == ("__classdict__" : Str)) = false) (hs : ∀ env : PySem.Env, swapsWith (.Name f p3) (some (.Attribute (.Name "self" p1) f p2)) pos.line env = pure false) : FnOk P w K mg base CX 1 fa fd ["self", f] (spInit K (He.ga K x) f) := by
  refine F.ok (CX := CX) S (fun vs H Q E ⟨a, y, e, _⟩ => by rw [e]; rfl) (fun cdv A outer s0 H vs Q E hr ⟨a, y, e, ea, q⟩ => ⟨_, pss_one (ps_ost (pe_var (i := 0) rfl (Or.inl hl)) (pe_var (i := 1) rfl (Or.inl hl2) hd hcd) (hs _)), ?_⟩)
  subst e
  exact ⟨y, rfl, .ref a, rfl, a, He.ga K x, rfl, T.o, T.no, .inl ⟨ea, fun dx n ne => q dx n ne⟩⟩
end
/-- the class x with the field f, as it is made -/
structure ExAt (P : Program) (w : World) (K : PySem.W.Frag) (mg : Str → Option Value) (base : Heap) (x f : Str) : Prop where
  c : ExC K x f
  m : mg x = some (.ref (He.ga K x))
  fn : ∃ fd : FuncData, Binds K fd ["self", f] [] ∧ FnOk P w K mg base (L2.CX P w) 1 (He.ma K (He.ga K x) "__init__") fd ["self", f] (spInit K (He.ga K x) f)
/-- raise x(e) -/
def sRaise1 (x f : Str) (a : EM D) : SM := do let d ← a; M.raise ⟨x, [(f, d)]⟩
section
variable {X : Cx} {f : Fr} {Γ Γ' Γb Γc : List Kd} {e : Expr} {a : EM D} {pos p p2 : Pos} {x fl : Str}
theorem xs_raise (A : ExAt X.prog X.w X.K X.mg X.base x fl) (hr : Room 2 X.A) (tk : Takes X f.W) (hc : X.calm = true) (hG : f.g.mg = X.mg) (h : XE X f Γ e .sh a) (hg : Gl X x := by rfl) (hw : wkL Γ f.Γx = true := by rfl)
    (hdb : (x == ("__debug__" : Str)) = false := by decide) (he : starEach [e] X.env = (false, eval e X.env) :: starEach [] X.env := by rfl) (hpl : (backTo p2 (starEach [] X.env)).any (·.1) = false := by rfl) :
    XS X f Γ Γ' Γb Γc (.Raise (some (.Call (.Name x p) [e] [] p2)) none pos) (sRaise1 x fl a) := by
  obtain ⟨fd, hb, F1⟩ := A.fn
  refine PS.mono (ps_raise hc tk (pmk_oex (dvs := []) A.c.o A.c.i A.c.ti F1 hr hb .nil (passes_call tk fun _ _ _ _ z => z.elim) hg A.m (pa_cons h pa_nil he) hdb he hpl)) fun D σ H ⟨ρ, gh, R, q⟩ => ?_
  show tCons (RE f Γ .sh a) tNil σ H _
  refine RE.fstS (m := .sh) hw R (show ObS f Γ' Γb Γc (Tp Γ gh) H ((a >>= fun d => M.raise ⟨x, [(fl, d)]⟩) ρ) D from q) fun d ρ1 v H1 L R1 k1 vo n w => ?_
  refine ⟨by simp, fun ea na => ⟨ea, v, rfl, upd_same, fun dx nd ne => ⟨rfl, dx, [(fl, v)], upd_same, ?_, ?_, ?_⟩⟩⟩
  · rw [upd_ne ne, upd_same]
  · rw [upd_ne ne] at nd; exact nd
  · have nd1 : H1 dx = none := by rw [upd_ne ne] at nd; exact nd
    have eq : upd (del (upd (upd (upd H1 ea (exo ea (He.ga X.K x) none)) dx (exd dx [(fl, v)])) ea (exo ea (He.ga X.K x) (some dx))) ea) dx (.xd [(fl, v)]) = upd H1 dx (.xd [(fl, v)]) := by
      funext b
      by_cases h1 : b = dx
      · rw [h1, upd_same, upd_same]
      · rw [upd_ne h1, upd_ne h1]
        by_cases h2 : b = ea
        · rw [h2, del_same, na]
        · rw [del_ne h2, upd_ne h2, upd_ne h1, upd_ne h2]
    rw [eq]
    have R2 : Rel f Γ ρ1 gh σ (upd H1 dx (.xd [(fl, v)])) := R1.new nd1
    refine (show ObS f Γ' Γb Γc (Tp Γ gh) H (.exn ⟨x, [(fl, d)]⟩ ρ1) D from w) _ _ σ _ _ (R2.weak hw) ⟨_, hG ▸ A.m, rfl, .inr ⟨dx, [(fl, v)], rfl, upd_same, rfl, ?_⟩⟩
    have sd := vo.2.kp (Kp.upd_new (S := fun _ => False) (o := .xd [(fl, v)]) nd1) (fun _ z => z.elim)
    simp only [ShA, List.map_cons, List.map_nil]
    exact ⟨v, [], rfl, sd.sub fun a z => z.elim (fun z => Bo_sub R1 a (.inl z)) fun z => Bo_sub R1 a (.inr (SxW' hw a z)), rfl⟩
end
end PP
-- PP35
/-! PP35: try with clauses that answer by a word and a field. -/
namespace PP
open PySem PySem.Spec PyProof.Rows L2
/-- a clause: its class, the slot of its name, the word and the field that it answers -/
structure Hdl where
  cls : Str
  slot : Nat
  word : Str
  fld : Option Str
def Hdl.ans (h : Hdl) (x : Ex) : Option D := match h.fld with
  | some fl => (x.fs.lookup fl).map fun d => .tup [.str h.word, d]
  | none => some (.tup [.str h.word, .non])
def sTry (known : List Str) (b : SM) (hs : List Hdl) : SM := fun ρ => match b ρ with
  | .exn x ρ' => if known.contains x.c = true then (match hs.find? (fun h => h.cls == x.c) with
    | some h => (match h.ans x with
      | some d => .ok (.rt d) ρ'
      | none => .stuck)
    | none => .exn x ρ') else .stuck
  | r => r
structure TryOk (K : PySem.W.Frag) (mg : Str → Option Value) (known : List Str) (hs : List Hdl) : Prop where
  k : ∀ c ∈ known, mg c = some (.ref (He.ga K c))
  h : ∀ h ∈ hs, mg h.cls = some (.ref (He.ga K h.cls))
  e : ∀ c ∈ known, ∀ h ∈ hs, PySem.W.exmOne K (.ref (He.ga K c)) (.ref (He.ga K h.cls)) = some (h.cls == c)
  f : ∀ h ∈ hs, ∀ fl, h.fld = some fl → XfC K (He.ga K h.cls) ∧ PySem.W.findIn K (.ref (He.ga K h.cls)) fl = some none
/-- the clauses as they are written -/
inductive HdlsAt (X : Cx) : List ExceptHandler → List Hdl → Prop
  | nil : HdlsAt X [] []
  | as {x n word fl : Str} {i j k : Nat} {p1 p2 p3 p4 p5 p6 p7 : Pos} {hds : List ExceptHandler} {hs : List Hdl} (hi : X.N[i]? = some n) (hl : X.env.kindOf n = some .local) (hg : Gl X x) (hd : (x == ("__debug__" : Str)) = false) (hdn : (n == ("__debug__" : Str)) = false) (hcn : (n == ("__classdict__" : Str)) = false)
      (hb : attributeBase (.Name n p4) fl X.env (eval (.Name n p4) X.env) = eval (.Name n p4) X.env) (r : HdlsAt X hds hs) :
      HdlsAt X (.ExceptHandler (some (.Name x p1)) (some n) [.Return (some (.Tuple [.Constant (.str word) j p3, .Attribute (.Name n p4) fl p5] k p6)) p7] p2 :: hds) (⟨x, i, word, some fl⟩ :: hs)
  | no {x word : Str} {i j j2 k : Nat} {p1 p2 p3 p5 p6 p7 : Pos} {hds : List ExceptHandler} {hs : List Hdl} (hg : Gl X x) (hd : (x == ("__debug__" : Str)) = false) (r : HdlsAt X hds hs) :
      HdlsAt X (.ExceptHandler (some (.Name x p1)) none [.Return (some (.Tuple [.Constant (.str word) j p3, .Constant .none j2 p5] k p6)) p7] p2 :: hds) (⟨x, i, word, none⟩ :: hs)
/-- a suite's reading -/
def tAns (K : PySem.W.Frag) (h : Hdl) (a : Addr) (cls : Value) (d : Option Addr) : TS := fun D σ H => match h.fld with
  | some fl => cls = .ref (He.ga K h.cls) ∧ σ[h.slot]? = some (some (.ref a)) ∧ ∃ (dd : Addr) (fs : List (Str × V)) (v : V), d = some dd ∧ H dd = some (.xd fs) ∧ fs.lookup fl = some v ∧ ∀ p, H p = none → D.rt (.ref p) (upd H p (.tup [.str h.word, v]))
  | none => ∀ p, H p = none → D.rt (.ref p) (upd H p (.tup [.str h.word, .non]))
def Hdl.cl (K : PySem.W.Frag) (h : Hdl) : Cl := (.ref (He.ga K h.cls), h.fld.map fun _ => h.slot, tAns K h)
theorem cls_ok {X : Cx} {known : List Str} {hds : List ExceptHandler} {hs : List Hdl} (h : HdlsAt X hds hs) : (∀ h ∈ hs, X.mg h.cls = some (.ref (He.ga X.K h.cls))) → (∀ h ∈ hs, ∀ fl, h.fld = some fl → XfC X.K (He.ga X.K h.cls) ∧ PySem.W.findIn X.K (.ref (He.ga X.K h.cls)) fl = some none) → ClsOk X hds (hs.map (Hdl.cl X.K)) := by
  induction h with
  | nil => exact fun _ _ => .nil
  | @as x n word fl i j k p1 p2 p3 p4 p5 p6 p7 hds hs hi hl hg hd hdn hcn hb r ih =>
    intro hm hf
    refine .cons ⟨hg, hd, .inl (hm _ List.mem_cons_self)⟩ ⟨hi, hl⟩ (fun a oe cls d pn hz hv => ?_) (ih (fun h hh => hm h (List.mem_cons_of_mem _ hh)) fun h hh => hf h (List.mem_cons_of_mem _ hh))
    obtain ⟨T, no⟩ := hf _ List.mem_cons_self fl rfl
    refine PSs.mono (pss_one (ps_ret (pe_tup (pa_cons pe_str (pa_cons (pe_xf (X := X) (pn := pn) T no hz hv (pe_var (i := i) hi (Or.inl hl) hdn hcn) hb) pa_nil))))) fun D σ H ⟨e1, e2, dd, fs, v, e3, e4, e5, q⟩ => ?_
    exact ⟨.ref a, e2, rfl, e1, dd, fs, v, e3, e4, e5, line_of (n := 2) rfl, fun p hp => q p hp⟩
  | @no x word i j j2 k p1 p2 p3 p5 p6 p7 hds hs hg hd r ih =>
    intro hm hf
    refine .cons ⟨hg, hd, .inl (hm _ List.mem_cons_self)⟩ trivial (fun a oe cls d pn hz hv => ?_) (ih (fun h hh => hm h (List.mem_cons_of_mem _ hh)) fun h hh => hf h (List.mem_cons_of_mem _ hh))
    refine PSs.mono (pss_one (ps_ret (pe_tup (pa_cons pe_str (pa_cons pe_non pa_nil))))) fun D σ H q => ?_
    exact ⟨line_of (n := 2) rfl, fun p hp => q p hp⟩
abbrev Fr.wish (f : Fr) (W : WX) : Fr := { f with W := W }
section
variable {X : Cx} {f : Fr} {Γ Γ' Γb Γc : List Kd} {body : List Stmt} {h₀ : ExceptHandler} {hds : List ExceptHandler} {hs : List Hdl} {known : List Str} {s : SM} {pos : Pos}
theorem Rel.wish {W : WX} {ρ : Env} {gh : Nat → List Addr} {σ : L2.St} {H : Hp} (R : Rel f Γ ρ gh σ H) : Rel (f.wish W) Γ ρ gh σ H := ⟨R.lr, R.ls, R.slot, R.nd, R.dj, R.fresh, R.lent, R.one, R.b0, R.nb, R.s0, R.keep, R.tabs⟩
theorem Rel.unwish {W : WX} {ρ : Env} {gh : Nat → List Addr} {σ : L2.St} {H : Hp} (R : Rel (f.wish W) Γ ρ gh σ H) : Rel f Γ ρ gh σ H := ⟨R.lr, R.ls, R.slot, R.nd, R.dj, R.fresh, R.lent, R.one, R.b0, R.nb, R.s0, R.keep, R.tabs⟩
theorem RetOk.unwish {W : WX} {ρ : Env} {d : D} {v : V} {H : Hp} (r : RetOk f ρ d v H) : RetOk (f.wish W) ρ d v H := r
theorem lookup_sh {g : G} {B : Addr → Prop} {H : Hp} {fl : Str} {d : D} : ∀ {xs : List (Str × D)} {fs : List (Str × V)}, fs.map (·.1) = xs.map (·.1) → ShA g nc B H (xs.map (·.2)) (fs.map (·.2)) → xs.lookup fl = some d → ∃ v, fs.lookup fl = some v ∧ Sh g nc B H d v
  | [], fs, _, _, e => by cases e
  | (n, d0) :: xs, [], h, _, _ => by cases h
  | (n, d0) :: xs, (n2, v0) :: fs, h, s, e => by
    simp only [List.map_cons, List.cons.injEq] at h
    obtain ⟨rfl, h⟩ := h
    simp only [List.map_cons, ShA] at s
    obtain ⟨v, r, es, s1, s2⟩ := s
    cases es
    rw [List.lookup_cons] at e ⊢
    cases q : (fl == n2) with
    | true =>
      rw [q] at e
      cases e
      exact ⟨v0, rfl, s1⟩
    | false =>
      rw [q] at e
      exact lookup_sh h s2 e
theorem wCls_ok {D : Ends} {x : Ex} {cls : Value} {dx : Option Addr} {ρ' : Env} {gh' : Nat → List Addr} {σ' : L2.St} {H' : Hp} {T : Addr → Prop} {H0 : Hp} (hrm : f.rm = .sh) (hio : f.io = false) (hsl : ∀ h ∈ hs, h.slot < f.n) (hG : f.g.mg = X.mg)
    (hkn : x.c ∈ known) (hk : X.mg x.c = some (.ref (He.ga X.K x.c))) (he : ∀ h ∈ hs, PySem.W.exmOne X.K (.ref (He.ga X.K x.c)) (.ref (He.ga X.K h.cls)) = some (h.cls == x.c))
    (R : Rel f f.Γx ρ' gh' σ' H') (ex : ExV f.g (Bo f f.Γx) x cls dx H')
    (w : ObS f Γ' Γb Γc T H0 (match hs.find? (fun h => h.cls == x.c) with
      | some h => (match h.ans x with
        | some d => .ok (.rt d) ρ'
        | none => .stuck)
      | none => .exn x ρ') D) : wCls X.K f.W D (hs.map (Hdl.cl X.K)) cls dx σ' H' := by
  obtain ⟨C, e1, e2, q⟩ := id ex
  rw [hG, hk] at e1
  cases e1
  subst e2
  induction hs with
  | nil => exact w _ _ _ _ _ R ex
  | cons h hs ih =>
    rw [List.find?_cons] at w
    have e0 := he h List.mem_cons_self
    refine ⟨_, e0, fun hb a na => ?_, fun hb => ?_⟩
    · rw [hb] at w
      dsimp only at w
      have ec : h.cls = x.c := eq_of_beq hb
      have sl := hsl h List.mem_cons_self
      have ret : ∀ (d : PP.D) (v : V) (p : Addr), Sh f.g nc f.B0 H' d v → H' p = none → h.ans x = some (.tup [.str h.word, d]) → D.rt (.ref p) (upd H' p (.tup [.str h.word, v])) := fun d v p sv hp ea => by
        rw [ea] at w
        refine w (.ref p) _ ⟨?_, R.keep.trans (Kp.upd_new hp), TabsN.upd R.tabs hp, fun z => by rw [hio] at z; cases z⟩
        rw [hrm]
        show Sh f.g nc f.B0 _ (.tup [.str h.word, d]) (.ref p)
        simp only [Sh, ShA]
        exact ⟨p, _, rfl, .inl (.inl upd_same), _, _, rfl, rfl, v, [], rfl, sv.kp (Kp.upd_new (S := fun _ => False) hp) (fun _ z => z.elim), rfl⟩
      obtain ⟨hc, hslot, hword, hfld⟩ := h
      cases hfld with
      | none => exact fun p hp => ret .non .non p (by simp only [Sh]) hp rfl
      | some fl =>
        have ec : hc = x.c := ec
        have sl : hslot < f.n := sl
        cases el : x.fs.lookup fl with
        | none =>
          have : Hdl.ans ⟨hc, hslot, hword, some fl⟩ x = none := by unfold Hdl.ans; dsimp only; rw [el]; rfl
          rw [this] at w
          exact w.elim
        | some d =>
          have ea : Hdl.ans ⟨hc, hslot, hword, some fl⟩ x = some (.tup [.str hword, d]) := by unfold Hdl.ans; dsimp only; rw [el]; rfl
          rcases q with ⟨q, _⟩ | ⟨dd, fs, rfl, q1, q2, q3⟩
          · rw [q] at el; cases el
          · obtain ⟨v, ev, sv⟩ := lookup_sh q2 q3 el
            refine ⟨by rw [← ec], ?_, dd, fs, v, rfl, q1, ev, fun p hp => ret d v p (sv.sub fun a z => .inl z) hp ea⟩
            show (σ'.set hslot (some (V.ref a)))[hslot]? = some (some (.ref a))
            rw [List.getElem?_set_self (by rw [R.ls]; exact sl)]
    · rw [hb] at w
      exact ih (fun h hh => hsl h (List.mem_cons_of_mem _ hh)) (fun h hh => he h (List.mem_cons_of_mem _ hh)) w
theorem xs_try (O : TryOk X.K X.mg known hs) (hst : X.stack = X.env :: X.outer) (hfr : X.env.frame = some X.env.locals) (hN : X.N.Nodup) (tk : Takes X f.W) (hrm : f.rm = .sh) (hio : f.io = false) (hG : f.g.mg = X.mg)
    (hb : ∀ (W : WX) (pn : List (Addr × Obj)) (xe : Value → Shared → Prop), Takes (X.tr pn xe) W → PassesOwn (model X.prog X.w) X.A X.env xe → XSs (X.tr pn xe) (f.wish W) Γ Γ' Γb Γc body s)
    (hh : HdlsAt X (h₀ :: hds) hs) (hsl : (hs.all fun h => decide (h.slot < f.n)) = true := by rfl) : XS X f Γ Γ' Γb Γc (.Try body (h₀ :: hds) [] [] pos) (sTry known s hs) := by
  refine PS.mono (ps_tryC hst hfr hN tk hb (cls_ok (known := known) hh O.h O.f)) fun D σ H ⟨ρ, gh, R, q⟩ => ⟨ρ, gh, R.wish, ?_⟩
  have q : ObS f Γ' Γb Γc (Tp Γ gh) H (sTry known s hs ρ) D := q
  unfold sTry at q
  cases es : s ρ with
  | ok o ρ1 =>
    rw [es] at q
    cases o with
    | nx => exact fun σ' gh' H' R' => q σ' gh' H' R'.unwish
    | rt d => exact fun v H' r => q v H' r
    | bk => exact fun σ' gh' H' R' => q σ' gh' H' R'.unwish
    | ct => exact fun σ' gh' H' R' => q σ' gh' H' R'.unwish
  | exn x ρ1 =>
    rw [es] at q
    dsimp only at q
    intro cls dx σ' gh' H' R' ex
    by_cases hk : known.contains x.c = true
    · rw [if_pos hk] at q
      have hm : x.c ∈ known := by simpa using hk
      exact wCls_ok hrm hio (fun h hh => of_decide_eq_true (List.all_eq_true.mp hsl h hh)) hG hm (O.k _ hm) (fun h hh => O.e _ hm h hh) R'.unwish ex q
    · rw [if_neg hk] at q
      exact q.elim
  | stuck => rw [es] at q; exact q
end
end PP
-- PP36
/-! PP36: lambdas by their defs' tables; the law's def. -/
namespace PP
open PySem PySem.Spec PyProof.Rows L2
/-- a def with lambdas: its code, the code's table -/
structure LamDef (base : Heap) (mg : Str → Option Value) (g : G) (q : Str) (cd tb : Addr) : Prop where
  b : LamX.TabB base mg cd tb
  T : ∃ T0 : List (Addr × Str), g.T = T0.map (fun p => (p.1, fun _ _ => p.2)) ∧ (tb, q) ∈ T0 ∧ ∀ p ∈ T0, p.1 = tb → p.2 = q
section
variable {X : Cx} {f : Fr} {Γ : List Kd}
theorem xe_lamD (ci : Nat) (js : List Nat) {q : Str} {ar : Arguments} {bd : Expr} {sc : Scope} {fr : List Str} {cd tb : Addr} {pos : Pos} (A : LamDef X.base X.mg f.g q cd tb) (hcode : X.env.code = .ref cd) (hCT : f.g.CT ci = ⟨X.env.qual ++ "<lambda>", ar, bd, sc, fr⟩) (hq : X.env.qual ++ "<lambda>" = q)
    (L : LamOk X f sc fr js) (hk : ∀ j ∈ js, Γ.getD j .un = .sh) (hdef : defaultsOf ar X.env = ([], []) := by rfl) : XE X f Γ (.Lambda ar bd sc pos) .cs (eLam ci js) := by
  obtain ⟨T0, h1, h2, h3⟩ := A.T
  exact xe_lam ci js hCT A.b hcode h1 (hq ▸ h2) (hq ▸ h3) L hk hdef
end
/-! ### the law -/
def stream0 (ns : List Int) : D := .lst [.lst (ns.map .int), .int 0, .int 0, .int 17]
def lawEnv (n : Nat) (ns : List Int) : Env := none :: some (stream0 ns) :: List.replicate (n - 2) none
def spStream (K : PySem.W.Frag) : Sp := fun vs H Q _ => ∃ (a : Addr) (ns : List Int), vs = [.ref a] ∧ SqL K H a (ns.map V.int) ∧ ∀ l p, H l = none → upd H l (.lst (ns.map V.int)) p = none → Q (.ref p) (upd (upd H l (.lst (ns.map V.int))) p (.lst [.ref l, .int 0, .int 0, .int 17]))
def tFirst (K : PySem.W.Frag) : TS := fun D σ H => ∃ (a : Addr) (ns : List Int), σ[0]? = some (some (.ref a)) ∧ SqL K H a (ns.map V.int) ∧ ∀ l p, H l = none → upd H l (.lst (ns.map V.int)) p = none → D.nx (σ.set 1 (some (.ref p))) (upd (upd H l (.lst (ns.map V.int))) p (.lst [.ref l, .int 0, .int 0, .int 17]))
def spLaw (g : G) (n : Nat) (b : SM) : Sp := fun vs H Q _ => ∃ (a : Addr) (ns : List Int), vs = [.ref a] ∧ SqL g.K H a (ns.map V.int) ∧ NdefX.TabsN g.T H ∧ (∃ ρ', b (lawEnv n ns) = .ok (.rt (.bl true)) ρ') ∧ ∀ H', Q (.bl true) H'
abbrev frLaw (g : G) (n : Nat) (caps : List Nat) (cell : Nat → Addr) (H : Hp) (E : XK) (L : List Addr) (v0 : V) : Fr :=
  { g := g, n := n, B0 := fun _ => False, H0 := H, S0 := L, W := fun cls d _ H' => E cls d H', caps := caps, cell := cell, rm := .own [], io := false, v0 := v0, Γx := .un :: .st :: List.replicate (n - 2) .un, js := 1 }
def kindsLaw (n : Nat) : List Kd := .un :: .st :: List.replicate (n - 2) .un
theorem ow_ints {g : G} {H : Hp} : ∀ ns : List Int, OwA g H (ns.map .int) (ns.map V.int) []
  | [] => by simp only [List.map_nil, OwA]; exact ⟨trivial, trivial⟩
  | n :: ns => by
    simp only [List.map_cons, OwA, Ow]
    exact ⟨_, _, [], [], rfl, rfl, ⟨rfl, rfl⟩, ow_ints ns⟩
theorem kindsLaw_st {n i : Nat} (h : (kindsLaw n).getD i .un = .st) : i = 1 := by
  match i with
  | 0 => cases h
  | 1 => rfl
  | i + 2 =>
    have e : (kindsLaw n).getD (i + 2) .un = (List.replicate (n - 2) Kd.un).getD i .un := rfl
    rw [e, List.getD_eq_getElem?_getD, List.getElem?_replicate] at h
    split at h <;> cases h
theorem lawEnv_rel {g : G} {n : Nat} {caps : List Nat} {cell : Nat → Addr} {H : Hp} {E : XK} {ns : List Int} {a l p : Addr} {N : List Str} (hn : N.length = n) (h2 : 2 ≤ n) (hl : H l = some (.lst (ns.map V.int))) (hp : H p = some (.lst [.ref l, .int 0, .int 0, .int 17])) (ne : p ≠ l) (t : NdefX.TabsN g.T H) :
    Rel (frLaw g n caps cell H E [p, l] (.ref p)) (kindsLaw n) (lawEnv n ns) (fun i => if i = 1 then [p, l] else []) ((L2.start N [.ref a]).set 1 (some (.ref p))) H := by
  have hs : ((L2.start N [.ref a]).set 1 (some (V.ref p))).length = n := by
    rw [List.length_set]
    unfold L2.start
    simp [hn]; omega
  refine ⟨by simp [lawEnv]; omega, hs, fun i => ?_, fun i => ?_, fun i j b h h' => ?_, fun i e b h => ?_, fun i h => ?_, fun i h => kindsLaw_st h, fun b z => z.elim, fun i b _ z => z, fun b hb => ?_, ⟨fun b o e _ _ => e, fun b e => e⟩, t⟩
  · match i with
    | 0 => exact rfl
    | 1 =>
      refine ⟨stream0 ns, .ref p, rfl, ?_, ?_⟩
      · have h1 : 1 < (L2.start N [V.ref a]).length := by rw [List.length_set] at hs; omega
        rw [List.getD_eq_getElem?_getD, List.getElem?_set_self h1]; rfl
      · show Ow g H (stream0 ns) (.ref p) [p, l]
        unfold stream0
        simp only [Ow, OwA]
        exact ⟨p, _, [l], rfl, rfl, hp, .ref l, _, [l], [], rfl, rfl, ⟨l, _, [], rfl, rfl, hl, ow_ints ns⟩, _, _, [], [], rfl, rfl, ⟨rfl, rfl⟩, _, _, [], [], rfl, rfl, ⟨rfl, rfl⟩, _, _, [], [], rfl, rfl, ⟨rfl, rfl⟩, rfl, rfl⟩
    | i + 2 =>
      have e : (kindsLaw n).getD (i + 2) .un = (List.replicate (n - 2) Kd.un).getD i .un := rfl
      have e2 : (List.replicate (n - 2) Kd.un).getD i .un = .un := by
        rw [List.getD_eq_getElem?_getD, List.getElem?_replicate]
        split <;> rfl
      rw [e, e2]
      exact rfl
  · try dsimp only
    split
    · exact List.nodup_cons.mpr ⟨fun z => ne (List.mem_singleton.mp z), List.nodup_cons.mpr ⟨(fun z => nomatch z), List.nodup_nil⟩⟩
    · exact List.nodup_nil
  · try dsimp only at h h'
    split at h
    · split at h'
      · omega
      · cases h'
    · cases h
  · try dsimp only at h
    split at h
    · rename_i e0; subst e0; exact absurd rfl e
    · cases h
  · obtain rfl := kindsLaw_st h
    refine ⟨rfl, ?_⟩
    have h1 : 1 < (L2.start N [V.ref a]).length := by rw [List.length_set] at hs; omega
    rw [List.getD_eq_getElem?_getD, List.getElem?_set_self h1]; rfl
  · have hb : b = p ∨ b = l := by simpa using hb
    rcases hb with rfl | rfl
    · show H b ≠ none
      rw [hp]; exact fun z => by cases z
    · show H b ≠ none
      rw [hl]; exact fun z => by cases z
section
variable {P : Program} {w : World} {K : PySem.W.Frag} {mg : Str → Option Value} {base : Heap} {x qual : Str} {params : Arguments} {body : List Stmt} {scope : Scope} {fa : Addr} {fd : FuncData} {N : List Str} {g : G} {k : Nat} {caps : List Nat} {s : SM} {Γ' : List Kd} {st : Stmt} {rest : List Stmt}
theorem law_ok (hK : g.K = K) (F : FunD K x qual params body scope [] [] fa fd) (S : FnScope N ["script"] scope) (eb : body = st :: rest) (h2 : 2 ≤ N.length)
    (hf : ∀ (cdv : Value), fd.code = cdv → ∀ (A : Around) (outer : List PySem.Env) (s0 : Shared) (H : Hp) (E : XK), Room k (A.deeper (envOfC qual scope s0.heap.objs.size fa cdv)) → PS (cxOf (L2.CX P w) P w K mg base N qual scope fa cdv A outer s0 H E) st (tFirst K))
    (hb : ∀ (cdv : Value), fd.code = cdv → ∀ (A : Around) (outer : List PySem.Env) (s0 : Shared) (H H1 : Hp) (E : XK) (L : List Addr) (v0 : V), Room k (A.deeper (envOfC qual scope s0.heap.objs.size fa cdv)) →
      XSs (cxOf (L2.CX P w) P w K mg base N qual scope fa cdv A outer s0 H E) (frLaw g N.length caps (cellFn N (envOfC qual scope s0.heap.objs.size fa cdv).cells) H1 E L v0) (kindsLaw N.length) Γ' [] [] rest s) :
    FnOk P w K mg base (L2.CX P w) (k + 1) fa fd ["script"] (spLaw g N.length s) := by
  subst eb
  subst hK
  refine PP.FunD.okW (CX := L2.CX P w) F S (fun vs H Q E ⟨a, ns, e, _⟩ => by rw [e]; rfl) (fun cdv hcv A outer s0 H vs Q E hr ⟨a, ns, ev, sq, tb, ⟨ρ', run⟩, q⟩ => ?_)
  subst ev
  refine ⟨_, pss_cons (u := fun D σ G => ∃ (H1 : Hp) (L : List Addr) (v0 : V), RS (frLaw g N.length caps (cellFn N (envOfC qual scope s0.heap.objs.size fa cdv).cells) H1 E L v0) (kindsLaw N.length) Γ' [] [] s D σ G) (hf cdv hcv A outer s0 H E hr)
    ⟨fun pins sx σ G D I ⟨H1, L, v0, z⟩ => (hb cdv hcv A outer s0 H H1 E L v0 hr).run pins sx σ G D I z⟩, ?_⟩
  refine ⟨a, ns, ?_, sq, fun l p nl np => ?_⟩
  · have hp : 1 ≤ N.length := by omega
    unfold L2.start
    rfl
  · have nlp : p ≠ l := fun z => by rw [z, upd_same] at np; cases np
    have np0 : H p = none := by rw [upd_ne nlp] at np; exact np
    have tb2 : NdefX.TabsN g.T (upd (upd H l (.lst (ns.map V.int))) p (.lst [.ref l, .int 0, .int 0, .int 17])) := TabsN.upd (TabsN.upd tb nl) np
    refine ⟨_, [p, l], .ref p, _, _, lawEnv_rel rfl h2 (by rw [upd_ne (Ne.symm nlp), upd_same]) upd_same nlp tb2, ?_⟩
    rw [run]
    exact fun v H' r => by
      obtain ⟨L', o, _, _⟩ := r.1
      have o : v = .bl true := by simp only [Ow] at o; exact o.2
      rw [o]
      exact q H'
end
end PP
-- PP37
/-! PP37: lists of closures grown; empty dicts; list(d.items()). -/
namespace PP
open PySem PySem.Spec PyProof.Rows L2
section
variable {X : Cx} {f : Fr} {Γ Γ1 Γ' Γb Γc : List Kd} {e e2 : Expr} {es : List Expr} {a b : EM D} {r : EM (List D)} {s t : SM} {pos p p2 p3 apos cpos tpos : Pos} {m ma mb : Md} {ms : List Md} {k n : Nat} {x : Str}
/-! ### x.append(a closure) -/
theorem Rel.tcPut {i : Nat} {ρ : Env} {gh : Nat → List Addr} {σ : L2.St} {H : Hp} {l : Addr} {ds' : List D} {vs vs' : List V} (hi : i < f.n) (hk : Γ.getD i .un = .tc) (R : Rel f Γ ρ gh σ H) (hv : σ.getD i none = some (.ref l)) (hl : H l = some (.lst vs)) (hg : gh i = [l]) (s : ShA f.g (f.oc σ) (Bx f Γ gh) H ds' vs') :
    Rel f Γ (ρ.set i (some (.lst ds'))) gh σ (upd H l (.lst vs')) ∧ Kp (Tp Γ gh) H (upd H l (.lst vs')) := by
  have tl : Tp Γ gh l := ⟨i, by rw [hk, hg]; exact List.mem_singleton.mpr rfl⟩
  have bl : Bx f Γ gh l := .inr tl
  have kp : Kp (fun a => a = l) H (upd H l (.lst vs')) := Kp.updS hl trivial
  have h0 : f.H0 l = none := R.fresh i (by rw [hk]; decide) l (by rw [hg]; exact List.mem_singleton.mpr rfl)
  refine ⟨⟨by rw [List.length_set]; exact R.lr, R.ls, fun j => ?_, R.nd, R.dj, R.fresh, R.lent, R.one, fun a z => ⟨(R.b0 a z).1, ?_⟩, R.nb, R.s0, ⟨fun a o e n t => ?_, fun a e => R.keep.2 a (upd_none e)⟩, TabsN.updM R.tabs hl trivial⟩, kp.mono fun a z => by rw [z]; exact tl⟩
  · rw [getD_set_eq (by rw [R.lr]; exact hi)]
    by_cases ej : j = i
    · subst ej
      rw [if_pos rfl, hk]
      exact ⟨_, _, l, rfl, hv, hg, rfl, .inl ⟨ds', vs', rfl, upd_same, s.kp kp fun a z => by rw [z]; exact bl⟩⟩
    · rw [if_neg ej]
      exact (R.slot j).mono kp (fun a ha z => ej (R.dj j i a ha (by rw [hg, z]; exact List.mem_singleton.mpr rfl))) (fun a z => by rw [z]; exact bl) (fun _ _ z => .inl z) fun _ z => z
  · obtain ⟨o, e, t⟩ := (R.b0 a z).2
    have ne : a ≠ l := fun q => R.nb i l (by rw [hg]; exact List.mem_singleton.mpr rfl) (by rw [← q]; exact z)
    exact ⟨o, by rw [upd_ne ne]; exact e, t⟩
  · have ne : a ≠ l := fun q => by rw [q, h0] at e; cases e
    rw [upd_ne ne]; exact R.keep.1 a o e n t
theorem Rel.tcGet {i : Nat} {ρ : Env} {gh : Nat → List Addr} {σ : L2.St} {H : Hp} (hk : Γ.getD i .un = .tc) (R : Rel f Γ ρ gh σ H) : ∃ d l, ρ.getD i none = some d ∧ σ.getD i none = some (.ref l) ∧ gh i = [l] ∧ TopOk f.g (f.oc σ) (Bx f Γ gh) H l d := by
  have s := R.slot i
  rw [hk] at s
  obtain ⟨d, v, l, e1, e2, e3, rfl, t⟩ := s
  exact ⟨d, l, e1, e2, e3, t⟩
theorem xs_appC (i : Nat) (hk : Γ.getD i .un = .tc) (h : XE X f Γ e .cs a) (hi : Nat.blt i f.n = true := by rfl) (hw : wkL Γ f.Γx = true := by rfl) (hN : X.N[i]? = some x := by rfl) (hv : Vis X.env.scope x := by first | exact Or.inl rfl | exact Or.inr (Or.inl rfl) | exact Or.inr (Or.inr rfl))
    (hd : (x == ("__debug__" : Str)) = false := by decide) (hcd : (x == ("__classdict__" : Str)) = false := by decide)
    (hbase : attributeBase (.Name x p) "append" X.env (eval (.Name x p) X.env) = eval (.Name x p) X.env := by rfl)
    (hfew : ((backTo cpos (starEach [e] X.env)).all (fun x => !x.1) && (backToKw cpos (keywordEach [] X.env)).all (fun x => x.1.isSome)
      && decide (([e] : List Expr).length + ([] : List Keyword).length + (if ([] : List Keyword).isEmpty then 0 else 1) < 30)) = true := by rfl)
    (hline : (apos.endLine == cpos.line) = true := by rfl) (hs : starEach [e] X.env = (false, eval e X.env) :: starEach [] X.env := by rfl) (hplain : (backTo cpos (starEach [] X.env)).any (·.1) = false := by rfl)
    (hsw : swapsWith (.Call (.Attribute (.Name x p) "append" apos) [e] [] cpos) none pos.line X.env = pure false := by rfl) :
    XS X f Γ Γ Γb Γc (.Expr (.Call (.Attribute (.Name x p) "append" apos) [e] [] cpos) pos) (sApp i a) :=
  PS.mono (ps_expr (pe_bm F.plainAttrs_list F.slot_list_append F.type_list_append mt_append (pe_var hN hv hd hcd) (pa_cons h pa_nil hs) hbase hfew hline hs hplain) hsw) fun D σ H ⟨ρ, gh, R, q⟩ => by
    obtain ⟨d0, l, e1, e2, e3, t⟩ := R.tcGet hk
    have q : ObS f Γ Γb Γc (Tp Γ gh) H ((chkL i >>= fun _ => a >>= fun d => (updL i (appD d) >>= fun _ => Pure.pure .nx) : SM) ρ) D := q
    rw [bind_ap] at q
    unfold chkL at q
    rw [e1] at q
    rcases t with ⟨ds0, vs0, rfl, hq0, _⟩ | ⟨_, _, _, rfl, _⟩
    · dsimp only at q
      refine ⟨.ref l, getD_some e2, .inl ⟨rfl, vs0, SqL.of hq0⟩, ?_⟩
      refine RE.fstS (m := .cs) hw R q fun d ρ1 v H1 L R1 k1 vo n w => ?_
      obtain ⟨d1, l1, e4, e5, e6, t1⟩ := R1.tcGet hk
      rw [e2] at e5; cases e5
      rw [bind_ap] at w
      unfold updL at w
      rw [e4] at w
      rcases t1 with ⟨ds, vs, rfl, hq, s⟩ | ⟨_, _, _, rfl, _⟩
      · dsimp only at w
        unfold appD at w
        by_cases c : ds.length < sizeLine
        · rw [if_pos c] at w
          have P := R1.tcPut (Nat.le_of_ble_eq_true hi) hk e2 hq e6 (s.append (es := [d]) (ws := [v]) (by simp only [ShA]; exact ⟨v, [], rfl, vo.2, rfl⟩))
          refine ⟨l, vs, v, rfl, rfl, hq, by rw [s.length]; exact c, ?_⟩
          exact w σ gh _ P.1 ((StK.of R k1).trans ⟨P.2, fun a z => .inl z⟩)
        · rw [if_neg c] at w; exact w.elim
      · exact w.elim
    · exact q.elim
theorem cs_lst {σ : L2.St} {gh : Nat → List Addr} {H : Hp} {ds : List D} {v : V} {L : List Addr} (h : VO f.g (f.oc σ) (Bo f Γ) (Bx f Γ gh) H .cs (.lst ds) v L) : ∃ a vs, v = .ref a ∧ H a = some (.lst vs) ∧ ShA f.g (f.oc σ) (Bx f Γ gh) H ds vs := by
  obtain ⟨_, h⟩ := h
  simp only [Sh] at h
  obtain ⟨a, vs, e, _, q, r⟩ := h
  exact ⟨a, vs, e, q, r⟩
theorem k_catC : V2 f Γ .cs .cs (.tc []) catD rCat := fun σ gh ρ H d1 d2 v1 v2 L1 L2 Q R o1 o2 w => by
  unfold catD at w
  split at w
  · rename_i ds es
    by_cases c : ds.length + es.length ≤ sizeLine
    · rw [if_pos c] at w
      obtain ⟨a1, vs1, rfl, q1, r1⟩ := cs_lst o1
      obtain ⟨a2, vs2, rfl, q2, r2⟩ := cs_lst o2
      refine ⟨a1, a2, vs1, vs2, rfl, rfl, q1, q2, by rw [r1.length, r2.length]; exact c, fun p hp => ?_⟩
      have w : Ob f Γ (.tc []) gh σ H (.ok (.lst (ds ++ es)) ρ) Q := w
      exact w (.ref p) _ [p] (R.new hp) (Kp.upd_new hp) ⟨p, rfl, rfl, .inl ⟨ds ++ es, vs1 ++ vs2, rfl, upd_same, (ShA.fresh hp (fun a z => z) _ _ (r1.append r2)).kp (S := fun _ => False) (Kp.upd_new hp) fun _ z => z.elim⟩⟩ ⟨by simp, fun a ha => .inl (by rw [List.mem_singleton.mp ha]; exact hp)⟩
    · rw [if_neg c] at w; exact w.elim
  · exact w.elim
/-! ### {} -/
theorem xe_dct0 : XE X f Γ (.Dict [] [] pos) (.own []) (eC (.dct [] [])) :=
  PE.mono pe_dnewK fun σ H Q ⟨ρ, gh, R, q⟩ => by
    have q : Ob f Γ (.own []) gh σ H (.ok (.dct [] []) ρ) Q := q
    refine fun p hp => q (.ref p) _ [p] (R.new hp) (Kp.upd_new hp) ?_ ⟨by simp, fun a ha => .inl (by rw [List.mem_singleton.mp ha]; exact hp)⟩
    show Ow f.g _ (.dct [] []) (.ref p) [p]
    simp only [Ow, OwA]
    exact ⟨p, [], [], rfl, rfl, upd_same, rfl, rfl, rfl⟩
/-! ### list(d.items()) -/
def kD : Key → D
  | .inl i => .int i
  | .inr x => .str x
def itemsL (ks : List Key) (ds : List D) : List D := List.zipWith (fun k d => .tup [kD k, d]) ks ds
def itemsD : D → P D
  | .dct ks ds => Pure.pure (.lst (itemsL ks ds))
  | _ => M.stuck
theorem kD_sh {g : G} {cm : Addr → V → Prop} {B : Addr → Prop} {H : Hp} (k : Key) : Sh g cm B H (kD k) (kV k) := by
  cases k with
  | inl i => simp only [kD, Sh]; rfl
  | inr x => simp only [kD, Sh]; rfl
theorem items_sh {g : G} {B : Addr → Prop} {H' : Hp} : ∀ {ts : List Addr} {kvs : List (Key × V)} {ds : List D}, Paired (fun (t : Addr) (q : Key × V) => H' t = some (.tup [kV q.1, q.2])) ts kvs → ShA g nc B H' ds (kvs.map (·.2)) → ShA g nc B H' (itemsL (kvs.map (·.1)) ds) (ts.map V.ref)
  | _, _, ds, .nil, s => by
    simp [itemsL, ShA]
  | _, _, [], .cons _ _, s => by simp only [List.map_cons, ShA] at s; cases s
  | t :: ts, p :: kvs, d :: ds, .cons h r, s => by
    simp only [List.map_cons, ShA] at s
    obtain ⟨v, q, e, s1, s2⟩ := s
    cases e
    show ShA g nc B H' (.tup [kD p.1, d] :: itemsL (kvs.map (·.1)) ds) (.ref t :: ts.map V.ref)
    simp only [ShA, Sh]
    exact ⟨_, _, rfl, ⟨t, _, rfl, SqT.of h, _, _, rfl, kD_sh p.1, _, _, rfl, s1, rfl⟩, items_sh r s2⟩
def rItemsR : V → Hp → VK → Prop := fun x H Q => ∃ (d : Addr) (kvs : List (Key × V)), x = .ref d ∧ Rd H d (.dK kvs) ∧
  ∀ (H' : Hp) (p : Addr) (ts : List Addr), (∀ b o, H b = some o → H' b = some o) → H p = none → (∀ t ∈ ts, H t = none) → p ∉ ts → H' p = some (.lst (ts.map V.ref)) → Paired (fun (t : Addr) (q : Key × V) => H' t = some (.tup [kV q.1, q.2])) ts kvs → Q (.ref p) H'
/-- a dict as it stands, locked or not -/
theorem Rd.dict {P : Program} {w : World} {H : Hp} {h : Heap} {d : Addr} {kvs : List (Key × V)} (x : HOk P w H h) (r : Rd H d (.dK kvs)) : ObjOk P w H h d (.dK kvs) := r.elim (fun e => x d _ e) fun ⟨o, e⟩ => (x d _ e).2
theorem pe_itemsR {te : TE} (hc : X.calm = true) (he : PE X e te) (hg : Gl X "list") (hm : X.mg "list" = none) (hv : bootBuiltins "list" = some (.type "list")) (hbase : attributeBase e "items" X.env (eval e X.env) = eval e X.env) (hline : (apos.endLine == cpos.line) = true)
    (hs : starEach [.Call (.Attribute e "items" apos) [] [] cpos] X.env = (false, eval (.Call (.Attribute e "items" apos) [] [] cpos) X.env) :: starEach [] X.env) :
    PE X (.Call (.Name "list" p) [.Call (.Attribute e "items" apos) [] [] cpos] [] pos) (fun σ H Q => te σ H fun x H1 => rItemsR x H1 Q) := by
  refine ⟨fun pins s0 σ H Q I q => wpAny_Call_Name_kw (ld_blt I hg hm hv (PyProof.Rows.callWith_type1 (hs ▸ ?_) hs rfl))⟩
  refine Calls.spliced_cons (wpAny_Call_method (T := "dict") (id := "dict.items") hbase rfl hline F.plainAttrs_dict F.slot_dict_items F.type_dict_items (thn (he.run pins s0 σ H _ I q) fun u s1 ⟨x, H1, I1, rx, d, kvs, ex, hd, q1⟩ => ?_))
  cases ex
  cases (show u = Value.ref d from rx)
  obtain ⟨small, nsys, vs, kv, isd⟩ := Rd.dict I1.hok hd
  obtain ⟨ep, place⟩ := isd.dictAt
  have cnt : kvs.length = vs.length := Paired.length kv
  have view : Inv X pins σ H1 { s1 with heap := s1.heap.push { cls := .type "dict_items", data := .fields #[.ref d] } } := I1.kept (t' := s1.toks) fun b ob z => Heap.get?_push_of_some _ z
  refine ⟨isd.typeIs, isd.mapOf.noDict, method_meetsIn F.slot_dict_items F.entry_dict_items rfl (PySem.evalArgs_none ⟨rfl, isd.typeIs, F.args_dict_items_1 _, _, meets_dict_items (mixKind X.prog X.w) d nsys, ⟨vs, isd⟩, Calls.spliced_nil ?_⟩)⟩
  refine PySem.W.kdx_call (knd := mixKind X.prog X.w) (kvs := vs) (ep := ep) (I1.ok.hd hc) ⟨_, Heap.get?_push_size _ rfl, rfl, rfl⟩ (place.push _) (by omega) fun h' tk acc c as hk hS hl hG hacc => ?_
  obtain ⟨H', a1, a2, a3, a4, a5, a6, J⟩ := LiI.items_laid (tk := tk) view small kv hk hS hl hG hacc
  exact ⟨.ref _, H', J, rfl, q1 H' _ as a1 a2 a3 a4 a5 a6⟩
theorem xe_items (hc : X.calm = true) (h : XE X f Γ e .bs a) (hm : X.mg "list" = none) (hg : Gl X "list" := by rfl) (hv : bootBuiltins "list" = some (.type "list") := by decide +kernel) (hbase : attributeBase e "items" X.env (eval e X.env) = eval e X.env := by rfl) (hline : (apos.endLine == cpos.line) = true := by rfl)
    (hs : starEach [.Call (.Attribute e "items" apos) [] [] cpos] X.env = (false, eval (.Call (.Attribute e "items" apos) [] [] cpos) X.env) :: starEach [] X.env := by rfl) :
    XE X f Γ (.Call (.Name "list" p) [.Call (.Attribute e "items" apos) [] [] cpos] [] pos) (.tp []) (eP1 itemsD a) :=
  PE.mono (pe_itemsR hc h hg hm hv hbase hline hs) fun σ H Q ⟨ρ, gh, R, q⟩ => by
    refine RE.fst R (show Ob f Γ (.tp []) gh σ H ((a >>= fun x => lift (itemsD x)) ρ) Q from q) fun d ρ1 v H1 L R1 k1 vo n w => ?_
    cases d with
    | dct ks ds =>
      have w : Ob f Γ (.tp []) gh σ H1 (.ok (.lst (itemsL ks ds)) ρ1) Q := w
      have fin : ∀ (l : Addr) (kvs : List (Key × V)), v = .ref l → Rd H1 l (.dK kvs) → kvs.map (·.1) = ks → ShA f.g nc (Bx f Γ gh) H1 ds (kvs.map (·.2)) → rItemsR v H1 Q := fun l kvs ev hd hks sd => by
        refine ⟨l, kvs, ev, hd, fun H' p ts keep np nts pts hp pr => ?_⟩
        have kp : Kp (fun _ => False) H1 H' := ⟨fun b o z _ _ => keep b o z, fun b z => by
          cases y : H1 b with
          | none => rfl
          | some o => rw [keep b o y] at z; cases z⟩
        refine w (.ref p) H' [p] (R1.kp kp (R1.tabs.ext keep)) (kp.mono fun _ z => z.elim) ⟨p, rfl, rfl, .inl ⟨_, _, rfl, hp, ?_⟩⟩ ⟨by simp, fun a ha => .inl (by rw [List.mem_singleton.mp ha]; exact np)⟩
        have sd2 : ShA f.g nc (fun x => Bx f Γ gh x ∨ x = p) H' ds (kvs.map (·.2)) := (ShA.fresh np (fun a z => z) _ _ sd).kp (S := fun _ => False) kp fun _ z => z.elim
        rw [← hks]
        exact items_sh pr sd2
      rcases vo.2 with z | ⟨_, _, _, z, _⟩ | ⟨l, ks', ds', kvs, e1, e2, _, hd, hks, sd⟩
      · simp only [Sh] at z
        obtain ⟨l, kvs, ev, _, hd, hks, sd⟩ := z
        exact fin l kvs ev hd hks sd
      · cases z
      · cases e1
        exact fin l kvs e2 hd hks sd
    | _ => exact w.elim
end
end PP
-- PP38
/-! PP38: where a lambda stands in the text; facts of the head. -/
namespace PP
open PySem PySem.Spec PyProof.Rows L2
/-! ### places in the text -/
def noE : Expr := .Constant .none 0 ⟨0, 0, 0, 0⟩
def kidsE : Expr → List Expr
  | .BoolOp _ vs _ => vs
  | .BinOp l _ r _ => [l, r]
  | .UnaryOp _ e _ => [e]
  | .Lambda _ b _ _ => [b]
  | .IfExp t a b _ => [t, a, b]
  | .Dict _ vs _ => vs
  | .ListComp e gs _ _ => e :: gs.flatMap fun g => g.target :: g.iter :: g.ifs
  | .Compare l _ rs _ => l :: rs
  | .Call f as ks _ => f :: (as ++ ks.map (·.value))
  | .Attribute e _ _ => [e]
  | .Subscript e s _ => [e, s]
  | .List es _ => es
  | .Tuple es _ _ => es
  | _ => []
def kidsS : Stmt → List Expr
  | .Return (some e) _ => [e]
  | .Assign _ v _ => [v]
  | .AugAssign _ _ v _ => [v]
  | .For _ it _ _ _ => [it]
  | .While t _ _ _ => [t]
  | .If t _ _ _ => [t]
  | .Raise (some e) _ _ => [e]
  | .Expr e _ => [e]
  | _ => []
def blocksS : Stmt → List Stmt
  | .For _ _ b _ _ => b
  | .While _ b _ _ => b
  | .If _ a b _ => a ++ b
  | .Try b _ _ _ _ => b
  | _ => []
def atS : List Stmt → List Nat → Stmt
  | _, [] => .Pass ⟨0, 0, 0, 0⟩
  | sts, [i] => sts.getD i (.Pass ⟨0, 0, 0, 0⟩)
  | sts, i :: j :: is => atS (blocksS (sts.getD i (.Pass ⟨0, 0, 0, 0⟩))) (j :: is)
def atE : Expr → List Nat → Expr
  | e, [] => e
  | e, i :: is => atE ((kidsE e).getD i noE) is
def lamE (q : Str) (fr : List Str) : Expr → Lam
  | .Lambda ar bd sc _ => ⟨q, ar, bd, sc, fr⟩
  | _ => ⟨q, ⟨[], [], none, [], [], none, []⟩, noE, ⟨.function, [], false, false, []⟩, fr⟩
def lamOf (q : Str) (fr : List Str) (sts : List Stmt) (ps pe : List Nat) : Lam := lamE q fr (atE ((kidsS (atS sts ps)).getD 0 noE) pe)
abbrev qLam (x : Str) : Str := (x ++ (".<locals>." : Str)) ++ ("<lambda>" : Str)
instance {j : Nat} (fn : List D → Option (List D)) (r : EM (List D)) [Pu j r] : Pu j (itA fn r) := Pu.bind ‹_› fun ds => by cases fn ds <;> infer_instance
instance {j : Nat} (a : EM D) [Pu j a] : Pu j (itS a) := Pu.bind ‹_› fun d => by cases d <;> infer_instance
instance {j : Nat} (tab : List (Nat × Fn)) (i : Nat) (r : EM (List D)) [Pu j r] : Pu j (eClo tab i r) := Pu.bind inferInstance fun d => by
  cases d with
  | clo c ds => exact Pu.bind ‹_› fun xs => by cases tab.lookup c <;> infer_instance
  | _ => infer_instance
/-! ### lambdas -/
def lamB (sc : Scope) (fr : List Str) : Bool := (sc.names.all fun y => !decide (y.2 = .free) || decide (y.1 ∈ fr)) && fr.all fun y => decide ((y, NameKind.free) ∈ sc.names)
theorem lamOk_of {X : Cx} {f : Fr} {sc : Scope} {fr : List Str} {js : List Nat} (C : CapsOk X f) (hn : js.map (fun j => X.N[j]?) = fr.map some) (hc : (js.all fun j => decide (j ∈ f.caps)) = true) (hs : lamB sc fr = true) : LamOk X f sc fr js := by
  unfold lamB at hs
  simp only [Bool.and_eq_true, List.all_eq_true, Bool.or_eq_true, Bool.not_eq_true', decide_eq_true_eq, decide_eq_false_iff_not] at hs hc
  refine ⟨hn, hc, fun j hj y hy => ?_, fun y hy e => (hs.1 y hy).resolve_left fun z => z e, fun y hy => hs.2 y hy⟩
  obtain ⟨z, e1, _, e2, _⟩ := C.cap j (hc j hj)
  rw [hy] at e1
  cases e1
  exact e2
section
variable {P : Program} {w : World} {K : PySem.W.Frag} {mg : Str → Option Value} {base : Heap} {g : G} {k c ar : Nat} {m : Md}
theorem lamAt_of {l : Lam} {N ps : List Str} {e : EM D} (h : g.CT c = l) (ha : ps.length = ar) (S : NdefX.NScope N ps l.fr l.scope)
    (hb : ∀ (cl : List (Str × Addr)) (pm ctv : Value) (c' : Addr) (us : List Value), us.length = ps.length → bindArgs (PySem.W.kla_fn "<lambda>" l.qual l.params l.body l.scope cl pm (.ref c') ctv) ⟨us, []⟩ = pure (ps.zip us))
    (hd : ∀ (f c' : Addr) (cl : List (Str × Addr)) (A : Around) (outer : List PySem.Env) (s0 : Shared) (H : Hp) (E : XK) (B : Addr → Prop), Room k (A.deeper (NdefX.envF (l.nf cl c') f s0.heap.objs.size)) →
      XE (NdefX.ncx (L2.CX P w) P w K mg base N (l.nf cl c') f A outer s0 H E) (frF g N.length m [] (fun _ => 0) B H E) (kinds0 (ar + l.fr.length) N.length) l.body m e) : LamAt P w K mg base g k c ar m (lamF N.length e) := by
  subst h
  exact ⟨⟨N, ps, e, ha, rfl, S, hb, hd⟩⟩
/-- a table of lambdas: each does what the table tells -/
theorem tab_nil : ∀ c F, ([] : List (Nat × Fn)).lookup c = some F → LamAt P w K mg base g k c ar m F := fun c F e => by simp at e
theorem tab_cons {c0 : Nat} {F0 : Fn} {tab : List (Nat × Fn)} (h : LamAt P w K mg base g k c0 ar m F0) (r : ∀ c F, tab.lookup c = some F → LamAt P w K mg base g k c ar m F) : ∀ c F, ((c0, F0) :: tab).lookup c = some F → LamAt P w K mg base g k c ar m F := fun c F e => by
  by_cases q : c = c0
  · subst q
    rw [List.lookup_cons_self] at e
    cases e
    exact h
  · rw [List.lookup_cons, show (c == c0) = false from by simpa using q] at e
    exact r c F e
end
/-! ### facts of the head -/
/-- the table of a def's code -/
abbrev cdA (K : PySem.W.Frag) (x : Str) : Addr := He.codeOf K (x, none)
abbrev tbA (K : PySem.W.Frag) (x : Str) : Addr := He.tabOf K (He.codeOf K (x, none))
def tfOf (xs : List Str) : List He.Defn := xs.map fun x => (x, none)
/-- the tables of the defs xs, each with the name of its lambdas -/
def tabsOf (K : PySem.W.Frag) (xs : List Str) : List (Addr × Str) := xs.map fun x => (tbA K x, qLam x)
abbrev gOf (K : PySem.W.Frag) (mg : Str → Option Value) (xs : List Str) (CT : Nat → Lam) : G := ⟨K, mg, (tabsOf K xs).map fun p => (p.1, fun _ _ => p.2), CT, True, none⟩
def tabsApart (K : PySem.W.Frag) (xs : List Str) : Bool := decide ((xs.map fun x => tbA K x).Nodup)
theorem nodup_eq {α β : Type} {f : α → β} : ∀ {xs : List α}, (xs.map f).Nodup → ∀ x ∈ xs, ∀ y ∈ xs, f x = f y → x = y
  | [], _, x, hx, _, _, _ => by cases hx
  | a :: xs, h, x, hx, y, hy, e => by
    simp only [List.map_cons, List.nodup_cons, List.mem_map] at h
    rcases List.mem_cons.mp hx with ex | hx
    · rcases List.mem_cons.mp hy with ey | hy
      · rw [ex, ey]
      · exact absurd ⟨y, hy, by rw [← e, ex]⟩ h.1
    · rcases List.mem_cons.mp hy with ey | hy
      · exact absurd ⟨x, hx, by rw [e, ey]⟩ h.1
      · exact nodup_eq h.2 x hx y hy e
theorem lamDef_of {K : PySem.W.Frag} {mg : Str → Option Value} {base : Heap} {xs : List Str} {CT : Nat → Lam} {x : Str} (hx : x ∈ xs) (hn : tabsApart K xs = true) (tb : LamX.TabB base mg (cdA K x) (tbA K x)) : LamDef base mg (gOf K mg xs CT) (qLam x) (cdA K x) (tbA K x) := by
  refine ⟨tb, tabsOf K xs, rfl, List.mem_map.mpr ⟨x, hx, rfl⟩, fun p hp e => ?_⟩
  obtain ⟨y, hy, rfl⟩ := List.mem_map.mp hp
  have hn : (xs.map fun x => tbA K x).Nodup := of_decide_eq_true hn
  rw [nodup_eq hn y hy x hx e]
/-- a def's code is the one that is looked for -/
theorem code_of {K : PySem.W.Frag} {x : Str} {qual : Str} {params : Arguments} {body : List Stmt} {scope : Scope} {fd : FuncData} (F : FunD K x qual params body scope [] [] (He.fAd K (x, none)) fd) : fd.code = .ref (cdA K x) := by
  obtain ⟨oc, od, dV, kV, doc, pm, an, cdv, ct, osl, rfl, lk, hcd, _, _⟩ := F.ex
  obtain ⟨c, rfl⟩ := He.codeIn_ref hcd
  have e : (PySem.W.fnOf x qual params body scope dV kV doc pm an (.ref c) ct).code = .ref c := rfl
  rw [e]
  show Value.ref c = Value.ref (He.codeOf K (x, none))
  rw [He.codeOf_eq lk e]
theorem tabs_start {K : PySem.W.Frag} {mg : Str → Option Value} {xs : List Str} {CT : Nat → Lam} {H : Hp} (h : ∀ x ∈ xs, H (tbA K x) = some (.tbl #[])) : NdefX.TabsN (gOf K mg xs CT).T H := fun p hp => by
  obtain ⟨q, hq, rfl⟩ := List.mem_map.mp hp
  obtain ⟨x, hx, rfl⟩ := List.mem_map.mp hq
  refine ⟨#[], h x hx, ?_, fun pos cv hcv => ?_⟩
  · first
    | trivial
    | (simp [TriplesOk])
  · simp [codeAmong] at hcv
end PP
-- PP39
/-! PP39: the law's first statement; its end. -/
namespace PP
open PySem PySem.Spec PyProof.Rows L2
theorem k_stuck {f : Fr} {Γ : List Kd} {ma m : Md} {rr : V → Hp → VK → Prop} : V1 f Γ ma m (fun _ => M.stuck) rr := fun σ gh ρ H d v L Q R o w => w.elim
structure StreamAt (P : Program) (w : World) (K : PySem.W.Frag) (mg : Str → Option Value) (base : Heap) : Prop where
  ex : ∃ (fa : Addr) (fd : FuncData), mg "_law_stream" = some (.ref fa) ∧ PySem.W.keepIn K (.ref fa) = true ∧ Binds K fd ["script"] [] ∧ FnOk P w K mg base (L2.CX P w) 1 fa fd ["script"] (spStream K)
section
variable {X : Cx} {p1 p2 p3 p4 p5 : Pos} {W : WX}
theorem first_ok (A : StreamAt X.prog X.w X.K X.mg X.base) (hr : Room 1 X.A) (tk : Takes X W) (hN : X.N.Nodup) (h0 : X.N[0]? = some ("script" : Str)) (h1 : X.N[1]? = some ("stream" : Str)) (hv : Vis X.env.scope "script") (hx : Loc X.env.scope "stream") (hg : Gl X "_law_stream")
    (he : starEach [.Name "script" p3] X.env = (false, eval (.Name "script" p3) X.env) :: starEach [] X.env) (hpl : (backTo p4 (starEach [] X.env)).any (·.1) = false)
    (hs : swapsWithSole [.Name "stream" p1] (.Call (.Name "_law_stream" p2) [.Name "script" p3] [] p4) p5.line X.env = pure false) (hf : X.fn "stream" = true ∨ X.env.scope.names.lookup ("stream" : Str) = some NameKind.local) :
    PS X (.Assign [.Name "stream" p1] (.Call (.Name "_law_stream" p2) [.Name "script" p3] [] p4) p5) (tFirst X.K) := by
  obtain ⟨fa, fd, e1, e2, e3, e4⟩ := A.ex
  refine PS.mono (ps_set (i := 1) hN h1 hx (pe_callSD (E := fun σ cls d H' => W cls d σ H') e4 hr hg e1 e2 e3 .nil (fun σ => passAt tk σ) (pa_cons (pe_var (i := 0) h0 hv) pa_nil he) (by decide) he hpl) hs hf) fun D σ H ⟨a, ns, e, sq, q⟩ => ?_
  exact ⟨.ref a, e, a, ns, rfl, sq, q⟩
end
/-- what is left of a law: its mirror's run -/
theorem law_at {l : PySem.W.OpenLaw} {w : World} {K : PySem.W.Frag} {mg : Str → Option Value} {fa : Addr} {h : Heap} {xs : List Str} {CT : Nat → Lam} {k n : Nat} {b : SM} {fd : FuncData} {ffa : List He.Fa} {fn : List He.DefD} {ex : PySem.W.Frag → Bool} (X : K.In h) (c : He.SaysX ffa fn [] (tfOf xs) ex w h K)
    (hb : ∀ (s : Shared) (u : Value), BindsTo s fd ⟨[u], []⟩ [("script", u)]) (run : ∀ ns : List Int, ns.length ≤ 63 → ∃ ρ', b (lawEnv n ns) = .ok (.rt (.bl true)) ρ')
    (ok : ∀ base : Heap, K.In base → base.Ns mainGlobals mg → (∀ x ∈ xs, LamX.TabB base mg (cdA K x) (tbA K x)) → FnOk l.prog w K mg base (L2.CX l.prog w) k fa fd ["script"] (spLaw (gOf K mg xs CT) n b)) : LamX.LawAtS l w K (L2.CX l.prog w) k 63 "script" mg fa h := by
  refine ⟨fd, xs.map fun x => (cdA K x, tbA K x), _, fun p hp => ?_, fun p hp => ?_, fun p hp => ?_, hb, fun H a ns hl _ hT hS => ?_, fun base K1 G1 tb => ok base K1 G1 fun x hx => tb _ (List.mem_map.mpr ⟨x, hx, rfl⟩)⟩
  · obtain ⟨x, hx, rfl⟩ := List.mem_map.mp hp
    exact c.empty (x, none) (List.mem_map.mpr ⟨x, hx, rfl⟩)
  · obtain ⟨x, hx, rfl⟩ := List.mem_map.mp hp
    exact c.out (x, none) (List.mem_map.mpr ⟨x, hx, rfl⟩)
  · obtain ⟨x, hx, rfl⟩ := List.mem_map.mp hp
    exact PySem.W.codeHd_of_K X (c.hd (x, none) (List.mem_map.mpr ⟨x, hx, rfl⟩))
  · exact ⟨a, ns, rfl, hS, tabs_start fun x hx => hT _ (List.mem_map.mpr ⟨x, hx, rfl⟩), run ns hl, fun _ => rfl⟩
theorem cx_none {P : Program} {w : World} {H : Hp} {s : Shared} {e : Value} {s' : Shared} (h : L2.CX P w [] H s (fun _ _ _ => False) e s') : False := by
  obtain ⟨_, _, _, _, _, _, _, _, _, _, _, _, z⟩ := h
  exact z
end PP
-- PP40
/-! PP40: the head's facts, all in one. -/
namespace PP
open PySem PySem.Spec PyProof.Rows L2
def factsB (K : PySem.W.Frag) (lamDefs : List Str) (exL hdL : List (Str × Str)) (knL hcL : List Str) : Bool :=
  tabsApart K lamDefs && ((exL.all fun p => exB K p.1 p.2) && ((hdL.all fun p => xfB K (He.ga K p.1) && decide (PySem.W.findIn K (.ref (He.ga K p.1)) p.2 = some none)) &&
    (((knL ++ hcL).all fun c => decide (PySem.W.nsIn K mainGlobals c = some (some (.ref (He.ga K c))))) && (knL.all fun c => hcL.all fun h => decide (PySem.W.exmOne K (.ref (He.ga K c)) (.ref (He.ga K h)) = some (h == c))))))
structure FactsB (K : PySem.W.Frag) (lamDefs : List Str) (exL hdL : List (Str × Str)) (knL hcL : List Str) : Prop where
  apart : tabsApart K lamDefs = true
  ex : ∀ x f, (x, f) ∈ exL → ExC K x f
  hd : ∀ x f, (x, f) ∈ hdL → XfC K (He.ga K x) ∧ PySem.W.findIn K (.ref (He.ga K x)) f = some none
  gl : ∀ c ∈ knL ++ hcL, PySem.W.nsIn K mainGlobals c = some (some (.ref (He.ga K c)))
  em : ∀ c ∈ knL, ∀ h ∈ hcL, PySem.W.exmOne K (.ref (He.ga K c)) (.ref (He.ga K h)) = some (h == c)
theorem factsB_ok {K : PySem.W.Frag} {lamDefs : List Str} {exL hdL : List (Str × Str)} {knL hcL : List Str} (h : factsB K lamDefs exL hdL knL hcL = true) : FactsB K lamDefs exL hdL knL hcL := by
  unfold factsB at h
  simp only [Bool.and_eq_true, List.all_eq_true, decide_eq_true_eq] at h
  obtain ⟨h1, h2, h3, h4, h5⟩ := h
  exact ⟨h1, fun x f hx => exB_ok (h2 _ hx), fun x f hx => ⟨xfB_ok (h3 _ hx).1, (h3 _ hx).2⟩, h4, h5⟩
section
variable {P : Program} {w : World} {K : PySem.W.Frag} {mg : Str → Option Value} {base h : Heap} {lamDefs : List Str} {exL hdL : List (Str × Str)} {knL hcL known : List Str} {hs : List Hdl}
theorem tryOk_of (X : K.In h) (G : h.Ns mainGlobals mg) (F : FactsB K lamDefs exL hdL knL hcL) (h1 : (known.all fun c => decide (c ∈ knL)) = true) (h2 : (hs.all fun h => decide (h.cls ∈ hcL)) = true) (h3 : (hs.all fun h => match h.fld with | some fl => decide ((h.cls, fl) ∈ hdL) | none => true) = true) : TryOk K mg known hs := by
  simp only [List.all_eq_true, decide_eq_true_eq] at h1 h2
  refine ⟨fun c hc => PySem.W.mg_of X G (F.gl c (List.mem_append_left _ (h1 c hc))), fun h hh => PySem.W.mg_of X G (F.gl _ (List.mem_append_right _ (h2 h hh))), fun c hc h hh => F.em c (h1 c hc) _ (h2 h hh), fun h hh fl e => ?_⟩
  have z := List.all_eq_true.mp h3 h hh
  rw [e] at z
  exact F.hd _ _ (of_decide_eq_true z)
theorem exAt_of {x f qual : Str} {params : Arguments} {scope : Scope} {fd : FuncData} {p1 p2 p3 pos : Pos} (X : K.In h) (G : h.Ns mainGlobals mg) (T : ExC K x f)
    (I : FunD K "__init__" qual params [.Assign [.Attribute (.Name "self" p1) f p2] (.Name f p3) pos] scope [] [] (He.fAd K (x, some "__init__")) fd) (S : FnScope ["self", f] ["self", f] scope)
    (hb : BindE "__init__" qual params [.Assign [.Attribute (.Name "self" p1) f p2] (.Name f p3) pos] scope ["self", f])
    (hl : scope.names.lookup ("self" : Str) = some NameKind.local) (hl2 : scope.names.lookup f = some NameKind.local) (hd : (f == ("__debug__" : Str)) = false) (hcd : (f == ("__classdict__" : Str)) = false)
    (hs : ∀ env : PySem.Env, swapsWith (.Name f p3) (some (.Attribute (.Name "self" p1) f p2)) pos.line env = pure false) : ExAt P w K mg base x f :=
  ⟨T, PySem.W.mg_of X G T.ns, fd, I.bindsN hb, init_ok T I S hl hl2 hd hcd hs⟩
end
end PP
-- PQ1
/-! PQ1: the mirrors evaluated. -/
namespace PP
open PySem
/-- an answer, then what follows -/
def R.bnd {S α β : Type} (r : R S α) (k : α → S → R S β) : R S β := match r with
  | .ok a s => k a s
  | .exn e s => .exn e s
  | .stuck => .stuck
/-- a def's answer at a slot's state -/
def R.lft {S α : Type} (r : R Unit α) (s : S) : R S α := match r with
  | .ok a _ => .ok a s
  | .exn e _ => .exn e s
  | .stuck => .stuck
section
variable {S α β : Type}
@[simp] theorem bnd_ok (a : α) (s : S) (k : α → S → R S β) : (R.ok a s).bnd k = k a s := rfl
@[simp] theorem bnd_exn (e : Ex) (s : S) (k : α → S → R S β) : (R.exn e s : R S α).bnd k = .exn e s := rfl
@[simp] theorem bnd_stuck (k : α → S → R S β) : (R.stuck : R S α).bnd k = .stuck := rfl
@[simp] theorem lft_ok (a : α) (u : Unit) (s : S) : (R.ok a u).lft s = .ok a s := rfl
@[simp] theorem lft_exn (e : Ex) (u : Unit) (s : S) : (R.exn e u : R Unit α).lft s = .exn e s := rfl
@[simp] theorem lft_stuck (s : S) : (R.stuck : R Unit α).lft s = .stuck := rfl
@[simp] theorem ap_pure (a : α) (s : S) : (Pure.pure a : M S α) s = .ok a s := rfl
@[simp] theorem ap_stuck (s : S) : (M.stuck : M S α) s = .stuck := rfl
@[simp] theorem ap_raise (e : Ex) (s : S) : (M.raise e : M S α) s = .exn e s := rfl
theorem ap_bind (m : M S α) (k : α → M S β) (s : S) : (m >>= k) s = (m s).bnd k := rfl
@[simp] theorem ap_lift (p : P α) (s : S) : (lift p : M S α) s = (p ()).lft s := rfl
variable {ρ : Env} {a b c : EM D} {r : EM (List D)} {t u : EM Bool} {s1 s2 : SM}
@[simp] theorem ap_eC (d : D) : eC d ρ = .ok d ρ := rfl
@[simp] theorem ap_eV (i : Nat) : eV i ρ = match ρ.getD i none with | some d => .ok d ρ | none => .stuck := rfl
@[simp] theorem ap_eNil : eNil ρ = .ok [] ρ := rfl
@[simp] theorem ap_eCons : eCons a r ρ = (a ρ).bnd fun x ρ1 => (r ρ1).bnd fun xs ρ2 => .ok (x :: xs) ρ2 := rfl
@[simp] theorem ap_eLst : eLst r ρ = (r ρ).bnd fun xs ρ1 => .ok (.lst xs) ρ1 := rfl
@[simp] theorem ap_eTup : eTup r ρ = (r ρ).bnd fun xs ρ1 => .ok (.tup xs) ρ1 := rfl
@[simp] theorem ap_eP1 (f : D → P D) : eP1 f a ρ = (a ρ).bnd fun x ρ1 => (f x ()).lft ρ1 := rfl
@[simp] theorem ap_eP2 (f : D → D → P D) : eP2 f a b ρ = (a ρ).bnd fun x ρ1 => (b ρ1).bnd fun y ρ2 => (f x y ()).lft ρ2 := rfl
@[simp] theorem ap_eCall (F : Fn) : eCall F r ρ = (r ρ).bnd fun xs ρ1 => (F xs ()).lft ρ1 := rfl
@[simp] theorem ap_eCallC (F : Fn) : eCallC F r ρ = (r ρ).bnd fun xs ρ1 => (guardC (F xs) ()).lft ρ1 := rfl
@[simp] theorem ap_eCallK (F : Fn) (perm : List Nat) (r2 : EM (List D)) : eCallK F perm r r2 ρ = (r ρ).bnd fun xs ρ1 => (r2 ρ1).bnd fun ys ρ2 => (F (pick perm (xs ++ ys)) ()).lft ρ2 := rfl
/-- what a call that changes its first slot leaves -/
def R.io (r : R D D) (i : Nat) (ρ : Env) : R Env D := match r with
  | .ok d s' => .ok d (ρ.set i (some s'))
  | .exn e s' => .exn e (ρ.set i (some s'))
  | .stuck => .stuck
@[simp] theorem io_ok (d s : D) (i : Nat) : (R.ok d s).io i ρ = .ok d (ρ.set i (some s)) := rfl
@[simp] theorem io_exn (e : Ex) (s : D) (i : Nat) : (R.exn e s : R D D).io i ρ = .exn e (ρ.set i (some s)) := rfl
@[simp] theorem ap_eIo (F : FnIo) (i : Nat) : eIo F i r ρ = (r ρ).bnd fun xs ρ1 => match ρ1.getD i none with | some s => (F xs s).io i ρ1 | none => .stuck := by
  show (r >>= fun xs => fun ρ => match ρ.getD i none with
    | some s => (match F xs s with
      | .ok d s' => .ok d (ρ.set i (some s'))
      | .exn e s' => .exn e (ρ.set i (some s'))
      | .stuck => .stuck)
    | none => .stuck : EM D) ρ = _
  rw [ap_bind]
  congr
@[simp] theorem ap_tB : tB a ρ = (a ρ).bnd fun x ρ1 => match x with | .bl k => .ok k ρ1 | _ => .stuck := by
  show (a >>= fun x => match x with | .bl b => Pure.pure b | _ => M.stuck : EM Bool) ρ = _
  rw [ap_bind]
  congr
  funext x ρ1
  cases x <;> rfl
@[simp] theorem ap_tNot : tNot t ρ = (t ρ).bnd fun x ρ1 => .ok (!x) ρ1 := rfl
@[simp] theorem ap_tAnd : tAnd t u ρ = (t ρ).bnd fun x ρ1 => if x = true then u ρ1 else .ok false ρ1 := by
  show (t >>= fun x => if x = true then u else Pure.pure false : EM Bool) ρ = _
  rw [ap_bind]
  congr
  funext x ρ1
  split <;> rfl
@[simp] theorem ap_tOr : tOr t u ρ = (t ρ).bnd fun x ρ1 => if x = true then .ok true ρ1 else u ρ1 := by
  show (t >>= fun x => if x = true then Pure.pure true else u : EM Bool) ρ = _
  rw [ap_bind]
  congr
  funext x ρ1
  split <;> rfl
@[simp] theorem ap_eBool : eBool t ρ = (t ρ).bnd fun x ρ1 => .ok (.bl x) ρ1 := rfl
@[simp] theorem ap_eIf : eIf t a b ρ = (t ρ).bnd fun x ρ1 => if x = true then a ρ1 else b ρ1 := by
  show (t >>= fun x => if x = true then a else b : EM D) ρ = _
  rw [ap_bind]
  congr
  funext x ρ1
  split <;> rfl
@[simp] theorem ap_eAnd : eAnd a b ρ = (a ρ).bnd fun x ρ1 => match x with | .bl true => b ρ1 | .bl false => .ok (.bl false) ρ1 | _ => .stuck := by
  show (a >>= fun x => match x with | .bl true => b | .bl false => Pure.pure (.bl false) | _ => M.stuck : EM D) ρ = _
  rw [ap_bind]
  congr
  funext x ρ1
  cases x with
  | bl k => cases k <;> rfl
  | _ => rfl
@[simp] theorem ap_eOr : eOr a b ρ = (a ρ).bnd fun x ρ1 => match x with | .bl true => .ok (.bl true) ρ1 | .bl false => b ρ1 | _ => .stuck := by
  show (a >>= fun x => match x with | .bl true => Pure.pure (.bl true) | .bl false => b | _ => M.stuck : EM D) ρ = _
  rw [ap_bind]
  congr
  funext x ρ1
  cases x with
  | bl k => cases k <;> rfl
  | _ => rfl
@[simp] theorem ap_eNot : eNot a ρ = (a ρ).bnd fun x ρ1 => match x with | .bl k => .ok (.bl (!k)) ρ1 | _ => .stuck := by
  show (a >>= fun x => match x with | .bl b => Pure.pure (.bl (!b)) | _ => M.stuck : EM D) ρ = _
  rw [ap_bind]
  congr
  funext x ρ1
  cases x <;> rfl
@[simp] theorem ap_poN : poN ρ = .ok none ρ := rfl
@[simp] theorem ap_poE : poE a ρ = (a ρ).bnd fun x ρ1 => match x with | .int i => .ok (some i) ρ1 | _ => .stuck := by
  show (a >>= fun x => match x with | .int i => Pure.pure (some i) | _ => M.stuck : EM (Option Int)) ρ = _
  rw [ap_bind]
  congr
  funext x ρ1
  cases x <;> rfl
@[simp] theorem ap_eSl (f : D → Option Int → Option Int → P D) (lo hi : EM (Option Int)) : eSl f a lo hi ρ = (a ρ).bnd fun x ρ1 => (lo ρ1).bnd fun l ρ2 => (hi ρ2).bnd fun h ρ3 => (f x l h ()).lft ρ3 := rfl
@[simp] theorem ap_tTru : tTru a ρ = (a ρ).bnd fun x ρ1 => match truD x with | some k => .ok k ρ1 | none => .stuck := by
  show (a >>= fun x => match truD x with | some b => Pure.pure b | none => M.stuck : EM Bool) ρ = _
  rw [ap_bind]
  congr
  funext x ρ1
  cases truD x <;> rfl
@[simp] theorem ap_tYes : tYesM ρ = .ok true ρ := rfl
/-- what is walked, if anything -/
def selO {α : Type} (o : Option α) (ρ : Env) : R Env α := match o with
  | some es => .ok es ρ
  | none => .stuck
@[simp] theorem selO_some {α : Type} (x : α) : selO (some x) ρ = .ok x ρ := rfl
@[simp] theorem ap_itA (fn : List D → Option (List D)) : itA fn r ρ = (r ρ).bnd fun ds ρ1 => selO (fn ds) ρ1 := by
  show (r >>= fun ds => match fn ds with | some es => Pure.pure es | none => M.stuck : EM (List D)) ρ = _
  rw [ap_bind]
  congr
  funext x ρ1
  unfold selO
  cases fn x <;> rfl
@[simp] theorem ap_itS : itS a ρ = (a ρ).bnd fun d ρ1 => match d with | .lst ds => .ok ds ρ1 | .tup ds => .ok ds ρ1 | _ => .stuck := by
  show (a >>= fun d => match d with | .lst ds => Pure.pure ds | .tup ds => Pure.pure ds | _ => M.stuck : EM (List D)) ρ = _
  rw [ap_bind]
  congr
  funext x ρ1
  cases x <;> rfl
@[simp] theorem ap_eItS (j k : Nat) : eItS j k ρ = match ρ.getD j none with | some d => (stItem k d ()).lft ρ | none => .stuck := rfl
/-! statements -/
@[simp] theorem ap_sSkip : sSkip ρ = .ok .nx ρ := rfl
@[simp] theorem ap_sSeq : sSeq s1 s2 ρ = (s1 ρ).bnd fun o ρ1 => match o with | .nx => s2 ρ1 | o => .ok o ρ1 := by
  show (s1 >>= fun o => match o with | .nx => s2 | o => Pure.pure o : SM) ρ = _
  rw [ap_bind]
  congr
  funext x ρ1
  cases x <;> rfl
@[simp] theorem ap_setSlot (i : Nat) (d : Option D) : setSlot i d ρ = .ok () (ρ.set i d) := rfl
@[simp] theorem ap_sAsg (i : Nat) : sAsg i a ρ = (a ρ).bnd fun d ρ1 => .ok .nx (ρ1.set i (some d)) := rfl
@[simp] theorem ap_sExpr : sExpr a ρ = (a ρ).bnd fun d ρ1 => .ok .nx ρ1 := rfl
@[simp] theorem ap_sRet : sRet a ρ = (a ρ).bnd fun d ρ1 => .ok (.rt d) ρ1 := rfl
@[simp] theorem ap_sIf : sIf t s1 s2 ρ = (t ρ).bnd fun x ρ1 => if x = true then s1 ρ1 else s2 ρ1 := by
  show (t >>= fun x => if x = true then s1 else s2 : SM) ρ = _
  rw [ap_bind]
  congr
  funext x ρ1
  split <;> rfl
@[simp] theorem ap_sFor (it : EM (List D)) (tg : D → EM Unit) : sFor it tg s1 ρ = (it ρ).bnd fun ds ρ1 => forM' ρ1 tg s1 ds ρ1 := rfl
@[simp] theorem ap_tgN (i : Nat) (d : D) : tgN i d ρ = .ok () (ρ.set i (some d)) := rfl
@[simp] theorem ap_sPar (i j : Nat) : sPar i j a b ρ = (a ρ).bnd fun d1 ρ1 => (b ρ1).bnd fun d2 ρ2 => .ok .nx ((ρ2.set i (some d1)).set j (some d2)) := rfl
@[simp] theorem ap_sUnp (tg : D → EM Unit) : sUnp tg a ρ = (a ρ).bnd fun d ρ1 => (tg d ρ1).bnd fun _ ρ2 => .ok .nx ρ2 := rfl
@[simp] theorem ap_tgT (ts : List (D → EM Unit)) (ds : List D) : tgT ts (.tup ds) ρ = tgAll ts ds ρ := rfl
@[simp] theorem ap_tgA0 : tgAll [] [] ρ = .ok () ρ := rfl
@[simp] theorem ap_tgA (g : D → EM Unit) (ts : List (D → EM Unit)) (d : D) (ds : List D) : tgAll (g :: ts) (d :: ds) ρ = (g d ρ).bnd fun _ ρ1 => tgAll ts ds ρ1 := rfl
@[simp] theorem ap_sRaise1 (x f : Str) : sRaise1 x f a ρ = (a ρ).bnd fun d ρ1 => .exn ⟨x, [(f, d)]⟩ ρ1 := rfl
@[simp] theorem ap_rSeq : rSeq s1 b ρ = (s1 ρ).bnd fun o ρ1 => match o with | .nx => b ρ1 | _ => .stuck := by
  show (s1 >>= fun o => match o with | .nx => b | _ => M.stuck : EM D) ρ = _
  rw [ap_bind]
  congr
  funext x ρ1
  cases x <;> rfl
@[simp] theorem ap_chkL (i : Nat) : chkL i ρ = match ρ.getD i none with | some (.lst _) => .ok () ρ | _ => .stuck := rfl
@[simp] theorem ap_sApp (i : Nat) : sApp i a ρ = (chkL i ρ).bnd fun _ ρ1 => (a ρ1).bnd fun d ρ2 => (updL i (appD d) ρ2).bnd fun _ ρ3 => .ok .nx ρ3 := rfl
theorem updL_app {i : Nat} {d : D} {ds : List D} (h : ρ.getD i none = some (.lst ds)) (hl : ds.length < sizeLine) : updL i (appD d) ρ = .ok () (ρ.set i (some (.lst (ds ++ [d])))) := by
  unfold updL
  rw [h]
  simp [appD, hl]
/-! loops -/
@[simp] theorem forM_nil (ρ0 : Env) (tg : D → EM Unit) : forM' ρ0 tg s1 [] ρ = .ok .nx ρ := rfl
theorem forM_cons (ρ0 : Env) (tg : D → EM Unit) (d : D) (ds : List D) : forM' ρ0 tg s1 (d :: ds) ρ = (tg d ρ).bnd fun _ ρ1 => (s1 ρ1).bnd fun o ρ2 => match o with
    | .nx | .ct => forM' ρ0 tg s1 ds (mask ρ0 ρ2)
    | .bk => .ok .nx ρ2
    | .rt d => .ok (.rt d) ρ2 := by
  show (tg d >>= fun _ => s1 >>= fun o => match o with
    | .nx | .ct => ((fun ρ => .ok () (mask ρ0 ρ) : EM Unit) >>= fun _ => forM' ρ0 tg s1 ds)
    | .bk => Pure.pure .nx
    | .rt d => Pure.pure (.rt d) : SM) ρ = _
  rw [ap_bind]
  congr
  funext x ρ1
  rw [ap_bind]
  congr
  funext o ρ2
  cases o <;> rfl
theorem compM_cons (j : Nat) (ρ0 : Env) (tg : D → EM Unit) (d : D) (ds : List D) : compM j ρ0 tg t a (d :: ds) ρ = (tg d ρ).bnd fun _ ρ1 => (t ρ1).bnd fun k ρ2 => if k = true then (a ρ2).bnd fun x ρ3 => (compM j ρ0 tg t a ds (ρ0.set j (ρ3.getD j none))).bnd fun xs ρ4 => .ok (x :: xs) ρ4
    else compM j ρ0 tg t a ds (ρ0.set j (ρ2.getD j none)) := by
  show (tg d >>= fun _ => t >>= fun b => if b = true then (a >>= fun x => back j ρ0 >>= fun _ => compM j ρ0 tg t a ds >>= fun xs => Pure.pure (x :: xs)) else (back j ρ0 >>= fun _ => compM j ρ0 tg t a ds) : EM (List D)) ρ = _
  rw [ap_bind]
  congr
  funext x ρ1
  rw [ap_bind]
  congr
  funext k ρ2
  split <;> rfl
@[simp] theorem compM_nil (j : Nat) (ρ0 : Env) (tg : D → EM Unit) : compM j ρ0 tg t a [] ρ = .ok [] ρ := rfl
@[simp] theorem ap_eComp (j : Nat) (it : EM (List D)) (tg : D → EM Unit) : eComp j it tg t a ρ = (it ρ).bnd fun ds ρ1 => if ds.length ≤ sizeLine then (match compM j ρ1 tg t a ds ρ1 with
    | .ok xs ρ' => .ok (.lst xs) ρ'
    | .exn _ _ => .stuck
    | .stuck => .stuck) else .stuck := rfl
/-- a for loop that goes through, by an invariant -/
theorem forM_inv {ρ0 : Env} {tg : D → EM Unit} (I : Nat → Env → Prop) : ∀ (ds : List D) (n : Nat) (ρ : Env), (∀ (k : Nat) (d : D) (ρ : Env), ds[k]? = some d → I (n + k) ρ → ∃ ρ1 o ρ2, tg d ρ = .ok () ρ1 ∧ s1 ρ1 = .ok o ρ2 ∧ (o = .nx ∨ o = .ct) ∧ I (n + k + 1) (mask ρ0 ρ2)) → I n ρ → ∃ ρ', forM' ρ0 tg s1 ds ρ = .ok .nx ρ' ∧ I (n + ds.length) ρ'
  | [], n, ρ, _, h => ⟨ρ, rfl, h⟩
  | d :: ds, n, ρ, st, h => by
    obtain ⟨ρ1, o, ρ2, e1, e2, ho, h2⟩ := st 0 d ρ rfl h
    obtain ⟨ρ', e3, h3⟩ := forM_inv I ds (n + 1) (mask ρ0 ρ2) (fun k d' ρ hk hi => by
      have := st (k + 1) d' ρ (by simpa using hk) (by rw [show n + (k + 1) = n + 1 + k by omega]; exact hi)
      rw [show n + (k + 1) + 1 = n + 1 + k + 1 by omega] at this
      exact this) h2
    refine ⟨ρ', ?_, by rw [List.length_cons, show n + (ds.length + 1) = n + 1 + ds.length by omega]; exact h3⟩
    rw [forM_cons, e1]
    simp only [bnd_ok, e2]
    rcases ho with rfl | rfl <;> exact e3
/-- a comprehension whose elements are told -/
theorem compM_map {j : Nat} {ρ0 : Env} {tg : D → EM Unit} (F : D → D) : ∀ (ds : List D) (ρ : Env), (∀ d ∈ ds, ∀ ρ, (∃ s, ρ = ρ0.set j s) → ∃ ρ1 ρ2 ρ3, tg d ρ = .ok () ρ1 ∧ t ρ1 = .ok true ρ2 ∧ a ρ2 = .ok (F d) ρ3) → (∃ s, ρ = ρ0.set j s) → ∃ s, compM j ρ0 tg t a ds ρ = .ok (ds.map F) (ρ0.set j s)
  | [], ρ, _, ⟨s, e⟩ => ⟨s, by rw [e]; rfl⟩
  | d :: ds, ρ, st, h => by
    obtain ⟨ρ1, ρ2, ρ3, e1, e2, e3⟩ := st d List.mem_cons_self ρ h
    obtain ⟨s, e4⟩ := compM_map F ds (ρ0.set j (ρ3.getD j none)) (fun d' h' => st d' (List.mem_cons_of_mem _ h')) ⟨_, rfl⟩
    refine ⟨s, ?_⟩
    rw [compM_cons, e1]
    simp only [bnd_ok, e2, e3, if_true, e4, List.map_cons]
/-! values -/
@[simp] theorem ap_addI (i j : Int) : addI (.int i) (.int j) () = .ok (.int (i + j)) () := rfl
@[simp] theorem ap_subI (i j : Int) : subI (.int i) (.int j) () = .ok (.int (i - j)) () := rfl
@[simp] theorem ap_ltI (i j : Int) : ltI (.int i) (.int j) () = .ok (.bl (decide (i < j))) () := rfl
@[simp] theorem ap_leI (i j : Int) : leI (.int i) (.int j) () = .ok (.bl (decide (i ≤ j))) () := rfl
@[simp] theorem ap_gtI (i j : Int) : gtI (.int i) (.int j) () = .ok (.bl (decide (j < i))) () := rfl
@[simp] theorem ap_geI (i j : Int) : geI (.int i) (.int j) () = .ok (.bl (decide (j ≤ i))) () := rfl
@[simp] theorem ap_negI (i : Int) : negI (.int i) () = .ok (.int (-i)) () := rfl
@[simp] theorem ap_absI (i : Int) : absI (.int i) () = .ok (.int (if i < 0 then -i else i)) () := rfl
@[simp] theorem ap_intI (i : Int) : intI (.int i) () = .ok (.int i) () := rfl
@[simp] theorem ap_lenL (ds : List D) : lenD (.lst ds) () = .ok (.int ds.length) () := rfl
@[simp] theorem ap_lenT (ds : List D) : lenD (.tup ds) () = .ok (.int ds.length) () := rfl
@[simp] theorem ap_listD (ds : List D) : listD (.lst ds) () = .ok (.lst ds) () := rfl
@[simp] theorem ap_isN1 (k : Bool) (d : D) : isN1 k d () = .ok (.bl (d.isNon != k)) () := rfl
theorem log_lt {i : Int} {k : Nat} (h : i.natAbs < 2 ^ k) (hk : 0 < k) : i.natAbs.log2 < k := by
  by_cases z : i.natAbs = 0
  · rw [z]; simpa using hk
  · exact (Nat.log2_lt z).mpr h
theorem intOp_ok {C : Int → Int → Bool} {h : Int → Int → D} {i j : Int} (c : C i j = true) : intOp C h (.int i) (.int j) () = .ok (h i j) () := by
  show (if C i j = true then (Pure.pure (h i j) : P D) else M.stuck) () = _
  rw [if_pos c]; rfl
theorem mulI_ok {i j : Int} (hi : i.natAbs < 2 ^ 500000) (hj : j.natAbs < 2 ^ 500000) : mulI (.int i) (.int j) () = .ok (.int (i * j)) () := by
  have h1 := log_lt hi (by omega)
  have h2 := log_lt hj (by omega)
  have : decide (i.natAbs.log2 + j.natAbs.log2 < 1000000) = true := decide_eq_true (by omega)
  exact intOp_ok (C := fun i j => decide (i.natAbs.log2 + j.natAbs.log2 < 1000000)) (h := fun i j => .int (i * j)) this
theorem divI_ok {i j : Int} (h : 0 < j) (hj : j.natAbs < 2 ^ 8999) : divI (.int i) (.int j) () = .ok (.int (i / j)) () := by
  have h1 := log_lt hj (by omega)
  exact intOp_ok (C := fun _ j => decide (0 < j) && decide (j.natAbs.log2 < 9000)) (h := fun i j => .int (i / j)) (by simp only [Bool.and_eq_true, decide_eq_true_eq]; exact ⟨h, by omega⟩)
theorem modI_ok {i j : Int} (h : 0 < j) : modI (.int i) (.int j) () = .ok (.int (i % j)) () := by
  exact intOp_ok (C := fun _ j => decide (0 < j)) (h := fun i j => .int (i % j)) (decide_eq_true h)
theorem powI_ok {i j : Int} (h0 : 0 ≤ j) (h1 : j ≤ 1000000) (h2 : i.natAbs < 2 ^ 64) : powI (.int i) (.int j) () = .ok (.int (i ^ j.toNat)) () := by
  exact intOp_ok (C := fun i j => decide (0 ≤ j) && (decide (j ≤ 1000000) && decide (i.natAbs < 2 ^ 64))) (h := fun i j => .int (i ^ j.toNat)) (by simp only [Bool.and_eq_true, decide_eq_true_eq]; exact ⟨h0, h1, h2⟩)
@[simp] theorem eqD_int (i j : Int) : eqD (.int i) (.int j) () = .ok (.bl (decide (i = j))) () := by
  unfold eqD
  simp only [D.toP]
  rw [if_pos ⟨rfl, rfl⟩]
  simp only [PyData.eqv, ap_pure]
  congr
@[simp] theorem eqD_bl (i j : Bool) : eqD (.bl i) (.bl j) () = .ok (.bl (i == j)) () := by
  unfold eqD
  simp only [D.toP]
  rw [if_pos ⟨rfl, rfl⟩]
  simp only [PyData.eqv, ap_pure]
@[simp] theorem neD_bl (i j : Bool) : neD (.bl i) (.bl j) () = .ok (.bl (!(i == j))) () := by
  unfold neD
  simp only [D.toP]
  rw [if_pos ⟨rfl, rfl⟩]
  simp only [PyData.eqv, ap_pure]
end
/-! defs -/
@[simp] theorem ap_startE (n : Nat) (ds : List D) : startE n ds = ds.map some ++ List.replicate (n - ds.length) none := rfl
def R.fn (r : R Env Out) : R Unit D := match r with
  | .ok (.rt d) _ => .ok d ()
  | .ok .nx _ => .ok .non ()
  | .ok _ _ => .stuck
  | .exn e _ => .exn e ()
  | .stuck => .stuck
def R.fnT (r : R Env Out) : R Unit D := match r with
  | .ok (.rt d) _ => .ok d ()
  | .ok _ _ => .stuck
  | .exn e _ => .exn e ()
  | .stuck => .stuck
def R.fnL (r : R Env D) : R Unit D := match r with
  | .ok d _ => .ok d ()
  | .exn e _ => .exn e ()
  | .stuck => .stuck
def R.fnIo (r : R Env Out) : R D D := match r with
  | .ok (.rt d) ρ => (match ρ.getD 0 none with | some s' => .ok d s' | none => .stuck)
  | .ok .nx ρ => (match ρ.getD 0 none with | some s' => .ok .non s' | none => .stuck)
  | .ok _ _ => .stuck
  | .exn e ρ => (match ρ.getD 0 none with | some s' => .exn e s' | none => .stuck)
  | .stuck => .stuck
theorem ap_defF (n : Nat) (b : SM) (ds : List D) : defF n b ds () = (b (startE n ds)).fn := by
  unfold defF R.fn
  cases b (startE n ds) with
  | ok o ρ => cases o <;> rfl
  | _ => rfl
theorem ap_defT (n : Nat) (b : SM) (ds : List D) : defT n b ds () = (b (startE n ds)).fnT := by
  unfold defT R.fnT
  cases b (startE n ds) with
  | ok o ρ => cases o <;> rfl
  | _ => rfl
theorem ap_lamF (n : Nat) (b : EM D) (ds : List D) : lamF n b ds () = (b (startE n ds)).fnL := by
  unfold lamF R.fnL
  cases b (startE n ds) <;> rfl
theorem ap_defIo (n : Nat) (b : SM) (ds : List D) (s : D) : defIo n b ds s = (b (startE n (s :: ds))).fnIo := by
  unfold defIo R.fnIo
  cases b (startE n (s :: ds)) with
  | ok o ρ => cases o <;> rfl
  | _ => rfl
@[simp] theorem fn_rt (d : D) (ρ : Env) : (R.ok (.rt d) ρ).fn = .ok d () := rfl
@[simp] theorem fn_nx (ρ : Env) : (R.ok .nx ρ).fn = .ok .non () := rfl
@[simp] theorem fn_exn (e : Ex) (ρ : Env) : (R.exn e ρ : R Env Out).fn = .exn e () := rfl
@[simp] theorem fnT_rt (d : D) (ρ : Env) : (R.ok (.rt d) ρ).fnT = .ok d () := rfl
@[simp] theorem fnT_exn (e : Ex) (ρ : Env) : (R.exn e ρ : R Env Out).fnT = .exn e () := rfl
@[simp] theorem fnL_ok (d : D) (ρ : Env) : (R.ok d ρ).fnL = .ok d () := rfl
@[simp] theorem fnL_exn (e : Ex) (ρ : Env) : (R.exn e ρ : R Env D).fnL = .exn e () := rfl
@[simp] theorem fnIo_rt (d : D) (s : D) (ρ : Env) : (R.ok (.rt d) (some s :: ρ)).fnIo = .ok d s := rfl
@[simp] theorem fnIo_nx (s : D) (ρ : Env) : (R.ok .nx (some s :: ρ)).fnIo = .ok .non s := rfl
@[simp] theorem mask_nil (ρ : Env) : mask [] ρ = [] := by unfold mask; simp
@[simp] theorem mask_none (a : Option D) (ρ0 ρ : Env) : mask (none :: ρ0) (a :: ρ) = none :: mask ρ0 ρ := rfl
@[simp] theorem mask_some (d : D) (a : Option D) (ρ0 ρ : Env) : mask (some d :: ρ0) (a :: ρ) = a :: mask ρ0 ρ := rfl
end PP
-- PQ2
set_option exponentiation.threshold 200
/-! PQ2: the laws' stream of draws. -/
namespace PP
open PySem
section
variable {ρ : Env} {a : EM D} {c : EM Bool} {s1 : SM}
theorem ap_sSetS (j k : Nat) : sSetS j k a ρ = (a ρ).bnd fun d ρ1 => match ρ1.getD j none with
    | some (.lst ds) => (match ds[k]? with
      | some y => if (y.nf && d.nf) = true then .ok .nx (ρ1.set j (some (.lst (ds.set k d)))) else .stuck
      | none => .stuck)
    | _ => .stuck := rfl
theorem ap_sWhile (fu : Env → Nat) : sWhile fu c s1 ρ = whileM ρ c s1 (fu ρ) ρ := rfl
theorem whileM_succ (ρ0 : Env) (n : Nat) : whileM ρ0 c s1 (n + 1) ρ = (c ρ).bnd fun b ρ1 => if b = true then (s1 ρ1).bnd fun o ρ2 => match o with
    | .nx | .ct => whileM ρ0 c s1 n (mask ρ0 ρ2)
    | .bk => .ok .nx ρ2
    | .rt d => .ok (.rt d) ρ2
    else .ok .nx ρ1 := by
  show (c >>= fun b => if b = true then (s1 >>= fun o => match o with
    | .nx | .ct => ((fun ρ => .ok () (mask ρ0 ρ) : EM Unit) >>= fun _ => whileM ρ0 c s1 n)
    | .bk => Pure.pure .nx
    | .rt d => Pure.pure (.rt d)) else Pure.pure .nx : SM) ρ = _
  rw [ap_bind]
  congr
  funext b ρ1
  split
  · rw [ap_bind]
    congr
    funext o ρ2
    cases o <;> rfl
  · rfl
end
/-- the stream as it stands -/
def stm (cs : List Int) (a b c : Int) : D := .lst [.lst (cs.map .int), .int a, .int b, .int c]
theorem toPA_ints : ∀ cs : List Int, D.toPA (cs.map .int) = some (cs.map .int)
  | [] => rfl
  | n :: cs => by simp [D.toPA, D.toP, toPA_ints cs]
theorem canLay_ints : ∀ cs : List Int, PyData.canLayAll0 (cs.map .int) = true
  | [] => by simp [PyData.canLayAll0]
  | n :: cs => by simp [PyData.canLayAll0, PyData.canLay0, canLay_ints cs]
theorem depth_ints : ∀ cs : List Int, PyData.depthAll (cs.map .int) = 0
  | [] => by simp [PyData.depthAll]
  | n :: cs => by simp [PyData.depthAll, PyData.depth, depth_ints cs]
theorem shaped_ints (cs : List Int) : SeqAt.shaped (.list (cs.map .int)) = true := by
  unfold SeqAt.shaped
  simp [PyData.canLay0, PyData.depth, canLay_ints, depth_ints]
@[simp] theorem ap_neS (ρ : Env) (cs : List Int) (a b c : Int) : tNeS 0 (some (stm cs a b c) :: ρ) = .ok (!cs.isEmpty) (some (stm cs a b c) :: ρ) := by
  unfold tNeS stm
  simp only [List.getD_cons_zero, toPA_ints, shaped_ints, if_true]
  cases cs <;> simp [PyData.eqv, PyData.eqvAll]
@[simp] theorem ap_popS (ρ : Env) (n : Int) (cs : List Int) (a b c : Int) : ePopS 0 (some (stm (n :: cs) a b c) :: ρ) = .ok (.int n) (some (stm cs a b c) :: ρ) := rfl
@[simp] theorem st_1 (cs : List Int) (a b c : Int) : stItem 1 (stm cs a b c) () = .ok (.int a) () := rfl
@[simp] theorem st_2 (cs : List Int) (a b c : Int) : stItem 2 (stm cs a b c) () = .ok (.int b) () := rfl
@[simp] theorem st_3 (cs : List Int) (a b c : Int) : stItem 3 (stm cs a b c) () = .ok (.int c) () := rfl
theorem set_1 {ρ ρ1 : Env} {a : EM D} {cs : List Int} {x b c i : Int} (h : a ρ = .ok (.int i) (some (stm cs x b c) :: ρ1)) : sSetS 0 1 a ρ = .ok .nx (some (stm cs i b c) :: ρ1) := by
  rw [ap_sSetS, h]; rfl
theorem set_2 {ρ ρ1 : Env} {a : EM D} {cs : List Int} {x b c i : Int} (h : a ρ = .ok (.int i) (some (stm cs x b c) :: ρ1)) : sSetS 0 2 a ρ = .ok .nx (some (stm cs x i c) :: ρ1) := by
  rw [ap_sSetS, h]; rfl
theorem set_3 {ρ ρ1 : Env} {a : EM D} {cs : List Int} {x b c i : Int} (h : a ρ = .ok (.int i) (some (stm cs x b c) :: ρ1)) : sSetS 0 3 a ρ = .ok .nx (some (stm cs x b i) :: ρ1) := by
  rw [ap_sSetS, h]; rfl
def fuDraw (ρ : Env) : Nat := match ρ.getD 0 none with | some (.lst (.lst cs :: _)) => cs.length + 1 | _ => 0
def drawA : SM := sSetS 0 2 (eP2 addI (eItS 0 2) (eC (.int 1)))
def drawT : EM Bool := tAnd (tB (eP2 eqD (eItS 0 1) (eC (.int 0)))) (tNeS 0)
def drawB : SM := (sSeq (sAsg 3 (eP1 absI (ePopS 0))) (sSeq (sSetS 0 3 (eP2 modI (eP1 intI (eP2 addI (eP2 addI (eP2 mulI (eItS 0 3) (eC (.int 8191))) (eV 3)) (eC (.int 3)))) (eC (.int 2147483647)))) (sSetS 0 1 (eIf (tB (eP2 geI (eV 3) (eP2 powI (eC (.int 10)) (eC (.int 18))))) (eNf (eV 3)) (eC (.int 0))))))
def drawC : SM := (sIf (tB (eP2 gtI (eItS 0 1) (eC (.int 0)))) (sSeq (sAsg 4 (eP2 modI (eP1 intI (eItS 0 1)) (eV 1))) (sSeq (sSetS 0 1 (eP2 divI (eItS 0 1) (eV 1))) (sRet (eNf (eV 4))))) sSkip)
def drawD : SM := (sSeq (sAsg 2 (eP2 modI (eP1 intI (eP2 powI (eP2 addI (eP2 addI (eItS 0 3) (eP2 mulI (eC (.int 7919)) (eItS 0 2))) (eC (.int 104729))) (eC (.int 5)))) (eC (.int 2147483629)))) (sRet (eP2 modI (eP2 modI (eP1 intI (eP2 powI (eP2 addI (eP2 addI (eP2 mulI (eV 2) (eC (.int 48271))) (eP2 mulI (eC (.int 30011)) (eItS 0 2))) (eC (.int 29))) (eC (.int 3)))) (eC (.int 1000000007))) (eV 1))))
def mDraw : SM := sSeq drawA (sSeq (sWhile fuDraw drawT drawB) (sSeq drawC drawD))
def fDraw : FnIo := defIo 5 mDraw
theorem eNf_int {a : EM D} {ρ ρ1 : Env} {i : Int} (h : a ρ = .ok (.int i) ρ1) : eNf a ρ = .ok (.int i) ρ1 := by
  unfold eNf
  rw [ap_eP1, h]; rfl
theorem drawB_ok {n : Int} {cs : List Int} {b c m : Int} {x : Option D} {y : Option D} (h0 : 0 ≤ c) (h1 : c < 2147483647) : ∃ a' c' n', drawB [some (stm (n :: cs) 0 b c), some (.int m), none, x, y] = .ok .nx [some (stm cs a' b c'), some (.int m), none, n', y] ∧ 0 ≤ a' ∧ 0 ≤ c' ∧ c' < 2147483647 := by
  have hc : c.natAbs < 2 ^ 500000 := Nat.lt_of_lt_of_le (show c.natAbs < 2 ^ 31 by omega) (Nat.pow_le_pow_right (by decide) (by decide))
  have hk : (8191 : Int).natAbs < 2 ^ 500000 := Nat.lt_of_lt_of_le (show (8191 : Int).natAbs < 2 ^ 31 by decide) (Nat.pow_le_pow_right (by decide) (by decide))
  generalize hN : (if n < 0 then -n else n) = N
  have hN0 : 0 ≤ N := by rw [← hN]; split <;> omega
  have e3 := set_3 (ρ := [some (stm cs 0 b c), some (.int m), none, some (.int N), y]) (a := (eP2 modI (eP1 intI (eP2 addI (eP2 addI (eP2 mulI (eItS 0 3) (eC (.int 8191))) (eV 3)) (eC (.int 3)))) (eC (.int 2147483647)))) (cs := cs) (x := 0) (b := b) (c := c) (i := (c * 8191 + N + 3) % 2147483647) (ρ1 := [some (.int m), none, some (.int N), y]) (by
    simp [mulI_ok hc hk, modI_ok])
  have hp : (10 : Int) ^ (18 : Int).toNat = 1000000000000000000 := by decide
  have e1 : ∃ A, 0 ≤ A ∧ (eIf (tB (eP2 geI (eV 3) (eP2 powI (eC (.int 10)) (eC (.int 18))))) (eNf (eV 3)) (eC (.int 0))) [some (stm cs 0 b ((c * 8191 + N + 3) % 2147483647)), some (.int m), none, some (.int N), y] = .ok (.int A) [some (stm cs 0 b ((c * 8191 + N + 3) % 2147483647)), some (.int m), none, some (.int N), y] := by
    have p := powI_ok (i := 10) (j := 18) (by decide) (by decide) (by decide)
    by_cases g : (10 : Int) ^ (18 : Int).toNat ≤ N
    · refine ⟨N, hN0, ?_⟩
      have q := eNf_int (a := eV 3) (ρ := [some (stm cs 0 b ((c * 8191 + N + 3) % 2147483647)), some (.int m), none, some (.int N), y]) (i := N) rfl
      simp only [ap_eIf, ap_tB, ap_eP2, ap_eV, ap_eC, List.getD_cons_succ, List.getD_cons_zero, bnd_ok, p, lft_ok, ap_geI, decide_eq_true g, if_true]
      exact q
    · refine ⟨0, Int.le_refl _, ?_⟩
      simp only [ap_eIf, ap_tB, ap_eP2, ap_eV, ap_eC, List.getD_cons_succ, List.getD_cons_zero, bnd_ok, p, lft_ok, ap_geI, decide_eq_false g]
      rfl
  obtain ⟨A, hA, e1⟩ := e1
  have e1 := set_1 e1
  refine ⟨A, (c * 8191 + N + 3) % 2147483647, some (.int N), ?_, hA, Int.emod_nonneg _ (by decide), Int.emod_lt_of_pos _ (by decide)⟩
  unfold drawB
  simp only [ap_sSeq, ap_sAsg, ap_eP1, ap_popS, bnd_ok, ap_absI, lft_ok, hN, List.set_cons_succ, List.set_cons_zero, e3, e1]
theorem draw_loop {b m : Int} {y : Option D} : ∀ (cs : List Int) (n : Nat) (a c : Int), cs.length < n → 0 ≤ a → 0 ≤ c → c < 2147483647 → ∃ cs' a' c', whileM [some (stm cs a b c), some (.int m), none, none, none] drawT drawB n [some (stm cs a b c), some (.int m), none, none, none] = .ok .nx [some (stm cs' a' b c'), some (.int m), none, none, none] ∧ 0 ≤ a' ∧ 0 ≤ c' ∧ c' < 2147483647 := by
  have gen : ∀ (ρ0 : Env), (∀ s x y z w v, mask ρ0 [s, x, y, z, w] = [s, x, none, none, none] ∨ v = (0:Nat)) → ∀ (cs : List Int) (n : Nat) (a c : Int), cs.length < n → 0 ≤ a → 0 ≤ c → c < 2147483647 → ∃ cs' a' c', whileM ρ0 drawT drawB n [some (stm cs a b c), some (.int m), none, none, none] = .ok .nx [some (stm cs' a' b c'), some (.int m), none, none, none] ∧ 0 ≤ a' ∧ 0 ≤ c' ∧ c' < 2147483647 := by
    intro ρ0 hm cs
    induction cs with
    | nil =>
      intro n a c hn h0 h1 h2
      cases n with
      | zero => exact absurd hn (Nat.not_lt_zero _)
      | succ n =>
        refine ⟨[], a, c, ?_, h0, h1, h2⟩
        rw [whileM_succ]
        have : drawT [some (stm [] a b c), some (.int m), none, none, none] = .ok false [some (stm [] a b c), some (.int m), none, none, none] := by
          unfold drawT
          by_cases z : a = 0 <;> simp [z]
        rw [this]; rfl
    | cons k cs ih =>
      intro n a c hn h0 h1 h2
      cases n with
      | zero => exact absurd hn (Nat.not_lt_zero _)
      | succ n =>
        rw [whileM_succ]
        by_cases z : a = 0
        · subst z
          have e : drawT [some (stm (k :: cs) 0 b c), some (.int m), none, none, none] = .ok true [some (stm (k :: cs) 0 b c), some (.int m), none, none, none] := by
            unfold drawT; simp
          obtain ⟨a', c', n', e2, h3, h4, h5⟩ := drawB_ok (n := k) (cs := cs) (b := b) (m := m) (x := none) (y := none) h1 h2
          rw [e]
          simp only [bnd_ok, if_true, e2]
          have mm := (hm (some (stm cs a' b c')) (some (.int m)) none n' none 1).resolve_right (by decide)
          rw [mm]
          exact ih n a' c' (by simpa using hn) h3 h4 h5
        · refine ⟨k :: cs, a, c, ?_, h0, h1, h2⟩
          have : drawT [some (stm (k :: cs) a b c), some (.int m), none, none, none] = .ok false [some (stm (k :: cs) a b c), some (.int m), none, none, none] := by
            unfold drawT; simp [z]
          rw [this]; rfl
  intro cs n a c
  exact gen [some (stm cs a b c), some (.int m), none, none, none] (fun s x y z w v => .inl rfl) cs n a c
/-- the stream after so many draws -/
def Wf (n : Nat) (s : D) : Prop := ∃ (cs : List Int) (a b c : Int), s = stm cs a b c ∧ 0 ≤ a ∧ 0 ≤ b ∧ b ≤ n ∧ 0 ≤ c ∧ c < 2147483647
theorem Wf.mono {n m : Nat} {s : D} (h : Wf n s) (l : n ≤ m) : Wf m s := by
  obtain ⟨cs, a, b, c, e, h1, h2, h3, h4⟩ := h
  exact ⟨cs, a, b, c, e, h1, h2, by omega, h4⟩
theorem small {i : Int} (h : i.natAbs < 2 ^ 70) : i.natAbs < 2 ^ 500000 := Nat.lt_of_lt_of_le h (Nat.pow_le_pow_right (by decide) (by decide))
theorem draw_ok {n : Nat} {s : D} {m : Int} (h : Wf n s) (hn : n < 1099511627776) (hm : 0 < m) (hm2 : m < 1099511627776) : ∃ k s', fDraw [.int m] s = .ok (.int k) s' ∧ 0 ≤ k ∧ k < m ∧ Wf (n + 1) s' := by
  obtain ⟨cs, a, b, c, rfl, h1, h2, h3, h4, h5⟩ := h
  unfold fDraw
  rw [ap_defIo]
  have s0 : startE 5 [stm cs a b c, .int m] = [some (stm cs a b c), some (.int m), none, none, none] := rfl
  rw [s0]
  unfold mDraw
  have eA : drawA [some (stm cs a b c), some (.int m), none, none, none] = .ok .nx [some (stm cs a (b + 1) c), some (.int m), none, none, none] := by
    unfold drawA
    exact set_2 (ρ := [some (stm cs a b c), some (.int m), none, none, none]) (a := eP2 addI (eItS 0 2) (eC (.int 1))) (cs := cs) (x := a) (b := b) (c := c) (i := b + 1) (ρ1 := [some (.int m), none, none, none]) (by simp)
  obtain ⟨cs', a', c', eW, h6, h7, h8⟩ := draw_loop (b := b + 1) (m := m) (y := none) cs (cs.length + 1) a c (by omega) h1 h4 h5
  have eW2 : sWhile fuDraw drawT drawB [some (stm cs a (b + 1) c), some (.int m), none, none, none] = .ok .nx [some (stm cs' a' (b + 1) c'), some (.int m), none, none, none] := by
    rw [ap_sWhile]
    have : fuDraw [some (stm cs a (b + 1) c), some (.int m), none, none, none] = cs.length + 1 := by unfold fuDraw stm; simp
    rw [this]; exact eW
  have hmd : m.natAbs < 2 ^ 8999 := Nat.lt_of_lt_of_le (show m.natAbs < 2 ^ 40 by omega) (Nat.pow_le_pow_right (by decide) (by decide))
  by_cases ha : 0 < a'
  · refine ⟨a' % m, stm cs' (a' / m) (b + 1) c', ?_, Int.emod_nonneg _ (by omega), Int.emod_lt_of_pos _ hm, cs', a' / m, b + 1, c', rfl, Int.ediv_nonneg h6 (by omega), by omega, by omega, h7, h8⟩
    have e1 := set_1 (ρ := [some (stm cs' a' (b + 1) c'), some (.int m), none, none, some (.int (a' % m))]) (a := eP2 divI (eItS 0 1) (eV 1)) (cs := cs') (x := a') (b := b + 1) (c := c') (i := a' / m) (ρ1 := [some (.int m), none, none, some (.int (a' % m))]) (by simp [divI_ok hm hmd])
    have e2 := eNf_int (a := eV 4) (ρ := [some (stm cs' (a' / m) (b + 1) c'), some (.int m), none, none, some (.int (a' % m))]) (i := a' % m) rfl
    have eC : drawC [some (stm cs' a' (b + 1) c'), some (.int m), none, none, none] = .ok (.rt (.int (a' % m))) [some (stm cs' (a' / m) (b + 1) c'), some (.int m), none, none, some (.int (a' % m))] := by
      unfold drawC
      simp [ha, modI_ok hm, e1, e2]
    simp only [ap_sSeq, eA, eW2, eC, bnd_ok, fnIo_rt]
  · have ha0 : a' = 0 := by omega
    subst ha0
    have eC : drawC [some (stm cs' 0 (b + 1) c'), some (.int m), none, none, none] = .ok .nx [some (stm cs' 0 (b + 1) c'), some (.int m), none, none, none] := by
      unfold drawC
      simp
    have g1 : (7919 : Int).natAbs < 2 ^ 70 := by decide
    have g2 : (b + 1).natAbs < 2 ^ 70 := by omega
    have p1 := powI_ok (i := c' + 7919 * (b + 1) + 104729) (j := 5) (by decide) (by decide) (by omega)
    generalize hM : (c' + 7919 * (b + 1) + 104729) ^ (5 : Int).toNat % 2147483629 = M
    have hM0 : 0 ≤ M := by rw [← hM]; exact Int.emod_nonneg _ (by decide)
    have hM1 : M < 2147483629 := by rw [← hM]; exact Int.emod_lt_of_pos _ (by decide)
    have p2 := powI_ok (i := M * 48271 + 30011 * (b + 1) + 29) (j := 3) (by decide) (by decide) (by omega)
    have q1 := mulI_ok (i := 7919) (j := b + 1) (small g1) (small g2)
    have q2 := mulI_ok (i := M) (j := 48271) (small (by omega)) (small (by decide))
    have q3 := mulI_ok (i := 30011) (j := b + 1) (small (by decide)) (small g2)
    refine ⟨(M * 48271 + 30011 * (b + 1) + 29) ^ (3 : Int).toNat % 1000000007 % m, stm cs' 0 (b + 1) c', ?_, Int.emod_nonneg _ (by omega), Int.emod_lt_of_pos _ hm, cs', 0, b + 1, c', rfl, Int.le_refl _, by omega, by omega, h7, h8⟩
    have eD : drawD [some (stm cs' 0 (b + 1) c'), some (.int m), none, none, none] = .ok (.rt (.int ((M * 48271 + 30011 * (b + 1) + 29) ^ (3 : Int).toNat % 1000000007 % m))) [some (stm cs' 0 (b + 1) c'), some (.int m), some (.int M), none, none] := by
      unfold drawD
      simp only [ap_sSeq, ap_sAsg, ap_sRet, ap_eP2, ap_eP1, ap_eItS, ap_eV, ap_eC, List.getD_cons_succ, List.getD_cons_zero, List.set_cons_succ, List.set_cons_zero, bnd_ok, lft_ok, st_3, st_2, q1, ap_addI, p1, ap_intI, modI_ok (show (0 : Int) < 2147483629 by decide), hM, q2, q3, p2, modI_ok (show (0 : Int) < 1000000007 by decide), modI_ok hm]
    simp only [ap_sSeq, eA, eW2, eC, eD, bnd_ok, fnIo_rt]
end PP
-- PQ3
/-! PQ3: picking, mixing, comparing. -/
namespace PP
open PySem
theorem line_big : (1000000 : Nat) ≤ sizeLine := by decide
@[simp] theorem idxL (ds : List D) (i : Int) : idxD (.lst ds) (.int i) () = match L2.atI ds i with | some d => .ok d () | none => .stuck := by
  show (match L2.atI ds i with
    | some d => Pure.pure d
    | none => M.stuck : P D) () = _
  cases L2.atI ds i <;> rfl
@[simp] theorem idxT (ds : List D) (i : Int) : idxD (.tup ds) (.int i) () = match L2.atI ds i with | some d => .ok d () | none => .stuck := by
  show (match L2.atI ds i with
    | some d => Pure.pure d
    | none => M.stuck : P D) () = _
  cases L2.atI ds i <;> rfl
theorem atI_of {α : Type} {xs : List α} {i : Int} (h0 : 0 ≤ i) (h1 : i < xs.length) : ∃ (k : Nat) (d : α), i = k ∧ xs[k]? = some d ∧ L2.atI xs i = some d := by
  have hk : i.toNat < xs.length := by omega
  refine ⟨i.toNat, xs[i.toNat], by omega, List.getElem?_eq_getElem hk, ?_⟩
  have := L2.atI_nat (xs := xs) (j := i.toNat) (v := xs[i.toNat]) (List.getElem?_eq_getElem hk)
  rw [Int.toNat_of_nonneg h0] at this
  exact this
/-! ### a pick -/
def mPick : SM := (sRet (eP2 idxD (eV 1) (eIo fDraw 0 (eCons (eP1 lenD (eV 1)) eNil))))
def fPick : FnIo := defIo 2 mPick
theorem pick_ok {n : Nat} {s : D} {ds : List D} (h : Wf n s) (hn : n < 1099511627776) (h0 : ds ≠ []) (h1 : ds.length < 1099511627776) : ∃ (k : Nat) (d : D) (s' : D), fPick [.lst ds] s = .ok d s' ∧ ds[k]? = some d ∧ Wf (n + 1) s' := by
  have hl : 0 < ds.length := List.length_pos_iff.mpr h0
  obtain ⟨k, s', e1, e2, e3, e4⟩ := draw_ok (m := ds.length) h hn (by omega) (by omega)
  obtain ⟨j, d, ej, ed, ea⟩ := atI_of e2 e3
  refine ⟨j, d, s', ?_, ed, e4⟩
  unfold fPick
  rw [ap_defIo]
  unfold mPick
  simp [e1, ea]
theorem pickT_ok {n : Nat} {s : D} {ds : List D} (h : Wf n s) (hn : n < 1099511627776) (h0 : ds ≠ []) (h1 : ds.length < 1099511627776) : ∃ (k : Nat) (d : D) (s' : D), fPick [.tup ds] s = .ok d s' ∧ ds[k]? = some d ∧ Wf (n + 1) s' := by
  have hl : 0 < ds.length := List.length_pos_iff.mpr h0
  obtain ⟨k, s', e1, e2, e3, e4⟩ := draw_ok (m := ds.length) h hn (by omega) (by omega)
  obtain ⟨j, d, ej, ed, ea⟩ := atI_of e2 e3
  refine ⟨j, d, s', ?_, ed, e4⟩
  unfold fPick
  rw [ap_defIo]
  unfold mPick
  simp [e1, ea]
/-! ### a mix -/
theorem ap_sAppPop (i j : Nat) (a : EM D) (ρ : Env) : sAppPop i j a ρ = (chkL i ρ).bnd fun _ ρ1 => (chkL j ρ1).bnd fun _ ρ2 => (a ρ2).bnd fun n ρ => match ρ.getD i none, ρ.getD j none, n with
    | some (.lst ds), some (.lst es), .int z => (match seqIndex? z es.length with
      | some k => (match es[k]? with
        | some d => if (decide (ds.length < sizeLine) && (decide (-(2 ^ 63) ≤ z) && decide (z < 2 ^ 63))) = true then .ok .nx ((ρ.set j (some (.lst (es.eraseIdx k)))).set i (some (.lst (ds ++ [d])))) else .stuck
        | none => .stuck)
      | none => .stuck)
    | _, _, _ => .stuck := rfl
def mMixed : SM := (sSeq (sPar 3 4 (eP1 listD (eV 1)) (eLst eNil)) (sSeq (sFor (itA fnR1 (eCons (eP1 lenD (eV 3)) eNil)) (tgN 2) (sAppPop 4 3 (eIo fDraw 0 (eCons (eP1 lenD (eV 3)) eNil)))) (sRet (eV 4))))
def fMixed : FnIo := defIo 5 mMixed
theorem in62_ok {n : Nat} (h : n < 1000000) : in62 (n : Int) = true := by
  unfold in62
  simp only [Bool.and_eq_true, decide_eq_true_eq]
  omega
@[simp] theorem fnR1_nat (n : Nat) : fnR1 [.int (n : Int)] = if in62 (n : Int) = true then some (rangeL 0 n) else none := rfl
theorem rangeL_len {lo : Int} {n : Nat} : (rangeL lo n).length = n := by simp [rangeL]
theorem rangeL_get {lo : Int} {n k : Nat} {d : D} (h : (rangeL lo n)[k]? = some d) : k < n ∧ d = .int (lo + k) := by
  have hk : k < n := by
    have := (List.getElem?_eq_some_iff.mp h).1
    rwa [rangeL_len] at this
  refine ⟨hk, ?_⟩
  unfold rangeL at h
  rw [List.getElem?_map, List.getElem?_range hk] at h
  exact (Option.some.inj h).symm
theorem perm_erase {α : Type} {xs : List α} {k : Nat} {d : α} (h : xs[k]? = some d) : xs.Perm (d :: xs.eraseIdx k) := by
  induction xs generalizing k with
  | nil => simp at h
  | cons x xs ih =>
    cases k with
    | zero => simp at h; subst h; simp
    | succ k =>
      have := ih (k := k) (by simpa using h)
      simp only [List.eraseIdx_cons_succ]
      exact (List.Perm.cons x this).trans (List.Perm.swap _ _ _)
theorem seqIndex_nat {z : Int} {n : Nat} (h0 : 0 ≤ z) (h1 : z < n) : seqIndex? z n = some z.toNat := by
  have e : (if z < 0 then z + n else z) = z := if_neg (by omega)
  show (if 0 ≤ (if z < 0 then z + n else z) && (if z < 0 then z + n else z) < n then some (if z < 0 then z + n else z).toNat else none) = _
  rw [e]
  simp [h0, h1]
theorem pop_ok {k : Nat} {z : Int} (h1 : k < 1000000) (h2 : 0 ≤ z) (h3 : z < 1000000) : (decide (k < sizeLine) && (decide (-(2 ^ 63) ≤ z) && decide (z < 2 ^ 63))) = true := by
  have := line_big
  simp only [Bool.and_eq_true, decide_eq_true_eq]
  refine ⟨by omega, by omega, by omega⟩
theorem appPop_ok {i j : Nat} {a : EM D} {ρ ρ1 : Env} {xs ys ds es : List D} {z : Int} {k : Nat} {d : D} (h1 : ρ.getD i none = some (.lst xs)) (h2 : ρ.getD j none = some (.lst ys)) (ha : a ρ = .ok (.int z) ρ1) (g1 : ρ1.getD i none = some (.lst ds)) (g2 : ρ1.getD j none = some (.lst es))
    (sq : seqIndex? z es.length = some k) (ed : es[k]? = some d) (c1 : (decide (ds.length < sizeLine) && (decide (-(2 ^ 63) ≤ z) && decide (z < 2 ^ 63))) = true) : sAppPop i j a ρ = .ok .nx ((ρ1.set j (some (.lst (es.eraseIdx k)))).set i (some (.lst (ds ++ [d])))) := by
  rw [ap_sAppPop, ap_chkL, h1]
  dsimp only
  rw [bnd_ok, ap_chkL, h2]
  dsimp only
  rw [bnd_ok, ha, bnd_ok, g1, g2]
  dsimp only
  rw [sq]
  dsimp only
  rw [ed]
  dsimp only
  rw [if_pos c1]
theorem mix_step {s1 s2 d2 : D} {ds left found : List D} {z : Int} (e1 : fDraw [.int left.length] s1 = .ok (.int z) s2) (sq : seqIndex? z left.length = some z.toNat) {d : D} (ed : left[z.toNat]? = some d) (c1 : (decide (found.length < sizeLine) && (decide (-(2 ^ 63) ≤ z) && decide (z < 2 ^ 63))) = true) :
   sAppPop 4 3 (eIo fDraw 0 (eCons (eP1 lenD (eV 3)) eNil)) [some s1, some (.lst ds), some d2, some (.lst left), some (.lst found)] = .ok .nx [some s2, some (.lst ds), some d2, some (.lst (left.eraseIdx z.toNat)), some (.lst (found ++ [d]))] := by
  have q := appPop_ok (i := 4) (j := 3) (a := (eIo fDraw 0 (eCons (eP1 lenD (eV 3)) eNil))) (ρ := [some s1, some (.lst ds), some d2, some (.lst left), some (.lst found)]) (ρ1 := [some s2, some (.lst ds), some d2, some (.lst left), some (.lst found)]) (xs := found) (ys := left) (ds := found) (es := left) (z := z) (k := z.toNat) (d := d) rfl rfl (by
        simp only [ap_eIo, ap_eCons, ap_eP1, ap_eV, ap_eNil, List.set_cons_succ, List.set_cons_zero, List.getD_cons_succ, List.getD_cons_zero, bnd_ok, ap_lenL, lft_ok, e1, io_ok]) rfl rfl sq ed c1
  exact q

theorem mix_turn {n k : Nat} {s1 : D} {ds left found : List D} (hw : Wf (n + (0 + k)) s1) (hn : n + ds.length < 1099511627776) (h1 : ds.length < 1000000) (hl : left.length + (0 + k) = ds.length) (hp : (left ++ found).Perm ds) (hk1 : k < ds.length) :
   ∃ s2 left' found', sAppPop 4 3 (eIo fDraw 0 (eCons (eP1 lenD (eV 3)) eNil)) [some s1, some (.lst ds), some (.int (0 + k)), some (.lst left), some (.lst found)] = .ok .nx [some s2, some (.lst ds), some (.int (0 + k)), some (.lst left'), some (.lst found')] ∧ Wf (n + (0 + k + 1)) s2 ∧ left'.length + (0 + k + 1) = ds.length ∧ (left' ++ found').Perm ds := by
  have hl0 : 0 < left.length := by omega
  obtain ⟨z, s2, e1, e2, e3, e4⟩ := draw_ok (m := left.length) hw (by omega) (by omega) (by omega)
  have hz : z.toNat < left.length := by omega
  have sq : seqIndex? z left.length = some z.toNat := seqIndex_nat e2 e3
  have ed : left[z.toNat]? = some left[z.toNat] := List.getElem?_eq_getElem hz
  have hfl : found.length < 1000000 := by
    have := hp.length_eq
    rw [List.length_append] at this
    omega
  have c1 := pop_ok hfl e2 (by omega)
  refine ⟨s2, left.eraseIdx z.toNat, found ++ [left[z.toNat]], mix_step (ds := ds) (d2 := .int (0 + k)) e1 sq ed c1, e4, ?_, ?_⟩
  · rw [List.length_eraseIdx, if_pos hz]; omega
  · have p1 := perm_erase ed
    have : ((left.eraseIdx z.toNat) ++ (found ++ [left[z.toNat]])).Perm (left ++ found) := by
      rw [← List.append_assoc]
      refine (List.perm_append_comm).trans ?_
      rw [List.singleton_append, ← List.cons_append]
      exact List.Perm.append_right found p1.symm
    exact this.trans hp
def mixI (n : Nat) (ds : List D) (k : Nat) (ρ : Env) : Prop := ∃ (s' : D) (left found : List D), ρ = [some s', some (.lst ds), none, some (.lst left), some (.lst found)] ∧ Wf (n + k) s' ∧ left.length + k = ds.length ∧ (left ++ found).Perm ds
def mixB : SM := sAppPop 4 3 (eIo fDraw 0 (eCons (eP1 lenD (eV 3)) eNil))
theorem mix_step2 {n : Nat} {s0 : D} {ds : List D} (hn : n + ds.length < 1099511627776) (h1 : ds.length < 1000000) (k : Nat) (d : D) (ρ : Env) (hk : (rangeL 0 ds.length)[k]? = some d) (h : mixI n ds (0 + k) ρ) :
    ∃ ρ1 o ρ2, tgN 2 d ρ = .ok () ρ1 ∧ mixB ρ1 = .ok o ρ2 ∧ (o = .nx ∨ o = .ct) ∧ mixI n ds (0 + k + 1) (mask [some s0, some (.lst ds), none, some (.lst ds), some (.lst [])] ρ2) := by
  obtain ⟨s1, left, found, hρ, hw, hl, hp⟩ := h
  obtain ⟨hk1, rfl⟩ := rangeL_get hk
  subst hρ
  obtain ⟨s2, left', found', q1, q2, q3, q4⟩ := mix_turn hw hn h1 hl hp hk1
  exact ⟨_, .nx, _, rfl, q1, .inl rfl, s2, left', found', rfl, q2, q3, q4⟩
theorem mix_loop {n : Nat} {s : D} {ds : List D} (h : Wf n s) (hn : n + ds.length < 1099511627776) (h1 : ds.length < 1000000) :
    ∃ ρ', forM' [some s, some (.lst ds), none, some (.lst ds), some (.lst [])] (tgN 2) mixB (rangeL 0 ds.length) [some s, some (.lst ds), none, some (.lst ds), some (.lst [])] = .ok .nx ρ' ∧ mixI n ds (0 + (rangeL 0 ds.length).length) ρ' :=
  forM_inv (mixI n ds) _ 0 _ (fun k d ρ hk hi => mix_step2 hn h1 k d ρ hk hi) ⟨s, ds, [], rfl, h, by omega, by simp⟩
theorem mixed_ok {n : Nat} {s : D} {ds : List D} (h : Wf n s) (hn : n + ds.length < 1099511627776) (h1 : ds.length < 1000000) : ∃ (es : List D) (s' : D), fMixed [.lst ds] s = .ok (.lst es) s' ∧ es.Perm ds ∧ Wf (n + ds.length) s' := by
  unfold fMixed
  rw [ap_defIo]
  have s0 : startE 5 [s, .lst ds] = [some s, some (.lst ds), none, none, none] := rfl
  rw [s0]
  obtain ⟨ρ', eF, s', left, found, hρ, hw, hl, hp⟩ := mix_loop h hn h1
  rw [rangeL_len] at hw hl
  have eF : forM' [some s, some (.lst ds), none, some (.lst ds), some (.lst [])] (tgN 2) (sAppPop 4 3 (eIo fDraw 0 (eCons (eP1 lenD (eV 3)) eNil))) (rangeL 0 ds.length) [some s, some (.lst ds), none, some (.lst ds), some (.lst [])] = .ok .nx ρ' := eF
  refine ⟨found, s', ?_, ?_, hw.mono (by omega)⟩
  · have eA : sPar 3 4 (eP1 listD (eV 1)) (eLst eNil) [some s, some (.lst ds), none, none, none] = .ok .nx [some s, some (.lst ds), none, some (.lst ds), some (.lst [])] := rfl
    have eI : itA fnR1 (eCons (eP1 lenD (eV 3)) eNil) [some s, some (.lst ds), none, some (.lst ds), some (.lst [])] = .ok (rangeL 0 ds.length) [some s, some (.lst ds), none, some (.lst ds), some (.lst [])] := by
      have e : fnR1 [.int (ds.length : Int)] = some (rangeL 0 ds.length) := by rw [fnR1_nat, if_pos (in62_ok h1)]
      have eL : eCons (eP1 lenD (eV 3)) eNil [some s, some (.lst ds), none, some (.lst ds), some (.lst [])] = .ok [.int (ds.length : Int)] [some s, some (.lst ds), none, some (.lst ds), some (.lst [])] := rfl
      rw [ap_itA, eL, bnd_ok, e, selO_some]
    have eC : sRet (eV 4) ρ' = .ok (.rt (.lst found)) ρ' := by rw [hρ]; rfl
    unfold mMixed
    rw [ap_sSeq, eA, bnd_ok]
    dsimp only
    rw [ap_sSeq, ap_sFor, eI, bnd_ok, eF, bnd_ok]
    dsimp only
    rw [eC, hρ]; rfl
  · have : left = [] := List.length_eq_zero_iff.mp (by omega)
    rw [this] at hp
    exact hp
end PP
-- PQ4
/-! PQ4: comparing with what is due. -/
namespace PP
open PySem
def mSame (self : Fn) : SM := (sSeq (sIf (tTru (eP1 (isD [.list, .tuple]) (eV 1))) (sSeq (sIf (tOr (tB (eP2 neD (eP1 (isD [.list]) (eV 0)) (eP1 (isD [.list]) (eV 1)))) (tB (eP2 neD (eP1 (isD [.tuple]) (eV 0)) (eP1 (isD [.tuple]) (eV 1))))) (sRet (eC (.bl false))) sSkip) (sRet (eAnd (eP2 eqD (eP1 lenD (eV 0)) (eP1 lenD (eV 1))) (eP1 allB (eComp 4 (itA fnZip (eCons (eV 0) (eCons (eV 1) eNil))) (tgT [(tgN 2), (tgN 3)]) tYesM (eCall self (eCons (eV 2) (eCons (eV 3) eNil)))))))) sSkip) (sSeq (sIf (tTru (eP1 (isD [.dict]) (eV 1))) (sRet (eAnd (eP1 (isD [.dict]) (eV 0)) (eCall self (eCons (eP1 itemsD (eV 0)) (eCons (eP1 itemsD (eV 1)) eNil))))) sSkip) (sSeq (sIf (tOr (tTru (eP1 (isD [.bool]) (eV 1))) (tTru (eP1 (isD [.bool]) (eV 0)))) (sRet (eAnd (eP1 (isD [.bool]) (eV 1)) (eAnd (eP1 (isD [.bool]) (eV 0)) (eP2 eqD (eV 0) (eV 1))))) sSkip) (sSeq (sIf (tOr (tB (eP1 (isN1 false) (eV 1))) (tB (eP1 (isN1 false) (eV 0)))) (sRet (eAnd (eP1 (isN1 false) (eV 1)) (eP1 (isN1 false) (eV 0)))) sSkip) (sSeq (sIf (tOr (tB (eP2 neD (eP1 (isD [.int]) (eV 1)) (eP1 (isD [.int]) (eV 0)))) (tB (eP2 neD (eP1 (isD [.str]) (eV 1)) (eP1 (isD [.str]) (eV 0))))) (sRet (eC (.bl false))) sSkip) (sRet (eAnd (eNot (eP1 (isD [.list, .tuple, .dict]) (eV 0))) (eP2 eqD (eV 0) (eV 1)))))))))
def fSame : Nat → Fn
  | 0 => fun _ _ => .stuck
  | n + 1 => defF 4 (mSame (fSame n))
/-- data that is compared to an end, in so many steps -/
def D.gd : Nat → D → Bool
  | 0, _ => false
  | _ + 1, .non | _ + 1, .bl _ | _ + 1, .int _ => true
  | _ + 1, .str x => PyData.strOk x
  | n + 1, .lst ds | n + 1, .tup ds => decide (ds.length ≤ 1000000) && ds.all (D.gd n)
  | n + 3, .dct ks ds => decide (ds.length ≤ 1000000) && (ds.all (D.gd n) && ks.all fun k => D.gd n (kD k))
  | _, _ => false
theorem isD_ok {ts : List Ty} {d : D} {n : String} {b : Bool} (h1 : d.tyN = some n) (h2 : isAny ts d = some b) : isD ts d () = .ok (.bl b) () := by
  unfold isD
  rw [h1, h2]; rfl
theorem eqv_str {x : Str} (h : PyData.strOk x = true) : eqD (.str x) (.str x) () = .ok (.bl true) () := by
  unfold eqD
  have sh : SeqAt.shaped (.str x) = true := by
    unfold SeqAt.shaped
    simp [PyData.canLay0, PyData.depth, h]
  simp only [D.toP]
  rw [if_pos ⟨sh, sh⟩]
  simp [PyData.eqv]
theorem bls_rep : ∀ n : Nat, blsD (List.replicate n (.bl true)) = some (List.replicate n true)
  | 0 => rfl
  | n + 1 => by simp [List.replicate_succ, blsD, bls_rep n]
theorem allB_rep (n : Nat) : allB (.lst (List.replicate n (.bl true))) () = .ok (.bl true) () := by
  unfold allB onBls
  dsimp only
  rw [bls_rep]
  simp
theorem zip_self (ds : List D) : zipL ds ds = ds.map fun d => pairT d d := by
  unfold zipL
  induction ds with
  | nil => rfl
  | cons d ds ih => simp [ih]
/-- lists, tuples: each item by itself -/
theorem same_items {self : Fn} {ds : List D} (hs : ∀ d ∈ ds, self [d, d] () = .ok (.bl true) ()) (hl : ds.length ≤ 1000000) (d0 d1 : Option D) (z : List D → Option (List D)) (r : EM (List D)) (e : itA z r [d0, d1, none, none] = .ok (zipL ds ds) [d0, d1, none, none]) :
    ∃ ρ', (eP1 allB (eComp 4 (itA z r) (tgT [(tgN 2), (tgN 3)]) tYesM (eCall self (eCons (eV 2) (eCons (eV 3) eNil))))) [d0, d1, none, none] = .ok (.bl true) ρ' := by
  obtain ⟨s, ec⟩ := compM_map (j := 4) (ρ0 := [d0, d1, none, none]) (tg := tgT [(tgN 2), (tgN 3)]) (t := tYesM) (a := eCall self (eCons (eV 2) (eCons (eV 3) eNil))) (fun _ => D.bl true) (zipL ds ds) [d0, d1, none, none] (fun d hd ρ ⟨s, hρ⟩ => by
    rw [zip_self] at hd
    obtain ⟨x, hx, rfl⟩ := List.mem_map.mp hd
    subst hρ
    refine ⟨[d0, d1, some x, some x], [d0, d1, some x, some x], [d0, d1, some x, some x], rfl, rfl, ?_⟩
    rw [ap_eCall]
    show ((self [x, x] ()).lft [d0, d1, some x, some x]) = _
    rw [hs x hx]; rfl) ⟨none, rfl⟩
  refine ⟨[d0, d1, none, none].set 4 s, ?_⟩
  have hl2 : (zipL ds ds).length ≤ sizeLine := by
    rw [zip_self, List.length_map]
    exact Nat.le_trans hl line_big
  rw [ap_eP1, ap_eComp, e, bnd_ok, if_pos hl2, ec]
  dsimp only
  rw [bnd_ok]
  have : (zipL ds ds).map (fun _ => D.bl true) = List.replicate ds.length (.bl true) := by
    rw [zip_self, List.map_map]
    exact List.map_const' .. 
  rw [this, allB_rep, lft_ok]
theorem same_step {n : Nat} {d : D} (ih : ∀ e : D, e.gd n = true → fSame n [e, e] () = .ok (.bl true) ()) (h : d.gd (n + 1) = true) : fSame (n + 1) [d, d] () = .ok (.bl true) () := by
  show defF 4 (mSame (fSame n)) [d, d] () = _
  rw [ap_defF]
  have s0 : startE 4 [d, d] = [some d, some d, none, none] := rfl
  rw [s0]
  unfold mSame
  cases d with
  | non => simp [isD_ok (d := .non) (n := "NoneType") rfl, isAny, isTy, truD, D.isNon]
  | bl b => simp [isD_ok (d := .bl b) (n := "bool") rfl, isAny, isTy, truD]
  | int i => simp [isD_ok (d := .int i) (n := "int") rfl, isAny, isTy, truD, D.isNon]
  | str x =>
    have hx : PyData.strOk x = true := by simpa [D.gd] using h
    simp [isD_ok (d := .str x) (n := "str") rfl, isAny, isTy, truD, D.isNon, eqv_str hx]
  | lst ds =>
    simp only [D.gd, Bool.and_eq_true, decide_eq_true_eq, List.all_eq_true] at h
    obtain ⟨ρ', e⟩ := same_items (self := fSame n) (fun d hd => ih d (h.2 d hd)) h.1 (some (.lst ds)) (some (.lst ds)) fnZip (eCons (eV 0) (eCons (eV 1) eNil)) (by simp [fnZip])
    have t1 := isD_ok (ts := [.list, .tuple]) (d := .lst ds) (n := "list") (b := true) rfl rfl
    have t2 := isD_ok (ts := [.list]) (d := .lst ds) (n := "list") (b := true) rfl rfl
    have t3 := isD_ok (ts := [.tuple]) (d := .lst ds) (n := "list") (b := false) rfl rfl
    generalize (eP1 allB (eComp 4 (itA fnZip (eCons (eV 0) (eCons (eV 1) eNil))) (tgT [(tgN 2), (tgN 3)]) tYesM (eCall (fSame n) (eCons (eV 2) (eCons (eV 3) eNil))))) = X at e ⊢
    simp only [ap_sSeq, ap_sIf, ap_tTru, ap_eP1, ap_eV, List.getD_cons_succ, List.getD_cons_zero, bnd_ok, t1, lft_ok, truD, if_true, ap_tOr, ap_tB, ap_eP2, t2, t3, neD_bl, beq_self_eq_true, Bool.not_true, ap_sRet, ap_eAnd, ap_lenL, eqD_int] 
    simp [e]
  | tup ds =>
    simp only [D.gd, Bool.and_eq_true, decide_eq_true_eq, List.all_eq_true] at h
    obtain ⟨ρ', e⟩ := same_items (self := fSame n) (fun d hd => ih d (h.2 d hd)) h.1 (some (.tup ds)) (some (.tup ds)) fnZip (eCons (eV 0) (eCons (eV 1) eNil)) (by simp [fnZip])
    have t1 := isD_ok (ts := [.list, .tuple]) (d := .tup ds) (n := "tuple") (b := true) rfl rfl
    have t2 := isD_ok (ts := [.list]) (d := .tup ds) (n := "tuple") (b := false) rfl rfl
    have t3 := isD_ok (ts := [.tuple]) (d := .tup ds) (n := "tuple") (b := true) rfl rfl
    generalize (eP1 allB (eComp 4 (itA fnZip (eCons (eV 0) (eCons (eV 1) eNil))) (tgT [(tgN 2), (tgN 3)]) tYesM (eCall (fSame n) (eCons (eV 2) (eCons (eV 3) eNil))))) = X at e ⊢
    simp only [ap_sSeq, ap_sIf, ap_tTru, ap_eP1, ap_eV, List.getD_cons_succ, List.getD_cons_zero, bnd_ok, t1, lft_ok, truD, if_true, ap_tOr, ap_tB, ap_eP2, t2, t3, neD_bl, beq_self_eq_true, Bool.not_true, ap_sRet, ap_eAnd, ap_lenT, eqD_int] 
    simp [e]
  | dct ks ds =>
    match n, ih, h with
    | 0, _, h => simp [D.gd] at h
    | 1, _, h => simp [D.gd] at h
    | n + 2, ih, h =>
      simp only [D.gd, Bool.and_eq_true, decide_eq_true_eq, List.all_eq_true] at h
      have t1 := isD_ok (ts := [.list, .tuple]) (d := .dct ks ds) (n := "dict") (b := false) rfl rfl
      have t2 := isD_ok (ts := [.dict]) (d := .dct ks ds) (n := "dict") (b := true) rfl rfl
      have e := ih (.lst (itemsL ks ds)) (by
        simp only [D.gd, Bool.and_eq_true, decide_eq_true_eq, List.all_eq_true]
        refine ⟨by unfold itemsL; rw [List.length_zipWith]; omega, fun x hx => ?_⟩
        unfold itemsL at hx
        obtain ⟨i, hi, ex⟩ := List.mem_iff_getElem.mp hx
        rw [List.getElem_zipWith] at ex
        subst ex
        simp only [D.gd, Bool.and_eq_true, decide_eq_true_eq, List.all_eq_true]
        refine ⟨by simp, fun y hy => ?_⟩
        rcases List.mem_cons.mp hy with rfl | hy
        · exact h.2.2 _ (List.getElem_mem _)
        · rw [List.mem_singleton.mp hy]; exact h.2.1 _ (List.getElem_mem _))
      simp only [ap_sSeq, ap_sIf, ap_tTru, ap_eP1, ap_eV, List.getD_cons_succ, List.getD_cons_zero, bnd_ok, t1, lft_ok, truD, Bool.false_eq_true, if_false, ap_sSkip, t2, if_true, ap_sRet, ap_eAnd, ap_eCall, ap_eCons, ap_eNil, itemsD, ap_pure, e, fn_rt]
  | glo x => simp [D.gd] at h
  | clo c ds => simp [D.gd] at h
  | lid ds => simp [D.gd] at h
theorem same_refl : ∀ (n : Nat) (d : D), d.gd n = true → fSame n [d, d] () = .ok (.bl true) ()
  | 0, d, h => by simp [D.gd] at h
  | n + 1, d, h => same_step (same_refl n) h
end PP
-- PQ5
/-! PQ5: lists cut, joined, numbered, walked. -/
namespace PP
open PySem
theorem cut_to {α : Type} {xs : List α} {i : Int} (h0 : 0 ≤ i) (h1 : i ≤ xs.length) : cutL xs none (some i) = xs.take i.toNat := by
  have e1 : HT.sIx xs.length 0 none = 0 := rfl
  have e2 : HT.sIx xs.length xs.length (some i) = i.toNat := by
    unfold HT.sIx
    simp only
    rw [if_neg (by omega)]
    omega
  unfold cutL
  rw [e1, e2]; simp
theorem cut_from {α : Type} {xs : List α} {i : Int} (h0 : 0 ≤ i) (h1 : i ≤ xs.length) : cutL xs (some i) none = xs.drop i.toNat := by
  have e1 : HT.sIx xs.length xs.length none = xs.length := rfl
  have e2 : HT.sIx xs.length 0 (some i) = i.toNat := by
    unfold HT.sIx
    simp only
    rw [if_neg (by omega)]
    omega
  unfold cutL
  rw [e1, e2, List.take_of_length_le]
  rw [List.length_drop]; omega
@[simp] theorem slL_lst (ds : List D) (i j : Option Int) : slL (.lst ds) i j () = .ok (.lst (cutL ds i j)) () := rfl
theorem slL_to {ds : List D} {i : Int} (h0 : 0 ≤ i) (h1 : i ≤ ds.length) : slL (.lst ds) none (some i) () = .ok (.lst (ds.take i.toNat)) () := by rw [slL_lst, cut_to h0 h1]
theorem slL_from {ds : List D} {i : Int} (h0 : 0 ≤ i) (h1 : i ≤ ds.length) : slL (.lst ds) (some i) none () = .ok (.lst (ds.drop i.toNat)) () := by rw [slL_lst, cut_from h0 h1]
theorem catD_ok {ds es : List D} (h : ds.length + es.length < 1000000) : catD (.lst ds) (.lst es) () = .ok (.lst (ds ++ es)) () := by
  have := line_big
  unfold catD
  dsimp only
  rw [if_pos (by omega)]; rfl
theorem repD_ok {d : D} {n : Nat} (h : n < 1000000) : repD (.lst [d]) (.int n) () = .ok (.lst (List.replicate n d)) () := by
  have := line_big
  unfold repD
  dsimp only
  rw [if_pos ⟨by omega, by omega, by simp; omega⟩]
  have : ∀ n : Nat, (List.replicate n [d]).flatten = List.replicate n d := fun n => by
    induction n with
    | zero => rfl
    | succ n ih => rw [List.replicate_succ, List.flatten_cons, ih]; rfl
  rw [show (n : Int).toNat = n from rfl, this]; rfl
theorem enum_get {ds : List D} {k : Nat} {d : D} (h : (enumL ds)[k]? = some d) : ∃ e, ds[k]? = some e ∧ d = pairT (.int k) e := by
  unfold enumL at h
  rw [List.getElem?_zipWith] at h
  cases hr : (List.range ds.length)[k]? with
  | none => rw [hr] at h; cases h
  | some i =>
    rw [hr] at h
    cases he : ds[k]? with
    | none => rw [he] at h; cases h
    | some e =>
      rw [he] at h
      have : i = k := by
        obtain ⟨hl, e⟩ := List.getElem?_eq_some_iff.mp hr
        rw [List.getElem_range] at e
        exact e.symm
      subst this
      exact ⟨e, rfl, (Option.some.inj h).symm⟩
theorem bls_map {α : Type} (cb : α → Bool) : ∀ ds : List α, blsD (ds.map fun d => .bl (cb d)) = some (ds.map cb)
  | [] => rfl
  | d :: ds => by simp [blsD, bls_map cb ds]
theorem allB_map {α : Type} (cb : α → Bool) (ds : List α) : allB (.lst (ds.map fun d => .bl (cb d))) () = .ok (.bl (ds.all cb)) () := by
  unfold allB onBls
  dsimp only
  rw [bls_map]
  simp [List.all_map, Function.comp_def]
theorem anyB_map {α : Type} (cb : α → Bool) (ds : List α) : anyB (.lst (ds.map fun d => .bl (cb d))) () = .ok (.bl (ds.any cb)) () := by
  unfold anyB onBls
  dsimp only
  rw [bls_map]
  simp [List.any_map, Function.comp_def]
/-- a comprehension, each element told at its place -/
theorem comp_ok {j : Nat} {it : EM (List D)} {tg : D → EM Unit} {a : EM D} {ρ ρ1 : Env} {ds : List D} (F : D → D) (hi : it ρ = .ok ds ρ1) (hl : ds.length < 1000000) (st : ∀ d ∈ ds, ∀ s, ∃ ρ2 ρ3, tg d (ρ1.set j s) = .ok () ρ2 ∧ a ρ2 = .ok (F d) ρ3) (h0 : ρ1.set j (ρ1.getD j none) = ρ1) :
    ∃ s, eComp j it tg tYesM a ρ = .ok (.lst (ds.map F)) (ρ1.set j s) := by
  obtain ⟨s, e⟩ := compM_map (j := j) (ρ0 := ρ1) (tg := tg) (t := tYesM) (a := a) F ds ρ1 (fun d hd ρ ⟨s, hs⟩ => by
    subst hs
    obtain ⟨ρ2, ρ3, e1, e2⟩ := st d hd s
    exact ⟨ρ2, ρ2, ρ3, e1, rfl, e2⟩) ⟨_, h0.symm⟩
  refine ⟨s, ?_⟩
  have := line_big
  rw [ap_eComp, hi, bnd_ok, if_pos (by omega), e]
/-- a loop that ends early at an element, after elements that pass -/
theorem forM_stop {ρ0 : Env} {tg : D → EM Unit} {s1 : SM} (I : Nat → Env → Prop) {out : R Env Out} : ∀ (pre : List D) (n : Nat) (ρ : Env) (d : D) (post : List D), (∀ (k : Nat) (d : D) (ρ : Env), pre[k]? = some d → I (n + k) ρ → ∃ ρ1 o ρ2, tg d ρ = .ok () ρ1 ∧ s1 ρ1 = .ok o ρ2 ∧ (o = .nx ∨ o = .ct) ∧ I (n + k + 1) (mask ρ0 ρ2)) →
    (∀ ρ, I (n + pre.length) ρ → forM' ρ0 tg s1 (d :: post) ρ = out) → I n ρ → forM' ρ0 tg s1 (pre ++ d :: post) ρ = out
  | [], n, ρ, d, post, _, hs, h => hs ρ h
  | p :: pre, n, ρ, d, post, st, hs, h => by
    obtain ⟨ρ1, o, ρ2, e1, e2, ho, h2⟩ := st 0 p ρ rfl h
    have := forM_stop I pre (n + 1) (mask ρ0 ρ2) d post (fun k d' ρ hk hi => by
      have := st (k + 1) d' ρ (by simpa using hk) (by rw [show n + (k + 1) = n + 1 + k by omega]; exact hi)
      rw [show n + (k + 1) + 1 = n + 1 + k + 1 by omega] at this
      exact this) (fun ρ hi => hs ρ (by rw [List.length_cons, show n + (pre.length + 1) = n + 1 + pre.length by omega]; exact hi)) h2
    rw [List.cons_append, forM_cons, e1]
    simp only [bnd_ok, e2]
    rcases ho with rfl | rfl <;> exact this
theorem enum_app (pre : List D) (d : D) (post : List D) : ∃ q, enumL (pre ++ d :: post) = enumL pre ++ pairT (.int pre.length) d :: q := by
  unfold enumL
  rw [List.length_append, List.range_add, List.zipWith_append (by simp), List.length_cons, List.range_succ_eq_map, List.map_cons, List.zipWith_cons_cons]
  exact ⟨_, rfl⟩
end PP
-- PP41
/-! PP41: the list that is watched: its very object comes back. -/
namespace PP
open PySem PySem.Spec PyProof.Rows L2
def D.fg : D → D
  | .lid ds => .lst ds
  | d => d
/-- read as any list -/
def fgP (d : D) : P D := Pure.pure d.fg
theorem Sh.fg {g : G} {cm : Addr → V → Prop} {B : Addr → Prop} {H : Hp} {d : D} {v : V} (h : Sh g cm B H d v) : Sh g cm B H d.fg v := by
  cases d with
  | lid ds =>
    show Sh g cm B H (.lst ds) v
    simp only [Sh] at h ⊢
    obtain ⟨a, vs, e, t, n, q, r⟩ := h
    exact ⟨a, vs, e, n, q, r⟩
  | _ => exact h
theorem xe_fg {X : Cx} {f : Fr} {Γ : List Kd} {e : Expr} {a : EM D} (h : XE X f Γ e .sh a) : XE X f Γ e .sh (eP1 fgP a) :=
  PE.mono h fun σ H Q ⟨ρ, gh, R, q⟩ => by
    refine RE.fst R (show Ob f Γ .sh gh σ H ((a >>= fun x => lift (fgP x)) ρ) Q from q) fun d ρ1 v H1 L R1 k1 vo n w => ?_
    have w : Ob f Γ .sh gh σ H1 (.ok d.fg ρ1) Q := w
    exact w v H1 [] R1 Kp.refl ⟨rfl, vo.2.fg⟩ nil_new
mutual
def D.noLid : D → Bool
  | .lst ds => D.noLidA ds
  | .tup ds => D.noLidA ds
  | .dct _ ds => D.noLidA ds
  | .clo _ ds => D.noLidA ds
  | .lid _ => false
  | _ => true
def D.noLidA : List D → Bool
  | [] => true
  | d :: ds => d.noLid && D.noLidA ds
end
/-- the list at a is watched -/
abbrev G.wt (g : G) (a : Addr) : G := { g with tok := some a }
theorem CloAt.wt {g : G} {cm : Addr → V → Prop} {H : Hp} {c : Nat} {ws : List V} {f : Addr} {cl : List (Str × Addr)} {c' : Addr} (a : Addr) (h : CloAt g cm H c ws f cl c') : CloAt (g.wt a) cm H c ws f cl c' := ⟨h.fn, h.code, h.len, h.has, h.sub, h.inj, h.at_⟩
mutual
theorem Sh.wt {g : G} {B : Addr → Prop} (a : Addr) : ∀ (d : D) (v : V) {cm : Addr → V → Prop} {H : Hp}, d.noLid = true → Sh g cm B H d v → Sh (g.wt a) cm B H d v
  | .non, _, _, _, _, h => by simp only [Sh] at h ⊢; exact h
  | .bl _, _, _, _, _, h => by simp only [Sh] at h ⊢; exact h
  | .int _, _, _, _, _, h => by simp only [Sh] at h ⊢; exact h
  | .str _, _, _, _, _, h => by simp only [Sh] at h ⊢; exact h
  | .glo _, _, _, _, _, h => by simp only [Sh] at h ⊢; exact h
  | .lst ds, v, _, _, n, h => by
    simp only [Sh] at h ⊢
    obtain ⟨b, vs, e, nb, q, r⟩ := h
    exact ⟨b, vs, e, nb, q, ShA.wt a ds vs (by simpa [D.noLid] using n) r⟩
  | .tup ds, v, _, _, n, h => by
    simp only [Sh] at h ⊢
    obtain ⟨b, vs, e, q, r⟩ := h
    exact ⟨b, vs, e, q, ShA.wt a ds vs (by simpa [D.noLid] using n) r⟩
  | .dct ks ds, v, _, _, n, h => by
    simp only [Sh] at h ⊢
    obtain ⟨b, kvs, e, nb, q, m, r⟩ := h
    exact ⟨b, kvs, e, nb, q, m, ShA.wt a ds _ (by simpa [D.noLid] using n) r⟩
  | .clo c ds, v, _, _, n, h => by
    simp only [Sh] at h ⊢
    obtain ⟨f, cl, c', ws, e, q, r⟩ := h
    exact ⟨f, cl, c', ws, e, q.wt a, ShA.wt a ds ws (by simpa [D.noLid] using n) r⟩
  | .lid _, _, _, _, n, _ => by simp [D.noLid] at n
theorem ShA.wt {g : G} {B : Addr → Prop} (a : Addr) : ∀ (ds : List D) (vs : List V) {cm : Addr → V → Prop} {H : Hp}, D.noLidA ds = true → ShA g cm B H ds vs → ShA (g.wt a) cm B H ds vs
  | [], _, _, _, _, h => by simp only [ShA] at h ⊢; exact h
  | d :: ds, vs, _, _, n, h => by
    simp only [ShA] at h ⊢
    obtain ⟨v, r, e, h1, h2⟩ := h
    simp only [D.noLidA, Bool.and_eq_true] at n
    exact ⟨v, r, e, Sh.wt a d v n.1 h1, ShA.wt a ds r n.2 h2⟩
end
/-- x.append('y') where x's list is anybody's -/
def tLate (i : Nat) (y : Str) : TS := fun D σ H => ∃ l vs, σ.getD i none = some (.ref l) ∧ H l = some (.lst vs) ∧ vs.length < sizeLine ∧ D.nx σ (upd H l (.lst (vs ++ [.str y])))
theorem ps_late {X : Cx} {x y : Str} {j : Nat} {p p2 pos apos cpos : Pos} (i : Nat) (hN : X.N[i]? = some x := by rfl) (hv : Vis X.env.scope x := by first | exact Or.inl rfl | exact Or.inr (Or.inl rfl) | exact Or.inr (Or.inr rfl))
    (hd : (x == ("__debug__" : Str)) = false := by decide) (hcd : (x == ("__classdict__" : Str)) = false := by decide)
    (hbase : attributeBase (.Name x p) "append" X.env (eval (.Name x p) X.env) = eval (.Name x p) X.env := by rfl)
    (hfew : ((backTo cpos (starEach [.Constant (.str y) j p2] X.env)).all (fun x => !x.1) && (backToKw cpos (keywordEach [] X.env)).all (fun x => x.1.isSome)
      && decide (([.Constant (.str y) j p2] : List Expr).length + ([] : List Keyword).length + (if ([] : List Keyword).isEmpty then 0 else 1) < 30)) = true := by rfl)
    (hline : (apos.endLine == cpos.line) = true := by rfl) (hs : starEach [.Constant (.str y) j p2] X.env = (false, eval (.Constant (.str y) j p2) X.env) :: starEach [] X.env := by rfl) (hplain : (backTo cpos (starEach [] X.env)).any (·.1) = false := by rfl)
    (hsw : swapsWith (.Call (.Attribute (.Name x p) "append" apos) [.Constant (.str y) j p2] [] cpos) none pos.line X.env = pure false := by rfl) :
    PS X (.Expr (.Call (.Attribute (.Name x p) "append" apos) [.Constant (.str y) j p2] [] cpos) pos) (tLate i y) :=
  PS.mono (ps_expr (pe_bm F.plainAttrs_list F.slot_list_append F.type_list_append mt_append (pe_var hN hv hd hcd) (pa_cons pe_str pa_nil hs) hbase hfew hline hs hplain) hsw) fun D σ H ⟨l, vs, e1, e2, e3, q⟩ =>
    ⟨.ref l, getD_some e1, .inl ⟨rfl, vs, SqL.of e2⟩, ⟨l, vs, .str y, rfl, rfl, e2, e3, q⟩⟩
def oddD : D := .str "odd"
def lateD : D := .str "late"
/-- whether what is met is the very object -/
def mVery (FM FS : Fn) (k : Nat) : SM := fun ρ => match ρ with
  | [some (.str w), some c, none, none] => if c.noLid = true then (match guardC (FM [.clo k [c, .lid [oddD]]]) () with
    | .ok (.tup [.str u, .lid [.str _]]) _ => (match FS [.tup [.str u, .lst [oddD, lateD]], .tup [.str w, .lst [oddD, lateD]]] () with
      | .ok d _ => .ok (.rt d) ρ
      | _ => .stuck)
    | _ => .stuck) else .stuck
  | _ => .stuck
theorem mVery_inv {FM FS : Fn} {k : Nat} {ρ : Env} : mVery FM FS k ρ = .stuck ∨ ∃ w c u x d, ρ = [some (.str w), some c, none, none] ∧ c.noLid = true ∧ guardC (FM [.clo k [c, .lid [oddD]]]) () = .ok (.tup [.str u, .lid [.str x]]) () ∧ FS [.tup [.str u, .lst [oddD, lateD]], .tup [.str w, .lst [oddD, lateD]]] () = .ok d () ∧ mVery FM FS k ρ = .ok (.rt d) ρ := by
  unfold mVery
  split
  · rename_i w c
    by_cases hc : c.noLid = true
    · rw [if_pos hc]
      split
      · rename_i u x _ e
        split
        · rename_i d _ e2
          exact .inr ⟨w, c, u, x, d, rfl, hc, e, e2, rfl⟩
        · exact .inl rfl
      · exact .inl rfl
    · rw [if_neg hc]; exact .inl rfl
  · exact .inl rfl
section
variable {X : Cx} {g : G} {caps : List Nat} {cell : Nat → Addr} {B : Addr → Prop} {H0 : Hp} {E : XK} {FM FS : Fn} {k : Nat} {s1 s2 s3 s4 : Stmt} {Γ' Γr : List Kd}
theorem very_rel2 {w : Str} {c : D} {l : Addr} {gh : Nat → List Addr} {σ : L2.St} {H : Hp} (hc : c.noLid = true) (R : Rel (frF g 4 (.own []) caps cell B H0 E) [.sh, .sh, .tp, .un] [some (.str w), some c, some (.lst [oddD]), none] gh σ H) (e : σ.getD 2 none = some (.ref l)) (hl : H l = some (.lst [.str "odd"])) (hg : gh 2 = [l]) :
    Rel (frF (g.wt l) 4 (.own []) caps cell B H0 E) [.sh, .sh, .sh, .un] [some (.str w), some c, some (.lid [oddD]), none] (fun _ => []) σ H := by
  have nb : ¬ B l := R.nb 2 l (by rw [hg]; simp)
  have bx : ∀ a, Bx (frF (g.wt l) 4 (.own []) caps cell B H0 E) [.sh, .sh, .sh, .un] (fun _ => []) a → Bx (frF g 4 (.own []) caps cell B H0 E) [.sh, .sh, .tp, .un] gh a := fun a z => by
    rcases z with z | ⟨i, z⟩
    · exact .inl z
    · exfalso
      revert z
      generalize ([.sh, .sh, .sh, .un] : List Kd).getD i .un = kd
      cases kd <;> simp [tops]
  refine ⟨rfl, R.ls, fun i => ?_, fun i => List.nodup_nil, (fun i j a h => nomatch h), (fun i _ a h => nomatch h), fun i h => ?_, fun i h => ?_, R.b0, (fun i a h => nomatch h), (fun a h => nomatch h), R.keep, R.tabs⟩
  · match i with
    | 0 =>
      obtain ⟨_, d, v, e1, e2, s⟩ := R.slot 0
      cases e1
      exact ⟨rfl, _, v, rfl, e2, Sh.wt l _ v rfl (s.sub bx)⟩
    | 1 =>
      obtain ⟨_, d, v, e1, e2, s⟩ := R.slot 1
      cases e1
      exact ⟨rfl, _, v, rfl, e2, Sh.wt l _ v hc (s.sub bx)⟩
    | 2 =>
      refine ⟨rfl, _, _, rfl, e, ?_⟩
      simp only [Sh]
      refine ⟨l, [.str "odd"], rfl, rfl, fun z => ?_, hl, ?_⟩
      · rcases bx l z with z | ⟨i, z⟩
        · exact nb z
        · rcases ‹Bx _ _ _ l› with z | ⟨i, z⟩
          · exact nb z
          · revert z
            generalize ([.sh, .sh, .sh, .un] : List Kd).getD i .un = kd
            cases kd <;> simp [tops]
      · simp only [ShA, oddD, Sh]
        exact ⟨_, _, rfl, rfl, rfl⟩
    | 3 => exact rfl
    | i + 4 => exact rfl
  · exfalso
    match i with
    | 0 => cases h
    | 1 => cases h
    | 2 => cases h
    | 3 => cases h
    | i + 4 => cases h
  · exfalso
    match i with
    | 0 => cases h
    | 1 => cases h
    | 2 => cases h
    | 3 => cases h
    | i + 4 => cases h
theorem very_rel4 {w u x : Str} {c : D} {l : Addr} {gh : Nat → List Addr} {σ : L2.St} {H : Hp} (h0 : H0 l = none) (R : Rel (frF (g.wt l) 4 (.own []) caps cell B H0 E) [.sh, .sh, .sh, .sh] [some (.str w), some c, some (.lid [oddD]), some (.tup [.str u, .lid [.str x]])] gh σ H) :
    σ.getD 2 none = some (.ref l) ∧ H l = some (.lst [.str "odd"]) ∧ Rel (frF g 4 (.own []) caps cell B H0 E) [.sh, .un, .sh, .sh] [some (.str w), none, some (.lst [oddD, lateD]), some (.tup [.str u, .lst [oddD, lateD]])] (fun _ => []) σ (upd H l (.lst [.str "odd", .str "late"])) := by
  obtain ⟨_, d2, v2, e21, e22, q2⟩ := R.slot 2
  cases e21
  simp only [Sh] at q2
  obtain ⟨a2, vs2, rfl, t2, n2, hl, r2⟩ := q2
  cases t2
  simp only [ShA, oddD, Sh] at r2
  obtain ⟨_, _, rfl, rfl, rfl⟩ := r2
  refine ⟨e22, hl, ?_⟩
  have nb : ¬ B l := fun z => n2 (.inl z)
  have kp : Kp (fun a => a = l) H (upd H l (.lst [.str "odd", .str "late"])) := Kp.updS hl trivial
  have ub : ∀ a, Bx (frF g 4 (.own []) caps cell B H0 E) [.sh, .un, .sh, .sh] (fun _ => []) a → B a := fun a z => by
    rcases z with z | ⟨i, z⟩
    · exact z
    · exfalso
      revert z
      generalize ([.sh, .un, .sh, .sh] : List Kd).getD i .un = kd
      cases kd <;> simp [tops]
  have sl : Sh g nc (Bx (frF g 4 (.own []) caps cell B H0 E) [.sh, .un, .sh, .sh] (fun _ => [])) (upd H l (.lst [.str "odd", .str "late"])) (.lst [oddD, lateD]) (.ref l) := by
    simp only [Sh]
    refine ⟨l, [.str "odd", .str "late"], rfl, fun z => nb (ub l z), upd_same, ?_⟩
    simp only [ShA, oddD, lateD, Sh]
    exact ⟨_, _, rfl, rfl, _, _, rfl, rfl, rfl⟩
  refine ⟨rfl, R.ls, fun i => ?_, fun i => List.nodup_nil, (fun i j a h => nomatch h), (fun i _ a h => nomatch h), fun i h => ?_, fun i h => ?_, fun a z => ⟨(fun h => nomatch h), ?_⟩, (fun i a h => nomatch h), (fun a h => nomatch h), ⟨fun a o e n t => ?_, fun a e => R.keep.2 a (upd_none e)⟩, TabsN.updM R.tabs hl trivial⟩
  · match i with
    | 0 =>
      obtain ⟨_, d, v, e1, e2, s⟩ := R.slot 0
      cases e1
      refine ⟨rfl, _, v, rfl, e2, ?_⟩
      simp only [Sh] at s ⊢
      exact s
    | 1 => exact rfl
    | 2 => exact ⟨rfl, _, _, rfl, e22, sl⟩
    | 3 =>
      obtain ⟨_, d, v, e1, e2, s⟩ := R.slot 3
      cases e1
      refine ⟨rfl, _, v, rfl, e2, ?_⟩
      simp only [Sh, ShA] at s
      obtain ⟨T, vs, rfl, sq, x1, r1, rfl, rfl, x2, r2, rfl, ⟨a3, vs3, rfl, t3, _⟩, rfl⟩ := s
      cases t3
      simp only [Sh, ShA]
      refine ⟨T, _, rfl, SqT.kp (g := g) kp sq, _, _, rfl, rfl, _, _, rfl, ?_, rfl⟩
      have := sl
      simp only [Sh, ShA] at this
      exact this
    | i + 4 => exact rfl
  · exfalso
    match i with
    | 0 => cases h
    | 1 => cases h
    | 2 => cases h
    | 3 => cases h
    | i + 4 => cases h
  · exfalso
    match i with
    | 0 => cases h
    | 1 => cases h
    | 2 => cases h
    | 3 => cases h
    | i + 4 => cases h
  · obtain ⟨_, o, e, t⟩ := R.b0 a z
    have ne : a ≠ l := fun q => nb (q ▸ z)
    exact ⟨o, by rw [upd_ne ne]; exact e, t⟩
  · have e' : H0 a = some o := e
    have ne : a ≠ l := fun q => by rw [q, h0] at e'; cases e'
    rw [upd_ne ne]; exact R.keep.1 a o e n t
theorem xss_very (h1 : XS X (frF g 4 (.own []) caps cell B H0 E) [.sh, .sh, .un, .un] [.sh, .sh, .tp, .un] [] [] s1 (sAsg 2 (eLst (eCons (eC oddD) eNil))))
    (h2 : ∀ l, XS X (frF (g.wt l) 4 (.own []) caps cell B H0 E) [.sh, .sh, .sh, .un] [.sh, .sh, .sh, .sh] [] [] s2 (sAsg 3 (eCallC FM (eCons (eLam k [1, 2]) eNil))))
    (h3 : PS X s3 (tLate 2 "late")) (h4 : XS X (frF g 4 (.own []) caps cell B H0 E) [.sh, .un, .sh, .sh] Γr [] [] s4 (sRet (eCall FS (eCons (eV 3) (eCons (eTup (eCons (eV 0) (eCons (eV 2) eNil))) eNil))))) :
    XSs X (frF g 4 (.own []) caps cell B H0 E) [.sh, .sh, .un, .un] Γ' [] [] [s1, s2, s3, s4] (mVery FM FS k) := by
  have P3 := pss_cons h3 (pss_one h4)
  have P2 : PSs X [s2, s3, s4] (fun D σ H => ∃ l, tSeq (RS (frF (g.wt l) 4 (.own []) caps cell B H0 E) [.sh, .sh, .sh, .un] [.sh, .sh, .sh, .sh] [] [] (sAsg 3 (eCallC FM (eCons (eLam k [1, 2]) eNil)))) (tSeq (tLate 2 "late") (RS (frF g 4 (.own []) caps cell B H0 E) [.sh, .un, .sh, .sh] Γr [] [] (sRet (eCall FS (eCons (eV 3) (eCons (eTup (eCons (eV 0) (eCons (eV 2) eNil))) eNil)))))) D σ H) :=
    ⟨fun pins s σ H D I ⟨l, z⟩ => (pss_cons (h2 l) P3).run pins s σ H D I z⟩
  refine PSs.mono (pss_cons h1 P2) fun D σ H ⟨ρ, gh, R, q⟩ => ?_
  rcases mVery_inv (FM := FM) (FS := FS) (k := k) (ρ := ρ) with e | ⟨w, c, u, x, d, rfl, hc, eG, eF, e⟩
  · rw [e] at q; exact q.elim
  rw [e] at q
  have q : ∀ v H', RetOk (frF g 4 (.own []) caps cell B H0 E) [some (.str w), some c, none, none] d v H' → D.rt v H' := q
  refine ⟨_, gh, R, ?_⟩
  show ∀ σ' gh' H', _ → _ → _
  intro σ1 gh1 H1 R1 st1
  obtain ⟨d1, l, e4, e5, e6, t⟩ := R1.tpGet (i := 2) rfl
  cases e4
  rcases t with ⟨ds, vs, ed, hl, sv⟩ | ⟨_, _, _, ed, _⟩
  case inr => cases ed
  cases ed
  simp only [ShA, oddD, Sh] at sv
  obtain ⟨_, _, rfl, rfl, rfl⟩ := sv
  have h0 : H0 l = none := R1.fresh 2 (by decide) l (by rw [e6]; simp)
  refine ⟨l, _, _, very_rel2 hc R1 e5 hl e6, ?_⟩
  have eS : sAsg 3 (eCallC FM (eCons (eLam k [1, 2]) eNil)) [some (.str w), some c, some (.lid [oddD]), none] = .ok .nx [some (.str w), some c, some (.lid [oddD]), some (.tup [.str u, .lid [.str x]])] := by
    have : eCons (eLam k [1, 2]) eNil [some (.str w), some c, some (.lid [oddD]), none] = .ok [.clo k [c, .lid [oddD]]] [some (.str w), some c, some (.lid [oddD]), none] := rfl
    rw [ap_sAsg, ap_eCallC, this, bnd_ok, eG]; rfl
  rw [eS]
  show ∀ σ' gh' H', _ → _ → _
  intro σ3 gh3 H3 R3 st3
  obtain ⟨f1, f2, R4⟩ := very_rel4 h0 R3
  refine ⟨l, _, f1, f2, by show 1 < sizeLine; decide, _, _, R4, ?_⟩
  have eR : sRet (eCall FS (eCons (eV 3) (eCons (eTup (eCons (eV 0) (eCons (eV 2) eNil))) eNil))) [some (.str w), none, some (.lst [oddD, lateD]), some (.tup [.str u, .lst [oddD, lateD]])] = .ok (.rt d) [some (.str w), none, some (.lst [oddD, lateD]), some (.tup [.str u, .lst [oddD, lateD]])] := by
    have : eCons (eV 3) (eCons (eTup (eCons (eV 0) (eCons (eV 2) eNil))) eNil) [some (.str w), none, some (.lst [oddD, lateD]), some (.tup [.str u, .lst [oddD, lateD]])] = .ok [.tup [.str u, .lst [oddD, lateD]], .tup [.str w, .lst [oddD, lateD]]] [some (.str w), none, some (.lst [oddD, lateD]), some (.tup [.str u, .lst [oddD, lateD]])] := rfl
    rw [ap_sRet, ap_eCall, this, bnd_ok, eF]; rfl
  rw [eR]
  exact fun v H' r => q v H' ⟨r.1, r.2.1, r.2.2.1, fun z => by cases z⟩
end
end PP
-- PQ6
/-! PQ6: the mirrors' steps, one by one. -/
namespace PP
open PySem
theorem mulI_s {i j : Int} (hi : i.natAbs < 1000000) (hj : j.natAbs < 1000000) : mulI (.int i) (.int j) () = .ok (.int (i * j)) () := mulI_ok (small (by omega)) (small (by omega))
theorem range_it {ρ : Env} {a : EM D} {n : Nat} {ρ1 : Env} (ha : a ρ = .ok (.int n) ρ1) (h : n < 1000000) : itA fnR1 (eCons a eNil) ρ = .ok (rangeL 0 n) ρ1 := by
  have e : fnR1 [.int (n : Int)] = some (rangeL 0 n) := by rw [fnR1_nat, if_pos (in62_ok h)]
  have eL : eCons a eNil ρ = .ok [.int (n : Int)] ρ1 := by rw [ap_eCons, ha]; rfl
  rw [ap_itA, eL, bnd_ok, e, selO_some]
theorem io_step {F : FnIo} {i : Nat} {r : EM (List D)} {ρ ρ1 : Env} {xs : List D} {s d s' : D} (h1 : r ρ = .ok xs ρ1) (h2 : ρ1.getD i none = some s) (h3 : F xs s = .ok d s') : eIo F i r ρ = .ok d (ρ1.set i (some s')) := by
  rw [ap_eIo, h1, bnd_ok, h2]
  dsimp only
  rw [h3]; rfl
theorem asg_step {i : Nat} {a : EM D} {ρ ρ1 : Env} {d : D} (h : a ρ = .ok d ρ1) : sAsg i a ρ = .ok .nx (ρ1.set i (some d)) := by
  rw [ap_sAsg, h]; rfl
theorem cons1_step {a : EM D} {ρ ρ1 : Env} {d : D} (h : a ρ = .ok d ρ1) : eCons a eNil ρ = .ok [d] ρ1 := by
  rw [ap_eCons, h]; rfl
theorem seq_nx {a b : SM} {ρ ρ' : Env} {o : R Env Out} (h : a ρ = .ok .nx ρ') (g : b ρ' = o) : sSeq a b ρ = o := by
  rw [ap_sSeq, h, bnd_ok]
  exact g
section
variable {F : Fn} {i n : Nat} {a : EM D} {r : EM (List D)} {b c : SM} {ρ ρ1 ρ2 : Env} {xs : List D} {s d : D} {e : Ex} {t u : EM Bool} {o : R Env Out}
theorem call_step (h1 : r ρ = .ok xs ρ1) (h3 : F xs () = .ok d ()) : eCall F r ρ = .ok d ρ1 := by rw [ap_eCall, h1, bnd_ok, h3]; rfl
theorem call_exn (h1 : r ρ = .ok xs ρ1) (h3 : F xs () = .exn e ()) : eCall F r ρ = .exn e ρ1 := by rw [ap_eCall, h1, bnd_ok, h3]; rfl
theorem call_exnA (h1 : r ρ = .exn e ρ1) : eCall F r ρ = .exn e ρ1 := by rw [ap_eCall, h1]; rfl
theorem cons_step (h : a ρ = .ok d ρ1) (g : r ρ1 = .ok xs ρ2) : eCons a r ρ = .ok (d :: xs) ρ2 := by rw [ap_eCons, h, bnd_ok, g]; rfl
theorem cons_exn (h : a ρ = .exn e ρ1) : eCons a r ρ = .exn e ρ1 := by rw [ap_eCons, h]; rfl
theorem asg_exn (h : a ρ = .exn e ρ1) : sAsg i a ρ = .exn e ρ1 := by rw [ap_sAsg, h]; rfl
theorem ret_exn (h : a ρ = .exn e ρ1) : sRet a ρ = .exn e ρ1 := by rw [ap_sRet, h]; rfl
theorem ret_step (h : a ρ = .ok d ρ1) : sRet a ρ = .ok (.rt d) ρ1 := by rw [ap_sRet, h]; rfl
theorem seq_exn (h : b ρ = .exn e ρ1) : sSeq b c ρ = .exn e ρ1 := by rw [ap_sSeq, h]; rfl
theorem if_t (h : t ρ = .ok true ρ1) (g : b ρ1 = o) : sIf t b c ρ = o := by rw [ap_sIf, h, bnd_ok, if_pos rfl]; exact g
theorem if_f (h : t ρ = .ok false ρ1) (g : c ρ1 = o) : sIf t b c ρ = o := by rw [ap_sIf, h, bnd_ok, if_neg (by decide)]; exact g
theorem fnF_rt (h : b (startE n xs) = .ok (.rt d) ρ1) : defF n b xs () = .ok d () := by rw [ap_defF, h]; rfl
theorem fnF_exn (h : b (startE n xs) = .exn e ρ1) : defF n b xs () = .exn e () := by rw [ap_defF, h]; rfl
theorem fnT_rt' (h : b (startE n xs) = .ok (.rt d) ρ1) : defT n b xs () = .ok d () := by rw [ap_defT, h]; rfl
theorem fnT_exn' (h : b (startE n xs) = .exn e ρ1) : defT n b xs () = .exn e () := by rw [ap_defT, h]; rfl
theorem fnL_exn' (h : a (startE n xs) = .exn e ρ1) : lamF n a xs () = .exn e () := by rw [ap_lamF, h]; rfl
theorem fnL_ok' (h : a (startE n xs) = .ok d ρ1) : lamF n a xs () = .ok d () := by rw [ap_lamF, h]; rfl
theorem p1_exn {f : D → P D} (h : a ρ = .exn e ρ1) : eP1 f a ρ = .exn e ρ1 := by rw [ap_eP1, h]; rfl
theorem p1_step {f : D → P D} {x : D} (h : a ρ = .ok x ρ1) (g : f x () = .ok d ()) : eP1 f a ρ = .ok d ρ1 := by rw [ap_eP1, h, bnd_ok, g]; rfl
theorem p2_step {f : D → D → P D} {a' : EM D} {x y : D} (h : a ρ = .ok x ρ1) (h' : a' ρ1 = .ok y ρ2) (g : f x y () = .ok d ()) : eP2 f a a' ρ = .ok d ρ2 := by rw [ap_eP2, h, bnd_ok, h', bnd_ok, g]; rfl
theorem sl_exn {f : D → Option Int → Option Int → P D} {lo hi : EM (Option Int)} (h : a ρ = .exn e ρ1) : eSl f a lo hi ρ = .exn e ρ1 := by rw [ap_eSl, h]; rfl
theorem par_exn {j : Nat} {a' : EM D} (h : a ρ = .exn e ρ1) : sPar i j a a' ρ = .exn e ρ1 := by rw [ap_sPar, h]; rfl
theorem callK_exn {perm : List Nat} {r2 : EM (List D)} {ys : List D} (h1 : r ρ = .ok xs ρ1) (h2 : r2 ρ1 = .ok ys ρ2) (h3 : F (pick perm (xs ++ ys)) () = .exn e ()) : eCallK F perm r r2 ρ = .exn e ρ2 := by rw [ap_eCallK, h1, bnd_ok, h2, bnd_ok, h3]; rfl
theorem callK_step {perm : List Nat} {r2 : EM (List D)} {ys : List D} (h1 : r ρ = .ok xs ρ1) (h2 : r2 ρ1 = .ok ys ρ2) (h3 : F (pick perm (xs ++ ys)) () = .ok d ()) : eCallK F perm r r2 ρ = .ok d ρ2 := by rw [ap_eCallK, h1, bnd_ok, h2, bnd_ok, h3]; rfl
theorem tB_step {k : Bool} (h : a ρ = .ok (.bl k) ρ1) : tB a ρ = .ok k ρ1 := by rw [ap_tB, h]; rfl
theorem tTru_step {k : Bool} (h : a ρ = .ok (.bl k) ρ1) : tTru a ρ = .ok k ρ1 := by rw [ap_tTru, h]; rfl
theorem tNot_step {k : Bool} (h : t ρ = .ok k ρ1) : tNot t ρ = .ok (!k) ρ1 := by rw [ap_tNot, h]; rfl
theorem tOr_f {k : Bool} (h : t ρ = .ok false ρ1) (g : u ρ1 = .ok k ρ2) : tOr t u ρ = .ok k ρ2 := by rw [ap_tOr, h, bnd_ok, if_neg (by decide)]; exact g
theorem tOr_t (h : t ρ = .ok true ρ1) : tOr t u ρ = .ok true ρ1 := by rw [ap_tOr, h, bnd_ok, if_pos rfl]
end
theorem callC_step {F : Fn} {rr : EM (List D)} {ρ ρ1 : Env} {xs : List D} {d : D} (h1 : rr ρ = .ok xs ρ1) (h3 : guardC (F xs) () = .ok d ()) : eCallC F rr ρ = .ok d ρ1 := by rw [ap_eCallC, h1, bnd_ok, h3]; rfl
theorem eqD_nil (cs : List Int) : eqD (.lst (cs.map .int)) (.lst []) () = .ok (.bl cs.isEmpty) () := by
  unfold eqD
  have e1 : D.toP (.lst (cs.map .int)) = some (.list (cs.map .int)) := by simp [D.toP, toPA_ints]
  have e2 : D.toP (.lst []) = some (.list []) := by simp [D.toP, D.toPA]
  rw [e1, e2]
  dsimp only
  rw [if_pos ⟨shaped_ints cs, shaped_ints []⟩]
  cases cs <;> simp [PyData.eqv, PyData.eqvAll]
@[simp] theorem neD_int (i j : Int) : neD (.int i) (.int j) () = .ok (.bl (!decide (i = j))) () := by
  unfold neD
  simp only [D.toP]
  rw [if_pos ⟨rfl, rfl⟩]
  simp only [PyData.eqv, ap_pure]
  congr
theorem atI_last {xs : List D} {d : D} : L2.atI (xs ++ [d]) (-1) = some d := by
  unfold L2.atI L2.ixN
  simp only [List.length_append, List.length_cons, List.length_nil]
  rw [if_neg (by decide), if_pos (by omega)]
  rw [show (-1 + ((xs.length + (0 + 1) : Nat) : Int)).toNat = xs.length by omega]
  simp
end PP
-- PP42
/-! PP42: comprehensions whose names are captured within. -/
namespace PP
open PySem PySem.Spec PyProof.Rows L2
/-- the block's frame, of a block that begins at s -/
abbrev blkE (X : Cx) (scope : Scope) (s : Shared) : PySem.Env := compEnvC scope (cellsFrom (s.heap.objs.size + 1) scope.names (cloFrom X.env.cells scope.names [])) s.heap.objs.size X.env
section
variable {X : Cx} {elt tg iter : Expr} {ifs : List Expr} {scope : Scope} {own : List (Str × Nat)} {pos : Pos} {wi : TI} {g : TG} {tt : TT} {te : TE}
/-- a block's turn, told of the frame that it stands in -/
def TurnC (X : Cx) (scope : Scope) (P : Cx → Prop) : Prop := ∀ (pins : List (Addr × Obj)) (σ : L2.St) (H : Hp) (s : Shared) (fp : List Addr), Inv X pins σ H s → P (X.blk s H scope (blkE X scope s) fp)
theorem pe_lcC (hc : X.calm = true) (hN : X.N.Nodup) (hi : PI X tg iter wi) (ok : BlkOk X.N X.env.scope scope own) (hg : TurnC X scope fun Y => PG Y tg g) (ht : TurnC X scope fun Y => PTs Y ifs tt) (he : TurnC X scope fun Y => PE Y elt te)
    (hs : ∀ x, foldedSetIterable iter X.env x = pure x := by intro _; rfl) : PE X (.ListComp elt [⟨tg, iter, ifs, 0⟩] scope pos) (tLc wi g tt te (own.map (·.2))) := by
  constructor
  intro pins s σ H Q I h
  rw [eval_ListComp]
  have frees : ∀ y ∈ scope.names, y.2 = .free → ∃ c, X.env.cells.lookup y.1 = some c := fun y hy e => I.ok.has _ (ok.free y hy e)
  refine wpAny_comprehension_free rfl hs (closure_ok frees) ok.kind (fun y hy e => (ok.uniq y hy).trans (congrArg some e)) ?_
  refine thn (hi.run pins s σ H _ I h) fun xv s1 hx => thn hx fun itv s2 ⟨it, fp, tn, J, H2, eit, I2, T, st2, f2, turns⟩ => ?_
  subst eit
  refine wpAny_newObj_type (newEnv_comp ?_) (Nat.zero_le _)
  -- the list is laid
  obtain ⟨D, eD⟩ : ∃ D, D = s2.heap.objs.size := ⟨_, rfl⟩
  obtain ⟨t3, e3⟩ : ∃ t : Shared, t = { s2 with heap := s2.heap.push { cls := .type "list", data := .seq ([] : List Value).toArray } } := ⟨_, rfl⟩
  have hp : t3.heap = s2.heap.push { cls := .type "list", data := .seq ([] : List Value).toArray } := by rw [e3]
  have old : ∀ b o, s2.heap.get? b = some o → t3.heap.get? b = some o := fun b o e => by rw [hp]; exact Heap.get?_push_of_some _ e
  have I3 : Inv X pins σ (upd H2 D (.lst [])) t3 := by
    rw [e3]
    exact I2.laid (t' := s2.toks) (fun b o e => Heap.get?_push_of_some _ e) (Nat.le_of_eq eD.symm) ⟨Nat.zero_le _, [], 0, .nil, by rw [eD]; exact Heap.get?_push_size _ rfl⟩
  obtain ⟨W, ⟨m0, w0⟩, turn⟩ := turns D (I2.hok.fresh (Nat.le_of_eq eD.symm))
  have f3 : ∀ b ∈ fp, FpOk X pins (upd H2 D (.lst [])) b ∧ b < t3.heap.objs.size := fun b hb => by
    obtain ⟨o, eo, _⟩ := T.obj _ _ st2 b hb
    have lt := Heap.lt_size eo
    exact ⟨⟨by rw [upd_ne (by rw [eD]; exact Nat.ne_of_lt lt)]; exact (f2 b hb).1, (f2 b hb).2⟩, by rw [hp, Heap.size_push]; exact Nat.lt_succ_of_lt lt⟩
  have st3 : tn 0 t3.heap := T.keep _ _ _ st2 fun b _ o e => old b o e
  -- the block begins
  have I4 := block_start I3 ok hN f3
  have pg := hg pins σ _ t3 fp I3
  have pt := ht pins σ _ t3 fp I3
  have pe := he pins σ _ t3 fp I3
  rw [show ({ s2 with heap := s2.heap.push { cls := .type "list", data := .seq ([] : List Value).toArray } } : Shared) = t3 from e3.symm]
  rw [← eD]
  show codeAny _ _ (.compStart (.ListComp elt [⟨tg, iter, ifs, 0⟩] scope pos) 0 (.ref it) (.ref D) (blkE X scope t3)) (compPost (model X.prog X.w) X.A X.xe none (EP X pins σ Q) (.ref D) t3.heap.objs.size) { t3 with heap := pushCells (t3.heap.push { cls := .type "dict", data := .dict #[] }) scope.names }
  have free3 : ∀ b ∈ fp, (upd H2 D (.lst [])) b = none := fun b hb => (f3 b hb).1.1
  generalize hY : X.blk t3 (upd H2 D (.lst [])) scope (blkE X scope t3) fp = Y at I4 pg pt pe
  have yprog : Y.prog = X.prog := by rw [← hY]
  generalize eH : upd H2 D (.lst []) = H3 at hY I3 I4 w0 f3 free3
  subst hY
  obtain ⟨t4, e4⟩ : ∃ t : Shared, t = { t3 with heap := pushCells (t3.heap.push { cls := .type "dict", data := .dict #[] }) scope.names } := ⟨_, rfl⟩
  rw [← e4] at I4 ⊢
  have st4 : tn 0 t4.heap := T.keep _ _ _ st3 fun b _ o e => by rw [e4]; exact pushCells_keeps _ _ _ _ (Heap.get?_push_of_some _ e)
  have good : ∀ {τ : L2.St} {G : Hp} {t : Shared}, Inv (X.blk t3 H3 scope (blkE X scope t3) fp) [] τ G t → (∀ b ∈ fp, G b = none) → ∀ b ∈ fp, FpOk (X.blk t3 H3 scope (blkE X scope t3) fp) [] G b := fun J' n b hb =>
    ⟨n b hb, (J'.ok.exf b hb).1, J'.ok.exfs b hb, .inl hb, (J'.ok.exf b hb).2, fun p hp => nomatch hp⟩
  have loop : codeAny (model X.prog X.w) X.A (.compLoop (.ListComp elt [⟨tg, iter, ifs, 0⟩] scope pos) 0 (.ref it) (.ref D) (blkE X scope t3)) (compPost (model X.prog X.w) X.A X.xe none (EP X pins σ Q) (.ref D) t3.heap.objs.size) t4 := by
    refine compLoop_any (fun n t => ∃ i G, Inv (X.blk t3 H3 scope (blkE X scope t3) fp) [] (wipe σ (own.map (·.2))) G t ∧ tn i t.heap ∧ (∀ b ∈ fp, G b = none) ∧ W i n G) (fun n t5 ⟨i, G5, J5, st5, n5, w5⟩ => ?_) m0 ⟨0, H3, I4, st4, free3, w0⟩
    rcases turn i n G5 w5 with ⟨stop, qq⟩ | ⟨go, Nx, nxt, step⟩
    · refine thnF (T.done (X.blk t3 H3 scope (blkE X scope t3) fp) rfl rfl rfl hc i [] t5 _ G5 (fun _ _ => False) J5 (good J5 n5) st5 stop) fun r t6 ⟨er, J6⟩ => ?_
      subst er
      have I7 : Inv X pins σ G5 t6 := I3.call' (ch := fp) J6.os J6.base J6.hok J6.bare fun b hb => let z := (f3 b hb).1.2; ⟨z.2.2.1, z.1, z.2.2.2.1, z.2.2.2.2⟩
      have nC : G5 t3.heap.objs.size = none := J6.free
      obtain ⟨mm, ns, _⟩ := J6.loc
      obtain ⟨g0, g1, g2, g3, g4, g5⟩ := I3.fpOk (Nat.le_refl _) nC
      exact ⟨mm, ns, fun h'' sb => ⟨.ref D, G5, I7.turned (t' := t6.toks) (fun b o hb e => (sb.2 b hb).trans e) g0 g1 g3 g4 g5, rfl, qq⟩⟩
    · refine thnF (T.item (X.blk t3 H3 scope (blkE X scope t3) fp) rfl rfl rfl hc i [] t5 _ G5 (fun _ _ => False) J5 (good J5 n5) st5 go) fun r t6 ⟨u, er, h6⟩ => ?_
      subst er
      refine thnF h6 fun _ t7 ⟨x, G7, J7, r7, y7, st7, n7⟩ => ?_
      refine thnF (pg.run _ t7 _ G7 x u _ (J7.pinned (good J7 n7) (T.obj _ _ st7)) r7 (step x G7 y7)) fun _ t8 ⟨σ8, G8, J8, hw8, q8⟩ => ?_
      refine thnF (pt.run _ t8 σ8 G8 _ J8 q8) fun b t9 ⟨G9, J9, q9⟩ => ?_
      have fin : ∀ {t : Shared} {G : Hp}, Inv (X.blk t3 H3 scope (blkE X scope t3) fp) ([] ++ pinsAt fp t7.heap) σ8 G t → Nx G → ∃ m, m < n ∧ ∃ i G, Inv (X.blk t3 H3 scope (blkE X scope t3) fp) [] (wipe σ (own.map (·.2))) G t ∧ tn i t.heap ∧ (∀ b ∈ fp, G b = none) ∧ W i m G := fun {t G} J' nx => by
        obtain ⟨m', lt, w'⟩ := nxt G nx
        have pinned : ∀ b ∈ fp, ∀ o, t7.heap.get? b = some o → t.heap.get? b = some o ∧ G b = none := fun b hb o e =>
          (J'.pin (b, o) (List.mem_append_right _ (List.mem_append_right _ (mem_pinsAt hb e)))).imp id fun z => z.1
        refine ⟨m', lt, i + 1, G, (J'.unpinned (pins := [])).weak (by rw [← hw8, wipe_length]) (fun j v e => (wipe_some (hw8 ▸ e)).1), T.keep _ _ _ st7 fun b hb o e => (pinned b hb o e).1, fun b hb => ?_, w'⟩
        obtain ⟨o, eo, _⟩ := T.obj _ _ st7 b hb
        exact (pinned b hb o eo).2
      match b with
      | false =>
        rw [if_neg (by decide)] at q9 ⊢
        exact fin J9 q9
      | true =>
        rw [if_pos rfl] at q9 ⊢
        refine thnF (pe.run _ t9 σ8 G9 _ J9 q9) fun z t10 ⟨yv, G10, J10, r10, acc, hD, hz, nx⟩ => ?_
        exact app_ok (X := X.blk t3 H3 scope (blkE X scope t3) fp) J10 hD hz r10 fun t11 J11 => fin J11 nx
  exact codeAny_compStart_list loop (T.self X.A 0 _ _ _ st4 loop)
end
section
variable {X : Cx} {pins : List (Addr × Obj)} {σ : L2.St} {H : Hp} {s : Shared} {f : Fr} {scope : Scope} {own : List (Str × Nat)} {fp : List Addr} {Γ : List Kd} {m : Md} {e : Expr} {a : EM D}
/-- an own cell lies outside of the base and of the frames -/
theorem own_out (I : Inv X pins σ H s) {y : Str} {b : Addr} (h : X.fn y = true ∨ (X.base.objs.size ≤ b ∧ b ∉ frs X.stack)) (hc : X.env.cells.lookup y = some b) : X.base.objs.size ≤ b ∧ b ∉ frs X.stack := by
  rcases h with h | h
  · have ge := I.ok.cab y b h hc
    refine ⟨Nat.le_trans I.ok.bsz ge, fun hb => ?_⟩
    have out : b ∉ X.fs := fun hfs => by
      obtain ⟨_, o', e', _⟩ := I.ok.funs.mem hfs
      exact absurd (Nat.lt_of_lt_of_le (Heap.lt_size e') ge) (Nat.lt_irrefl _)
    rcases I.ok.stk with hst | ⟨hst, hf⟩
    · rw [hst] at hb; exact out hb
    · rw [hst] at hb
      obtain ⟨en, hen, q⟩ := List.mem_filterMap.mp hb
      rcases List.mem_cons.mp hen with rfl | hen
      · rw [hf] at q
        exact I.cne y b hc (Option.some.inj q).symm
      · exact out (List.mem_filterMap.mpr ⟨en, hen, q⟩)
  · exact h
/-- the frame with these cells -/
abbrev Fr.cel (f : Fr) (caps : List Nat) (cell : Nat → Addr) : Fr := { f with caps := caps, cell := cell }
/-- of each captured slot: the block's own, or the def's own -/
def capsBlk (N : List Str) (scope : Scope) (sc : Scope) (caps0 caps : List Nat) : Bool := caps.all fun j => match N[j]? with
  | some y => decide ((relS scope sc).names.lookup y = some .cell) && (decide (scope.names.lookup y = some .cell) || (decide (scope.names.lookup y = some .free) && decide (j ∈ caps0)))
  | none => false
theorem capsOk_blk {caps : List Nat} (I : Inv X pins σ H s) (C : CapsOk X f) (ok : BlkOk X.N X.env.scope scope own) (h : capsBlk X.N scope X.env.scope f.caps caps = true) (f' : Fr) (h1 : f'.caps = caps) (h2 : f'.cell = cellFn X.N (blkE X scope s).cells) : CapsOk (X.blk s H scope (blkE X scope s) fp) f' := by
  have frees : ∀ y ∈ scope.names, y.2 = .free → ∃ c, X.env.cells.lookup y.1 = some c := fun y hy e => I.ok.has _ (ok.free y hy e)
  refine ⟨fun j hj => ?_⟩
  rw [h1] at hj
  have hb := List.all_eq_true.mp h j hj
  cases en : X.N[j]? with
  | none => rw [en] at hb; cases hb
  | some y =>
    rw [en] at hb
    simp only [Bool.and_eq_true, Bool.or_eq_true, decide_eq_true_eq] at hb
    obtain ⟨k1, k2⟩ := hb
    have cf : ∀ c, (blkE X scope s).cells.lookup y = some c → f'.cell j = c := fun c ec => by
      rw [h2]
      unfold cellFn
      rw [List.getD_eq_getElem?_getD, en]
      show ((blkE X scope s).cells.lookup y).getD 0 = c
      rw [ec]; rfl
    rcases k2 with k2 | ⟨k2, k3⟩
    · obtain ⟨c0, hm⟩ := cells_has (n := s.heap.objs.size + 1) (acc := cloFrom X.env.cells scope.names []) (PySem.mem_of_lookup k2)
      obtain ⟨c, ec⟩ := mem_lookup hm
      have ec : (blkE X scope s).cells.lookup y = some c := ec
      exact ⟨y, rfl, .inl (by show (scope.names.lookup y == some NameKind.cell) = true; rw [k2]; rfl), by rw [cf c ec]; exact ec, k1⟩
    · obtain ⟨z, e1, e2, e3, _⟩ := C.cap j k3
      rw [en] at e1
      cases e1
      have hy : (y, NameKind.free) ∈ scope.names := PySem.mem_of_lookup k2
      obtain ⟨c, ec⟩ := mem_lookup (cells_acc (names := scope.names) (n := s.heap.objs.size + 1) (cloFrom_has (cells := X.env.cells) (acc := []) hy))
      have ec0 : (blkE X scope s).cells.lookup y = some c := ec
      have ecx : X.env.cells.lookup y = some c := by
        have hm := PySem.mem_of_lookup ec
        have hz : s.heap.objs.size + 1 = (s.heap.push { cls := .type "dict", data := .dict #[] }).objs.size := (Heap.size_push _ _).symm
        rw [hz] at hm
        rcases cells_mem hm with hm | ⟨q, _, _⟩
        · rcases cloFrom_mem hm with hm | ⟨_, q⟩
          · cases hm
          · obtain ⟨c1, hc1⟩ := frees _ hy rfl
            rw [hc1] at q ⊢
            rw [q]; rfl
        · have := ok.uniq _ q
          rw [k2] at this; cases this
      have ej : f.cell j = c := by
        rw [e3] at ecx
        exact Option.some.inj ecx
      have o := own_out I e2 e3
      rw [ej] at o
      exact ⟨y, rfl, .inr (by rw [cf c ec0]; exact o), by rw [cf c ec0]; exact ec0, k1⟩
def noCs (Γ : List Kd) : Bool := Γ.all fun k => k != .cs && k != .tc
theorem noCs_at {i : Nat} (h : noCs Γ = true) : Γ.getD i .un ≠ .cs ∧ Γ.getD i .un ≠ .tc := by
  by_cases hi : i < Γ.length
  · have := List.all_eq_true.mp h _ (List.getElem_mem hi)
    rw [List.getD_eq_getElem?_getD, List.getElem?_eq_getElem hi]
    simp only [Bool.and_eq_true, bne_iff_ne] at this
    exact this
  · rw [List.getD_eq_getElem?_getD, List.getElem?_eq_none (by omega)]
    exact ⟨(by decide), (by decide)⟩
theorem SlotOk.recell {g : G} {oc oc' : Addr → V → Prop} {B : Addr → Prop} {H : Hp} {k : Kd} {od : Option D} {ov : Option V} {L : List Addr} (h1 : k ≠ .cs) (h2 : k ≠ .tc) (h : SlotOk g oc B H k od ov L) : SlotOk g oc' B H k od ov L := by
  cases k <;> first | exact absurd rfl h1 | exact absurd rfl h2 | exact h
theorem Rel.cel {caps : List Nat} {cell : Nat → Addr} {ρ : Env} {gh : Nat → List Addr} (n : noCs Γ = true) (R : Rel f Γ ρ gh σ H) : Rel (f.cel caps cell) Γ ρ gh σ H :=
  ⟨R.lr, R.ls, fun i => (R.slot i).recell (noCs_at n).1 (noCs_at n).2, R.nd, R.dj, R.fresh, R.lent, R.one, R.b0, R.nb, R.s0, R.keep, R.tabs⟩
theorem Rel.uncel {caps : List Nat} {cell : Nat → Addr} {ρ : Env} {gh : Nat → List Addr} (n : noCs Γ = true) (R : Rel (f.cel caps cell) Γ ρ gh σ H) : Rel f Γ ρ gh σ H :=
  ⟨R.lr, R.ls, fun i => (R.slot i).recell (noCs_at n).1 (noCs_at n).2, R.nd, R.dj, R.fresh, R.lent, R.one, R.b0, R.nb, R.s0, R.keep, R.tabs⟩
def mdNoCs : Md → Bool
  | .cs | .tc _ => false
  | _ => true
theorem xe_cel (caps : List Nat) (cell : Nat → Addr) (h : XE X (f.cel caps cell) Γ e m a) (n : noCs Γ = true := by rfl) (hm : mdNoCs m = true := by rfl) : XE X f Γ e m a :=
  PE.mono h fun σ H Q ⟨ρ, gh, R, q⟩ => ⟨ρ, gh, R.cel n, by
    cases ea : a ρ with
    | ok d ρ' =>
      rw [ea] at q
      intro v H' L R' k vo nw
      refine q v H' L (R'.uncel n) k ?_ nw
      cases m with
      | cs => cases hm
      | tc U => cases hm
      | _ => exact vo
    | exn x ρ' =>
      rw [ea] at q
      exact fun cls dx H' R' k ex => q cls dx H' (R'.uncel n) k ex
    | stuck => rw [ea] at q; exact q⟩
end
section
variable {X : Cx} {f : Fr} {Γ Γ1 : List Kd} {c : Bool} {m : Md} {it : EM (List D)} {t : D → EM Unit} {tt : EM Bool} {a : EM D} {tg iter elt : Expr} {ifs : List Expr} {scope : Scope} {own : List (Str × Nat)} {ws : List Nat} {pos : Pos}
/-- [elt for tg in iter if ..], where a closure within holds the block's own names -/
theorem xe_compC (hN : X.N.Nodup) (hc : X.calm = true) (hi : PI X tg iter (RI f Γ c false it)) (ok : blkC X.N X.env.scope scope own = true)
    (hg : ∀ D, TurnC X scope fun Y => PG Y tg (RG (f.blk D) c (wipeK Γ (own.map (·.2))) Γ1 ws t)) (ht : ∀ D, TurnC X scope fun Y => PTs Y ifs (RT (f.blk D) Γ1 tt))
    (he : ∀ D, ∀ (pins : List (Addr × Obj)) (σ : L2.St) (H : Hp) (s : Shared) (fp : List Addr), Inv X pins σ H s → PE (X.blk s H scope (blkE X scope s) fp) elt (RE (f.blk D) Γ1 m a)) [nx : NoX t]
    (hm : compOk m = true := by rfl) (hv : vsOk f Γ c (own.map (·.2)) = true := by rfl) (hws : (ws.all fun i => (own.map (·.2)).contains i) = true := by rfl) (hj : jsOk f Γ = true := by rfl) (hst : stEq Γ (wipeK Γ (own.map (·.2))) = true := by rfl) (hst1 : stEq Γ Γ1 = true := by rfl) (hcs : (c || !isCs m) = true := by rfl)
    (hs : ∀ x, foldedSetIterable iter X.env x = pure x := by intro _; rfl) : XE X f Γ (.ListComp elt [⟨tg, iter, ifs, 0⟩] scope pos) (compMd m) (eComp f.js it t tt a) :=
  PE.mono (pe_lcC hc hN hi (blkOk_by ok) (fun pins σ H s fp I => ⟨fun pins' s' σ' H' v u Q J r ⟨D, q⟩ => (hg D pins σ H s fp I).run pins' s' σ' H' v u Q J r q⟩)
    (fun pins σ H s fp I => ⟨fun pins' s' σ' H' Q J ⟨D, q⟩ => (ht D pins σ H s fp I).run pins' s' σ' H' Q J q⟩)
    (fun pins σ H s fp I => ⟨fun pins' s' σ' H' Q J ⟨D, q⟩ => (he D pins σ H s fp I).run pins' s' σ' H' Q J q⟩) hs) fun σ H Q q => comp_read hm hv hws hj hst hst1 hcs q
end
theorem xe_celB {X : Cx} {H : Hp} {s : Shared} {f : Fr} {scope : Scope} {fp : List Addr} {Γ : List Kd} {m : Md} {e : Expr} {a : EM D} (caps : List Nat) (h : XE (X.blk s H scope (blkE X scope s) fp) (f.cel caps (cellFn X.N (blkE X scope s).cells)) Γ e m a) (n : noCs Γ = true := by rfl) (hm : mdNoCs m = true := by rfl) :
    XE (X.blk s H scope (blkE X scope s) fp) f Γ e m a := xe_cel caps _ h n hm
theorem LamDef.wt {base : Heap} {mg : Str → Option Value} {g : G} {q : Str} {cd tb : Addr} (l : Addr) (h : LamDef base mg g q cd tb) : LamDef base mg (g.wt l) q cd tb := ⟨h.b, h.T⟩
end PP
-- PP43
/-! PP43: sorted, of whole numbers. -/
namespace PP
open PySem PySem.Spec PyProof.Rows L2
def insI (n : Int) : List Int → List Int
  | [] => [n]
  | m :: r => if n ≤ m then n :: m :: r else m :: insI n r
def sortI : List Int → List Int
  | [] => []
  | n :: r => insI n (sortI r)
theorem insI_perm (n : Int) : ∀ r : List Int, (insI n r).Perm (n :: r)
  | [] => List.Perm.refl _
  | m :: r => by
    unfold insI
    split
    · exact List.Perm.refl _
    · exact ((insI_perm n r).cons m).trans (List.Perm.swap n m r)
theorem sortI_perm : ∀ r : List Int, (sortI r).Perm r
  | [] => List.Perm.refl _
  | n :: r => (insI_perm n (sortI r)).trans ((sortI_perm r).cons n)
theorem insI_sorted (n : Int) : ∀ r : List Int, r.Pairwise (· ≤ ·) → (insI n r).Pairwise (· ≤ ·)
  | [], _ => by simp [insI]
  | m :: r, h => by
    unfold insI
    rw [List.pairwise_cons] at h
    split
    · rename_i c
      refine List.pairwise_cons.mpr ⟨fun x hx => ?_, List.pairwise_cons.mpr h⟩
      rcases List.mem_cons.mp hx with rfl | hx
      · exact c
      · exact Int.le_trans c (h.1 x hx)
    · rename_i c
      refine List.pairwise_cons.mpr ⟨fun x hx => ?_, insI_sorted n r h.2⟩
      rcases List.mem_cons.mp ((insI_perm n r).mem_iff.mp hx) with rfl | hx
      · omega
      · exact h.1 x hx
theorem sortI_sorted : ∀ r : List Int, (sortI r).Pairwise (· ≤ ·)
  | [] => List.Pairwise.nil
  | n :: r => insI_sorted n _ (sortI_sorted r)
theorem sorted_eq : ∀ {xs ys : List Int}, xs.Pairwise (· ≤ ·) → ys.Pairwise (· ≤ ·) → xs.Perm ys → xs = ys
  | [], ys, _, _, p => (List.nil_perm.mp p).symm
  | x :: xs, [], _, _, p => absurd (p.length_eq) (by simp)
  | x :: xs, y :: ys, h1, h2, p => by
    have h1' := List.pairwise_cons.mp h1
    have h2' := List.pairwise_cons.mp h2
    have e : x = y := by
      have a : x ≤ y := by
        rcases List.mem_cons.mp (p.mem_iff.mpr List.mem_cons_self) with e | e
        · omega
        · exact h1'.1 y e
      have b : y ≤ x := by
        rcases List.mem_cons.mp (p.mem_iff.mp List.mem_cons_self) with e | e
        · omega
        · exact h2'.1 x e
      omega
    subst e
    rw [sorted_eq h1'.2 h2'.2 (List.Perm.cons_inv p)]
def sortL : D → P D := onInts fun ns => Pure.pure (.lst ((sortI ns).map .int))
section
variable {X : Cx} {f : Fr} {Γ : List Kd}
theorem k_sort (hK : f.g.K = X.K) : V1 f Γ .bor (.own []) sortL fun v H Q => rSortedI X.K [v] H Q := fun σ gh ρ H d v L Q R o w => by
  obtain ⟨a, ns, rfl, q, w⟩ := onInts_k o w
  refine ⟨a, ns, rfl, SqL.of q, fun ns' p pm st hp => ?_⟩
  have e : ns' = sortI ns := sorted_eq st (sortI_sorted ns) (pm.trans (sortI_perm ns).symm)
  subst e
  refine (show Ob f Γ (.own []) gh σ H (.ok (.lst ((sortI ns).map .int)) ρ) Q from w) (.ref p) _ [p] (R.new hp) (Kp.upd_new hp) ?_ ⟨by simp, fun a ha => .inl (by rw [List.mem_singleton.mp ha]; exact hp)⟩
  show Ow f.g _ (.lst ((sortI ns).map .int)) (.ref p) [p]
  simp only [Ow]
  exact ⟨p, _, [], rfl, rfl, upd_same, ow_ints _⟩
end
end PP
-- W73
namespace K73
open PySem PySem.Spec PyProof.Rows L2 PP
def top (i : Nat) : Stmt := PySem.Challenge.pw_pointswhole_k73_sums_refused.main.body.getD i (.Pass ⟨0, 0, 0, 0⟩)
abbrev FnP (K : PySem.W.Frag) (x : Str) (st : Stmt) (f : Addr) (fd : FuncData) : Prop := FunD K x x (C8.fnArgs st) (C8.fnBody st) (C8.fnScope st) [] [] f fd

abbrev s_is_list : Stmt := top 1
abbrev s_is_whole : Stmt := top 2
abbrev s_is_number : Stmt := top 3
abbrev s_is_row : Stmt := top 4
abbrev s_is_ascending : Stmt := top 5
abbrev s_has : Stmt := top 13
abbrev s_least_period : Stmt := top 14
abbrev s_multiple : Stmt := top 15
abbrev s_plain_of : Stmt := top 16
abbrev s_lowered : Stmt := top 17
abbrev s_told_set : Stmt := top 18
abbrev s_made : Stmt := top 19
abbrev s_sum_at : Stmt := top 21
abbrev s_common_divisor : Stmt := top 22
abbrev s_need_numbers : Stmt := top 24
abbrev s_need_sum : Stmt := top 25
abbrev s_is_sum_of : Stmt := top 26
abbrev s_table_of : Stmt := top 27
abbrev s_rest_table : Stmt := top 28
abbrev s_is_entry : Stmt := top 29
abbrev s_is_kept : Stmt := top 30
abbrev s_is_rest_table : Stmt := top 31
abbrev s_is_made : Stmt := top 32
abbrev s_counts_for : Stmt := top 33
abbrev s_summed_or_table : Stmt := top 34
abbrev s_gaps_of : Stmt := top 35
abbrev s_gaps : Stmt := top 36
abbrev s_greatest_gap : Stmt := top 37
abbrev s_sums_set : Stmt := top 38
abbrev s_needless_numbers : Stmt := top 39
abbrev s_is_even_gapped : Stmt := top 40
abbrev s_fewest_of : Stmt := top 42
abbrev s_fewest_counts : Stmt := top 43
abbrev s_greedy_of : Stmt := top 44
abbrev s_need_with_one : Stmt := top 45
abbrev s_greedy_counts : Stmt := top 46
abbrev s_greedy_gap : Stmt := top 47
abbrev s__law_stream : Stmt := top 49
abbrev s__law_draw : Stmt := top 50
abbrev s__law_same : Stmt := top 51
abbrev s__law_is_very : Stmt := top 52
abbrev s__law_ascending : Stmt := top 53
abbrev s__law_numbers : Stmt := top 54
abbrev s__law_all_refused : Stmt := top 55
abbrev s__law_met : Stmt := top 56
abbrev s_law : Stmt := top 57
def lam_0 : Lam := lamOf (qLam "sums_set") ["table"] (C8.fnBody s_sums_set) [3] [1, 5]
def lam_1 : Lam := lamOf (qLam "_law_is_very") ["ask", "odd"] (C8.fnBody s__law_is_very) [1] [1]
def lam_2 : Lam := lamOf (qLam "_law_all_refused") ["ask", "odd"] (C8.fnBody s__law_all_refused) [0, 0] [0, 0, 1, 0, 1, 1]
def lam_3 : Lam := lamOf (qLam "law") [] (C8.fnBody s_law) [3] [0]
def lam_4 : Lam := lamOf (qLam "law") [] (C8.fnBody s_law) [4] [1]
def lam_5 : Lam := lamOf (qLam "law") [] (C8.fnBody s_law) [5] [1]
def lam_6 : Lam := lamOf (qLam "law") [] (C8.fnBody s_law) [6] [1]
def lam_7 : Lam := lamOf (qLam "law") [] (C8.fnBody s_law) [7] [1]
def lam_8 : Lam := lamOf (qLam "law") [] (C8.fnBody s_law) [8] [1]
def lam_9 : Lam := lamOf (qLam "law") [] (C8.fnBody s_law) [9] [1]
def lam_10 : Lam := lamOf (qLam "law") [] (C8.fnBody s_law) [10] [1]
def lam_11 : Lam := lamOf (qLam "law") [] (C8.fnBody s_law) [11] [1]
def lam_12 : Lam := lamOf (qLam "law") [] (C8.fnBody s_law) [12] [1]
def lam_13 : Lam := lamOf (qLam "law") [] (C8.fnBody s_law) [14] [0]
def lam_14 : Lam := lamOf (qLam "law") [] (C8.fnBody s_law) [15] [1]
def lam_15 : Lam := lamOf (qLam "law") ["numbers"] (C8.fnBody s_law) [18] [0, 3, 0]
def lam_16 : Lam := lamOf (qLam "law") ["numbers"] (C8.fnBody s_law) [20] [0]
def lam_17 : Lam := lamOf (qLam "law") ["numbers"] (C8.fnBody s_law) [21] [1]
def lam_18 : Lam := lamOf (qLam "law") ["numbers"] (C8.fnBody s_law) [22] [1]
def lam_19 : Lam := lamOf (qLam "law") [] (C8.fnBody s_law) [23] [1]
def CTl : Nat → Lam := fun i => match i with
  | 0 => lam_0
  | 1 => lam_1
  | 2 => lam_2
  | 3 => lam_3
  | 4 => lam_4
  | 5 => lam_5
  | 6 => lam_6
  | 7 => lam_7
  | 8 => lam_8
  | 9 => lam_9
  | 10 => lam_10
  | 11 => lam_11
  | 12 => lam_12
  | 13 => lam_13
  | 14 => lam_14
  | 15 => lam_15
  | 16 => lam_16
  | 17 => lam_17
  | 18 => lam_18
  | 19 => lam_19
  | _ => ⟨"", ⟨[], [], none, [], [], none, []⟩, noE, ⟨.function, [], false, false, []⟩, []⟩
section
variable {P : Program} {w : World} {K : PySem.W.Frag} {mg : Str → Option Value} {base : Heap} {g : PP.G} (hK : g.K = K) (hG : g.mg = mg) (hCT : g.CT = CTl)

def fu__law_draw (ρ : PP.Env) : Nat := match ρ.getD 0 none with | some (.lst (.lst cs :: _)) => cs.length + 1 | _ => 0
theorem bd__law_draw : BindE "_law_draw" "_law_draw" (C8.fnArgs s__law_draw) (C8.fnBody s__law_draw) (C8.fnScope s__law_draw) ["stream", "many"] := fun _ _ _ _ _ _ us hl => match us, hl with | [_, _], _ => rfl
theorem sc__law_draw : FnScope ["stream", "many", "mixed", "cell", "digit"] ["stream", "many"] (C8.fnScope s__law_draw) := ⟨rfl, rfl, rfl, by decide +kernel, rfl, by decide +kernel, by decide +kernel⟩
def m__law_draw : SM := (sSeq (sSetS 0 2 (eP2 addI (eItS 0 2) (eC (.int 1)))) (sSeq (sWhile fu__law_draw (tAnd (tB (eP2 eqD (eItS 0 1) (eC (.int 0)))) (tNeS 0)) (sSeq (sAsg 3 (eP1 absI (ePopS 0))) (sSeq (sSetS 0 3 (eP2 modI (eP1 intI (eP2 addI (eP2 addI (eP2 mulI (eItS 0 3) (eC (.int 8191))) (eV 3)) (eC (.int 3)))) (eC (.int 2147483647)))) (sSetS 0 1 (eIf (tB (eP2 geI (eV 3) (eP2 powI (eC (.int 10)) (eC (.int 18))))) (eNf (eV 3)) (eC (.int 0))))))) (sSeq (sIf (tB (eP2 gtI (eItS 0 1) (eC (.int 0)))) (sSeq (sAsg 4 (eP2 modI (eP1 intI (eItS 0 1)) (eV 1))) (sSeq (sSetS 0 1 (eP2 divI (eItS 0 1) (eV 1))) (sRet (eNf (eV 4))))) sSkip) (sSeq (sAsg 2 (eP2 modI (eP1 intI (eP2 powI (eP2 addI (eP2 addI (eItS 0 3) (eP2 mulI (eC (.int 7919)) (eItS 0 2))) (eC (.int 104729))) (eC (.int 5)))) (eC (.int 2147483629)))) (sRet (eP2 modI (eP2 modI (eP1 intI (eP2 powI (eP2 addI (eP2 addI (eP2 mulI (eV 2) (eC (.int 48271))) (eP2 mulI (eC (.int 30011)) (eItS 0 2))) (eC (.int 29))) (eC (.int 3)))) (eC (.int 1000000007))) (eV 1)))))))
def F__law_draw : FnIo := defIo 5 m__law_draw
include hK hG hCT in
theorem ok__law_draw {fa : Addr} {fd : FuncData} (F : FnP K "_law_draw" s__law_draw fa fd) (b_abs : mg "abs" = none) (b_int : mg "int" = none) : FnOk P w K mg base (L2.CX P w) 1 fa fd ["stream", "many"] (spIo g 1 (.own []) F__law_draw) :=
  defIo_ok (caps := []) (Γ' := [.st, .un, .un, .un, .un]) (Γb := []) (Γc := []) F sc__law_draw (.inr rfl) (by decide) (fun cdv hcv A outer s0 H E B L v0 hr => by
    have hN : (["stream", "many", "mixed", "cell", "digit"] : List Str).Nodup := sc__law_draw.nd
    have hr1 := hr
    have tk := takes_of (X := cxOf (L2.CX P w) P w K mg base ["stream", "many", "mixed", "cell", "digit"] "_law_draw" (C8.fnScope s__law_draw) fa cdv A outer s0 H E) rfl rfl rfl rfl
    exact (xs_cons (xs_setS 2 (xe_add (xe_le (m := (.own [])) (m' := .bor) (xe_itS 2 rfl) trivial) (xe_le (m := (.own [])) (m' := .bor) xe_int trivial)) rfl) (xs_cons (xs_while fu__law_draw (PW.pt (xw_and (xt_cmp (op_eqD (hu64 hr1)) (k_eq hK) (xe_le (m := (.own [])) (m' := .bor) (xe_itS 1 rfl) trivial) (xe_le (m := (.own [])) (m' := .bor) xe_int trivial) (nomark _)) (xw_one (xt_neS hK (hu64 hr1) rfl)))) (xs_post (Γ1 := [.st, .sh, .un, .sh, .un]) (Γ' := [.st, .sh, .un, .un, .un]) rfl (xs_cons (xs_asg 3 .sh (xe_le (m := (.own [])) (m' := .sh) (xe_bi call_abs k_abs (xe_le (m := (.own [])) (m' := .bor) (xe_popS rfl) trivial) b_abs (by decide +kernel)) trivial) hN) (xs_cons (xs_setS 3 (xe_mod (xe_le (m := (.own [])) (m' := .bor) (xe_ty call_int1 k_int (xe_le (m := (.own [])) (m' := .bor) (xe_add (xe_le (m := (.own [])) (m' := .bor) (xe_add (xe_le (m := (.own [])) (m' := .bor) (xe_mul (xe_le (m := (.own [])) (m' := .bor) (xe_itS 3 rfl) trivial) (xe_le (m := (.own [])) (m' := .bor) xe_int trivial)) trivial) (xe_le (m := .sh) (m' := .bor) (xe_v 3 rfl) trivial)) trivial) (xe_le (m := (.own [])) (m' := .bor) xe_int trivial)) trivial) b_int (by decide +kernel)) trivial) (xe_le (m := (.own [])) (m' := .bor) xe_int trivial)) rfl) (xs_one (xs_setS 1 (xe_if (xt_cmp op_ge k_ge (xe_le (m := .sh) (m' := .bor) (xe_v 3 rfl) trivial) (xe_le (m := (.own [])) (m' := .bor) (xe_pow (xe_le (m := (.own [])) (m' := .bor) xe_int trivial) (xe_le (m := (.own [])) (m' := .bor) xe_int trivial)) trivial) (nomark _)) (xe_nf (xe_le (m := .sh) (m' := .bor) (xe_v 3 rfl) trivial)) xe_int) rfl))))) (passes_of rfl)) (xs_cons (xs_if (xt_cmp op_gt k_gt (xe_le (m := (.own [])) (m' := .bor) (xe_itS 1 rfl) trivial) (xe_le (m := (.own [])) (m' := .bor) xe_int trivial) (nomark _)) (xs_cons (xs_asg 4 .sh (xe_le (m := (.own [])) (m' := .sh) (xe_mod (xe_le (m := (.own [])) (m' := .bor) (xe_ty call_int1 k_int (xe_le (m := (.own [])) (m' := .bor) (xe_itS 1 rfl) trivial) b_int (by decide +kernel)) trivial) (xe_le (m := .sh) (m' := .bor) (xe_v 1 rfl) trivial)) trivial) hN) (xs_cons (xs_setS 1 (xe_div (xe_le (m := (.own [])) (m' := .bor) (xe_itS 1 rfl) trivial) (xe_le (m := .sh) (m' := .bor) (xe_v 1 rfl) trivial)) rfl) (xs_one (xs_ret (xe_nf (xe_le (m := .sh) (m' := .bor) (xe_v 4 rfl) trivial)) rfl (.inr rfl) rfl)))) xs_nil rfl) (xs_cons (xs_asg 2 .sh (xe_le (m := (.own [])) (m' := .sh) (xe_mod (xe_le (m := (.own [])) (m' := .bor) (xe_ty call_int1 k_int (xe_le (m := (.own [])) (m' := .bor) (xe_pow (xe_le (m := (.own [])) (m' := .bor) (xe_add (xe_le (m := (.own [])) (m' := .bor) (xe_add (xe_le (m := (.own [])) (m' := .bor) (xe_itS 3 rfl) trivial) (xe_le (m := (.own [])) (m' := .bor) (xe_mul (xe_le (m := (.own [])) (m' := .bor) xe_int trivial) (xe_le (m := (.own [])) (m' := .bor) (xe_itS 2 rfl) trivial)) trivial)) trivial) (xe_le (m := (.own [])) (m' := .bor) xe_int trivial)) trivial) (xe_le (m := (.own [])) (m' := .bor) xe_int trivial)) trivial) b_int (by decide +kernel)) trivial) (xe_le (m := (.own [])) (m' := .bor) xe_int trivial)) trivial) hN) (xs_one (xs_ret (xe_mod (xe_le (m := (.own [])) (m' := .bor) (xe_mod (xe_le (m := (.own [])) (m' := .bor) (xe_ty call_int1 k_int (xe_le (m := (.own [])) (m' := .bor) (xe_pow (xe_le (m := (.own [])) (m' := .bor) (xe_add (xe_le (m := (.own [])) (m' := .bor) (xe_add (xe_le (m := (.own [])) (m' := .bor) (xe_mul (xe_le (m := .sh) (m' := .bor) (xe_v 2 rfl) trivial) (xe_le (m := (.own [])) (m' := .bor) xe_int trivial)) trivial) (xe_le (m := (.own [])) (m' := .bor) (xe_mul (xe_le (m := (.own [])) (m' := .bor) xe_int trivial) (xe_le (m := (.own [])) (m' := .bor) (xe_itS 2 rfl) trivial)) trivial)) trivial) (xe_le (m := (.own [])) (m' := .bor) xe_int trivial)) trivial) (xe_le (m := (.own [])) (m' := .bor) xe_int trivial)) trivial) b_int (by decide +kernel)) trivial) (xe_le (m := (.own [])) (m' := .bor) xe_int trivial)) trivial) (xe_le (m := .sh) (m' := .bor) (xe_v 1 rfl) trivial)) rfl (.inr rfl) rfl))))))) rfl
theorem bd__law_ascending : BindE "_law_ascending" "_law_ascending" (C8.fnArgs s__law_ascending) (C8.fnBody s__law_ascending) (C8.fnScope s__law_ascending) ["numbers"] := fun _ _ _ _ _ _ us hl => match us, hl with | [_], _ => rfl
theorem sc__law_ascending : FnScope ["numbers", "found", "one"] ["numbers"] (C8.fnScope s__law_ascending) := ⟨rfl, rfl, rfl, by decide +kernel, rfl, by decide +kernel, by decide +kernel⟩
def m__law_ascending : SM := (sSeq (sAsg 1 (eLst eNil)) (sSeq (sFor (itS (eP1 sortL (eV 0))) (tgN 2) (sAsg 1 (eP2 catD (eV 1) (eIf (tOr (tB (eP2 eqD (eV 1) (eLst eNil))) (tB (eP2 neD (eP2 idxD (eV 1) (eP1 negI (eC (.int 1)))) (eV 2)))) (eLst (eCons (eV 2) eNil)) (eLst eNil))))) (sRet (eV 1))))
def F__law_ascending : Fn := defF 3 m__law_ascending
include hK hG hCT in
theorem ok__law_ascending {fa : Addr} {fd : FuncData} (F : FnP K "_law_ascending" s__law_ascending fa fd) (b_sorted : mg "sorted" = none) : FnOk P w K mg base (L2.CX P w) 1 fa fd ["numbers"] (spF g 1 .sh F__law_ascending) :=
  def_ok (caps := []) (Γ' := [.un, .un, .un]) (Γb := []) (Γc := []) F sc__law_ascending (.inl rfl) fun cdv hcv A outer s0 H E B hr => by
    have hN : (["numbers", "found", "one"] : List Str).Nodup := sc__law_ascending.nd
    have hr1 := hr
    have tk := takes_of (X := cxOf (L2.CX P w) P w K mg base ["numbers", "found", "one"] "_law_ascending" (C8.fnScope s__law_ascending) fa cdv A outer s0 H E) rfl rfl rfl rfl
    exact (xs_cons (xs_asg 1 .sh (xe_le (m := (.tp [])) (m' := .sh) (xe_lstT xa_nil) trivial) hN) (xs_cons (xs_for (xi_seq hK (xe_le (m := (.own [])) (m' := .sh) (xe_bi (m := .own []) cr_sortedI (k_sort hK) (xe_le (m := .sh) (m' := .bor) (xe_v 0 rfl) trivial) b_sorted (by decide +kernel)) trivial)) (xg_name (c := false) 2 hN) (xs_post (Γ1 := [.sh, .sh, .sh]) (Γ' := [.sh, .sh, .un]) rfl (xs_one (xs_asg 1 .sh (xe_le (m := (.tp [])) (m' := .sh) (xe_bin op_cat k_cat (xe_le (m := .sh) (m' := .bs) (xe_v 1 rfl) trivial) (xe_if (PW.pt (xw_or (xt_cmp (op_eqD (hu64 hr1)) (k_eq hK) (xe_le (m := .sh) (m' := .bor) (xe_v 1 rfl) trivial) (xe_le (m := (.own [])) (m' := .bor) (xe_lst (ms := []) xa_nil) trivial) (nomark _)) (xw_one (xt_cmp (op_neD (hu64 hr1)) (k_ne hK) (xe_le (m := .sh) (m' := .bor) (xe_ix ix_seq (k_idx hK) (xe_le (m := .sh) (m' := .bs) (xe_v 1 rfl) trivial) (xe_le (m := (.own [])) (m' := .bor) (xe_neg (xe_le (m := (.own [])) (m' := .bor) xe_int trivial)) trivial)) trivial) (xe_le (m := .sh) (m' := .bor) (xe_v 2 rfl) trivial) (nomark _))))) (xe_le (m := (.tp [])) (m' := .bs) (xe_lstT (xa_cons (xe_v 2 rfl) xa_nil)) trivial) (xe_le (m := (.own [])) (m' := .bs) (xe_lst (ms := []) xa_nil) trivial))) trivial) hN))) (passes_of rfl) rfl) (xs_one (xs_ret (xe_v 1 rfl) rfl (.inl rfl) rfl))))
theorem bd__law_numbers : BindE "_law_numbers" "_law_numbers" (C8.fnArgs s__law_numbers) (C8.fnBody s__law_numbers) (C8.fnScope s__law_numbers) ["stream", "most", "top"] := fun _ _ _ _ _ _ us hl => match us, hl with | [_, _, _], _ => rfl
theorem sc__law_numbers : FnScope ["stream", "most", "top", "found", "k"] ["stream", "most", "top"] (C8.fnScope s__law_numbers) := ⟨rfl, rfl, rfl, by decide +kernel, rfl, by decide +kernel, by decide +kernel⟩
def m__law_numbers : SM := (sSeq (sAsg 3 (eLst eNil)) (sSeq (sFor (itA fnR1 (eCons (eP2 addI (eC (.int 1)) (eIo F__law_draw 0 (eCons (eV 1) eNil))) eNil)) (tgN 4) (sApp 3 (eP2 addI (eC (.int 1)) (eIo F__law_draw 0 (eCons (eV 2) eNil))))) (sRet (eCall F__law_ascending (eCons (eV 3) eNil)))))
def F__law_numbers : FnIo := defIo 5 m__law_numbers
include hK hG hCT in
theorem ok__law_numbers {fa : Addr} {fd : FuncData} (F : FnP K "_law_numbers" s__law_numbers fa fd) (b_range : mg "range" = none) (A__law_ascending : FnAt P w K mg base g 1 "_law_ascending" 1 .sh F__law_ascending) (A__law_draw : FnIoAt P w K mg base g 1 "_law_draw" 1 (.own []) F__law_draw) : FnOk P w K mg base (L2.CX P w) 2 fa fd ["stream", "most", "top"] (spIo g 2 .sh F__law_numbers) :=
  defIo_ok (caps := []) (Γ' := [.st, .un, .un, .un, .un]) (Γb := []) (Γc := []) F sc__law_numbers (.inl rfl) (by decide) (fun cdv hcv A outer s0 H E B L v0 hr => by
    have hN : (["stream", "most", "top", "found", "k"] : List Str).Nodup := sc__law_numbers.nd
    have hr1 := hr
    have tk := takes_of (X := cxOf (L2.CX P w) P w K mg base ["stream", "most", "top", "found", "k"] "_law_numbers" (C8.fnScope s__law_numbers) fa cdv A outer s0 H E) rfl rfl rfl rfl
    exact (xs_cons (xs_asg 3 .tp (xe_lstT xa_nil) hN) (xs_cons (xs_for (xi_range1 rfl b_range (xa_cons (xe_le (m := (.own [])) (m' := .bor) (xe_add (xe_le (m := (.own [])) (m' := .bor) xe_int trivial) (xe_le (m := (.own [])) (m' := .bor) (xe_io (ms := [.bor]) A__law_draw hr1 tk (xa_cons (xe_le (m := .sh) (m' := .bor) (xe_v 1 rfl) trivial) xa_nil) rfl) trivial)) trivial) xa_nil)) (xg_name (c := false) 4 hN) (xs_post (Γ1 := [.st, .sh, .sh, .tp, .sh]) (Γ' := [.st, .sh, .sh, .tp, .un]) rfl (xs_one (xs_app 3 rfl (xe_le (m := (.own [])) (m' := .sh) (xe_add (xe_le (m := (.own [])) (m' := .bor) xe_int trivial) (xe_le (m := (.own [])) (m' := .bor) (xe_io (ms := [.bor]) A__law_draw hr1 tk (xa_cons (xe_le (m := .sh) (m' := .bor) (xe_v 2 rfl) trivial) xa_nil) rfl) trivial)) trivial) hK))) (passes_of rfl) rfl) (xs_weak (Γ1 := [.st, .sh, .sh, .sh, .un]) rfl (xs_one (xs_ret (xe_call (ms := [.sh]) A__law_ascending hr1 tk (xa_cons (xe_v 3 rfl) xa_nil)) rfl (.inr rfl) rfl)))))) rfl
theorem bd_is_whole : BindE "is_whole" "is_whole" (C8.fnArgs s_is_whole) (C8.fnBody s_is_whole) (C8.fnScope s_is_whole) ["thing"] := fun _ _ _ _ _ _ us hl => match us, hl with | [_], _ => rfl
theorem sc_is_whole : FnScope ["thing"] ["thing"] (C8.fnScope s_is_whole) := ⟨rfl, rfl, rfl, by decide +kernel, rfl, by decide +kernel, by decide +kernel⟩
def m_is_whole : SM := (sRet (eAnd (eP1 (isD [.int]) (eP1 fgP (eV 0))) (eNot (eP1 (isD [.bool]) (eP1 fgP (eV 0))))))
def F_is_whole : Fn := defF 1 m_is_whole
include hK hG hCT in
theorem ok_is_whole {fa : Addr} {fd : FuncData} (F : FnP K "is_whole" s_is_whole fa fd) (b_bool : mg "bool" = none) (b_int : mg "int" = none) (b_isinstance : mg "isinstance" = none) : FnOk P w K mg base (L2.CX P w) 1 fa fd ["thing"] (spF g 1 (.own []) F_is_whole) :=
  def_ok (caps := []) (Γ' := [.un]) (Γb := []) (Γc := []) F sc_is_whole (.inr rfl) fun cdv hcv A outer s0 H E B hr => by
    have hN : (["thing"] : List Str).Nodup := sc_is_whole.nd
    have hr1 := hr
    have tk := takes_of (X := cxOf (L2.CX P w) P w K mg base ["thing"] "is_whole" (C8.fnScope s_is_whole) fa cdv A outer s0 H E) rfl rfl rfl rfl
    exact (xs_one (xs_ret (xe_and (xe_le (m := (.own [])) (m' := .bor) (xe_isi .int hK (xe_le (m := .sh) (m' := .bor) (xe_fg (xe_v 0 rfl)) trivial) b_isinstance b_int PyProof.Rows.boot_int) trivial) (xe_one (xe_not (xe_le (m := (.own [])) (m' := .bor) (xe_isi .bool hK (xe_le (m := .sh) (m' := .bor) (xe_fg (xe_v 0 rfl)) trivial) b_isinstance b_bool PyProof.Rows.boot_bool) trivial)))) rfl (.inl rfl) rfl))
theorem bd_is_list : BindE "is_list" "is_list" (C8.fnArgs s_is_list) (C8.fnBody s_is_list) (C8.fnScope s_is_list) ["thing"] := fun _ _ _ _ _ _ us hl => match us, hl with | [_], _ => rfl
theorem sc_is_list : FnScope ["thing"] ["thing"] (C8.fnScope s_is_list) := ⟨rfl, rfl, rfl, by decide +kernel, rfl, by decide +kernel, by decide +kernel⟩
def m_is_list : SM := (sRet (eP1 (isD [.list, .tuple]) (eP1 fgP (eV 0))))
def F_is_list : Fn := defF 1 m_is_list
include hK hG hCT in
theorem ok_is_list {fa : Addr} {fd : FuncData} (F : FnP K "is_list" s_is_list fa fd) (b_isinstance : mg "isinstance" = none) (b_list : mg "list" = none) (b_tuple : mg "tuple" = none) : FnOk P w K mg base (L2.CX P w) 1 fa fd ["thing"] (spF g 1 (.own []) F_is_list) :=
  def_ok (caps := []) (Γ' := [.un]) (Γb := []) (Γc := []) F sc_is_list (.inr rfl) fun cdv hcv A outer s0 H E B hr => by
    have hN : (["thing"] : List Str).Nodup := sc_is_list.nd
    have hr1 := hr
    have tk := takes_of (X := cxOf (L2.CX P w) P w K mg base ["thing"] "is_list" (C8.fnScope s_is_list) fa cdv A outer s0 H E) rfl rfl rfl rfl
    exact (xs_one (xs_ret (xe_isiT (ts := [.list, .tuple]) hK (xe_le (m := .sh) (m' := .bor) (xe_fg (xe_v 0 rfl)) trivial) (.cons ⟨b_list, by decide +kernel, rfl, by decide, by decide⟩ rfl (.cons ⟨b_tuple, by decide +kernel, rfl, by decide, by decide⟩ rfl .nil)) rfl b_isinstance) rfl (.inl rfl) rfl))
theorem bd_is_ascending : BindE "is_ascending" "is_ascending" (C8.fnArgs s_is_ascending) (C8.fnBody s_is_ascending) (C8.fnScope s_is_ascending) ["things"] := fun _ _ _ _ _ _ us hl => match us, hl with | [_], _ => rfl
theorem sc_is_ascending : FnScope ["things", "one", "other"] ["things"] (C8.fnScope s_is_ascending) := ⟨rfl, rfl, rfl, by decide +kernel, rfl, by decide +kernel, by decide +kernel⟩
def m_is_ascending : SM := (sRet (eP1 allB (eComp 3 (itA fnZip (eCons (eP1 fgP (eV 0)) (eCons (eSl slA (eP1 fgP (eV 0)) (poE (eC (.int 1))) poN) eNil))) (tgT [(tgN 1), (tgN 2)]) tYesM (eP2 ltI (eV 1) (eV 2)))))
def F_is_ascending : Fn := defF 3 m_is_ascending
include hK hG hCT in
theorem ok_is_ascending {fa : Addr} {fd : FuncData} (F : FnP K "is_ascending" s_is_ascending fa fd) (b_all : mg "all" = none) (b_zip : mg "zip" = none) : FnOk P w K mg base (L2.CX P w) 1 fa fd ["things"] (spF g 1 (.own []) F_is_ascending) :=
  def_ok (caps := []) (Γ' := [.un, .un, .un]) (Γb := []) (Γc := []) F sc_is_ascending (.inr rfl) fun cdv hcv A outer s0 H E B hr => by
    have hN : (["things", "one", "other"] : List Str).Nodup := sc_is_ascending.nd
    have hr1 := hr
    have tk := takes_of (X := cxOf (L2.CX P w) P w K mg base ["things", "one", "other"] "is_ascending" (C8.fnScope s_is_ascending) fa cdv A outer s0 H E) rfl rfl rfl rfl
    exact (xs_one (xs_ret (xe_bi (cr_all rfl) k_all (xe_le (m := (.own [])) (m' := .bor) (xe_comp (m := .own []) (own := [("one", 1), ("other", 2)]) hN rfl (xi_zip hK rfl b_zip (xa_cons (xe_le (m := .sh) (m' := .bs) (xe_fg (xe_v 0 rfl)) trivial) (xa_cons (xe_le (m := .sh) (m' := .bs) (xe_slA hK (xe_fg (xe_v 0 rfl)) (xo_some (xe_le (m := (.own [])) (m' := .bor) xe_int trivial)) xo_none) trivial) xa_nil))) (by kernel_rfl) (fun s1 H1 C1 cl1 fp1 D1 => (xg_tup hK rfl (xgs_cons (xg_name (c := false) 1 hN) (xgs_cons (xg_name (c := false) 2 hN) xgs_nil)))) (fun s1 H1 C1 cl1 fp1 D1 => xts_nil) (fun s1 H1 C1 cl1 fp1 D1 => (xe_cmp op_lt k_lt (xe_le (m := .sh) (m' := .bor) (xe_v 1 rfl) trivial) (xe_le (m := .sh) (m' := .bor) (xe_v 2 rfl) trivial) (nomark _)))) trivial) b_all (by decide +kernel)) rfl (.inl rfl) rfl))
theorem bd_need_numbers : BindE "need_numbers" "need_numbers" (C8.fnArgs s_need_numbers) (C8.fnBody s_need_numbers) (C8.fnScope s_need_numbers) ["numbers"] := fun _ _ _ _ _ _ us hl => match us, hl with | [_], _ => rfl
theorem sc_need_numbers : FnScope ["numbers", "one"] ["numbers"] (C8.fnScope s_need_numbers) := ⟨rfl, rfl, rfl, by decide +kernel, rfl, by decide +kernel, by decide +kernel⟩
def m_need_numbers : SM := (sSeq (sIf (tOr (tNot (tTru (eCall F_is_list (eCons (eV 0) eNil)))) (tOr (tB (eP2 eqD (eP1 lenD (eP1 fgP (eV 0))) (eC (.int 0)))) (tNot (tTru (eP1 allB (eComp 2 (itS (eP1 fgP (eV 0))) (tgN 1) tYesM (eAnd (eCall F_is_whole (eCons (eV 1) eNil)) (eP2 gtI (eV 1) (eC (.int 0)))))))))) (sRaise1 "BadNumbers" "numbers" (eV 0)) sSkip) (sSeq (sIf (tNot (tTru (eCall F_is_ascending (eCons (eV 0) eNil)))) (sRaise1 "BadNumbers" "numbers" (eV 0)) sSkip) (sRet (eP1 tupleD (eP1 fgP (eV 0))))))
def F_need_numbers : Fn := defF 2 m_need_numbers
include hK hG hCT in
theorem ok_need_numbers {fa : Addr} {fd : FuncData} (F : FnP K "need_numbers" s_need_numbers fa fd) (b_all : mg "all" = none) (b_len : mg "len" = none) (b_tuple : mg "tuple" = none) (A_is_ascending : FnAt P w K mg base g 2 "is_ascending" 1 (.own []) F_is_ascending) (A_is_list : FnAt P w K mg base g 2 "is_list" 1 (.own []) F_is_list) (A_is_whole : FnAt P w K mg base g 2 "is_whole" 1 (.own []) F_is_whole) (EX_BadNumbers : ExAt P w K mg base "BadNumbers" "numbers") : FnOk P w K mg base (L2.CX P w) 3 fa fd ["numbers"] (spF g 1 .sh F_need_numbers) :=
  def_ok (caps := []) (Γ' := [.un, .un]) (Γb := []) (Γc := []) F sc_need_numbers (.inl rfl) fun cdv hcv A outer s0 H E B hr => by
    have hN : (["numbers", "one"] : List Str).Nodup := sc_need_numbers.nd
    have hr1 := hr
    have tk := takes_of (X := cxOf (L2.CX P w) P w K mg base ["numbers", "one"] "need_numbers" (C8.fnScope s_need_numbers) fa cdv A outer s0 H E) rfl rfl rfl rfl
    exact (xs_cons (xs_if (PW.pt (xw_or (xt_not (xt_truth hK (xe_le (m := (.own [])) (m' := .bor) (xe_call (ms := [.bor]) A_is_list hr1 tk (xa_cons (xe_le (m := .sh) (m' := .bor) (xe_v 0 rfl) trivial) xa_nil)) trivial))) (xw_or (xt_cmp (op_eqD (hu64 hr1)) (k_eq hK) (xe_le (m := (.own [])) (m' := .bor) (xe_bi call_len (k_len hK) (xe_le (m := .sh) (m' := .bor) (xe_fg (xe_v 0 rfl)) trivial) b_len (by decide +kernel)) trivial) (xe_le (m := (.own [])) (m' := .bor) xe_int trivial) (nomark _)) (xw_one (xt_not (xt_truth hK (xe_le (m := (.own [])) (m' := .bor) (xe_bi (cr_all rfl) k_all (xe_le (m := (.own [])) (m' := .bor) (xe_comp (m := .own []) (own := [("one", 1)]) hN rfl (xi_seq hK (xe_le (m := .sh) (m' := .bs) (xe_fg (xe_v 0 rfl)) trivial)) (by kernel_rfl) (fun s1 H1 C1 cl1 fp1 D1 => (xg_name (c := false) 1 hN)) (fun s1 H1 C1 cl1 fp1 D1 => xts_nil) (fun s1 H1 C1 cl1 fp1 D1 => (xe_and (xe_le (m := (.own [])) (m' := .bor) (xe_call (ms := [.bor]) A_is_whole hr1 takes0 (xa_cons (xe_le (m := .sh) (m' := .bor) (xe_v 1 rfl) trivial) xa_nil)) trivial) (xe_one (xe_cmp op_gt k_gt (xe_le (m := .sh) (m' := .bor) (xe_v 1 rfl) trivial) (xe_le (m := (.own [])) (m' := .bor) xe_int trivial) (nomark _)))))) trivial) b_all (by decide +kernel)) trivial))))))) (xs_one (xs_raise EX_BadNumbers (hr1.mono (by decide)) tk rfl hG (xe_v 0 rfl))) xs_nil rfl) (xs_cons (xs_if (xt_not (xt_truth hK (xe_le (m := (.own [])) (m' := .bor) (xe_call (ms := [.bor]) A_is_ascending hr1 tk (xa_cons (xe_le (m := .sh) (m' := .bor) (xe_v 0 rfl) trivial) xa_nil)) trivial))) (xs_one (xs_raise EX_BadNumbers (hr1.mono (by decide)) tk rfl hG (xe_v 0 rfl))) xs_nil rfl) (xs_one (xs_ret (xe_ty call_tuple_of (k_tuple hK) (xe_le (m := .sh) (m' := .bs) (xe_fg (xe_v 0 rfl)) trivial) b_tuple (by decide +kernel)) rfl (.inl rfl) rfl))))
theorem bd_is_number : BindE "is_number" "is_number" (C8.fnArgs s_is_number) (C8.fnBody s_is_number) (C8.fnScope s_is_number) ["thing"] := fun _ _ _ _ _ _ us hl => match us, hl with | [_], _ => rfl
theorem sc_is_number : FnScope ["thing"] ["thing"] (C8.fnScope s_is_number) := ⟨rfl, rfl, rfl, by decide +kernel, rfl, by decide +kernel, by decide +kernel⟩
def m_is_number : SM := (sRet (eAnd (eCall F_is_whole (eCons (eV 0) eNil)) (eP2 geI (eV 0) (eC (.int 0)))))
def F_is_number : Fn := defF 1 m_is_number
include hK hG hCT in
theorem ok_is_number {fa : Addr} {fd : FuncData} (F : FnP K "is_number" s_is_number fa fd) (A_is_whole : FnAt P w K mg base g 1 "is_whole" 1 (.own []) F_is_whole) : FnOk P w K mg base (L2.CX P w) 2 fa fd ["thing"] (spF g 1 (.own []) F_is_number) :=
  def_ok (caps := []) (Γ' := [.un]) (Γb := []) (Γc := []) F sc_is_number (.inr rfl) fun cdv hcv A outer s0 H E B hr => by
    have hN : (["thing"] : List Str).Nodup := sc_is_number.nd
    have hr1 := hr
    have tk := takes_of (X := cxOf (L2.CX P w) P w K mg base ["thing"] "is_number" (C8.fnScope s_is_number) fa cdv A outer s0 H E) rfl rfl rfl rfl
    exact (xs_one (xs_ret (xe_and (xe_le (m := (.own [])) (m' := .bor) (xe_call (ms := [.bor]) A_is_whole hr1 tk (xa_cons (xe_le (m := .sh) (m' := .bor) (xe_v 0 rfl) trivial) xa_nil)) trivial) (xe_one (xe_cmp op_ge k_ge (xe_le (m := .sh) (m' := .bor) (xe_v 0 rfl) trivial) (xe_le (m := (.own [])) (m' := .bor) xe_int trivial) (nomark _)))) rfl (.inl rfl) rfl))
theorem bd_is_row : BindE "is_row" "is_row" (C8.fnArgs s_is_row) (C8.fnBody s_is_row) (C8.fnScope s_is_row) ["thing", "many"] := fun _ _ _ _ _ _ us hl => match us, hl with | [_, _], _ => rfl
theorem sc_is_row : FnScope ["thing", "many"] ["thing", "many"] (C8.fnScope s_is_row) := ⟨rfl, rfl, rfl, by decide +kernel, rfl, by decide +kernel, by decide +kernel⟩
def m_is_row : SM := (sRet (eAnd (eCall F_is_list (eCons (eV 0) eNil)) (eP2 eqD (eP1 lenD (eP1 fgP (eV 0))) (eV 1))))
def F_is_row : Fn := defF 2 m_is_row
include hK hG hCT in
theorem ok_is_row {fa : Addr} {fd : FuncData} (F : FnP K "is_row" s_is_row fa fd) (b_len : mg "len" = none) (A_is_list : FnAt P w K mg base g 1 "is_list" 1 (.own []) F_is_list) : FnOk P w K mg base (L2.CX P w) 2 fa fd ["thing", "many"] (spF g 2 (.own []) F_is_row) :=
  def_ok (caps := []) (Γ' := [.un, .un]) (Γb := []) (Γc := []) F sc_is_row (.inr rfl) fun cdv hcv A outer s0 H E B hr => by
    have hN : (["thing", "many"] : List Str).Nodup := sc_is_row.nd
    have hr1 := hr
    have tk := takes_of (X := cxOf (L2.CX P w) P w K mg base ["thing", "many"] "is_row" (C8.fnScope s_is_row) fa cdv A outer s0 H E) rfl rfl rfl rfl
    exact (xs_one (xs_ret (xe_and (xe_le (m := (.own [])) (m' := .bor) (xe_call (ms := [.bor]) A_is_list hr1 tk (xa_cons (xe_le (m := .sh) (m' := .bor) (xe_v 0 rfl) trivial) xa_nil)) trivial) (xe_one (xe_cmp (op_eqD (hu64 hr1)) (k_eq hK) (xe_le (m := (.own [])) (m' := .bor) (xe_bi call_len (k_len hK) (xe_le (m := .sh) (m' := .bor) (xe_fg (xe_v 0 rfl)) trivial) b_len (by decide +kernel)) trivial) (xe_le (m := .sh) (m' := .bor) (xe_v 1 rfl) trivial) (nomark _)))) rfl (.inl rfl) rfl))
theorem bd_need_sum : BindE "need_sum" "need_sum" (C8.fnArgs s_need_sum) (C8.fnBody s_need_sum) (C8.fnScope s_need_sum) ["number"] := fun _ _ _ _ _ _ us hl => match us, hl with | [_], _ => rfl
theorem sc_need_sum : FnScope ["number"] ["number"] (C8.fnScope s_need_sum) := ⟨rfl, rfl, rfl, by decide +kernel, rfl, by decide +kernel, by decide +kernel⟩
def m_need_sum : SM := (sIf (tNot (tTru (eCall F_is_number (eCons (eV 0) eNil)))) (sRaise1 "BadNumber" "number" (eV 0)) sSkip)
def F_need_sum : Fn := defF 1 m_need_sum
include hK hG hCT in
theorem ok_need_sum {fa : Addr} {fd : FuncData} (F : FnP K "need_sum" s_need_sum fa fd) (A_is_number : FnAt P w K mg base g 2 "is_number" 1 (.own []) F_is_number) (EX_BadNumber : ExAt P w K mg base "BadNumber" "number") : FnOk P w K mg base (L2.CX P w) 3 fa fd ["number"] (spF g 1 (.own []) F_need_sum) :=
  def_ok (caps := []) (Γ' := [.sh]) (Γb := []) (Γc := []) F sc_need_sum (.inr rfl) fun cdv hcv A outer s0 H E B hr => by
    have hN : (["number"] : List Str).Nodup := sc_need_sum.nd
    have hr1 := hr
    have tk := takes_of (X := cxOf (L2.CX P w) P w K mg base ["number"] "need_sum" (C8.fnScope s_need_sum) fa cdv A outer s0 H E) rfl rfl rfl rfl
    exact (xs_one (xs_if (xt_not (xt_truth hK (xe_le (m := (.own [])) (m' := .bor) (xe_call (ms := [.bor]) A_is_number hr1 tk (xa_cons (xe_le (m := .sh) (m' := .bor) (xe_v 0 rfl) trivial) xa_nil)) trivial))) (xs_one (xs_raise EX_BadNumber (hr1.mono (by decide)) tk rfl hG (xe_v 0 rfl))) xs_nil rfl))
theorem bd_is_sum_of : BindE "is_sum_of" "is_sum_of" (C8.fnArgs s_is_sum_of) (C8.fnBody s_is_sum_of) (C8.fnScope s_is_sum_of) ["numbers", "counts", "number"] := fun _ _ _ _ _ _ us hl => match us, hl with | [_, _, _], _ => rfl
theorem sc_is_sum_of : FnScope ["numbers", "counts", "number", "kept", "count"] ["numbers", "counts", "number"] (C8.fnScope s_is_sum_of) := ⟨rfl, rfl, rfl, by decide +kernel, rfl, by decide +kernel, by decide +kernel⟩
def m_is_sum_of : SM := (sSeq (sAsg 3 (eCall F_need_numbers (eCons (eV 0) eNil))) (sSeq (sIf (tOr (tNot (tTru (eCall F_is_row (eCons (eV 1) (eCons (eP1 lenD (eV 3)) eNil))))) (tNot (tTru (eP1 allB (eComp 5 (itS (eP1 fgP (eV 1))) (tgN 4) tYesM (eCall F_is_number (eCons (eV 4) eNil))))))) (sRaise1 "BadCounts" "counts" (eV 1)) sSkip) (sSeq (sExpr (eCall F_need_sum (eCons (eV 2) eNil))) M.stuck)))
def F_is_sum_of : Fn := defF 5 m_is_sum_of
include hK hG hCT in
theorem ok_is_sum_of {fa : Addr} {fd : FuncData} (F : FnP K "is_sum_of" s_is_sum_of fa fd) (b_all : mg "all" = none) (b_len : mg "len" = none) (A_is_number : FnAt P w K mg base g 3 "is_number" 1 (.own []) F_is_number) (A_is_row : FnAt P w K mg base g 3 "is_row" 2 (.own []) F_is_row) (A_need_numbers : FnAt P w K mg base g 3 "need_numbers" 1 .sh F_need_numbers) (A_need_sum : FnAt P w K mg base g 3 "need_sum" 1 (.own []) F_need_sum) (EX_BadCounts : ExAt P w K mg base "BadCounts" "counts") : FnOk P w K mg base (L2.CX P w) 4 fa fd ["numbers", "counts", "number"] (spF g 3 (.own []) F_is_sum_of) :=
  def_ok (caps := []) (Γ' := [.un, .un, .un, .un, .un]) (Γb := []) (Γc := []) F sc_is_sum_of (.inr rfl) fun cdv hcv A outer s0 H E B hr => by
    have hN : (["numbers", "counts", "number", "kept", "count"] : List Str).Nodup := sc_is_sum_of.nd
    have hr1 := hr
    have tk := takes_of (X := cxOf (L2.CX P w) P w K mg base ["numbers", "counts", "number", "kept", "count"] "is_sum_of" (C8.fnScope s_is_sum_of) fa cdv A outer s0 H E) rfl rfl rfl rfl
    exact (xs_cons (xs_asg 3 .sh (xe_call (ms := [.sh]) A_need_numbers hr1 tk (xa_cons (xe_v 0 rfl) xa_nil)) hN) (xs_cons (xs_if (PW.pt (xw_or (xt_not (xt_truth hK (xe_le (m := (.own [])) (m' := .bor) (xe_call (ms := [.bor, .bor]) A_is_row hr1 tk (xa_cons (xe_le (m := .sh) (m' := .bor) (xe_v 1 rfl) trivial) (xa_cons (xe_le (m := (.own [])) (m' := .bor) (xe_bi call_len (k_len hK) (xe_le (m := .sh) (m' := .bor) (xe_v 3 rfl) trivial) b_len (by decide +kernel)) trivial) xa_nil))) trivial))) (xw_one (xt_not (xt_truth hK (xe_le (m := (.own [])) (m' := .bor) (xe_bi (cr_all rfl) k_all (xe_le (m := (.own [])) (m' := .bor) (xe_comp (m := .own []) (own := [("count", 4)]) hN rfl (xi_seq hK (xe_le (m := .sh) (m' := .bs) (xe_fg (xe_v 1 rfl)) trivial)) (by kernel_rfl) (fun s1 H1 C1 cl1 fp1 D1 => (xg_name (c := false) 4 hN)) (fun s1 H1 C1 cl1 fp1 D1 => xts_nil) (fun s1 H1 C1 cl1 fp1 D1 => (xe_call (ms := [.bor]) A_is_number hr1 takes0 (xa_cons (xe_le (m := .sh) (m' := .bor) (xe_v 4 rfl) trivial) xa_nil)))) trivial) b_all (by decide +kernel)) trivial)))))) (xs_one (xs_raise EX_BadCounts (hr1.mono (by decide)) tk rfl hG (xe_v 1 rfl))) xs_nil rfl) (xs_cons (xs_expr (xe_call (ms := [.bor]) A_need_sum hr1 tk (xa_cons (xe_le (m := .sh) (m' := .bor) (xe_v 2 rfl) trivial) xa_nil)) rfl) xss_never)))
def e_3 : EM D := (eCall F_is_sum_of (eCons (eV 0) (eCons (eC .non) (eCons (eC .non) eNil))))
def FL_3 : Fn := lamF 1 e_3
include hK hG hCT in
theorem L_3 (A_is_sum_of : FnAt P w K mg base g 4 "is_sum_of" 3 (.own []) F_is_sum_of) : LamAt P w K mg base g 4 3 1 .sh FL_3 := lamAt_of (l := lam_3) (N := ["odd"]) (ps := ["odd"]) (by rw [hCT]; rfl) rfl (NdefX.nscope_by (by decide +kernel)) (fun _ _ _ _ us hl => match us, hl with | [_], _ => rfl) (fun f c' cl A outer s0 H E B hr => by
    have hN : (["odd"] : List Str).Nodup := by decide
    have hr1 := hr
    have tk := takes_of (X := NdefX.ncx (L2.CX P w) P w K mg base ["odd"] (lam_3.nf cl c') f A outer s0 H E) rfl rfl rfl rfl
    exact (xe_le (m := (.own [])) (m' := .sh) (xe_call (ms := [.bor, .bor, .bor]) A_is_sum_of hr1 tk (xa_cons (xe_le (m := .sh) (m' := .bor) (xe_v 0 rfl) trivial) (xa_cons (xe_le (m := (.own [])) (m' := .bor) xe_non trivial) (xa_cons (xe_le (m := (.own [])) (m' := .bor) xe_non trivial) xa_nil)))) trivial))
theorem bd_table_of : BindE "table_of" "table_of" (C8.fnArgs s_table_of) (C8.fnBody s_table_of) (C8.fnScope s_table_of) ["numbers"] := fun _ _ _ _ _ _ us hl => match us, hl with | [_], _ => rfl
def F_table_of : Fn := fun _ _ => .stuck
theorem A_table_of {fa : Addr} {fd : FuncData} (F : FnP K "table_of" s_table_of fa fd) (hm : mg "table_of" = some (.ref fa)) : FnAt P w K mg base g 1 "table_of" 1 (.own []) F_table_of := fnAt_never F hm bd_table_of
theorem bd_rest_table : BindE "rest_table" "rest_table" (C8.fnArgs s_rest_table) (C8.fnBody s_rest_table) (C8.fnScope s_rest_table) ["numbers"] := fun _ _ _ _ _ _ us hl => match us, hl with | [_], _ => rfl
theorem sc_rest_table : FnScope ["numbers"] ["numbers"] (C8.fnScope s_rest_table) := ⟨rfl, rfl, rfl, by decide +kernel, rfl, by decide +kernel, by decide +kernel⟩
def m_rest_table : SM := (sRet (eP2 idxD (eCall F_table_of (eCons (eCall F_need_numbers (eCons (eV 0) eNil)) eNil)) (eC (.int 0))))
def F_rest_table : Fn := defF 1 m_rest_table
include hK hG hCT in
theorem ok_rest_table {fa : Addr} {fd : FuncData} (F : FnP K "rest_table" s_rest_table fa fd) (A_need_numbers : FnAt P w K mg base g 3 "need_numbers" 1 .sh F_need_numbers) (A_table_of : FnAt P w K mg base g 3 "table_of" 1 (.own []) F_table_of) : FnOk P w K mg base (L2.CX P w) 4 fa fd ["numbers"] (spF g 1 .sh F_rest_table) :=
  def_ok (caps := []) (Γ' := [.un]) (Γb := []) (Γc := []) F sc_rest_table (.inl rfl) fun cdv hcv A outer s0 H E B hr => by
    have hN : (["numbers"] : List Str).Nodup := sc_rest_table.nd
    have hr1 := hr
    have tk := takes_of (X := cxOf (L2.CX P w) P w K mg base ["numbers"] "rest_table" (C8.fnScope s_rest_table) fa cdv A outer s0 H E) rfl rfl rfl rfl
    exact (xs_one (xs_ret (xe_ix ix_seq (k_idx hK) (xe_le (m := (.own [])) (m' := .bs) (xe_call (ms := [.bor]) A_table_of hr1 tk (xa_cons (xe_le (m := .sh) (m' := .bor) (xe_call (ms := [.sh]) A_need_numbers hr1 tk (xa_cons (xe_v 0 rfl) xa_nil)) trivial) xa_nil)) trivial) (xe_le (m := (.own [])) (m' := .bor) xe_int trivial)) rfl (.inl rfl) rfl))
def e_4 : EM D := (eCall F_rest_table (eCons (eV 0) eNil))
def FL_4 : Fn := lamF 1 e_4
include hK hG hCT in
theorem L_4 (A_rest_table : FnAt P w K mg base g 4 "rest_table" 1 .sh F_rest_table) : LamAt P w K mg base g 4 4 1 .sh FL_4 := lamAt_of (l := lam_4) (N := ["odd"]) (ps := ["odd"]) (by rw [hCT]; rfl) rfl (NdefX.nscope_by (by decide +kernel)) (fun _ _ _ _ us hl => match us, hl with | [_], _ => rfl) (fun f c' cl A outer s0 H E B hr => by
    have hN : (["odd"] : List Str).Nodup := by decide
    have hr1 := hr
    have tk := takes_of (X := NdefX.ncx (L2.CX P w) P w K mg base ["odd"] (lam_4.nf cl c') f A outer s0 H E) rfl rfl rfl rfl
    exact (xe_call (ms := [.sh]) A_rest_table hr1 tk (xa_cons (xe_v 0 rfl) xa_nil)))
theorem bd_is_rest_table : BindE "is_rest_table" "is_rest_table" (C8.fnArgs s_is_rest_table) (C8.fnBody s_is_rest_table) (C8.fnScope s_is_rest_table) ["numbers", "thing"] := fun _ _ _ _ _ _ us hl => match us, hl with | [_, _], _ => rfl
theorem sc_is_rest_table : FnScope ["numbers", "thing", "kept", "rest", "told"] ["numbers", "thing"] (C8.fnScope s_is_rest_table) := ⟨rfl, rfl, rfl, by decide +kernel, rfl, by decide +kernel, by decide +kernel⟩
def m_is_rest_table : SM := (sSeq (sAsg 2 (eCall F_need_numbers (eCons (eV 0) eNil))) M.stuck)
def F_is_rest_table : Fn := defF 5 m_is_rest_table
include hK hG hCT in
theorem ok_is_rest_table {fa : Addr} {fd : FuncData} (F : FnP K "is_rest_table" s_is_rest_table fa fd) (A_need_numbers : FnAt P w K mg base g 3 "need_numbers" 1 .sh F_need_numbers) : FnOk P w K mg base (L2.CX P w) 4 fa fd ["numbers", "thing"] (spF g 2 (.own []) F_is_rest_table) :=
  def_ok (caps := []) (Γ' := [.un, .un, .un, .un, .un]) (Γb := []) (Γc := []) F sc_is_rest_table (.inr rfl) fun cdv hcv A outer s0 H E B hr => by
    have hN : (["numbers", "thing", "kept", "rest", "told"] : List Str).Nodup := sc_is_rest_table.nd
    have hr1 := hr
    have tk := takes_of (X := cxOf (L2.CX P w) P w K mg base ["numbers", "thing", "kept", "rest", "told"] "is_rest_table" (C8.fnScope s_is_rest_table) fa cdv A outer s0 H E) rfl rfl rfl rfl
    exact (xs_cons (xs_asg 2 .sh (xe_call (ms := [.sh]) A_need_numbers hr1 tk (xa_cons (xe_v 0 rfl) xa_nil)) hN) xss_never)
def e_5 : EM D := (eCall F_is_rest_table (eCons (eV 0) (eCons (eC .non) eNil)))
def FL_5 : Fn := lamF 1 e_5
include hK hG hCT in
theorem L_5 (A_is_rest_table : FnAt P w K mg base g 4 "is_rest_table" 2 (.own []) F_is_rest_table) : LamAt P w K mg base g 4 5 1 .sh FL_5 := lamAt_of (l := lam_5) (N := ["odd"]) (ps := ["odd"]) (by rw [hCT]; rfl) rfl (NdefX.nscope_by (by decide +kernel)) (fun _ _ _ _ us hl => match us, hl with | [_], _ => rfl) (fun f c' cl A outer s0 H E B hr => by
    have hN : (["odd"] : List Str).Nodup := by decide
    have hr1 := hr
    have tk := takes_of (X := NdefX.ncx (L2.CX P w) P w K mg base ["odd"] (lam_5.nf cl c') f A outer s0 H E) rfl rfl rfl rfl
    exact (xe_le (m := (.own [])) (m' := .sh) (xe_call (ms := [.bor, .bor]) A_is_rest_table hr1 tk (xa_cons (xe_le (m := .sh) (m' := .bor) (xe_v 0 rfl) trivial) (xa_cons (xe_le (m := (.own [])) (m' := .bor) xe_non trivial) xa_nil))) trivial))
theorem bd_summed_or_table : BindE "summed_or_table" "summed_or_table" (C8.fnArgs s_summed_or_table) (C8.fnBody s_summed_or_table) (C8.fnScope s_summed_or_table) ["numbers", "number"] := fun _ _ _ _ _ _ us hl => match us, hl with | [_, _], _ => rfl
theorem sc_summed_or_table : FnScope ["numbers", "number", "kept", "table"] ["numbers", "number"] (C8.fnScope s_summed_or_table) := ⟨rfl, rfl, rfl, by decide +kernel, rfl, by decide +kernel, by decide +kernel⟩
def m_summed_or_table : SM := (sSeq (sAsg 2 (eCall F_need_numbers (eCons (eV 0) eNil))) (sSeq (sExpr (eCall F_need_sum (eCons (eV 1) eNil))) M.stuck))
def F_summed_or_table : Fn := defF 4 m_summed_or_table
include hK hG hCT in
theorem ok_summed_or_table {fa : Addr} {fd : FuncData} (F : FnP K "summed_or_table" s_summed_or_table fa fd) (A_need_numbers : FnAt P w K mg base g 3 "need_numbers" 1 .sh F_need_numbers) (A_need_sum : FnAt P w K mg base g 3 "need_sum" 1 (.own []) F_need_sum) : FnOk P w K mg base (L2.CX P w) 4 fa fd ["numbers", "number"] (spF g 2 (.own []) F_summed_or_table) :=
  def_ok (caps := []) (Γ' := [.un, .un, .un, .un]) (Γb := []) (Γc := []) F sc_summed_or_table (.inr rfl) fun cdv hcv A outer s0 H E B hr => by
    have hN : (["numbers", "number", "kept", "table"] : List Str).Nodup := sc_summed_or_table.nd
    have hr1 := hr
    have tk := takes_of (X := cxOf (L2.CX P w) P w K mg base ["numbers", "number", "kept", "table"] "summed_or_table" (C8.fnScope s_summed_or_table) fa cdv A outer s0 H E) rfl rfl rfl rfl
    exact (xs_cons (xs_asg 2 .sh (xe_call (ms := [.sh]) A_need_numbers hr1 tk (xa_cons (xe_v 0 rfl) xa_nil)) hN) (xs_cons (xs_expr (xe_call (ms := [.bor]) A_need_sum hr1 tk (xa_cons (xe_le (m := .sh) (m' := .bor) (xe_v 1 rfl) trivial) xa_nil)) rfl) xss_never))
def e_6 : EM D := (eCall F_summed_or_table (eCons (eV 0) (eCons (eC .non) eNil)))
def FL_6 : Fn := lamF 1 e_6
include hK hG hCT in
theorem L_6 (A_summed_or_table : FnAt P w K mg base g 4 "summed_or_table" 2 (.own []) F_summed_or_table) : LamAt P w K mg base g 4 6 1 .sh FL_6 := lamAt_of (l := lam_6) (N := ["odd"]) (ps := ["odd"]) (by rw [hCT]; rfl) rfl (NdefX.nscope_by (by decide +kernel)) (fun _ _ _ _ us hl => match us, hl with | [_], _ => rfl) (fun f c' cl A outer s0 H E B hr => by
    have hN : (["odd"] : List Str).Nodup := by decide
    have hr1 := hr
    have tk := takes_of (X := NdefX.ncx (L2.CX P w) P w K mg base ["odd"] (lam_6.nf cl c') f A outer s0 H E) rfl rfl rfl rfl
    exact (xe_le (m := (.own [])) (m' := .sh) (xe_call (ms := [.bor, .bor]) A_summed_or_table hr1 tk (xa_cons (xe_le (m := .sh) (m' := .bor) (xe_v 0 rfl) trivial) (xa_cons (xe_le (m := (.own [])) (m' := .bor) xe_non trivial) xa_nil))) trivial))
theorem bd_gaps : BindE "gaps" "gaps" (C8.fnArgs s_gaps) (C8.fnBody s_gaps) (C8.fnScope s_gaps) ["numbers"] := fun _ _ _ _ _ _ us hl => match us, hl with | [_], _ => rfl
theorem sc_gaps : FnScope ["numbers", "kept", "divisor"] ["numbers"] (C8.fnScope s_gaps) := ⟨rfl, rfl, rfl, by decide +kernel, rfl, by decide +kernel, by decide +kernel⟩
def m_gaps : SM := (sSeq (sAsg 1 (eCall F_need_numbers (eCons (eV 0) eNil))) M.stuck)
def F_gaps : Fn := defF 3 m_gaps
include hK hG hCT in
theorem ok_gaps {fa : Addr} {fd : FuncData} (F : FnP K "gaps" s_gaps fa fd) (A_need_numbers : FnAt P w K mg base g 3 "need_numbers" 1 .sh F_need_numbers) : FnOk P w K mg base (L2.CX P w) 4 fa fd ["numbers"] (spF g 1 (.own []) F_gaps) :=
  def_ok (caps := []) (Γ' := [.un, .un, .un]) (Γb := []) (Γc := []) F sc_gaps (.inr rfl) fun cdv hcv A outer s0 H E B hr => by
    have hN : (["numbers", "kept", "divisor"] : List Str).Nodup := sc_gaps.nd
    have hr1 := hr
    have tk := takes_of (X := cxOf (L2.CX P w) P w K mg base ["numbers", "kept", "divisor"] "gaps" (C8.fnScope s_gaps) fa cdv A outer s0 H E) rfl rfl rfl rfl
    exact (xs_cons (xs_asg 1 .sh (xe_call (ms := [.sh]) A_need_numbers hr1 tk (xa_cons (xe_v 0 rfl) xa_nil)) hN) xss_never)
def e_7 : EM D := (eCall F_gaps (eCons (eV 0) eNil))
def FL_7 : Fn := lamF 1 e_7
include hK hG hCT in
theorem L_7 (A_gaps : FnAt P w K mg base g 4 "gaps" 1 (.own []) F_gaps) : LamAt P w K mg base g 4 7 1 .sh FL_7 := lamAt_of (l := lam_7) (N := ["odd"]) (ps := ["odd"]) (by rw [hCT]; rfl) rfl (NdefX.nscope_by (by decide +kernel)) (fun _ _ _ _ us hl => match us, hl with | [_], _ => rfl) (fun f c' cl A outer s0 H E B hr => by
    have hN : (["odd"] : List Str).Nodup := by decide
    have hr1 := hr
    have tk := takes_of (X := NdefX.ncx (L2.CX P w) P w K mg base ["odd"] (lam_7.nf cl c') f A outer s0 H E) rfl rfl rfl rfl
    exact (xe_le (m := (.own [])) (m' := .sh) (xe_call (ms := [.bor]) A_gaps hr1 tk (xa_cons (xe_le (m := .sh) (m' := .bor) (xe_v 0 rfl) trivial) xa_nil)) trivial))
theorem bd_greatest_gap : BindE "greatest_gap" "greatest_gap" (C8.fnArgs s_greatest_gap) (C8.fnBody s_greatest_gap) (C8.fnScope s_greatest_gap) ["numbers"] := fun _ _ _ _ _ _ us hl => match us, hl with | [_], _ => rfl
theorem sc_greatest_gap : FnScope ["numbers", "kept"] ["numbers"] (C8.fnScope s_greatest_gap) := ⟨rfl, rfl, rfl, by decide +kernel, rfl, by decide +kernel, by decide +kernel⟩
def m_greatest_gap : SM := (sSeq (sAsg 1 (eCall F_need_numbers (eCons (eV 0) eNil))) M.stuck)
def F_greatest_gap : Fn := defF 2 m_greatest_gap
include hK hG hCT in
theorem ok_greatest_gap {fa : Addr} {fd : FuncData} (F : FnP K "greatest_gap" s_greatest_gap fa fd) (A_need_numbers : FnAt P w K mg base g 3 "need_numbers" 1 .sh F_need_numbers) : FnOk P w K mg base (L2.CX P w) 4 fa fd ["numbers"] (spF g 1 (.own []) F_greatest_gap) :=
  def_ok (caps := []) (Γ' := [.un, .un]) (Γb := []) (Γc := []) F sc_greatest_gap (.inr rfl) fun cdv hcv A outer s0 H E B hr => by
    have hN : (["numbers", "kept"] : List Str).Nodup := sc_greatest_gap.nd
    have hr1 := hr
    have tk := takes_of (X := cxOf (L2.CX P w) P w K mg base ["numbers", "kept"] "greatest_gap" (C8.fnScope s_greatest_gap) fa cdv A outer s0 H E) rfl rfl rfl rfl
    exact (xs_cons (xs_asg 1 .sh (xe_call (ms := [.sh]) A_need_numbers hr1 tk (xa_cons (xe_v 0 rfl) xa_nil)) hN) xss_never)
def e_8 : EM D := (eCall F_greatest_gap (eCons (eV 0) eNil))
def FL_8 : Fn := lamF 1 e_8
include hK hG hCT in
theorem L_8 (A_greatest_gap : FnAt P w K mg base g 4 "greatest_gap" 1 (.own []) F_greatest_gap) : LamAt P w K mg base g 4 8 1 .sh FL_8 := lamAt_of (l := lam_8) (N := ["odd"]) (ps := ["odd"]) (by rw [hCT]; rfl) rfl (NdefX.nscope_by (by decide +kernel)) (fun _ _ _ _ us hl => match us, hl with | [_], _ => rfl) (fun f c' cl A outer s0 H E B hr => by
    have hN : (["odd"] : List Str).Nodup := by decide
    have hr1 := hr
    have tk := takes_of (X := NdefX.ncx (L2.CX P w) P w K mg base ["odd"] (lam_8.nf cl c') f A outer s0 H E) rfl rfl rfl rfl
    exact (xe_le (m := (.own [])) (m' := .sh) (xe_call (ms := [.bor]) A_greatest_gap hr1 tk (xa_cons (xe_le (m := .sh) (m' := .bor) (xe_v 0 rfl) trivial) xa_nil)) trivial))
theorem bd_sums_set : BindE "sums_set" "sums_set" (C8.fnArgs s_sums_set) (C8.fnBody s_sums_set) (C8.fnScope s_sums_set) ["numbers"] := fun _ _ _ _ _ _ us hl => match us, hl with | [_], _ => rfl
theorem sc_sums_set : FnScope ["numbers", "kept", "table", "most", "told"] ["numbers"] (C8.fnScope s_sums_set) := ⟨rfl, rfl, rfl, by decide +kernel, rfl, by decide +kernel, by decide +kernel⟩
def m_sums_set : SM := (sSeq (sAsg 1 (eCall F_need_numbers (eCons (eV 0) eNil))) M.stuck)
def F_sums_set : Fn := defF 5 m_sums_set
include hK hG hCT in
theorem ok_sums_set {fa : Addr} {fd : FuncData} (F : FnP K "sums_set" s_sums_set fa fd) (A_need_numbers : FnAt P w K mg base g 3 "need_numbers" 1 .sh F_need_numbers) : FnOk P w K mg base (L2.CX P w) 4 fa fd ["numbers"] (spF g 1 (.own []) F_sums_set) :=
  def_ok (caps := [2]) (Γ' := [.un, .un, .un, .un, .un]) (Γb := []) (Γc := []) F sc_sums_set (.inr rfl) fun cdv hcv A outer s0 H E B hr => by
    have hN : (["numbers", "kept", "table", "most", "told"] : List Str).Nodup := sc_sums_set.nd
    have hr1 := hr
    have tk := takes_of (X := cxOf (L2.CX P w) P w K mg base ["numbers", "kept", "table", "most", "told"] "sums_set" (C8.fnScope s_sums_set) fa cdv A outer s0 H E) rfl rfl rfl rfl
    exact (xs_cons (xs_asg 1 .sh (xe_call (ms := [.sh]) A_need_numbers hr1 tk (xa_cons (xe_v 0 rfl) xa_nil)) hN) xss_never)
def e_9 : EM D := (eCall F_sums_set (eCons (eV 0) eNil))
def FL_9 : Fn := lamF 1 e_9
include hK hG hCT in
theorem L_9 (A_sums_set : FnAt P w K mg base g 4 "sums_set" 1 (.own []) F_sums_set) : LamAt P w K mg base g 4 9 1 .sh FL_9 := lamAt_of (l := lam_9) (N := ["odd"]) (ps := ["odd"]) (by rw [hCT]; rfl) rfl (NdefX.nscope_by (by decide +kernel)) (fun _ _ _ _ us hl => match us, hl with | [_], _ => rfl) (fun f c' cl A outer s0 H E B hr => by
    have hN : (["odd"] : List Str).Nodup := by decide
    have hr1 := hr
    have tk := takes_of (X := NdefX.ncx (L2.CX P w) P w K mg base ["odd"] (lam_9.nf cl c') f A outer s0 H E) rfl rfl rfl rfl
    exact (xe_le (m := (.own [])) (m' := .sh) (xe_call (ms := [.bor]) A_sums_set hr1 tk (xa_cons (xe_le (m := .sh) (m' := .bor) (xe_v 0 rfl) trivial) xa_nil)) trivial))
theorem bd_needless_numbers : BindE "needless_numbers" "needless_numbers" (C8.fnArgs s_needless_numbers) (C8.fnBody s_needless_numbers) (C8.fnScope s_needless_numbers) ["numbers"] := fun _ _ _ _ _ _ us hl => match us, hl with | [_], _ => rfl
theorem sc_needless_numbers : FnScope ["numbers", "kept", "found", "number", "others", "one"] ["numbers"] (C8.fnScope s_needless_numbers) := ⟨rfl, rfl, rfl, by decide +kernel, rfl, by decide +kernel, by decide +kernel⟩
def m_needless_numbers : SM := (sSeq (sAsg 1 (eCall F_need_numbers (eCons (eV 0) eNil))) M.stuck)
def F_needless_numbers : Fn := defF 6 m_needless_numbers
include hK hG hCT in
theorem ok_needless_numbers {fa : Addr} {fd : FuncData} (F : FnP K "needless_numbers" s_needless_numbers fa fd) (A_need_numbers : FnAt P w K mg base g 3 "need_numbers" 1 .sh F_need_numbers) : FnOk P w K mg base (L2.CX P w) 4 fa fd ["numbers"] (spF g 1 (.own []) F_needless_numbers) :=
  def_ok (caps := []) (Γ' := [.un, .un, .un, .un, .un, .un]) (Γb := []) (Γc := []) F sc_needless_numbers (.inr rfl) fun cdv hcv A outer s0 H E B hr => by
    have hN : (["numbers", "kept", "found", "number", "others", "one"] : List Str).Nodup := sc_needless_numbers.nd
    have hr1 := hr
    have tk := takes_of (X := cxOf (L2.CX P w) P w K mg base ["numbers", "kept", "found", "number", "others", "one"] "needless_numbers" (C8.fnScope s_needless_numbers) fa cdv A outer s0 H E) rfl rfl rfl rfl
    exact (xs_cons (xs_asg 1 .sh (xe_call (ms := [.sh]) A_need_numbers hr1 tk (xa_cons (xe_v 0 rfl) xa_nil)) hN) xss_never)
def e_10 : EM D := (eCall F_needless_numbers (eCons (eV 0) eNil))
def FL_10 : Fn := lamF 1 e_10
include hK hG hCT in
theorem L_10 (A_needless_numbers : FnAt P w K mg base g 4 "needless_numbers" 1 (.own []) F_needless_numbers) : LamAt P w K mg base g 4 10 1 .sh FL_10 := lamAt_of (l := lam_10) (N := ["odd"]) (ps := ["odd"]) (by rw [hCT]; rfl) rfl (NdefX.nscope_by (by decide +kernel)) (fun _ _ _ _ us hl => match us, hl with | [_], _ => rfl) (fun f c' cl A outer s0 H E B hr => by
    have hN : (["odd"] : List Str).Nodup := by decide
    have hr1 := hr
    have tk := takes_of (X := NdefX.ncx (L2.CX P w) P w K mg base ["odd"] (lam_10.nf cl c') f A outer s0 H E) rfl rfl rfl rfl
    exact (xe_le (m := (.own [])) (m' := .sh) (xe_call (ms := [.bor]) A_needless_numbers hr1 tk (xa_cons (xe_le (m := .sh) (m' := .bor) (xe_v 0 rfl) trivial) xa_nil)) trivial))
theorem bd_is_even_gapped : BindE "is_even_gapped" "is_even_gapped" (C8.fnArgs s_is_even_gapped) (C8.fnBody s_is_even_gapped) (C8.fnScope s_is_even_gapped) ["numbers"] := fun _ _ _ _ _ _ us hl => match us, hl with | [_], _ => rfl
theorem sc_is_even_gapped : FnScope ["numbers", "kept", "missing", "most", "one"] ["numbers"] (C8.fnScope s_is_even_gapped) := ⟨rfl, rfl, rfl, by decide +kernel, rfl, by decide +kernel, by decide +kernel⟩
def m_is_even_gapped : SM := (sSeq (sAsg 1 (eCall F_need_numbers (eCons (eV 0) eNil))) M.stuck)
def F_is_even_gapped : Fn := defF 5 m_is_even_gapped
include hK hG hCT in
theorem ok_is_even_gapped {fa : Addr} {fd : FuncData} (F : FnP K "is_even_gapped" s_is_even_gapped fa fd) (A_need_numbers : FnAt P w K mg base g 3 "need_numbers" 1 .sh F_need_numbers) : FnOk P w K mg base (L2.CX P w) 4 fa fd ["numbers"] (spF g 1 (.own []) F_is_even_gapped) :=
  def_ok (caps := []) (Γ' := [.un, .un, .un, .un, .un]) (Γb := []) (Γc := []) F sc_is_even_gapped (.inr rfl) fun cdv hcv A outer s0 H E B hr => by
    have hN : (["numbers", "kept", "missing", "most", "one"] : List Str).Nodup := sc_is_even_gapped.nd
    have hr1 := hr
    have tk := takes_of (X := cxOf (L2.CX P w) P w K mg base ["numbers", "kept", "missing", "most", "one"] "is_even_gapped" (C8.fnScope s_is_even_gapped) fa cdv A outer s0 H E) rfl rfl rfl rfl
    exact (xs_cons (xs_asg 1 .sh (xe_call (ms := [.sh]) A_need_numbers hr1 tk (xa_cons (xe_v 0 rfl) xa_nil)) hN) xss_never)
def e_11 : EM D := (eCall F_is_even_gapped (eCons (eV 0) eNil))
def FL_11 : Fn := lamF 1 e_11
include hK hG hCT in
theorem L_11 (A_is_even_gapped : FnAt P w K mg base g 4 "is_even_gapped" 1 (.own []) F_is_even_gapped) : LamAt P w K mg base g 4 11 1 .sh FL_11 := lamAt_of (l := lam_11) (N := ["odd"]) (ps := ["odd"]) (by rw [hCT]; rfl) rfl (NdefX.nscope_by (by decide +kernel)) (fun _ _ _ _ us hl => match us, hl with | [_], _ => rfl) (fun f c' cl A outer s0 H E B hr => by
    have hN : (["odd"] : List Str).Nodup := by decide
    have hr1 := hr
    have tk := takes_of (X := NdefX.ncx (L2.CX P w) P w K mg base ["odd"] (lam_11.nf cl c') f A outer s0 H E) rfl rfl rfl rfl
    exact (xe_le (m := (.own [])) (m' := .sh) (xe_call (ms := [.bor]) A_is_even_gapped hr1 tk (xa_cons (xe_le (m := .sh) (m' := .bor) (xe_v 0 rfl) trivial) xa_nil)) trivial))
theorem bd_fewest_counts : BindE "fewest_counts" "fewest_counts" (C8.fnArgs s_fewest_counts) (C8.fnBody s_fewest_counts) (C8.fnScope s_fewest_counts) ["numbers", "number"] := fun _ _ _ _ _ _ us hl => match us, hl with | [_, _], _ => rfl
theorem sc_fewest_counts : FnScope ["numbers", "number", "kept", "rows", "wanted", "counts", "left", "index", "one", "count"] ["numbers", "number"] (C8.fnScope s_fewest_counts) := ⟨rfl, rfl, rfl, by decide +kernel, rfl, by decide +kernel, by decide +kernel⟩
def m_fewest_counts : SM := (sSeq (sAsg 2 (eCall F_need_numbers (eCons (eV 0) eNil))) (sSeq (sExpr (eCall F_need_sum (eCons (eV 1) eNil))) M.stuck))
def F_fewest_counts : Fn := defF 10 m_fewest_counts
include hK hG hCT in
theorem ok_fewest_counts {fa : Addr} {fd : FuncData} (F : FnP K "fewest_counts" s_fewest_counts fa fd) (A_need_numbers : FnAt P w K mg base g 3 "need_numbers" 1 .sh F_need_numbers) (A_need_sum : FnAt P w K mg base g 3 "need_sum" 1 (.own []) F_need_sum) : FnOk P w K mg base (L2.CX P w) 4 fa fd ["numbers", "number"] (spF g 2 (.own []) F_fewest_counts) :=
  def_ok (caps := []) (Γ' := [.un, .un, .un, .un, .un, .un, .un, .un, .un, .un]) (Γb := []) (Γc := []) F sc_fewest_counts (.inr rfl) fun cdv hcv A outer s0 H E B hr => by
    have hN : (["numbers", "number", "kept", "rows", "wanted", "counts", "left", "index", "one", "count"] : List Str).Nodup := sc_fewest_counts.nd
    have hr1 := hr
    have tk := takes_of (X := cxOf (L2.CX P w) P w K mg base ["numbers", "number", "kept", "rows", "wanted", "counts", "left", "index", "one", "count"] "fewest_counts" (C8.fnScope s_fewest_counts) fa cdv A outer s0 H E) rfl rfl rfl rfl
    exact (xs_cons (xs_asg 2 .sh (xe_call (ms := [.sh]) A_need_numbers hr1 tk (xa_cons (xe_v 0 rfl) xa_nil)) hN) (xs_cons (xs_expr (xe_call (ms := [.bor]) A_need_sum hr1 tk (xa_cons (xe_le (m := .sh) (m' := .bor) (xe_v 1 rfl) trivial) xa_nil)) rfl) xss_never))
def e_12 : EM D := (eCallK F_fewest_counts [1, 0] eNil (eCons (eC .non) (eCons (eV 0) eNil)))
def FL_12 : Fn := lamF 1 e_12
include hK hG hCT in
theorem L_12 (AK_fewest_counts_0_number_numbers : FnKAt P w K mg base g 4 "fewest_counts" 0 ["number", "numbers"] [1, 0] (.own []) F_fewest_counts) : LamAt P w K mg base g 4 12 1 .sh FL_12 := lamAt_of (l := lam_12) (N := ["odd"]) (ps := ["odd"]) (by rw [hCT]; rfl) rfl (NdefX.nscope_by (by decide +kernel)) (fun _ _ _ _ us hl => match us, hl with | [_], _ => rfl) (fun f c' cl A outer s0 H E B hr => by
    have hN : (["odd"] : List Str).Nodup := by decide
    have hr1 := hr
    have tk := takes_of (X := NdefX.ncx (L2.CX P w) P w K mg base ["odd"] (lam_12.nf cl c') f A outer s0 H E) rfl rfl rfl rfl
    exact (xe_le (m := (.own [])) (m' := .sh) (xe_callK (ms1 := []) (ms2 := [.bor, .bor]) AK_fewest_counts_0_number_numbers hr1 tk xa_nil (xk_cons (xe_le (m := (.own [])) (m' := .bor) xe_non trivial) (xk_cons (xe_le (m := .sh) (m' := .bor) (xe_v 0 rfl) trivial) xk_nil))) trivial))
theorem bd_need_with_one : BindE "need_with_one" "need_with_one" (C8.fnArgs s_need_with_one) (C8.fnBody s_need_with_one) (C8.fnScope s_need_with_one) ["numbers"] := fun _ _ _ _ _ _ us hl => match us, hl with | [_], _ => rfl
theorem sc_need_with_one : FnScope ["numbers", "kept"] ["numbers"] (C8.fnScope s_need_with_one) := ⟨rfl, rfl, rfl, by decide +kernel, rfl, by decide +kernel, by decide +kernel⟩
def m_need_with_one : SM := (sSeq (sAsg 1 (eCall F_need_numbers (eCons (eV 0) eNil))) (sSeq (sIf (tB (eP2 neD (eP2 idxD (eV 1) (eC (.int 0))) (eC (.int 1)))) (sRaise1 "BadNumbers" "numbers" (eV 0)) sSkip) (sRet (eV 1))))
def F_need_with_one : Fn := defF 2 m_need_with_one
include hK hG hCT in
theorem ok_need_with_one {fa : Addr} {fd : FuncData} (F : FnP K "need_with_one" s_need_with_one fa fd) (A_need_numbers : FnAt P w K mg base g 3 "need_numbers" 1 .sh F_need_numbers) (EX_BadNumbers : ExAt P w K mg base "BadNumbers" "numbers") : FnOk P w K mg base (L2.CX P w) 4 fa fd ["numbers"] (spF g 1 .sh F_need_with_one) :=
  def_ok (caps := []) (Γ' := [.un, .un]) (Γb := []) (Γc := []) F sc_need_with_one (.inl rfl) fun cdv hcv A outer s0 H E B hr => by
    have hN : (["numbers", "kept"] : List Str).Nodup := sc_need_with_one.nd
    have hr1 := hr
    have tk := takes_of (X := cxOf (L2.CX P w) P w K mg base ["numbers", "kept"] "need_with_one" (C8.fnScope s_need_with_one) fa cdv A outer s0 H E) rfl rfl rfl rfl
    exact (xs_cons (xs_asg 1 .sh (xe_call (ms := [.sh]) A_need_numbers hr1 tk (xa_cons (xe_v 0 rfl) xa_nil)) hN) (xs_cons (xs_if (xt_cmp (op_neD (hu64 hr1)) (k_ne hK) (xe_le (m := .sh) (m' := .bor) (xe_ix ix_seq (k_idx hK) (xe_le (m := .sh) (m' := .bs) (xe_v 1 rfl) trivial) (xe_le (m := (.own [])) (m' := .bor) xe_int trivial)) trivial) (xe_le (m := (.own [])) (m' := .bor) xe_int trivial) (nomark _)) (xs_one (xs_raise EX_BadNumbers (hr1.mono (by decide)) tk rfl hG (xe_v 0 rfl))) xs_nil rfl) (xs_one (xs_ret (xe_v 1 rfl) rfl (.inl rfl) rfl))))
theorem bd_greedy_counts : BindE "greedy_counts" "greedy_counts" (C8.fnArgs s_greedy_counts) (C8.fnBody s_greedy_counts) (C8.fnScope s_greedy_counts) ["numbers", "number"] := fun _ _ _ _ _ _ us hl => match us, hl with | [_, _], _ => rfl
theorem sc_greedy_counts : FnScope ["numbers", "number", "kept"] ["numbers", "number"] (C8.fnScope s_greedy_counts) := ⟨rfl, rfl, rfl, by decide +kernel, rfl, by decide +kernel, by decide +kernel⟩
def m_greedy_counts : SM := (sSeq (sAsg 2 (eCall F_need_with_one (eCons (eV 0) eNil))) (sSeq (sExpr (eCall F_need_sum (eCons (eV 1) eNil))) M.stuck))
def F_greedy_counts : Fn := defF 3 m_greedy_counts
include hK hG hCT in
theorem ok_greedy_counts {fa : Addr} {fd : FuncData} (F : FnP K "greedy_counts" s_greedy_counts fa fd) (A_need_sum : FnAt P w K mg base g 4 "need_sum" 1 (.own []) F_need_sum) (A_need_with_one : FnAt P w K mg base g 4 "need_with_one" 1 .sh F_need_with_one) : FnOk P w K mg base (L2.CX P w) 5 fa fd ["numbers", "number"] (spF g 2 (.own []) F_greedy_counts) :=
  def_ok (caps := []) (Γ' := [.un, .un, .un]) (Γb := []) (Γc := []) F sc_greedy_counts (.inr rfl) fun cdv hcv A outer s0 H E B hr => by
    have hN : (["numbers", "number", "kept"] : List Str).Nodup := sc_greedy_counts.nd
    have hr1 := hr
    have tk := takes_of (X := cxOf (L2.CX P w) P w K mg base ["numbers", "number", "kept"] "greedy_counts" (C8.fnScope s_greedy_counts) fa cdv A outer s0 H E) rfl rfl rfl rfl
    exact (xs_cons (xs_asg 2 .sh (xe_call (ms := [.sh]) A_need_with_one hr1 tk (xa_cons (xe_v 0 rfl) xa_nil)) hN) (xs_cons (xs_expr (xe_call (ms := [.bor]) A_need_sum hr1 tk (xa_cons (xe_le (m := .sh) (m' := .bor) (xe_v 1 rfl) trivial) xa_nil)) rfl) xss_never))
def e_13 : EM D := (eCall F_greedy_counts (eCons (eV 0) (eCons (eC .non) eNil)))
def FL_13 : Fn := lamF 1 e_13
include hK hG hCT in
theorem L_13 (A_greedy_counts : FnAt P w K mg base g 5 "greedy_counts" 2 (.own []) F_greedy_counts) : LamAt P w K mg base g 5 13 1 .sh FL_13 := lamAt_of (l := lam_13) (N := ["odd"]) (ps := ["odd"]) (by rw [hCT]; rfl) rfl (NdefX.nscope_by (by decide +kernel)) (fun _ _ _ _ us hl => match us, hl with | [_], _ => rfl) (fun f c' cl A outer s0 H E B hr => by
    have hN : (["odd"] : List Str).Nodup := by decide
    have hr1 := hr
    have tk := takes_of (X := NdefX.ncx (L2.CX P w) P w K mg base ["odd"] (lam_13.nf cl c') f A outer s0 H E) rfl rfl rfl rfl
    exact (xe_le (m := (.own [])) (m' := .sh) (xe_call (ms := [.bor, .bor]) A_greedy_counts hr1 tk (xa_cons (xe_le (m := .sh) (m' := .bor) (xe_v 0 rfl) trivial) (xa_cons (xe_le (m := (.own [])) (m' := .bor) xe_non trivial) xa_nil))) trivial))
theorem bd_greedy_gap : BindE "greedy_gap" "greedy_gap" (C8.fnArgs s_greedy_gap) (C8.fnBody s_greedy_gap) (C8.fnScope s_greedy_gap) ["numbers"] := fun _ _ _ _ _ _ us hl => match us, hl with | [_], _ => rfl
theorem sc_greedy_gap : FnScope ["numbers", "kept", "most", "fewest", "number"] ["numbers"] (C8.fnScope s_greedy_gap) := ⟨rfl, rfl, rfl, by decide +kernel, rfl, by decide +kernel, by decide +kernel⟩
def m_greedy_gap : SM := (sSeq (sAsg 1 (eCall F_need_with_one (eCons (eV 0) eNil))) M.stuck)
def F_greedy_gap : Fn := defF 5 m_greedy_gap
include hK hG hCT in
theorem ok_greedy_gap {fa : Addr} {fd : FuncData} (F : FnP K "greedy_gap" s_greedy_gap fa fd) (A_need_with_one : FnAt P w K mg base g 4 "need_with_one" 1 .sh F_need_with_one) : FnOk P w K mg base (L2.CX P w) 5 fa fd ["numbers"] (spF g 1 (.own []) F_greedy_gap) :=
  def_ok (caps := []) (Γ' := [.un, .un, .un, .un, .un]) (Γb := []) (Γc := []) F sc_greedy_gap (.inr rfl) fun cdv hcv A outer s0 H E B hr => by
    have hN : (["numbers", "kept", "most", "fewest", "number"] : List Str).Nodup := sc_greedy_gap.nd
    have hr1 := hr
    have tk := takes_of (X := cxOf (L2.CX P w) P w K mg base ["numbers", "kept", "most", "fewest", "number"] "greedy_gap" (C8.fnScope s_greedy_gap) fa cdv A outer s0 H E) rfl rfl rfl rfl
    exact (xs_cons (xs_asg 1 .sh (xe_call (ms := [.sh]) A_need_with_one hr1 tk (xa_cons (xe_v 0 rfl) xa_nil)) hN) xss_never)
def e_14 : EM D := (eCall F_greedy_gap (eCons (eV 0) eNil))
def FL_14 : Fn := lamF 1 e_14
include hK hG hCT in
theorem L_14 (A_greedy_gap : FnAt P w K mg base g 5 "greedy_gap" 1 (.own []) F_greedy_gap) : LamAt P w K mg base g 5 14 1 .sh FL_14 := lamAt_of (l := lam_14) (N := ["odd"]) (ps := ["odd"]) (by rw [hCT]; rfl) rfl (NdefX.nscope_by (by decide +kernel)) (fun _ _ _ _ us hl => match us, hl with | [_], _ => rfl) (fun f c' cl A outer s0 H E B hr => by
    have hN : (["odd"] : List Str).Nodup := by decide
    have hr1 := hr
    have tk := takes_of (X := NdefX.ncx (L2.CX P w) P w K mg base ["odd"] (lam_14.nf cl c') f A outer s0 H E) rfl rfl rfl rfl
    exact (xe_le (m := (.own [])) (m' := .sh) (xe_call (ms := [.bor]) A_greedy_gap hr1 tk (xa_cons (xe_le (m := .sh) (m' := .bor) (xe_v 0 rfl) trivial) xa_nil)) trivial))
def e_15 : EM D := (eCall F_is_sum_of (eCons (eV 1) (eCons (eV 0) (eCons (eC .non) eNil))))
def FL_15 : Fn := lamF 2 e_15
include hK hG hCT in
theorem L_15 (A_is_sum_of : FnAt P w K mg base g 4 "is_sum_of" 3 (.own []) F_is_sum_of) : LamAt P w K mg base g 4 15 1 .sh FL_15 := lamAt_of (l := lam_15) (N := ["odd", "numbers"]) (ps := ["odd"]) (by rw [hCT]; rfl) rfl (NdefX.nscope_by (by decide +kernel)) (fun _ _ _ _ us hl => match us, hl with | [_], _ => rfl) (fun f c' cl A outer s0 H E B hr => by
    have hN : (["odd", "numbers"] : List Str).Nodup := by decide
    have hr1 := hr
    have tk := takes_of (X := NdefX.ncx (L2.CX P w) P w K mg base ["odd", "numbers"] (lam_15.nf cl c') f A outer s0 H E) rfl rfl rfl rfl
    exact (xe_le (m := (.own [])) (m' := .sh) (xe_call (ms := [.bor, .bor, .bor]) A_is_sum_of hr1 tk (xa_cons (xe_le (m := .sh) (m' := .bor) (xe_v 1 rfl) trivial) (xa_cons (xe_le (m := .sh) (m' := .bor) (xe_v 0 rfl) trivial) (xa_cons (xe_le (m := (.own [])) (m' := .bor) xe_non trivial) xa_nil)))) trivial))
def e_16 : EM D := (eCall F_is_sum_of (eCons (eV 1) (eCons (eP2 repD (eLst (eCons (eC (.int 0)) eNil)) (eP1 lenD (eV 1))) (eCons (eV 0) eNil))))
def FL_16 : Fn := lamF 2 e_16
include hK hG hCT in
theorem L_16 (b_len : mg "len" = none) (A_is_sum_of : FnAt P w K mg base g 4 "is_sum_of" 3 (.own []) F_is_sum_of) : LamAt P w K mg base g 4 16 1 .sh FL_16 := lamAt_of (l := lam_16) (N := ["odd", "numbers"]) (ps := ["odd"]) (by rw [hCT]; rfl) rfl (NdefX.nscope_by (by decide +kernel)) (fun _ _ _ _ us hl => match us, hl with | [_], _ => rfl) (fun f c' cl A outer s0 H E B hr => by
    have hN : (["odd", "numbers"] : List Str).Nodup := by decide
    have hr1 := hr
    have tk := takes_of (X := NdefX.ncx (L2.CX P w) P w K mg base ["odd", "numbers"] (lam_16.nf cl c') f A outer s0 H E) rfl rfl rfl rfl
    exact (xe_le (m := (.own [])) (m' := .sh) (xe_call (ms := [.bor, .bor, .bor]) A_is_sum_of hr1 tk (xa_cons (xe_le (m := .sh) (m' := .bor) (xe_v 1 rfl) trivial) (xa_cons (xe_le (m := (.tp [])) (m' := .bor) (xe_bin op_rep k_rep (xe_le (m := (.own [])) (m' := .bs) (xe_lst (ms := [.own []]) (xa_cons xe_int xa_nil)) trivial) (xe_le (m := (.own [])) (m' := .bor) (xe_bi call_len (k_len hK) (xe_le (m := .sh) (m' := .bor) (xe_v 1 rfl) trivial) b_len (by decide +kernel)) trivial)) trivial) (xa_cons (xe_le (m := .sh) (m' := .bor) (xe_v 0 rfl) trivial) xa_nil)))) trivial))
def e_17 : EM D := (eCall F_summed_or_table (eCons (eV 1) (eCons (eV 0) eNil)))
def FL_17 : Fn := lamF 2 e_17
include hK hG hCT in
theorem L_17 (A_summed_or_table : FnAt P w K mg base g 4 "summed_or_table" 2 (.own []) F_summed_or_table) : LamAt P w K mg base g 4 17 1 .sh FL_17 := lamAt_of (l := lam_17) (N := ["odd", "numbers"]) (ps := ["odd"]) (by rw [hCT]; rfl) rfl (NdefX.nscope_by (by decide +kernel)) (fun _ _ _ _ us hl => match us, hl with | [_], _ => rfl) (fun f c' cl A outer s0 H E B hr => by
    have hN : (["odd", "numbers"] : List Str).Nodup := by decide
    have hr1 := hr
    have tk := takes_of (X := NdefX.ncx (L2.CX P w) P w K mg base ["odd", "numbers"] (lam_17.nf cl c') f A outer s0 H E) rfl rfl rfl rfl
    exact (xe_le (m := (.own [])) (m' := .sh) (xe_call (ms := [.bor, .bor]) A_summed_or_table hr1 tk (xa_cons (xe_le (m := .sh) (m' := .bor) (xe_v 1 rfl) trivial) (xa_cons (xe_le (m := .sh) (m' := .bor) (xe_v 0 rfl) trivial) xa_nil))) trivial))
def e_18 : EM D := (eCall F_fewest_counts (eCons (eV 1) (eCons (eV 0) eNil)))
def FL_18 : Fn := lamF 2 e_18
include hK hG hCT in
theorem L_18 (A_fewest_counts : FnAt P w K mg base g 4 "fewest_counts" 2 (.own []) F_fewest_counts) : LamAt P w K mg base g 4 18 1 .sh FL_18 := lamAt_of (l := lam_18) (N := ["odd", "numbers"]) (ps := ["odd"]) (by rw [hCT]; rfl) rfl (NdefX.nscope_by (by decide +kernel)) (fun _ _ _ _ us hl => match us, hl with | [_], _ => rfl) (fun f c' cl A outer s0 H E B hr => by
    have hN : (["odd", "numbers"] : List Str).Nodup := by decide
    have hr1 := hr
    have tk := takes_of (X := NdefX.ncx (L2.CX P w) P w K mg base ["odd", "numbers"] (lam_18.nf cl c') f A outer s0 H E) rfl rfl rfl rfl
    exact (xe_le (m := (.own [])) (m' := .sh) (xe_call (ms := [.bor, .bor]) A_fewest_counts hr1 tk (xa_cons (xe_le (m := .sh) (m' := .bor) (xe_v 1 rfl) trivial) (xa_cons (xe_le (m := .sh) (m' := .bor) (xe_v 0 rfl) trivial) xa_nil))) trivial))
def e_19 : EM D := (eCall F_greedy_counts (eCons (eLst (eCons (eC (.int 1)) (eCons (eC (.int 4)) eNil))) (eCons (eV 0) eNil)))
def FL_19 : Fn := lamF 1 e_19
include hK hG hCT in
theorem L_19 (A_greedy_counts : FnAt P w K mg base g 5 "greedy_counts" 2 (.own []) F_greedy_counts) : LamAt P w K mg base g 5 19 1 .sh FL_19 := lamAt_of (l := lam_19) (N := ["odd"]) (ps := ["odd"]) (by rw [hCT]; rfl) rfl (NdefX.nscope_by (by decide +kernel)) (fun _ _ _ _ us hl => match us, hl with | [_], _ => rfl) (fun f c' cl A outer s0 H E B hr => by
    have hN : (["odd"] : List Str).Nodup := by decide
    have hr1 := hr
    have tk := takes_of (X := NdefX.ncx (L2.CX P w) P w K mg base ["odd"] (lam_19.nf cl c') f A outer s0 H E) rfl rfl rfl rfl
    exact (xe_le (m := (.own [])) (m' := .sh) (xe_call (ms := [.bor, .bor]) A_greedy_counts hr1 tk (xa_cons (xe_le (m := (.own [])) (m' := .bor) (xe_lst (ms := [.own [], .own []]) (xa_cons xe_int (xa_cons xe_int xa_nil))) trivial) (xa_cons (xe_le (m := .sh) (m' := .bor) (xe_v 0 rfl) trivial) xa_nil))) trivial))
def T_lam_1_ask : List (Nat × Fn) := [(3, FL_3), (4, FL_4), (5, FL_5), (6, FL_6), (7, FL_7), (8, FL_8), (9, FL_9), (10, FL_10), (11, FL_11), (12, FL_12), (13, FL_13), (14, FL_14), (15, FL_15), (16, FL_16), (17, FL_17), (18, FL_18), (19, FL_19)]
def e_1 : EM D := (eClo T_lam_1_ask 0 (eCons (eV 1) eNil))
def FL_1 : Fn := lamF 2 e_1
include hK hG hCT in
theorem L_1 (AL_10 : LamAt P w K mg base g 5 10 1 .sh FL_10) (AL_11 : LamAt P w K mg base g 5 11 1 .sh FL_11) (AL_12 : LamAt P w K mg base g 5 12 1 .sh FL_12) (AL_13 : LamAt P w K mg base g 5 13 1 .sh FL_13) (AL_14 : LamAt P w K mg base g 5 14 1 .sh FL_14) (AL_15 : LamAt P w K mg base g 5 15 1 .sh FL_15) (AL_16 : LamAt P w K mg base g 5 16 1 .sh FL_16) (AL_17 : LamAt P w K mg base g 5 17 1 .sh FL_17) (AL_18 : LamAt P w K mg base g 5 18 1 .sh FL_18) (AL_19 : LamAt P w K mg base g 5 19 1 .sh FL_19) (AL_3 : LamAt P w K mg base g 5 3 1 .sh FL_3) (AL_4 : LamAt P w K mg base g 5 4 1 .sh FL_4) (AL_5 : LamAt P w K mg base g 5 5 1 .sh FL_5) (AL_6 : LamAt P w K mg base g 5 6 1 .sh FL_6) (AL_7 : LamAt P w K mg base g 5 7 1 .sh FL_7) (AL_8 : LamAt P w K mg base g 5 8 1 .sh FL_8) (AL_9 : LamAt P w K mg base g 5 9 1 .sh FL_9) : LamAt P w K mg base g 6 1 0 .sh FL_1 := lamAt_of (l := lam_1) (N := ["ask", "odd"]) (ps := ([] : List Str)) (by rw [hCT]; rfl) rfl (NdefX.nscope_by (by decide +kernel)) (fun _ _ _ _ us hl => match us, hl with | [], _ => rfl) (fun f c' cl A outer s0 H E B hr => by
    have hN : (["ask", "odd"] : List Str).Nodup := by decide
    have hr1 := hr
    have tk := takes_of (X := NdefX.ncx (L2.CX P w) P w K mg base ["ask", "odd"] (lam_1.nf cl c') f A outer s0 H E) rfl rfl rfl rfl
    exact (xe_clo (m := .sh) (ms := [.sh]) 0 (tab_cons AL_3 (tab_cons AL_4 (tab_cons AL_5 (tab_cons AL_6 (tab_cons AL_7 (tab_cons AL_8 (tab_cons AL_9 (tab_cons AL_10 (tab_cons AL_11 (tab_cons AL_12 (tab_cons AL_13 (tab_cons AL_14 (tab_cons AL_15 (tab_cons AL_16 (tab_cons AL_17 (tab_cons AL_18 (tab_cons AL_19 tab_nil))))))))))))))))) hr1 tk (xa_cons (xe_v 1 rfl) xa_nil) rfl))
def T_lam_2_ask : List (Nat × Fn) := [(3, FL_3), (4, FL_4), (5, FL_5), (6, FL_6), (7, FL_7), (8, FL_8), (9, FL_9), (10, FL_10), (11, FL_11), (12, FL_12), (13, FL_13), (14, FL_14), (15, FL_15), (16, FL_16), (17, FL_17), (18, FL_18), (19, FL_19)]
def e_2 : EM D := (eClo T_lam_2_ask 0 (eCons (eV 1) eNil))
def FL_2 : Fn := lamF 2 e_2
include hK hG hCT in
theorem L_2 (AL_10 : LamAt P w K mg base g 5 10 1 .sh FL_10) (AL_11 : LamAt P w K mg base g 5 11 1 .sh FL_11) (AL_12 : LamAt P w K mg base g 5 12 1 .sh FL_12) (AL_13 : LamAt P w K mg base g 5 13 1 .sh FL_13) (AL_14 : LamAt P w K mg base g 5 14 1 .sh FL_14) (AL_15 : LamAt P w K mg base g 5 15 1 .sh FL_15) (AL_16 : LamAt P w K mg base g 5 16 1 .sh FL_16) (AL_17 : LamAt P w K mg base g 5 17 1 .sh FL_17) (AL_18 : LamAt P w K mg base g 5 18 1 .sh FL_18) (AL_19 : LamAt P w K mg base g 5 19 1 .sh FL_19) (AL_3 : LamAt P w K mg base g 5 3 1 .sh FL_3) (AL_4 : LamAt P w K mg base g 5 4 1 .sh FL_4) (AL_5 : LamAt P w K mg base g 5 5 1 .sh FL_5) (AL_6 : LamAt P w K mg base g 5 6 1 .sh FL_6) (AL_7 : LamAt P w K mg base g 5 7 1 .sh FL_7) (AL_8 : LamAt P w K mg base g 5 8 1 .sh FL_8) (AL_9 : LamAt P w K mg base g 5 9 1 .sh FL_9) : LamAt P w K mg base g 6 2 0 .sh FL_2 := lamAt_of (l := lam_2) (N := ["ask", "odd"]) (ps := ([] : List Str)) (by rw [hCT]; rfl) rfl (NdefX.nscope_by (by decide +kernel)) (fun _ _ _ _ us hl => match us, hl with | [], _ => rfl) (fun f c' cl A outer s0 H E B hr => by
    have hN : (["ask", "odd"] : List Str).Nodup := by decide
    have hr1 := hr
    have tk := takes_of (X := NdefX.ncx (L2.CX P w) P w K mg base ["ask", "odd"] (lam_2.nf cl c') f A outer s0 H E) rfl rfl rfl rfl
    exact (xe_clo (m := .sh) (ms := [.sh]) 0 (tab_cons AL_3 (tab_cons AL_4 (tab_cons AL_5 (tab_cons AL_6 (tab_cons AL_7 (tab_cons AL_8 (tab_cons AL_9 (tab_cons AL_10 (tab_cons AL_11 (tab_cons AL_12 (tab_cons AL_13 (tab_cons AL_14 (tab_cons AL_15 (tab_cons AL_16 (tab_cons AL_17 (tab_cons AL_18 (tab_cons AL_19 tab_nil))))))))))))))))) hr1 tk (xa_cons (xe_v 1 rfl) xa_nil) rfl))
theorem bd__law_met : BindE "_law_met" "_law_met" (C8.fnArgs s__law_met) (C8.fnBody s__law_met) (C8.fnScope s__law_met) ["ask"] := fun _ _ _ _ _ _ us hl => match us, hl with | [_], _ => rfl
theorem sc__law_met : FnScope ["ask", "e"] ["ask"] (C8.fnScope s__law_met) := ⟨rfl, rfl, rfl, by decide +kernel, rfl, by decide +kernel, by decide +kernel⟩
def T__law_met_ask : List (Nat × Fn) := [(1, FL_1), (2, FL_2)]
def m__law_met : SM := (sTry ["BadCounts", "BadNumber", "BadNumbers"] (sRet (eTup (eCons (eC (.str "told")) (eCons (eClo T__law_met_ask 0 eNil) eNil)))) [⟨"BadCounts", 1, "counts", some "counts"⟩, ⟨"BadNumber", 1, "number", some "number"⟩, ⟨"BadNumbers", 1, "numbers", some "numbers"⟩])
def F__law_met : Fn := defF 2 m__law_met
include hK hG hCT in
theorem ok__law_met {fa : Addr} {fd : FuncData} (F : FnP K "_law_met" s__law_met fa fd) (AL_1 : LamAt P w K mg base g 6 1 0 .sh FL_1) (AL_2 : LamAt P w K mg base g 6 2 0 .sh FL_2) (TR : TryOk K mg ["BadCounts", "BadNumber", "BadNumbers"] [⟨"BadCounts", 1, "counts", some "counts"⟩, ⟨"BadNumber", 1, "number", some "number"⟩, ⟨"BadNumbers", 1, "numbers", some "numbers"⟩]) : FnOk P w K mg base (L2.CX P w) 8 fa fd ["ask"] (spF g 1 .sh F__law_met) :=
  def_ok (caps := []) (Γ' := [.un, .un]) (Γb := []) (Γc := []) F sc__law_met (.inl rfl) fun cdv hcv A outer s0 H E B hr => by
    have hN : (["ask", "e"] : List Str).Nodup := sc__law_met.nd
    have hr1 := hr
    have tk := takes_of (X := cxOf (L2.CX P w) P w K mg base ["ask", "e"] "_law_met" (C8.fnScope s__law_met) fa cdv A outer s0 H E) rfl rfl rfl rfl
    exact (xs_one (xs_try TR rfl rfl hN tk rfl rfl hG (fun W pn xe tk hpo => (xs_one (xs_ret (xe_tupS (xa_cons (xe_le (m := (.own [])) (m' := .sh) xe_str trivial) (xa_cons (xe_clo0 (m := .sh) 0 (tab_cons AL_1 (tab_cons AL_2 tab_nil)) hr1 tk rfl) xa_nil))) rfl (.inl rfl) rfl))) (.as rfl rfl rfl rfl rfl rfl rfl (.as rfl rfl rfl rfl rfl rfl rfl (.as rfl rfl rfl rfl rfl rfl rfl .nil)))))
theorem bd__law_same : BindE "_law_same" "_law_same" (C8.fnArgs s__law_same) (C8.fnBody s__law_same) (C8.fnScope s__law_same) ["found", "due"] := fun _ _ _ _ _ _ us hl => match us, hl with | [_, _], _ => rfl
theorem sc__law_same : FnScope ["found", "due", "mine", "theirs"] ["found", "due"] (C8.fnScope s__law_same) := ⟨rfl, rfl, rfl, by decide +kernel, rfl, by decide +kernel, by decide +kernel⟩
def m__law_same (self : Fn) : SM := (sSeq (sIf (tTru (eP1 (isD [.list, .tuple]) (eV 1))) (sSeq (sIf (tOr (tB (eP2 neD (eP1 (isD [.list]) (eV 0)) (eP1 (isD [.list]) (eV 1)))) (tB (eP2 neD (eP1 (isD [.tuple]) (eV 0)) (eP1 (isD [.tuple]) (eV 1))))) (sRet (eC (.bl false))) sSkip) (sRet (eAnd (eP2 eqD (eP1 lenD (eV 0)) (eP1 lenD (eV 1))) (eP1 allB (eComp 4 (itA fnZip (eCons (eV 0) (eCons (eV 1) eNil))) (tgT [(tgN 2), (tgN 3)]) tYesM (eCall self (eCons (eV 2) (eCons (eV 3) eNil)))))))) sSkip) (sSeq (sIf (tTru (eP1 (isD [.dict]) (eV 1))) (sRet (eAnd (eP1 (isD [.dict]) (eV 0)) (eCall self (eCons (eP1 itemsD (eV 0)) (eCons (eP1 itemsD (eV 1)) eNil))))) sSkip) (sSeq (sIf (tOr (tTru (eP1 (isD [.bool]) (eV 1))) (tTru (eP1 (isD [.bool]) (eV 0)))) (sRet (eAnd (eP1 (isD [.bool]) (eV 1)) (eAnd (eP1 (isD [.bool]) (eV 0)) (eP2 eqD (eV 0) (eV 1))))) sSkip) (sSeq (sIf (tOr (tB (eP1 (isN1 false) (eV 1))) (tB (eP1 (isN1 false) (eV 0)))) (sRet (eAnd (eP1 (isN1 false) (eV 1)) (eP1 (isN1 false) (eV 0)))) sSkip) (sSeq (sIf (tOr (tB (eP2 neD (eP1 (isD [.int]) (eV 1)) (eP1 (isD [.int]) (eV 0)))) (tB (eP2 neD (eP1 (isD [.str]) (eV 1)) (eP1 (isD [.str]) (eV 0))))) (sRet (eC (.bl false))) sSkip) (sRet (eAnd (eNot (eP1 (isD [.list, .tuple, .dict]) (eV 0))) (eP2 eqD (eV 0) (eV 1)))))))))
def F__law_same : Nat → Fn
  | 0 => fun _ _ => .stuck
  | n + 1 => defF 4 (m__law_same (F__law_same n))
include hK hG hCT in
theorem A__law_same {fa : Addr} {fd : FuncData} (F : FnP K "_law_same" s__law_same fa fd) (hm : mg "_law_same" = some (.ref fa)) (b_all : mg "all" = none) (b_bool : mg "bool" = none) (b_dict : mg "dict" = none) (b_int : mg "int" = none) (b_isinstance : mg "isinstance" = none) (b_len : mg "len" = none) (b_list : mg "list" = none) (b_str : mg "str" = none) (b_tuple : mg "tuple" = none) (b_zip : mg "zip" = none) : ∀ n : Nat, FnAt P w K mg base g (1 + n) "_law_same" 2 (.own []) (F__law_same n)
  | 0 => fnAt_never F hm bd__law_same
  | n + 1 => by
    have A__law_same := A__law_same F hm b_all b_bool b_dict b_int b_isinstance b_len b_list b_str b_tuple b_zip n
    refine fnAt_of F hm bd__law_same (def_ok (caps := []) (Γ' := [.un, .un, .un, .un]) (Γb := []) (Γc := []) F sc__law_same (.inr rfl) ?_)
    intro cdv hcv A outer s0 H E B hr
    have hN : (["found", "due", "mine", "theirs"] : List Str).Nodup := sc__law_same.nd
    have hr1 := hr
    have tk := takes_of (X := cxOf (L2.CX P w) P w K mg base ["found", "due", "mine", "theirs"] "_law_same" (C8.fnScope s__law_same) fa cdv A outer s0 H E) rfl rfl rfl rfl
    exact (xs_cons (xs_if (xt_truth hK (xe_le (m := (.own [])) (m' := .bor) (xe_isiT (ts := [.list, .tuple]) hK (xe_le (m := .sh) (m' := .bor) (xe_v 1 rfl) trivial) (.cons ⟨b_list, by decide +kernel, rfl, by decide, by decide⟩ rfl (.cons ⟨b_tuple, by decide +kernel, rfl, by decide, by decide⟩ rfl .nil)) rfl b_isinstance) trivial)) (xs_cons (xs_if (PW.pt (xw_or (xt_cmp (op_neD (hu64 hr1)) (k_ne hK) (xe_le (m := (.own [])) (m' := .bor) (xe_isi .list hK (xe_le (m := .sh) (m' := .bor) (xe_v 0 rfl) trivial) b_isinstance b_list PyProof.Rows.boot_list) trivial) (xe_le (m := (.own [])) (m' := .bor) (xe_isi .list hK (xe_le (m := .sh) (m' := .bor) (xe_v 1 rfl) trivial) b_isinstance b_list PyProof.Rows.boot_list) trivial) (nomark _)) (xw_one (xt_cmp (op_neD (hu64 hr1)) (k_ne hK) (xe_le (m := (.own [])) (m' := .bor) (xe_isi .tuple hK (xe_le (m := .sh) (m' := .bor) (xe_v 0 rfl) trivial) b_isinstance b_tuple PyProof.Rows.boot_tuple) trivial) (xe_le (m := (.own [])) (m' := .bor) (xe_isi .tuple hK (xe_le (m := .sh) (m' := .bor) (xe_v 1 rfl) trivial) b_isinstance b_tuple PyProof.Rows.boot_tuple) trivial) (nomark _))))) (xs_one (xs_ret xe_bl rfl (.inl rfl) rfl)) xs_nil rfl) (xs_one (xs_ret (xe_and (xe_le (m := (.own [])) (m' := .bor) (xe_cmp (op_eqD (hu64 hr1)) (k_eq hK) (xe_le (m := (.own [])) (m' := .bor) (xe_bi call_len (k_len hK) (xe_le (m := .sh) (m' := .bor) (xe_v 0 rfl) trivial) b_len (by decide +kernel)) trivial) (xe_le (m := (.own [])) (m' := .bor) (xe_bi call_len (k_len hK) (xe_le (m := .sh) (m' := .bor) (xe_v 1 rfl) trivial) b_len (by decide +kernel)) trivial) (nomark _)) trivial) (xe_one (xe_bi (cr_all rfl) k_all (xe_le (m := (.own [])) (m' := .bor) (xe_comp (m := .own []) (own := [("mine", 2), ("theirs", 3)]) hN rfl (xi_zip hK rfl b_zip (xa_cons (xe_le (m := .sh) (m' := .bs) (xe_v 0 rfl) trivial) (xa_cons (xe_le (m := .sh) (m' := .bs) (xe_v 1 rfl) trivial) xa_nil))) (by kernel_rfl) (fun s1 H1 C1 cl1 fp1 D1 => (xg_tup hK rfl (xgs_cons (xg_name (c := false) 2 hN) (xgs_cons (xg_name (c := false) 3 hN) xgs_nil)))) (fun s1 H1 C1 cl1 fp1 D1 => xts_nil) (fun s1 H1 C1 cl1 fp1 D1 => (xe_call (ms := [.bor, .bor]) A__law_same hr1 takes0 (xa_cons (xe_le (m := .sh) (m' := .bor) (xe_v 2 rfl) trivial) (xa_cons (xe_le (m := .sh) (m' := .bor) (xe_v 3 rfl) trivial) xa_nil))))) trivial) b_all (by decide +kernel)))) rfl (.inl rfl) rfl))) xs_nil rfl) (xs_cons (xs_if (xt_truth hK (xe_le (m := (.own [])) (m' := .bor) (xe_isi .dict hK (xe_le (m := .sh) (m' := .bor) (xe_v 1 rfl) trivial) b_isinstance b_dict PyProof.Rows.boot_dict) trivial)) (xs_one (xs_ret (xe_and (xe_le (m := (.own [])) (m' := .bor) (xe_isi .dict hK (xe_le (m := .sh) (m' := .bor) (xe_v 0 rfl) trivial) b_isinstance b_dict PyProof.Rows.boot_dict) trivial) (xe_one (xe_call (ms := [.bor, .bor]) A__law_same hr1 tk (xa_cons (xe_le (m := (.tp [])) (m' := .bor) (xe_items rfl (xe_le (m := .sh) (m' := .bs) (xe_v 0 rfl) trivial) b_list) trivial) (xa_cons (xe_le (m := (.tp [])) (m' := .bor) (xe_items rfl (xe_le (m := .sh) (m' := .bs) (xe_v 1 rfl) trivial) b_list) trivial) xa_nil))))) rfl (.inl rfl) rfl)) xs_nil rfl) (xs_cons (xs_if (PW.pt (xw_or (xt_truth hK (xe_le (m := (.own [])) (m' := .bor) (xe_isi .bool hK (xe_le (m := .sh) (m' := .bor) (xe_v 1 rfl) trivial) b_isinstance b_bool PyProof.Rows.boot_bool) trivial)) (xw_one (xt_truth hK (xe_le (m := (.own [])) (m' := .bor) (xe_isi .bool hK (xe_le (m := .sh) (m' := .bor) (xe_v 0 rfl) trivial) b_isinstance b_bool PyProof.Rows.boot_bool) trivial))))) (xs_one (xs_ret (xe_and (xe_le (m := (.own [])) (m' := .bor) (xe_isi .bool hK (xe_le (m := .sh) (m' := .bor) (xe_v 1 rfl) trivial) b_isinstance b_bool PyProof.Rows.boot_bool) trivial) (xe_and (xe_le (m := (.own [])) (m' := .bor) (xe_isi .bool hK (xe_le (m := .sh) (m' := .bor) (xe_v 0 rfl) trivial) b_isinstance b_bool PyProof.Rows.boot_bool) trivial) (xe_one (xe_cmp (op_eqD (hu64 hr1)) (k_eq hK) (xe_le (m := .sh) (m' := .bor) (xe_v 0 rfl) trivial) (xe_le (m := .sh) (m' := .bor) (xe_v 1 rfl) trivial) (nomark _))))) rfl (.inl rfl) rfl)) xs_nil rfl) (xs_cons (xs_if (PW.pt (xw_or (xt_isN (xe_le (m := .sh) (m' := .bor) (xe_v 1 rfl) trivial)) (xw_one (xt_isN (xe_le (m := .sh) (m' := .bor) (xe_v 0 rfl) trivial))))) (xs_one (xs_ret (xe_and (xe_le (m := (.own [])) (m' := .bor) (xe_isN (xe_le (m := .sh) (m' := .bor) (xe_v 1 rfl) trivial)) trivial) (xe_one (xe_isN (xe_le (m := .sh) (m' := .bor) (xe_v 0 rfl) trivial)))) rfl (.inl rfl) rfl)) xs_nil rfl) (xs_cons (xs_if (PW.pt (xw_or (xt_cmp (op_neD (hu64 hr1)) (k_ne hK) (xe_le (m := (.own [])) (m' := .bor) (xe_isi .int hK (xe_le (m := .sh) (m' := .bor) (xe_v 1 rfl) trivial) b_isinstance b_int PyProof.Rows.boot_int) trivial) (xe_le (m := (.own [])) (m' := .bor) (xe_isi .int hK (xe_le (m := .sh) (m' := .bor) (xe_v 0 rfl) trivial) b_isinstance b_int PyProof.Rows.boot_int) trivial) (nomark _)) (xw_one (xt_cmp (op_neD (hu64 hr1)) (k_ne hK) (xe_le (m := (.own [])) (m' := .bor) (xe_isi .str hK (xe_le (m := .sh) (m' := .bor) (xe_v 1 rfl) trivial) b_isinstance b_str PyProof.Rows.boot_str) trivial) (xe_le (m := (.own [])) (m' := .bor) (xe_isi .str hK (xe_le (m := .sh) (m' := .bor) (xe_v 0 rfl) trivial) b_isinstance b_str PyProof.Rows.boot_str) trivial) (nomark _))))) (xs_one (xs_ret xe_bl rfl (.inl rfl) rfl)) xs_nil rfl) (xs_one (xs_ret (xe_and (xe_le (m := (.own [])) (m' := .bor) (xe_not (xe_le (m := (.own [])) (m' := .bor) (xe_isiT (ts := [.list, .tuple, .dict]) hK (xe_le (m := .sh) (m' := .bor) (xe_v 0 rfl) trivial) (.cons ⟨b_list, by decide +kernel, rfl, by decide, by decide⟩ rfl (.cons ⟨b_tuple, by decide +kernel, rfl, by decide, by decide⟩ rfl (.cons ⟨b_dict, by decide +kernel, rfl, by decide, by decide⟩ rfl .nil))) rfl b_isinstance) trivial)) trivial) (xe_one (xe_cmp (op_eqD (hu64 hr1)) (k_eq hK) (xe_le (m := .sh) (m' := .bor) (xe_v 0 rfl) trivial) (xe_le (m := .sh) (m' := .bor) (xe_v 1 rfl) trivial) (nomark _)))) rfl (.inl rfl) rfl)))))))
theorem bd__law_is_very : BindE "_law_is_very" "_law_is_very" (C8.fnArgs s__law_is_very) (C8.fnBody s__law_is_very) (C8.fnScope s__law_is_very) ["word", "ask"] := fun _ _ _ _ _ _ us hl => match us, hl with | [_, _], _ => rfl
theorem sc__law_is_very : FnScope ["word", "ask", "odd", "found"] ["word", "ask"] (C8.fnScope s__law_is_very) := ⟨rfl, rfl, rfl, by decide +kernel, rfl, by decide +kernel, by decide +kernel⟩
def m__law_is_very : SM := mVery F__law_met (F__law_same 20) 1
def F__law_is_very : Fn := defF 4 m__law_is_very
include hK hG hCT in
theorem ok__law_is_very {fa : Addr} {fd : FuncData} (F : FnP K "_law_is_very" s__law_is_very fa fd) {cd tb : Addr} (A__law_met : ∀ l, FnAt P w K mg base (g.wt l) 21 "_law_met" 1 .sh F__law_met) (A__law_same : FnAt P w K mg base g 21 "_law_same" 2 (.own []) (F__law_same 20)) (LD : LamDef base mg g (qLam "_law_is_very") cd tb) (HC : fd.code = .ref cd) : FnOk P w K mg base (L2.CX P w) 22 fa fd ["word", "ask"] (spF g 2 (.own []) F__law_is_very) :=
  def_ok (N := ["word", "ask", "odd", "found"]) (caps := [1, 2]) (Γ' := [.un, .un, .un, .un]) (Γb := []) (Γc := []) F sc__law_is_very (.inr rfl) fun cdv hcv A outer s0 H E B hr => by
    have hN : (["word", "ask", "odd", "found"] : List Str).Nodup := sc__law_is_very.nd
    have hr1 := hr
    have tk := takes_of (X := cxOf (L2.CX P w) P w K mg base ["word", "ask", "odd", "found"] "_law_is_very" (C8.fnScope s__law_is_very) fa cdv A outer s0 H E) rfl rfl rfl rfl
    exact xss_very (xs_asg 2 .tp (xe_lstT (xa_cons (xe_le (m := (.own [])) (m' := .sh) xe_str trivial) xa_nil)) hN) (fun l => xs_asg 3 .sh (xe_callC (ms := [.cs]) (A__law_met l) hr1 tk (caps_ok (caps := [1, 2]) (by kernel_rfl) rfl rfl) rfl rfl (xa_cons (xe_lamD (fr := ["ask", "odd"]) 1 [1, 2] (LD.wt l) (hcv.symm.trans HC) (by show g.CT 1 = _; rw [hCT]; kernel_rfl) rfl (lamOk_of (caps_ok (caps := [1, 2]) (by kernel_rfl) rfl rfl) rfl rfl (by kernel_rfl)) (by decide)) xa_nil)) hN) (ps_late 2) (Γr := [.un, .un, .un, .un]) (xs_ret (xe_call (ms := [.bor, .bor]) A__law_same hr1 tk (xa_cons (xe_le (m := .sh) (m' := .bor) (xe_v 3 rfl) trivial) (xa_cons (xe_le (m := .sh) (m' := .bor) (xe_tupS (xa_cons (xe_v 0 rfl) (xa_cons (xe_v 2 rfl) xa_nil))) trivial) xa_nil))) rfl (.inl rfl) rfl)
theorem bd__law_all_refused : BindE "_law_all_refused" "_law_all_refused" (C8.fnArgs s__law_all_refused) (C8.fnBody s__law_all_refused) (C8.fnScope s__law_all_refused) ["word", "odds", "asks"] := fun _ _ _ _ _ _ us hl => match us, hl with | [_, _, _], _ => rfl
theorem sc__law_all_refused : FnScope ["word", "odds", "asks", "ask", "odd"] ["word", "odds", "asks"] (C8.fnScope s__law_all_refused) := ⟨rfl, rfl, rfl, by decide +kernel, rfl, by decide +kernel, by decide +kernel⟩
def m__law_all_refused : SM := (sSeq (sFor (itS (eV 2)) (tgN 3) (sIf (tOr (tNot (tTru (eP1 allB (eComp 5 (itS (eV 1)) (tgN 4) tYesM (eCallC (F__law_same 20) (eCons (eCallC F__law_met (eCons (eLam 2 [3, 4]) eNil)) (eCons (eTup (eCons (eV 0) (eCons (eV 4) eNil))) eNil))))))) (tNot (tTru (eCall F__law_is_very (eCons (eV 0) (eCons (eV 3) eNil)))))) (sRet (eC (.bl false))) sSkip)) (sRet (eC (.bl true))))
def F__law_all_refused : Fn := defF 5 m__law_all_refused
include hK hG hCT in
theorem ok__law_all_refused {fa : Addr} {fd : FuncData} (F : FnP K "_law_all_refused" s__law_all_refused fa fd) {cd tb : Addr} (b_all : mg "all" = none) (A__law_is_very : FnAt P w K mg base g 22 "_law_is_very" 2 (.own []) F__law_is_very) (A__law_met : FnAt P w K mg base g 22 "_law_met" 1 .sh F__law_met) (A__law_same : FnAt P w K mg base g 22 "_law_same" 2 (.own []) (F__law_same 20)) (LD : LamDef base mg g (qLam "_law_all_refused") cd tb) (HC : fd.code = .ref cd) : FnOk P w K mg base (L2.CX P w) 23 fa fd ["word", "odds", "asks"] (spF g 3 (.own []) F__law_all_refused) :=
  def_ok (caps := [3]) (Γ' := [.un, .un, .un, .un, .un]) (Γb := []) (Γc := []) F sc__law_all_refused (.inr rfl) fun cdv hcv A outer s0 H E B hr => by
    have hN : (["word", "odds", "asks", "ask", "odd"] : List Str).Nodup := sc__law_all_refused.nd
    have hr1 := hr
    have tk := takes_of (X := cxOf (L2.CX P w) P w K mg base ["word", "odds", "asks", "ask", "odd"] "_law_all_refused" (C8.fnScope s__law_all_refused) fa cdv A outer s0 H E) rfl rfl rfl rfl
    exact (xs_cons (xs_for (xi_seq hK (xe_v 2 rfl)) (xg_name (c := false) 3 hN) (xs_post (Γ1 := [.sh, .sh, .sh, .sh, .un]) (Γ' := [.sh, .sh, .sh, .un, .un]) rfl (xs_one (xs_if (PW.pt (xw_or (xt_not (xt_truth hK (xe_le (m := (.own [])) (m' := .bor) (xe_bi (cr_all rfl) k_all (xe_le (m := (.own [])) (m' := .bor) (xe_compC (m := .own []) (own := [("odd", 4)]) hN rfl (xi_seq hK (xe_le (m := .sh) (m' := .bs) (xe_v 1 rfl) trivial)) (by kernel_rfl) (fun D1 pins1 σ1 H1 s1 fp1 I1 => (xg_name (c := false) 4 hN)) (fun D1 pins1 σ1 H1 s1 fp1 I1 => xts_nil) (fun D1 pins1 σ1 H1 s1 fp1 I1 => xe_celB [3, 4] (xe_callB (ms := [.cs, .bor]) A__law_same hr1 takes0 (capsOk_blk (own := [("odd", 4)]) I1 (caps_ok (f := frF g 5 (.own []) [3] _ B H E) (caps := [3]) (by kernel_rfl) rfl rfl) (blkOk_by (by kernel_rfl)) (by kernel_rfl) _ rfl rfl) (xa_cons (xe_le (m := .sh) (m' := .cs) (xe_callB (ms := [.cs]) A__law_met hr1 takes0 (capsOk_blk (own := [("odd", 4)]) I1 (caps_ok (f := frF g 5 (.own []) [3] _ B H E) (caps := [3]) (by kernel_rfl) rfl rfl) (blkOk_by (by kernel_rfl)) (by kernel_rfl) _ rfl rfl) (xa_cons (xe_lamD (fr := (["ask", "odd"] : List Str)) 2 [3, 4] LD (hcv.symm.trans HC) (by rw [hCT]; kernel_rfl) rfl (lamOk_of (capsOk_blk (own := [("odd", 4)]) I1 (caps_ok (f := frF g 5 (.own []) [3] _ B H E) (caps := [3]) (by kernel_rfl) rfl rfl) (blkOk_by (by kernel_rfl)) (by kernel_rfl) _ rfl rfl) rfl rfl (by kernel_rfl)) (by decide)) xa_nil)) trivial) (xa_cons (xe_le (m := .sh) (m' := .bor) (xe_tupS (xa_cons (xe_v 0 rfl) (xa_cons (xe_v 4 rfl) xa_nil))) trivial) xa_nil))))) trivial) b_all (by decide +kernel)) trivial))) (xw_one (xt_not (xt_truth hK (xe_le (m := (.own [])) (m' := .bor) (xe_call (ms := [.bor, .bor]) A__law_is_very hr1 tk (xa_cons (xe_le (m := .sh) (m' := .bor) (xe_v 0 rfl) trivial) (xa_cons (xe_le (m := .sh) (m' := .bor) (xe_v 3 rfl) trivial) xa_nil))) trivial)))))) (xs_one (xs_ret xe_bl rfl (.inl rfl) rfl)) xs_nil rfl))) (passes_of rfl) rfl) (xs_one (xs_ret xe_bl rfl (.inl rfl) rfl)))
theorem bd_law : BindE "law" "law" (C8.fnArgs s_law) (C8.fnBody s_law) (C8.fnScope s_law) ["script"] := fun _ _ _ _ _ _ us hl => match us, hl with | [_], _ => rfl
theorem sc_law : FnScope ["script", "stream", "numbers", "odds", "asks"] ["script"] (C8.fnScope s_law) := ⟨rfl, rfl, rfl, by decide +kernel, rfl, by decide +kernel, by decide +kernel⟩
def m_law : SM := (sSeq (sAsg 2 (eIo F__law_numbers 1 (eCons (eC (.int 4)) (eCons (eC (.int 9)) eNil)))) (sSeq (sAsg 3 (eLst (eCons (eC .non) (eCons (eC (.int 5)) (eCons (eC (.str "12")) (eCons (eC (.dct [] [])) (eCons (eLst eNil) (eCons (eLst (eCons (eC (.int 0)) eNil)) (eCons (eLst (eCons (eP1 negI (eC (.int 1))) eNil)) (eCons (eLst (eCons (eC (.bl true)) eNil)) (eCons (eLst (eCons (eC (.int 2)) (eCons (eC (.int 1)) eNil))) (eCons (eLst (eCons (eC (.int 1)) (eCons (eC (.int 1)) eNil))) (eCons (eLst (eCons (eC (.int 1)) (eCons (eC .non) eNil))) (eCons (eLst (eCons (eC (.str "1")) eNil)) eNil)))))))))))))) (sSeq (sAsg 4 (eLst (eCons (eLam 3 []) eNil))) (sSeq (sApp 4 (eLam 4 [])) (sSeq (sApp 4 (eLam 5 [])) (sSeq (sApp 4 (eLam 6 [])) (sSeq (sApp 4 (eLam 7 [])) (sSeq (sApp 4 (eLam 8 [])) (sSeq (sApp 4 (eLam 9 [])) (sSeq (sApp 4 (eLam 10 [])) (sSeq (sApp 4 (eLam 11 [])) (sSeq (sApp 4 (eLam 12 [])) (sSeq (sIf (tNot (tTru (eCallC F__law_all_refused (eCons (eC (.str "numbers")) (eCons (eV 3) (eCons (eV 4) eNil)))))) (sRet (eC (.bl false))) sSkip) (sSeq (sAsg 4 (eLst (eCons (eLam 13 []) eNil))) (sSeq (sApp 4 (eLam 14 [])) (sSeq (sIf (tNot (tTru (eCallC F__law_all_refused (eCons (eC (.str "numbers")) (eCons (eP2 catD (eV 3) (eLst (eCons (eLst (eCons (eC (.int 2)) eNil)) (eCons (eLst (eCons (eC (.int 3)) (eCons (eC (.int 5)) eNil))) (eCons (eLst (eCons (eC (.int 2)) (eCons (eC (.int 3)) eNil))) eNil))))) (eCons (eV 4) eNil)))))) (sRet (eC (.bl false))) sSkip) (sSeq (sAsg 3 (eLst (eCons (eC .non) (eCons (eC (.int 5)) (eCons (eC (.str "ab")) (eCons (eC (.dct [] [])) (eCons (eP2 repD (eLst (eCons (eC (.int 0)) eNil)) (eP2 addI (eP1 lenD (eV 2)) (eC (.int 1)))) (eCons (eP2 repD (eLst (eCons (eC (.int 0)) eNil)) (eP2 subI (eP1 lenD (eV 2)) (eC (.int 1)))) (eCons (eP2 repD (eLst (eCons (eP1 negI (eC (.int 1))) eNil)) (eP1 lenD (eV 2))) (eCons (eP2 repD (eLst (eCons (eC (.bl true)) eNil)) (eP1 lenD (eV 2))) (eCons (eP2 repD (eLst (eCons (eC .non) eNil)) (eP1 lenD (eV 2))) eNil))))))))))) (sSeq (sIf (tNot (tTru (eCallC F__law_all_refused (eCons (eC (.str "counts")) (eCons (eV 3) (eCons (eLst (eCons (eLam 15 [2]) eNil)) eNil)))))) (sRet (eC (.bl false))) sSkip) (sSeq (sAsg 3 (eLst (eCons (eC .non) (eCons (eP1 negI (eC (.int 1))) (eCons (eC (.str "2")) (eCons (eLst eNil) (eCons (eC (.bl true)) (eCons (eC (.dct [] [])) eNil)))))))) (sSeq (sAsg 4 (eLst (eCons (eLam 16 [2]) eNil))) (sSeq (sApp 4 (eLam 17 [2])) (sSeq (sApp 4 (eLam 18 [2])) (sSeq (sApp 4 (eLam 19 [])) (sRet (eCallC F__law_all_refused (eCons (eC (.str "number")) (eCons (eV 3) (eCons (eV 4) eNil))))))))))))))))))))))))))))
include hK hG hCT in
theorem ok_law {fa : Addr} {fd : FuncData} (F : FnP K "law" s_law fa fd) {cd tb : Addr} (b_len : mg "len" = none) (A__law_all_refused : FnAt P w K mg base g 23 "_law_all_refused" 3 (.own []) F__law_all_refused) (A__law_numbers : FnIoAt P w K mg base g 23 "_law_numbers" 2 .sh F__law_numbers) (LD : LamDef base mg g (qLam "law") cd tb) (HC : fd.code = .ref cd) (SA : StreamAt P w K mg base) : FnOk P w K mg base (L2.CX P w) 24 fa fd ["script"] (spLaw g 5 m_law) :=
  law_ok (N := ["script", "stream", "numbers", "odds", "asks"]) (caps := [2]) (Γ' := [.un, .st, .un, .un, .un]) hK F sc_law rfl (by decide) (fun cdv hcv A outer s0 H E hr => by
    have hN : (["script", "stream", "numbers", "odds", "asks"] : List Str).Nodup := sc_law.nd
    have hr1 := hr
    have tk := takes_of (X := cxOf (L2.CX P w) P w K mg base ["script", "stream", "numbers", "odds", "asks"] "law" (C8.fnScope s_law) fa cdv A outer s0 H E) rfl rfl rfl rfl
    exact first_ok SA (hr1.mono (by decide)) tk hN rfl rfl (by first | exact Or.inl rfl | exact Or.inr (Or.inl rfl)) (by first | exact .inl rfl | exact .inr rfl) rfl rfl rfl rfl (by first | exact .inl rfl | exact .inr rfl)) (fun cdv hcv A outer s0 H H1 E L v0 hr => by
    have hN : (["script", "stream", "numbers", "odds", "asks"] : List Str).Nodup := sc_law.nd
    have hr1 := hr
    have tk := takes_of (X := cxOf (L2.CX P w) P w K mg base ["script", "stream", "numbers", "odds", "asks"] "law" (C8.fnScope s_law) fa cdv A outer s0 H E) rfl rfl rfl rfl
    exact (xs_cons (xs_asg 2 .sh (xe_io (ms := [.sh, .sh]) A__law_numbers hr1 tk (xa_cons (xe_le (m := (.own [])) (m' := .sh) xe_int trivial) (xa_cons (xe_le (m := (.own [])) (m' := .sh) xe_int trivial) xa_nil)) rfl) hN) (xs_cons (xs_asg 3 .sh (xe_le (m := (.tp [])) (m' := .sh) (xe_lstT (xa_cons (xe_le (m := (.own [])) (m' := .sh) xe_non trivial) (xa_cons (xe_le (m := (.own [])) (m' := .sh) xe_int trivial) (xa_cons (xe_le (m := (.own [])) (m' := .sh) xe_str trivial) (xa_cons (xe_le (m := (.own [])) (m' := .sh) xe_dct0 trivial) (xa_cons (xe_le (m := (.tp [])) (m' := .sh) (xe_lstT xa_nil) trivial) (xa_cons (xe_le (m := (.tp [])) (m' := .sh) (xe_lstT (xa_cons (xe_le (m := (.own [])) (m' := .sh) xe_int trivial) xa_nil)) trivial) (xa_cons (xe_le (m := (.tp [])) (m' := .sh) (xe_lstT (xa_cons (xe_le (m := (.own [])) (m' := .sh) (xe_neg (xe_le (m := (.own [])) (m' := .bor) xe_int trivial)) trivial) xa_nil)) trivial) (xa_cons (xe_le (m := (.tp [])) (m' := .sh) (xe_lstT (xa_cons (xe_le (m := (.own [])) (m' := .sh) xe_bl trivial) xa_nil)) trivial) (xa_cons (xe_le (m := (.tp [])) (m' := .sh) (xe_lstT (xa_cons (xe_le (m := (.own [])) (m' := .sh) xe_int trivial) (xa_cons (xe_le (m := (.own [])) (m' := .sh) xe_int trivial) xa_nil))) trivial) (xa_cons (xe_le (m := (.tp [])) (m' := .sh) (xe_lstT (xa_cons (xe_le (m := (.own [])) (m' := .sh) xe_int trivial) (xa_cons (xe_le (m := (.own [])) (m' := .sh) xe_int trivial) xa_nil))) trivial) (xa_cons (xe_le (m := (.tp [])) (m' := .sh) (xe_lstT (xa_cons (xe_le (m := (.own [])) (m' := .sh) xe_int trivial) (xa_cons (xe_le (m := (.own [])) (m' := .sh) xe_non trivial) xa_nil))) trivial) (xa_cons (xe_le (m := (.tp [])) (m' := .sh) (xe_lstT (xa_cons (xe_le (m := (.own [])) (m' := .sh) xe_str trivial) xa_nil)) trivial) xa_nil))))))))))))) trivial) hN) (xs_cons (xs_asg 4 .tc (xe_lstC (xa_cons (xe_lamD (fr := ([] : List Str)) 3 [] LD (hcv.symm.trans HC) (by rw [hCT]; kernel_rfl) rfl (lamOk_of (caps_ok (caps := [2]) (by kernel_rfl) rfl rfl) rfl rfl (by kernel_rfl)) (fun j hj => by simp at hj)) xa_nil)) hN) (xs_cons (xs_appC 4 rfl (xe_lamD (fr := ([] : List Str)) 4 [] LD (hcv.symm.trans HC) (by rw [hCT]; kernel_rfl) rfl (lamOk_of (caps_ok (caps := [2]) (by kernel_rfl) rfl rfl) rfl rfl (by kernel_rfl)) (fun j hj => by simp at hj))) (xs_cons (xs_appC 4 rfl (xe_lamD (fr := ([] : List Str)) 5 [] LD (hcv.symm.trans HC) (by rw [hCT]; kernel_rfl) rfl (lamOk_of (caps_ok (caps := [2]) (by kernel_rfl) rfl rfl) rfl rfl (by kernel_rfl)) (fun j hj => by simp at hj))) (xs_cons (xs_appC 4 rfl (xe_lamD (fr := ([] : List Str)) 6 [] LD (hcv.symm.trans HC) (by rw [hCT]; kernel_rfl) rfl (lamOk_of (caps_ok (caps := [2]) (by kernel_rfl) rfl rfl) rfl rfl (by kernel_rfl)) (fun j hj => by simp at hj))) (xs_cons (xs_appC 4 rfl (xe_lamD (fr := ([] : List Str)) 7 [] LD (hcv.symm.trans HC) (by rw [hCT]; kernel_rfl) rfl (lamOk_of (caps_ok (caps := [2]) (by kernel_rfl) rfl rfl) rfl rfl (by kernel_rfl)) (fun j hj => by simp at hj))) (xs_cons (xs_appC 4 rfl (xe_lamD (fr := ([] : List Str)) 8 [] LD (hcv.symm.trans HC) (by rw [hCT]; kernel_rfl) rfl (lamOk_of (caps_ok (caps := [2]) (by kernel_rfl) rfl rfl) rfl rfl (by kernel_rfl)) (fun j hj => by simp at hj))) (xs_cons (xs_appC 4 rfl (xe_lamD (fr := ([] : List Str)) 9 [] LD (hcv.symm.trans HC) (by rw [hCT]; kernel_rfl) rfl (lamOk_of (caps_ok (caps := [2]) (by kernel_rfl) rfl rfl) rfl rfl (by kernel_rfl)) (fun j hj => by simp at hj))) (xs_cons (xs_appC 4 rfl (xe_lamD (fr := ([] : List Str)) 10 [] LD (hcv.symm.trans HC) (by rw [hCT]; kernel_rfl) rfl (lamOk_of (caps_ok (caps := [2]) (by kernel_rfl) rfl rfl) rfl rfl (by kernel_rfl)) (fun j hj => by simp at hj))) (xs_cons (xs_appC 4 rfl (xe_lamD (fr := ([] : List Str)) 11 [] LD (hcv.symm.trans HC) (by rw [hCT]; kernel_rfl) rfl (lamOk_of (caps_ok (caps := [2]) (by kernel_rfl) rfl rfl) rfl rfl (by kernel_rfl)) (fun j hj => by simp at hj))) (xs_cons (xs_appC 4 rfl (xe_lamD (fr := ([] : List Str)) 12 [] LD (hcv.symm.trans HC) (by rw [hCT]; kernel_rfl) rfl (lamOk_of (caps_ok (caps := [2]) (by kernel_rfl) rfl rfl) rfl rfl (by kernel_rfl)) (fun j hj => by simp at hj))) (xs_weak (Γ1 := [.un, .st, .sh, .sh, .cs]) rfl (xs_cons (xs_if (xt_not (xt_truth hK (xe_le (m := (.own [])) (m' := .bor) (xe_callC (ms := [.bor, .bor, .cs]) A__law_all_refused hr1 tk (caps_ok (caps := [2]) (by kernel_rfl) rfl rfl) rfl rfl (xa_cons (xe_le (m := (.own [])) (m' := .bor) xe_str trivial) (xa_cons (xe_le (m := .sh) (m' := .bor) (xe_v 3 rfl) trivial) (xa_cons (xe_v 4 rfl) xa_nil)))) trivial))) (xs_one (xs_ret xe_bl rfl (.inl rfl) rfl)) xs_nil rfl) (xs_cons (xs_asg 4 .tc (xe_lstC (xa_cons (xe_lamD (fr := ([] : List Str)) 13 [] LD (hcv.symm.trans HC) (by rw [hCT]; kernel_rfl) rfl (lamOk_of (caps_ok (caps := [2]) (by kernel_rfl) rfl rfl) rfl rfl (by kernel_rfl)) (fun j hj => by simp at hj)) xa_nil)) hN) (xs_cons (xs_appC 4 rfl (xe_lamD (fr := ([] : List Str)) 14 [] LD (hcv.symm.trans HC) (by rw [hCT]; kernel_rfl) rfl (lamOk_of (caps_ok (caps := [2]) (by kernel_rfl) rfl rfl) rfl rfl (by kernel_rfl)) (fun j hj => by simp at hj))) (xs_weak (Γ1 := [.un, .st, .sh, .sh, .cs]) rfl (xs_cons (xs_if (xt_not (xt_truth hK (xe_le (m := (.own [])) (m' := .bor) (xe_callC (ms := [.bor, .bor, .cs]) A__law_all_refused hr1 tk (caps_ok (caps := [2]) (by kernel_rfl) rfl rfl) rfl rfl (xa_cons (xe_le (m := (.own [])) (m' := .bor) xe_str trivial) (xa_cons (xe_le (m := (.tp [])) (m' := .bor) (xe_bin op_cat k_cat (xe_le (m := .sh) (m' := .bs) (xe_v 3 rfl) trivial) (xe_le (m := (.own [])) (m' := .bs) (xe_lst (ms := [.own [], .own [], .own []]) (xa_cons (xe_lst (ms := [.own []]) (xa_cons xe_int xa_nil)) (xa_cons (xe_lst (ms := [.own [], .own []]) (xa_cons xe_int (xa_cons xe_int xa_nil))) (xa_cons (xe_lst (ms := [.own [], .own []]) (xa_cons xe_int (xa_cons xe_int xa_nil))) xa_nil)))) trivial)) trivial) (xa_cons (xe_v 4 rfl) xa_nil)))) trivial))) (xs_one (xs_ret xe_bl rfl (.inl rfl) rfl)) xs_nil rfl) (xs_cons (xs_asg 3 .sh (xe_le (m := (.tp [])) (m' := .sh) (xe_lstT (xa_cons (xe_le (m := (.own [])) (m' := .sh) xe_non trivial) (xa_cons (xe_le (m := (.own [])) (m' := .sh) xe_int trivial) (xa_cons (xe_le (m := (.own [])) (m' := .sh) xe_str trivial) (xa_cons (xe_le (m := (.own [])) (m' := .sh) xe_dct0 trivial) (xa_cons (xe_le (m := (.tp [])) (m' := .sh) (xe_bin op_rep k_rep (xe_le (m := (.own [])) (m' := .bs) (xe_lst (ms := [.own []]) (xa_cons xe_int xa_nil)) trivial) (xe_le (m := (.own [])) (m' := .bor) (xe_add (xe_le (m := (.own [])) (m' := .bor) (xe_bi call_len (k_len hK) (xe_le (m := .sh) (m' := .bor) (xe_v 2 rfl) trivial) b_len (by decide +kernel)) trivial) (xe_le (m := (.own [])) (m' := .bor) xe_int trivial)) trivial)) trivial) (xa_cons (xe_le (m := (.tp [])) (m' := .sh) (xe_bin op_rep k_rep (xe_le (m := (.own [])) (m' := .bs) (xe_lst (ms := [.own []]) (xa_cons xe_int xa_nil)) trivial) (xe_le (m := (.own [])) (m' := .bor) (xe_sub (xe_le (m := (.own [])) (m' := .bor) (xe_bi call_len (k_len hK) (xe_le (m := .sh) (m' := .bor) (xe_v 2 rfl) trivial) b_len (by decide +kernel)) trivial) (xe_le (m := (.own [])) (m' := .bor) xe_int trivial)) trivial)) trivial) (xa_cons (xe_le (m := (.tp [])) (m' := .sh) (xe_bin op_rep k_rep (xe_le (m := (.own [])) (m' := .bs) (xe_lst (ms := [.own []]) (xa_cons (xe_neg (xe_le (m := (.own [])) (m' := .bor) xe_int trivial)) xa_nil)) trivial) (xe_le (m := (.own [])) (m' := .bor) (xe_bi call_len (k_len hK) (xe_le (m := .sh) (m' := .bor) (xe_v 2 rfl) trivial) b_len (by decide +kernel)) trivial)) trivial) (xa_cons (xe_le (m := (.tp [])) (m' := .sh) (xe_bin op_rep k_rep (xe_le (m := (.own [])) (m' := .bs) (xe_lst (ms := [.own []]) (xa_cons xe_bl xa_nil)) trivial) (xe_le (m := (.own [])) (m' := .bor) (xe_bi call_len (k_len hK) (xe_le (m := .sh) (m' := .bor) (xe_v 2 rfl) trivial) b_len (by decide +kernel)) trivial)) trivial) (xa_cons (xe_le (m := (.tp [])) (m' := .sh) (xe_bin op_rep k_rep (xe_le (m := (.own [])) (m' := .bs) (xe_lst (ms := [.own []]) (xa_cons xe_non xa_nil)) trivial) (xe_le (m := (.own [])) (m' := .bor) (xe_bi call_len (k_len hK) (xe_le (m := .sh) (m' := .bor) (xe_v 2 rfl) trivial) b_len (by decide +kernel)) trivial)) trivial) xa_nil)))))))))) trivial) hN) (xs_cons (xs_if (xt_not (xt_truth hK (xe_le (m := (.own [])) (m' := .bor) (xe_callC (ms := [.bor, .bor, .cs]) A__law_all_refused hr1 tk (caps_ok (caps := [2]) (by kernel_rfl) rfl rfl) rfl rfl (xa_cons (xe_le (m := (.own [])) (m' := .bor) xe_str trivial) (xa_cons (xe_le (m := .sh) (m' := .bor) (xe_v 3 rfl) trivial) (xa_cons (xe_le (m := (.tc [])) (m' := .cs) (xe_lstC (xa_cons (xe_lamD (fr := (["numbers"] : List Str)) 15 [2] LD (hcv.symm.trans HC) (by rw [hCT]; kernel_rfl) rfl (lamOk_of (caps_ok (caps := [2]) (by kernel_rfl) rfl rfl) rfl rfl (by kernel_rfl)) (by decide)) xa_nil)) trivial) xa_nil)))) trivial))) (xs_one (xs_ret xe_bl rfl (.inl rfl) rfl)) xs_nil rfl) (xs_cons (xs_asg 3 .sh (xe_le (m := (.tp [])) (m' := .sh) (xe_lstT (xa_cons (xe_le (m := (.own [])) (m' := .sh) xe_non trivial) (xa_cons (xe_le (m := (.own [])) (m' := .sh) (xe_neg (xe_le (m := (.own [])) (m' := .bor) xe_int trivial)) trivial) (xa_cons (xe_le (m := (.own [])) (m' := .sh) xe_str trivial) (xa_cons (xe_le (m := (.tp [])) (m' := .sh) (xe_lstT xa_nil) trivial) (xa_cons (xe_le (m := (.own [])) (m' := .sh) xe_bl trivial) (xa_cons (xe_le (m := (.own [])) (m' := .sh) xe_dct0 trivial) xa_nil))))))) trivial) hN) (xs_cons (xs_asg 4 .tc (xe_lstC (xa_cons (xe_lamD (fr := (["numbers"] : List Str)) 16 [2] LD (hcv.symm.trans HC) (by rw [hCT]; kernel_rfl) rfl (lamOk_of (caps_ok (caps := [2]) (by kernel_rfl) rfl rfl) rfl rfl (by kernel_rfl)) (by decide)) xa_nil)) hN) (xs_cons (xs_appC 4 rfl (xe_lamD (fr := (["numbers"] : List Str)) 17 [2] LD (hcv.symm.trans HC) (by rw [hCT]; kernel_rfl) rfl (lamOk_of (caps_ok (caps := [2]) (by kernel_rfl) rfl rfl) rfl rfl (by kernel_rfl)) (by decide))) (xs_cons (xs_appC 4 rfl (xe_lamD (fr := (["numbers"] : List Str)) 18 [2] LD (hcv.symm.trans HC) (by rw [hCT]; kernel_rfl) rfl (lamOk_of (caps_ok (caps := [2]) (by kernel_rfl) rfl rfl) rfl rfl (by kernel_rfl)) (by decide))) (xs_cons (xs_appC 4 rfl (xe_lamD (fr := ([] : List Str)) 19 [] LD (hcv.symm.trans HC) (by rw [hCT]; kernel_rfl) rfl (lamOk_of (caps_ok (caps := [2]) (by kernel_rfl) rfl rfl) rfl rfl (by kernel_rfl)) (fun j hj => by simp at hj))) (xs_weak (Γ1 := [.un, .st, .sh, .sh, .cs]) rfl (xs_one (xs_ret (xe_callC (ms := [.bor, .bor, .cs]) A__law_all_refused hr1 tk (caps_ok (caps := [2]) (by kernel_rfl) rfl rfl) rfl rfl (xa_cons (xe_le (m := (.own [])) (m' := .bor) xe_str trivial) (xa_cons (xe_le (m := .sh) (m' := .bor) (xe_v 3 rfl) trivial) (xa_cons (xe_v 4 rfl) xa_nil)))) rfl (.inl rfl) rfl)))))))))))))))))))))))))))))
theorem sc__law_stream : FnScope ["script"] ["script"] (C8.fnScope s__law_stream) := ⟨rfl, rfl, rfl, by decide +kernel, rfl, by decide +kernel, by decide +kernel⟩
theorem stream_at {fa : Addr} {fd : FuncData} (F : FnP K "_law_stream" s__law_stream fa fd) (hm : mg "_law_stream" = some (.ref fa)) (b_list : mg "list" = none) : StreamAt P w K mg base := by
  refine ⟨fa, fd, hm, F.kp, F.bindsN fun _ _ _ _ _ _ us hl => match us, hl with | [_], _ => rfl, ?_⟩
  refine PP.FunD.okW (CX := L2.CX P w) F sc__law_stream (fun vs H Q E ⟨a, ns, e, _⟩ => by rw [e]; rfl) (fun cdv hcv A outer s H vs Q E hr ⟨a, ns, e, sq, q⟩ => ⟨_, pss_one (ps_ret (pe_lst (pa_cons (pe_callTy call_list_of (by rfl) b_list (by decide +kernel) (pa_cons (pv 0) pa_nil)) (pa_cons pe_int (pa_cons pe_int (pa_cons pe_int pa_nil)))))), ?_⟩)
  subst e
  exact ⟨.ref a, rfl, a, _, rfl, .inl sq, fun l nl => ⟨line_of (n := 4) rfl, fun p np => q l p nl np⟩⟩
end
end K73
-- Q73
/-! the pure side: the numbers -/
namespace K73
open PySem PP
theorem draw_eq : F__law_draw = fDraw := rfl
theorem same_eq : ∀ n, F__law_same n = fSame n
  | 0 => rfl
  | n + 1 => by
    show defF 4 (m__law_same (F__law_same n)) = defF 4 (mSame (fSame n))
    rw [same_eq n]; rfl
abbrev liI (ns : List Int) : D := .lst (ns.map .int)
theorem intsD_map : ∀ ns : List Int, intsD (ns.map .int) = some ns
  | [] => rfl
  | n :: ns => by simp [intsD, intsD_map ns]
theorem last_of : ∀ {ys : List Int}, ys ≠ [] → ∃ ws v, ys = ws ++ [v]
  | [], h => absurd rfl h
  | [y], _ => ⟨[], y, rfl⟩
  | y :: z :: ys, _ => by
    obtain ⟨ws, v, e⟩ := last_of (ys := z :: ys) (by simp)
    exact ⟨y :: ws, v, by rw [e]; rfl⟩
/-! ### ascending -/
def acB : SM := (sAsg 1 (eP2 catD (eV 1) (eIf (tOr (tB (eP2 eqD (eV 1) (eLst eNil))) (tB (eP2 neD (eP2 idxD (eV 1) (eP1 negI (eC (.int 1)))) (eV 2)))) (eLst (eCons (eV 2) eNil)) (eLst eNil))))
def acI (z : D) (zs : List Int) (k : Nat) (ρ : PP.Env) : Prop := ∃ ys : List Int, ρ = [some z, some (liI ys), none] ∧ ys.Pairwise (· < ·) ∧ (∀ y ∈ ys, 1 ≤ y) ∧ ys.length ≤ k ∧ (k = 0 → ys = []) ∧ ∀ j, k = j + 1 → ∃ ws w, ys = ws ++ [w] ∧ zs[j]? = some w
theorem ac_turn {z : D} {ys : List Int} {w : Int} (hl : ys.length < 1000) : acB [some z, some (liI ys), some (.int w)] = .ok .nx [some z, some (liI (ys ++ (if ys.isEmpty || !decide (ys.getLast? = some w) then [w] else []))), some (.int w)] := by
  have e0 : (eP2 eqD (eV 1) (eLst eNil)) [some z, some (liI ys), some (.int w)] = .ok (.bl ys.isEmpty) [some z, some (liI ys), some (.int w)] := p2_step (x := liI ys) (y := .lst []) (ρ1 := [some z, some (liI ys), some (.int w)]) rfl rfl (eqD_nil ys)
  have c1 (vs : List Int) (hv : vs.length ≤ 1) : catD (liI ys) (liI vs) () = .ok (liI (ys ++ vs)) () := by
    have := catD_ok (ds := ys.map D.int) (es := vs.map D.int) (by rw [List.length_map, List.length_map]; omega)
    rw [← List.map_append] at this
    exact this
  have fin (t : EM Bool) (b : Bool) (ht : t [some z, some (liI ys), some (.int w)] = .ok b [some z, some (liI ys), some (.int w)]) : sAsg 1 (eP2 catD (eV 1) (eIf t (eLst (eCons (eV 2) eNil)) (eLst eNil))) [some z, some (liI ys), some (.int w)] = .ok .nx [some z, some (liI (ys ++ (if b then [w] else []))), some (.int w)] := by
    refine asg_step (ρ1 := [some z, some (liI ys), some (.int w)]) (p2_step (x := liI ys) (y := liI (if b then [w] else [])) (ρ1 := [some z, some (liI ys), some (.int w)]) rfl ?_ (c1 _ (by split <;> simp)))
    rw [ap_eIf, ht, bnd_ok]
    cases b <;> rfl
  unfold acB
  refine fin _ _ ?_
  cases hy : ys.isEmpty with
  | true =>
    rw [hy] at e0
    exact tOr_t (tB_step e0)
  | false =>
    rw [hy] at e0
    refine tOr_f (tB_step e0) ?_
    have hne : ys ≠ [] := fun q => by rw [q] at hy; cases hy
    obtain ⟨ws, v, rfl⟩ := last_of hne
    have ea : L2.atI ((ws ++ [v]).map D.int) (-1) = some (.int v) := by
      rw [List.map_append]
      exact atI_last
    have ei : idxD (liI (ws ++ [v])) (.int (-1)) () = .ok (.int v) () := by rw [idxL, ea]
    have en : (eP2 neD (eP2 idxD (eV 1) (eP1 negI (eC (.int 1)))) (eV 2)) [some z, some (liI (ws ++ [v])), some (.int w)] = .ok (.bl (!decide (v = w))) [some z, some (liI (ws ++ [v])), some (.int w)] := p2_step (x := .int v) (y := .int w) (ρ1 := [some z, some (liI (ws ++ [v])), some (.int w)]) (p2_step (x := liI (ws ++ [v])) (y := .int (-1)) (ρ1 := [some z, some (liI (ws ++ [v])), some (.int w)]) rfl rfl ei) rfl (neD_int _ _)
    rw [tB_step en]
    congr 1
    simp
theorem ascending_ok {xs : List Int} (h0 : xs ≠ []) (hl : xs.length ≤ 10) (h1 : ∀ x ∈ xs, 1 ≤ x) : ∃ ys : List Int, F__law_ascending [liI xs] () = .ok (liI ys) () ∧ ys ≠ [] ∧ ys.Pairwise (· < ·) ∧ (∀ y ∈ ys, 1 ≤ y) ∧ ys.length ≤ xs.length := by
  have hp := sortI_perm xs
  have hs := sortI_sorted xs
  have hzl : (sortI xs).length = xs.length := hp.length_eq
  obtain ⟨ρ', eF, ys, hρ, q1, q2, q3, q4, q5⟩ := forM_inv (ρ0 := [some (liI xs), some (.lst []), none]) (tg := tgN 2) (s1 := acB) (acI (liI xs) (sortI xs)) ((sortI xs).map .int) 0 [some (liI xs), some (.lst []), none] (fun k d ρ hk ⟨ys, hρ, q1, q2, q3, q4, q5⟩ => by
    subst hρ
    rw [List.getElem?_map] at hk
    cases hz : (sortI xs)[k]? with
    | none => rw [hz] at hk; cases hk
    | some w =>
      rw [hz] at hk
      cases hk
      have hk : k < (sortI xs).length := (List.getElem?_eq_some_iff.mp hz).1
      have hw : w ∈ sortI xs := List.mem_of_getElem? hz
      refine ⟨_, .nx, _, rfl, ac_turn (by omega), .inl rfl, ys ++ (if ys.isEmpty || !decide (ys.getLast? = some w) then [w] else []), rfl, ?_, ?_, ?_, fun e => by omega, fun j hj => ?_⟩
      · split
        · refine List.pairwise_append.mpr ⟨q1, by simp, fun a ha b hb => ?_⟩
          rw [List.mem_singleton] at hb
          subst hb
          rename_i hc
          cases k with
          | zero => rw [q4 rfl] at ha; cases ha
          | succ k =>
            obtain ⟨ws, v, e1, e2⟩ := q5 k (by omega)
            have vw : v ≤ b := by
              have := List.pairwise_iff_getElem.mp hs k (k + 1) (by omega) hk (by omega)
              have g1 := (List.getElem?_eq_some_iff.mp e2).2
              have g2 := (List.getElem?_eq_some_iff.mp hz).2
              rw [g1, g2] at this
              exact this
            have nv : v ≠ b := fun q => by
              subst q
              rw [e1] at hc
              simp at hc
            rw [e1] at ha q1
            rcases List.mem_append.mp ha with ha | ha
            · have := (List.pairwise_append.mp q1).2.2 a ha v (by simp)
              omega
            · rw [List.mem_singleton] at ha
              omega
        · rw [List.append_nil]; exact q1
      · intro y hy
        rcases List.mem_append.mp hy with hy | hy
        · exact q2 y hy
        · split at hy
          · rw [List.mem_singleton] at hy
            subst hy
            exact h1 y (hp.mem_iff.mp hw)
          · cases hy
      · rw [List.length_append]
        split <;> simp <;> omega
      · obtain rfl : j = k := by omega
        split
        · exact ⟨ys, w, rfl, hz⟩
        · rename_i hc
          simp only [Bool.or_eq_true, Bool.not_eq_true', decide_eq_false_iff_not, not_or, Classical.not_not] at hc
          have hne : ys ≠ [] := fun q => by rw [q] at hc; simp at hc
          obtain ⟨ws, v, rfl⟩ := last_of hne
          have := hc.2
          rw [List.getLast?_append] at this
          simp at this
          exact ⟨ws, w, by rw [this]; simp, hz⟩) ⟨[], rfl, List.Pairwise.nil, (fun y hy => nomatch hy), Nat.le_refl _, fun _ => rfl, fun j hj => by omega⟩
  rw [List.length_map] at q3 q5
  subst hρ
  have hx : 0 < xs.length := List.length_pos_iff.mpr h0
  refine ⟨ys, ?_, ?_, q1, q2, by omega⟩
  · have s0 : startE 3 [liI xs] = [some (liI xs), none, none] := rfl
    refine fnF_rt (ρ1 := [some (liI xs), some (liI ys), none]) ?_
    rw [s0]
    have eS : (itS (eP1 sortL (eV 0))) [some (liI xs), some (.lst []), none] = .ok ((sortI xs).map .int) [some (liI xs), some (.lst []), none] := by
      have : sortL (liI xs) () = .ok (.lst ((sortI xs).map .int)) () := by
        unfold sortL onInts liI
        dsimp only
        rw [intsD_map]; rfl
      have e2 : (eP1 sortL (eV 0)) [some (liI xs), some (.lst []), none] = .ok (.lst ((sortI xs).map .int)) [some (liI xs), some (.lst []), none] := p1_step (x := liI xs) (ρ1 := [some (liI xs), some (.lst []), none]) rfl this
      rw [ap_itS, e2, bnd_ok]
    refine seq_nx (ρ' := [some (liI xs), some (.lst []), none]) rfl (seq_nx (ρ' := [some (liI xs), some (liI ys), none]) ?_ rfl)
    rw [ap_sFor, eS, bnd_ok]
    exact eF
  · obtain ⟨ws, w, e, _⟩ := q5 ((sortI xs).length - 1) (by omega)
    rw [e]; simp
end K73
-- Q73b
/-! the pure side: numbers, refusals -/
namespace K73
open PySem PP
structure NOk (ys : List Int) : Prop where
  ne : ys ≠ []
  up : ys.Pairwise (· < ·)
  one : ∀ y ∈ ys, 1 ≤ y
  len : ys.length ≤ 4
def nuI (n : Nat) (k : Nat) (ρ : PP.Env) : Prop := ∃ (s : D) (xs : List Int), ρ = [some s, some (.int 4), some (.int 9), some (liI xs), none] ∧ Wf (n + k) s ∧ xs.length = k ∧ ∀ x ∈ xs, 1 ≤ x
def nuB : SM := (sApp 3 (eP2 addI (eC (.int 1)) (eIo F__law_draw 0 (eCons (eV 2) eNil))))
theorem nu_turn {n : Nat} {s : D} {xs : List Int} {k : Int} (w : Wf n s) (hn : n < 1000000) (hl : xs.length < 1000) : ∃ s' x, nuB [some s, some (.int 4), some (.int 9), some (liI xs), some (.int k)] = .ok .nx [some s', some (.int 4), some (.int 9), some (liI (xs ++ [x])), some (.int k)] ∧ Wf (n + 1) s' ∧ 1 ≤ x := by
  obtain ⟨j, s', e, j0, j1, w'⟩ := draw_ok (m := 9) w (by omega) (by decide) (by decide)
  have e : F__law_draw [.int 9] s = .ok (.int j) s' := by rw [draw_eq]; exact e
  refine ⟨s', 1 + j, ?_, w', by omega⟩
  have l := line_big
  have e1 : (eP2 addI (eC (.int 1)) (eIo F__law_draw 0 (eCons (eV 2) eNil))) [some s, some (.int 4), some (.int 9), some (liI xs), some (.int k)] = .ok (.int (1 + j)) [some s', some (.int 4), some (.int 9), some (liI xs), some (.int k)] :=
    p2_step (x := .int 1) (y := .int j) (ρ1 := [some s, some (.int 4), some (.int 9), some (liI xs), some (.int k)]) rfl (io_step (ρ1 := [some s, some (.int 4), some (.int 9), some (liI xs), some (.int k)]) rfl rfl e) rfl
  have u := updL_app (i := 3) (d := .int (1 + j)) (ds := xs.map .int) (ρ := [some s', some (.int 4), some (.int 9), some (liI xs), some (.int k)]) rfl (by rw [List.length_map]; omega)
  unfold nuB
  rw [ap_sApp]
  have c : chkL 3 [some s, some (.int 4), some (.int 9), some (liI xs), some (.int k)] = .ok () [some s, some (.int 4), some (.int 9), some (liI xs), some (.int k)] := rfl
  rw [c, bnd_ok, e1, bnd_ok, u, bnd_ok]
  have : xs.map D.int ++ [.int (1 + j)] = (xs ++ [1 + j]).map .int := by simp
  rw [this]; rfl
theorem numbers_ok {n : Nat} {s : D} (w : Wf n s) (hn : n < 1000) : ∃ ys s', F__law_numbers [.int 4, .int 9] s = .ok (liI ys) s' ∧ NOk ys := by
  obtain ⟨k, s1, e1, k0, k1, w1⟩ := draw_ok (m := 4) w (by omega) (by decide) (by decide)
  have e1 : F__law_draw [.int 4] s = .ok (.int k) s1 := by rw [draw_eq]; exact e1
  obtain ⟨kn, rfl⟩ := Int.eq_ofNat_of_zero_le k0
  obtain ⟨ρ', eF, s', xs, hρ, q1, q2, q3⟩ := forM_inv (ρ0 := [some s1, some (.int 4), some (.int 9), some (.lst []), none]) (tg := tgN 4) (s1 := nuB) (nuI (n + 1)) (rangeL 0 (1 + kn)) 0 [some s1, some (.int 4), some (.int 9), some (.lst []), none] (fun k d ρ hk ⟨s, xs, hρ, v1, v2, v3⟩ => by
    subst hρ
    obtain ⟨hk2, rfl⟩ := rangeL_get hk
    obtain ⟨s', x, e, w', hx⟩ := nu_turn (k := 0 + k) (xs := xs) v1 (by omega) (by omega)
    refine ⟨_, .nx, _, rfl, e, .inl rfl, s', xs ++ [x], rfl, w'.mono (by omega), by simp; omega, fun y hy => ?_⟩
    rw [List.mem_append, List.mem_singleton] at hy
    rcases hy with hy | rfl
    · exact v3 y hy
    · exact hx) ⟨s1, [], rfl, w1.mono (by omega), rfl, fun x hx => nomatch hx⟩
  subst hρ
  rw [rangeL_len] at q2
  have hne : xs ≠ [] := fun z => by rw [z] at q2; simp at q2; omega
  obtain ⟨ys, e2, a1, a2, a3, a4⟩ := ascending_ok hne (by omega) q3
  refine ⟨ys, s', ?_, a1, a2, a3, by omega⟩
  have s0 : startE 5 [s, .int 4, .int 9] = [some s, some (.int 4), some (.int 9), none, none] := rfl
  show defIo 5 m__law_numbers [.int 4, .int 9] s = _
  rw [ap_defIo, s0]
  have hm : m__law_numbers = sSeq (sAsg 3 (eLst eNil)) (sSeq (sFor (itA fnR1 (eCons (eP2 addI (eC (.int 1)) (eIo F__law_draw 0 (eCons (eV 1) eNil))) eNil)) (tgN 4) nuB) (sRet (eCall F__law_ascending (eCons (eV 3) eNil)))) := rfl
  have eA : (eP2 addI (eC (.int 1)) (eIo F__law_draw 0 (eCons (eV 1) eNil))) [some s, some (.int 4), some (.int 9), some (.lst []), none] = .ok (.int ((1 + kn : Nat) : Int)) [some s1, some (.int 4), some (.int 9), some (.lst []), none] := by
    have : (.int ((1 + kn : Nat) : Int) : D) = .int (1 + (kn : Int)) := by rw [Int.natCast_add]; rfl
    rw [this]
    exact p2_step (x := .int 1) (y := .int kn) (ρ1 := [some s, some (.int 4), some (.int 9), some (.lst []), none]) rfl (io_step (ρ1 := [some s, some (.int 4), some (.int 9), some (.lst []), none]) rfl rfl e1) rfl
  have eI := range_it eA (by omega)
  have eW : (sFor (itA fnR1 (eCons (eP2 addI (eC (.int 1)) (eIo F__law_draw 0 (eCons (eV 1) eNil))) eNil)) (tgN 4) nuB) [some s, some (.int 4), some (.int 9), some (.lst []), none] = .ok .nx [some s', some (.int 4), some (.int 9), some (liI xs), none] := by rw [ap_sFor, eI, bnd_ok]; exact eF
  have eZ : m__law_numbers [some s, some (.int 4), some (.int 9), none, none] = .ok (.rt (liI ys)) [some s', some (.int 4), some (.int 9), some (liI xs), none] := by
    rw [hm]
    exact seq_nx (ρ' := [some s, some (.int 4), some (.int 9), some (.lst []), none]) rfl (seq_nx eW (ret_step (call_step (cons1_step rfl) e2)))
  rw [eZ]
  rfl
/-! ### what is asked of the program -/
theorem is_list_l (ds : List D) : F_is_list [.lst ds] () = .ok (.bl true) () := by
  have t := isD_ok (ts := [.list, .tuple]) (d := .lst ds) (n := "list") (b := true) rfl rfl
  exact fnF_rt (ret_step (p1_step (x := .lst ds) (ρ1 := [some (.lst ds)]) rfl t))
theorem is_whole_i (i : Int) : F_is_whole [.int i] () = .ok (.bl true) () := by
  have t1 := isD_ok (ts := [.int]) (d := .int i) (n := "int") (b := true) rfl rfl
  have t2 := isD_ok (ts := [.bool]) (d := .int i) (n := "int") (b := false) rfl rfl
  have f : fgP (.int i) () = .ok (.int i) () := rfl
  unfold F_is_whole
  rw [ap_defF]
  unfold m_is_whole
  simp [t1, t2, f]
theorem slA_lst (ds : List D) (i j : Option Int) : slA (.lst ds) i j () = .ok (.lst (cutL ds i j)) () := rfl
theorem need_ok {ys : List Int} (h : NOk ys) : F_need_numbers [liI ys] () = .ok (.tup (ys.map .int)) () := by
  have hl := h.len
  have s0 : startE 2 [liI ys] = [some (liI ys), none] := rfl
  have fg : (eP1 fgP (eV 0)) [some (liI ys), none] = .ok (liI ys) [some (liI ys), none] := rfl
  have hy : 0 < ys.length := List.length_pos_iff.mpr h.ne
  -- all are whole and above nought
  obtain ⟨s, eQ⟩ := comp_ok (j := 2) (it := itS (eP1 fgP (eV 0))) (tg := tgN 1) (a := (eAnd (eCall F_is_whole (eCons (eV 1) eNil)) (eP2 gtI (eV 1) (eC (.int 0))))) (ρ := [some (liI ys), none]) (ρ1 := [some (liI ys), none]) (ds := ys.map .int) (fun _ => .bl true) rfl (by rw [List.length_map]; omega) (fun d hd s => by
    obtain ⟨y, hy, rfl⟩ := List.mem_map.mp hd
    have g := h.one y hy
    refine ⟨[some (liI ys), some (.int y)], [some (liI ys), some (.int y)], rfl, ?_⟩
    have e1 : eCall F_is_whole (eCons (eV 1) eNil) [some (liI ys), some (.int y)] = .ok (.bl true) [some (liI ys), some (.int y)] := call_step (cons1_step rfl) (is_whole_i y)
    have e2 : eP2 gtI (eV 1) (eC (.int 0)) [some (liI ys), some (.int y)] = .ok (.bl true) [some (liI ys), some (.int y)] := p2_step (x := .int y) (y := .int 0) (ρ1 := [some (liI ys), some (.int y)]) rfl rfl (by rw [ap_gtI, decide_eq_true (by omega)])
    rw [ap_eAnd, e1, bnd_ok]
    exact e2) rfl
  have e0 : (ys.map D.int).map (fun _ => D.bl true) = List.replicate ys.length (.bl true) := by rw [List.map_map]; exact (List.map_const' ..)
  rw [e0] at eQ
  have eA : eP1 allB (eComp 2 (itS (eP1 fgP (eV 0))) (tgN 1) tYesM (eAnd (eCall F_is_whole (eCons (eV 1) eNil)) (eP2 gtI (eV 1) (eC (.int 0))))) [some (liI ys), none] = .ok (.bl true) [some (liI ys), none] := p1_step eQ (allB_rep _)
  have eL : (eP2 eqD (eP1 lenD (eP1 fgP (eV 0))) (eC (.int 0))) [some (liI ys), none] = .ok (.bl false) [some (liI ys), none] := p2_step (x := .int (ys.map D.int).length) (y := .int 0) (ρ1 := [some (liI ys), none]) (p1_step (x := liI ys) (ρ1 := [some (liI ys), none]) rfl rfl) rfl (by rw [eqD_int, decide_eq_false (by rw [List.length_map]; omega)])
  -- ascending
  have asc : F_is_ascending [liI ys] () = .ok (.bl true) () := by
    have t0 : startE 3 [liI ys] = [some (liI ys), none, none] := rfl
    have sl : slA (liI ys) (some 1) none () = .ok (.lst ((ys.map D.int).drop 1)) () := by
      rw [slA_lst, cut_from (by decide) (by rw [List.length_map]; omega)]; rfl
    have eI : itA fnZip (eCons (eP1 fgP (eV 0)) (eCons (eSl slA (eP1 fgP (eV 0)) (poE (eC (.int 1))) poN) eNil)) [some (liI ys), none, none] = .ok (zipL (ys.map D.int) ((ys.map D.int).drop 1)) [some (liI ys), none, none] := by
      have e1 : (eSl slA (eP1 fgP (eV 0)) (poE (eC (.int 1))) poN) [some (liI ys), none, none] = .ok (.lst ((ys.map D.int).drop 1)) [some (liI ys), none, none] := by
        have f1 : (eP1 fgP (eV 0)) [some (liI ys), none, none] = .ok (liI ys) [some (liI ys), none, none] := rfl
        rw [ap_eSl, f1, bnd_ok]
        have f2 : (poE (eC (.int 1))) [some (liI ys), none, none] = .ok (some 1) [some (liI ys), none, none] := rfl
        rw [f2, bnd_ok, ap_poN, bnd_ok, sl]; rfl
      have f3 : (eP1 fgP (eV 0)) [some (liI ys), none, none] = .ok (liI ys) [some (liI ys), none, none] := rfl
      have e2 := cons_step f3 (cons1_step e1)
      rw [ap_itA, e2, bnd_ok]
      rfl
    obtain ⟨s, eQ⟩ := comp_ok (j := 3) (it := itA fnZip (eCons (eP1 fgP (eV 0)) (eCons (eSl slA (eP1 fgP (eV 0)) (poE (eC (.int 1))) poN) eNil))) (tg := tgT [(tgN 1), (tgN 2)]) (a := (eP2 ltI (eV 1) (eV 2))) (ρ := [some (liI ys), none, none]) (ρ1 := [some (liI ys), none, none]) (ds := zipL (ys.map D.int) ((ys.map D.int).drop 1)) (fun _ => .bl true) eI (by unfold zipL; rw [List.length_zipWith, List.length_map]; omega) (fun d hd s => by
      unfold zipL at hd
      obtain ⟨i, hi⟩ := List.getElem?_of_mem hd
      rw [List.getElem?_zipWith, List.getElem?_drop, List.getElem?_map, List.getElem?_map] at hi
      cases ea : ys[i]? with
      | none => rw [ea] at hi; cases hi
      | some a =>
        cases eb : ys[1 + i]? with
        | none => rw [ea, eb] at hi; cases hi
        | some b =>
          rw [ea, eb] at hi
          cases hi
          have lt : a < b := by
            have ha := List.getElem?_eq_some_iff.mp ea
            have hb := List.getElem?_eq_some_iff.mp eb
            have := List.pairwise_iff_getElem.mp h.up i (1 + i) ha.1 hb.1 (by omega)
            rw [ha.2, hb.2] at this
            exact this
          refine ⟨[some (liI ys), some (.int a), some (.int b)], [some (liI ys), some (.int a), some (.int b)], rfl, ?_⟩
          exact p2_step (x := .int a) (y := .int b) (ρ1 := [some (liI ys), some (.int a), some (.int b)]) rfl rfl (by rw [ap_ltI, decide_eq_true lt])) rfl
    rw [show (zipL (ys.map D.int) ((ys.map D.int).drop 1)).map (fun _ => D.bl true) = List.replicate _ (.bl true) from List.map_const' ..] at eQ
    refine fnF_rt (ρ1 := [some (liI ys), none, none]) ?_
    rw [t0]
    exact ret_step (p1_step eQ (allB_rep _))
  refine fnF_rt (ρ1 := [some (liI ys), none]) ?_
  rw [s0]
  refine seq_nx (ρ' := [some (liI ys), none]) (if_f (ρ1 := [some (liI ys), none]) (tOr_f (tNot_step (k := true) (tTru_step (call_step (cons1_step rfl) (is_list_l _)))) (tOr_f (tB_step eL) (tNot_step (k := true) (tTru_step eA)))) rfl) ?_
  refine seq_nx (ρ' := [some (liI ys), none]) (if_f (ρ1 := [some (liI ys), none]) (tNot_step (k := true) (tTru_step (call_step (cons1_step rfl) asc))) rfl) ?_
  exact ret_step (p1_step (x := liI ys) (ρ1 := [some (liI ys), none]) fg rfl)
/-- what is refused as numbers -/
def nOdds : List D := [.non, .int 5, .str "12", .dct [] [], .lst [], .lst [.int 0], .lst [.int (-1)], .lst [.bl true], .lst [.int 2, .int 1], .lst [.int 1, .int 1], .lst [.int 1, .non], .lst [.str "1"]]
def veryD : D := .lid [oddD]
abbrev xN (d : D) : Ex := ⟨"BadNumbers", [("numbers", d)]⟩
theorem need_bad {d : D} (h : d ∈ veryD :: nOdds) : F_need_numbers [d] () = .exn (xN d) () := by
  unfold veryD nOdds at h
  simp only [List.mem_cons, List.not_mem_nil, or_false] at h
  rcases h with rfl | rfl | rfl | rfl | rfl | rfl | rfl | rfl | rfl | rfl | rfl | rfl | rfl <;> rfl
end K73
-- Q73c
/-! the pure side: what is asked -/
namespace K73
open PySem PP
section
variable {d : D} {e : Ex} (hn : F_need_numbers [d] () = .exn e ())
include hn
theorem sum_n (c m : D) : F_is_sum_of [d, c, m] () = .exn e () := fnF_exn (seq_exn (asg_exn (call_exn (cons1_step (ρ1 := [some d, some c, some m, none, none]) rfl) hn)))
theorem a_3 : FL_3 [d] () = .exn e () := fnL_exn' (call_exn (F := F_is_sum_of) (xs := [d, .non, .non]) (ρ1 := [some d]) rfl (sum_n hn _ _))
theorem a_4 : FL_4 [d] () = .exn e () := by
  have e1 : F_rest_table [d] () = .exn e () := by
    refine fnF_exn (ρ1 := [some d]) (ret_exn ?_)
    have : eCall F_table_of (eCons (eCall F_need_numbers (eCons (eV 0) eNil)) eNil) [some d] = .exn e [some d] := call_exnA (cons_exn (call_exn (cons1_step rfl) hn))
    show eP2 idxD _ _ [some d] = _
    rw [ap_eP2, this]; rfl
  exact fnL_exn' (call_exn (F := F_rest_table) (xs := [d]) (ρ1 := [some d]) rfl e1)
theorem a_5 : FL_5 [d] () = .exn e () := fnL_exn' (call_exn (F := F_is_rest_table) (xs := [d, .non]) (ρ1 := [some d]) rfl (fnF_exn (seq_exn (asg_exn (call_exn (cons1_step (ρ1 := [some d, some .non, none, none, none]) rfl) hn)))))
theorem a_6 : FL_6 [d] () = .exn e () := fnL_exn' (call_exn (F := F_summed_or_table) (xs := [d, .non]) (ρ1 := [some d]) rfl (fnF_exn (seq_exn (asg_exn (call_exn (cons1_step (ρ1 := [some d, some .non, none, none]) rfl) hn)))))
theorem a_7 : FL_7 [d] () = .exn e () := fnL_exn' (call_exn (F := F_gaps) (xs := [d]) (ρ1 := [some d]) rfl (fnF_exn (seq_exn (asg_exn (call_exn (cons1_step (ρ1 := [some d, none, none]) rfl) hn)))))
theorem a_8 : FL_8 [d] () = .exn e () := fnL_exn' (call_exn (F := F_greatest_gap) (xs := [d]) (ρ1 := [some d]) rfl (fnF_exn (seq_exn (asg_exn (call_exn (cons1_step (ρ1 := [some d, none]) rfl) hn)))))
theorem a_9 : FL_9 [d] () = .exn e () := fnL_exn' (call_exn (F := F_sums_set) (xs := [d]) (ρ1 := [some d]) rfl (fnF_exn (seq_exn (asg_exn (call_exn (cons1_step (ρ1 := [some d, none, none, none, none]) rfl) hn)))))
theorem a_10 : FL_10 [d] () = .exn e () := fnL_exn' (call_exn (F := F_needless_numbers) (xs := [d]) (ρ1 := [some d]) rfl (fnF_exn (seq_exn (asg_exn (call_exn (cons1_step (ρ1 := [some d, none, none, none, none, none]) rfl) hn)))))
theorem a_11 : FL_11 [d] () = .exn e () := fnL_exn' (call_exn (F := F_is_even_gapped) (xs := [d]) (ρ1 := [some d]) rfl (fnF_exn (seq_exn (asg_exn (call_exn (cons1_step (ρ1 := [some d, none, none, none, none]) rfl) hn)))))
theorem a_12 : FL_12 [d] () = .exn e () := fnL_exn' (callK_exn (F := F_fewest_counts) (xs := []) (ys := [.non, d]) (ρ1 := [some d]) (ρ2 := [some d]) rfl rfl (fnF_exn (seq_exn (asg_exn (call_exn (cons1_step (ρ1 := [some d, some .non, none, none, none, none, none, none, none, none]) rfl) hn)))))
end
section
variable {d : D} {e : Ex} (hn : F_need_with_one [d] () = .exn e ())
include hn
theorem a_13 : FL_13 [d] () = .exn e () := fnL_exn' (call_exn (F := F_greedy_counts) (xs := [d, .non]) (ρ1 := [some d]) rfl (fnF_exn (seq_exn (asg_exn (call_exn (cons1_step (ρ1 := [some d, some .non, none]) rfl) hn)))))
theorem a_14 : FL_14 [d] () = .exn e () := fnL_exn' (call_exn (F := F_greedy_gap) (xs := [d]) (ρ1 := [some d]) rfl (fnF_exn (seq_exn (asg_exn (call_exn (cons1_step (ρ1 := [some d, none, none, none, none]) rfl) hn)))))
end
theorem one_n {d : D} {e : Ex} (hn : F_need_numbers [d] () = .exn e ()) : F_need_with_one [d] () = .exn e () := fnF_exn (seq_exn (asg_exn (call_exn (cons1_step (ρ1 := [some d, none]) rfl) hn)))
def oOdds : List D := [.lst [.int 2], .lst [.int 3, .int 5], .lst [.int 2, .int 3]]
theorem one_o {d : D} (h : d ∈ oOdds) : F_need_with_one [d] () = .exn (xN d) () := by
  unfold oOdds at h
  simp only [List.mem_cons, List.not_mem_nil, or_false] at h
  rcases h with rfl | rfl | rfl <;> rfl
/-! counts -/
def cOdds (n : Nat) : List D := [.non, .int 5, .str "ab", .dct [] [], .lst (List.replicate (n + 1) (.int 0)), .lst (List.replicate (n - 1) (.int 0)), .lst (List.replicate n (.int (-1))), .lst (List.replicate n (.bl true)), .lst (List.replicate n .non)]
abbrev xC (d : D) : Ex := ⟨"BadCounts", [("counts", d)]⟩
theorem a_15 {ys : List Int} (h : NOk ys) {d : D} (hd : d ∈ veryD :: cOdds ys.length) : FL_15 [d, liI ys] () = .exn (xC d) () := by
  refine fnL_exn' (call_exn (F := F_is_sum_of) (xs := [liI ys, d, .non]) (ρ1 := [some d, some (liI ys)]) rfl (fnF_exn (ρ1 := [some (liI ys), some d, some .non, some (.tup (ys.map .int)), none]) ?_))
  refine seq_nx (ρ' := [some (liI ys), some d, some .non, some (.tup (ys.map .int)), none]) (asg_step (ρ1 := [some (liI ys), some d, some .non, none, none]) (call_step (cons1_step rfl) (need_ok h))) (seq_exn ?_)
  refine if_t (ρ1 := [some (liI ys), some d, some .non, some (.tup (ys.map .int)), none]) ?_ rfl
  have row (b : Bool) (hb : F_is_row [d, .int ys.length] () = .ok (.bl b) ()) : tNot (tTru (eCall F_is_row (eCons (eV 1) (eCons (eP1 lenD (eV 3)) eNil)))) [some (liI ys), some d, some .non, some (.tup (ys.map .int)), none] = .ok (!b) [some (liI ys), some d, some .non, some (.tup (ys.map .int)), none] := by
    refine tNot_step (tTru_step (call_step (xs := [d, .int ys.length]) (cons_step (ρ1 := [some (liI ys), some d, some .non, some (.tup (ys.map .int)), none]) rfl (cons1_step (p1_step (x := .tup (ys.map .int)) (ρ1 := [some (liI ys), some d, some .non, some (.tup (ys.map .int)), none]) rfl ?_))) hb))
    rw [ap_lenT, List.length_map]
  have f (hb : F_is_row [d, .int ys.length] () = .ok (.bl false) ()) := tOr_t (u := (tNot (tTru (eP1 allB (eComp 5 (itS (eP1 fgP (eV 1))) (tgN 4) tYesM (eCall F_is_number (eCons (eV 4) eNil))))))) (row false hb)
  have g (hb : F_is_row [d, .int ys.length] () = .ok (.bl true) ()) (ha : eP1 allB (eComp 5 (itS (eP1 fgP (eV 1))) (tgN 4) tYesM (eCall F_is_number (eCons (eV 4) eNil))) [some (liI ys), some d, some .non, some (.tup (ys.map .int)), none] = .ok (.bl false) [some (liI ys), some d, some .non, some (.tup (ys.map .int)), none]) := tOr_f (row true hb) (tNot_step (k := false) (tTru_step ha))
  have hl := h.len
  have h0 : 0 < ys.length := List.length_pos_iff.mpr h.ne
  revert f g row
  generalize hN : ys.length = n at *
  intro row f g
  clear row
  unfold veryD cOdds at hd
  simp only [List.mem_cons, List.not_mem_nil, or_false] at hd
  have cs : n = 1 ∨ n = 2 ∨ n = 3 ∨ n = 4 := by omega
  rcases cs with rfl | rfl | rfl | rfl <;> rcases hd with rfl | rfl | rfl | rfl | rfl | rfl | rfl | rfl | rfl | rfl <;> first | exact f rfl | exact g rfl rfl
/-! sums -/
def sOdds : List D := [.non, .int (-1), .str "2", .lst [], .bl true, .dct [] []]
abbrev xS (d : D) : Ex := ⟨"BadNumber", [("number", d)]⟩
theorem sum_bad {d : D} (h : d ∈ veryD :: sOdds) : F_need_sum [d] () = .exn (xS d) () := by
  unfold veryD sOdds at h
  simp only [List.mem_cons, List.not_mem_nil, or_false] at h
  rcases h with rfl | rfl | rfl | rfl | rfl | rfl | rfl <;> rfl
theorem expr_exn {a : EM D} {ρ ρ1 : PP.Env} {e : Ex} (h : a ρ = .exn e ρ1) : sExpr a ρ = .exn e ρ1 := by rw [ap_sExpr, h]; rfl
theorem a_16 {ys : List Int} (h : NOk ys) {d : D} (hd : d ∈ veryD :: sOdds) : FL_16 [d, liI ys] () = .exn (xS d) () := by
  have hl := h.len
  have rp : repD (.lst [.int 0]) (.int ys.length) () = .ok (.lst (List.replicate ys.length (.int 0))) () := repD_ok (by omega)
  have ez : (eP2 repD (eLst (eCons (eC (.int 0)) eNil)) (eP1 lenD (eV 1))) [some d, some (liI ys)] = .ok (.lst (List.replicate ys.length (.int 0))) [some d, some (liI ys)] := p2_step (x := .lst [.int 0]) (y := .int ys.length) (ρ1 := [some d, some (liI ys)]) rfl (p1_step (x := liI ys) (ρ1 := [some d, some (liI ys)]) rfl (by rw [ap_lenL, List.length_map])) rp
  have f1 : eV 1 [some d, some (liI ys)] = .ok (liI ys) [some d, some (liI ys)] := rfl
  have f2 : eV 0 [some d, some (liI ys)] = .ok d [some d, some (liI ys)] := rfl
  refine fnL_exn' (call_exn (F := F_is_sum_of) (cons_step f1 (cons_step ez (cons1_step f2))) (fnF_exn (ρ1 := [some (liI ys), some (.lst (List.replicate ys.length (.int 0))), some d, some (.tup (ys.map .int)), none]) ?_))
  refine seq_nx (ρ' := [some (liI ys), some (.lst (List.replicate ys.length (.int 0))), some d, some (.tup (ys.map .int)), none]) (asg_step (ρ1 := [some (liI ys), some (.lst (List.replicate ys.length (.int 0))), some d, none, none]) (call_step (cons1_step rfl) (need_ok h))) ?_
  have row (hb : F_is_row [.lst (List.replicate ys.length (.int 0)), .int ys.length] () = .ok (.bl true) ()) : tNot (tTru (eCall F_is_row (eCons (eV 1) (eCons (eP1 lenD (eV 3)) eNil)))) [some (liI ys), some (.lst (List.replicate ys.length (.int 0))), some d, some (.tup (ys.map .int)), none] = .ok false [some (liI ys), some (.lst (List.replicate ys.length (.int 0))), some d, some (.tup (ys.map .int)), none] := by
    refine tNot_step (k := true) (tTru_step (call_step (xs := [.lst (List.replicate ys.length (.int 0)), .int ys.length]) (cons_step (ρ1 := [some (liI ys), some (.lst (List.replicate ys.length (.int 0))), some d, some (.tup (ys.map .int)), none]) rfl (cons1_step (p1_step (x := .tup (ys.map .int)) (ρ1 := [some (liI ys), some (.lst (List.replicate ys.length (.int 0))), some d, some (.tup (ys.map .int)), none]) rfl ?_))) hb))
    rw [ap_lenT, List.length_map]
  have h0 : 0 < ys.length := List.length_pos_iff.mpr h.ne
  refine seq_nx (ρ' := [some (liI ys), some (.lst (List.replicate ys.length (.int 0))), some d, some (.tup (ys.map .int)), none]) (if_f (ρ1 := [some (liI ys), some (.lst (List.replicate ys.length (.int 0))), some d, some (.tup (ys.map .int)), none]) (tOr_f (row ?_) (tNot_step (k := true) (tTru_step ?_))) rfl) (seq_exn (expr_exn (call_exn (cons1_step rfl) (sum_bad hd))))
  · clear row rp ez
    generalize ys.length = n at *
    have cs : n = 1 ∨ n = 2 ∨ n = 3 ∨ n = 4 := by omega
    rcases cs with rfl | rfl | rfl | rfl <;> rfl
  · clear row rp ez
    generalize ys.length = n at *
    have cs : n = 1 ∨ n = 2 ∨ n = 3 ∨ n = 4 := by omega
    rcases cs with rfl | rfl | rfl | rfl <;> rfl
theorem a_17 {ys : List Int} (h : NOk ys) {d : D} (hd : d ∈ veryD :: sOdds) : FL_17 [d, liI ys] () = .exn (xS d) () := by
  refine fnL_exn' (call_exn (F := F_summed_or_table) (xs := [liI ys, d]) (ρ1 := [some d, some (liI ys)]) rfl (fnF_exn (ρ1 := [some (liI ys), some d, some (.tup (ys.map .int)), none]) ?_))
  exact seq_nx (ρ' := [some (liI ys), some d, some (.tup (ys.map .int)), none]) (asg_step (ρ1 := [some (liI ys), some d, none, none]) (call_step (cons1_step rfl) (need_ok h))) (seq_exn (expr_exn (call_exn (cons1_step rfl) (sum_bad hd))))
theorem a_18 {ys : List Int} (h : NOk ys) {d : D} (hd : d ∈ veryD :: sOdds) : FL_18 [d, liI ys] () = .exn (xS d) () := by
  refine fnL_exn' (call_exn (F := F_fewest_counts) (xs := [liI ys, d]) (ρ1 := [some d, some (liI ys)]) rfl (fnF_exn (ρ1 := [some (liI ys), some d, some (.tup (ys.map .int)), none, none, none, none, none, none, none]) ?_))
  exact seq_nx (ρ' := [some (liI ys), some d, some (.tup (ys.map .int)), none, none, none, none, none, none, none]) (asg_step (ρ1 := [some (liI ys), some d, none, none, none, none, none, none, none, none]) (call_step (cons1_step rfl) (need_ok h))) (seq_exn (expr_exn (call_exn (cons1_step rfl) (sum_bad hd))))
theorem a_19 {d : D} (hd : d ∈ veryD :: sOdds) : FL_19 [d] () = .exn (xS d) () := by
  have e1 : F_need_with_one [.lst [.int 1, .int 4]] () = .ok (.tup [.int 1, .int 4]) () := rfl
  refine fnL_exn' (call_exn (F := F_greedy_counts) (xs := [.lst [.int 1, .int 4], d]) (ρ1 := [some d]) rfl (fnF_exn (ρ1 := [some (.lst [.int 1, .int 4]), some d, some (.tup [.int 1, .int 4])]) ?_))
  exact seq_nx (ρ' := [some (.lst [.int 1, .int 4]), some d, some (.tup [.int 1, .int 4])]) (asg_step (ρ1 := [some (.lst [.int 1, .int 4]), some d, none]) (call_step (cons1_step rfl) e1)) (seq_exn (expr_exn (call_exn (cons1_step rfl) (sum_bad hd))))
end K73
-- Q73d
/-! the pure side: who refuses -/
namespace K73
open PySem PP
/-- asked with o, the closure raises the class x with o under f -/
def Rf (x f : Str) (c : D) (o : D) : Prop := ∃ k ds F, c = .clo k ds ∧ T_lam_1_ask.lookup k = some F ∧ F (o :: ds) () = .exn ⟨x, [(f, o)]⟩ ()
theorem lam_ask {x f : Str} {c o : D} (h : Rf x f c o) (ho : o.noClo = true) (tab : List (Nat × Fn)) (ht : tab = T_lam_1_ask) : eClo tab 0 (eCons (eV 1) eNil) [some c, some o] = .exn ⟨x, [(f, o)]⟩ [some c, some o] := by
  obtain ⟨k, ds, F, rfl, hl, hF⟩ := h
  subst ht
  show ((match T_lam_1_ask.lookup k with
    | some F => if D.noCloA [o] = true then lift (F ([o] ++ ds)) else M.stuck
    | none => M.stuck : EM D) [some (.clo k ds), some o]) = _
  rw [hl]
  dsimp only
  have hn : D.noCloA [o] = true := by simp [D.noCloA, ho]
  rw [if_pos hn, ap_lift, List.singleton_append, hF]; rfl
theorem fl_1 {x f : Str} {c o : D} (h : Rf x f c o) (ho : o.noClo = true) : FL_1 [c, o] () = .exn ⟨x, [(f, o)]⟩ () := fnL_exn' (ρ1 := [some c, some o]) (lam_ask h ho T_lam_1_ask rfl)
theorem fl_2 {x f : Str} {c o : D} (h : Rf x f c o) (ho : o.noClo = true) : FL_2 [c, o] () = .exn ⟨x, [(f, o)]⟩ () := fnL_exn' (ρ1 := [some c, some o]) (lam_ask h ho T_lam_2_ask rfl)
theorem met_of {c : Nat} {ds : List D} {F : Fn} {x : Ex} {d : D} {h : Hdl} (hl : T__law_met_ask.lookup c = some F) (hF : F ds () = .exn x ()) (hk : (["BadCounts", "BadNumber", "BadNumbers"] : List Str).contains x.c = true) (hf : ([⟨"BadCounts", 1, "counts", some "counts"⟩, ⟨"BadNumber", 1, "number", some "number"⟩, ⟨"BadNumbers", 1, "numbers", some "numbers"⟩] : List Hdl).find? (fun h => h.cls == x.c) = some h) (ha : h.ans x = some d) : F__law_met [.clo c ds] () = .ok d () := by
  have s0 : startE 2 [.clo c ds] = [some (.clo c ds), none] := rfl
  refine fnF_rt (ρ1 := [some (.clo c ds), none]) ?_
  rw [s0]
  have e1 : eClo T__law_met_ask 0 eNil [some (.clo c ds), none] = .exn x [some (.clo c ds), none] := by
    show ((match T__law_met_ask.lookup c with
      | some F => if D.noCloA [] = true then lift (F ([] ++ ds)) else M.stuck
      | none => M.stuck : EM D) [some (.clo c ds), none]) = _
    rw [hl]
    dsimp only
    rw [if_pos (show D.noCloA [] = true from rfl), List.nil_append, ap_lift, hF]; rfl
  have e2 : (sRet (eTup (eCons (PP.eC (.str "told")) (eCons (eClo T__law_met_ask 0 eNil) eNil)))) [some (.clo c ds), none] = .exn x [some (.clo c ds), none] := by
    rw [ap_sRet, ap_eTup, ap_eCons, ap_eC, bnd_ok, ap_eCons, e1]; rfl
  unfold m__law_met sTry
  rw [e2]
  dsimp only
  rw [if_pos hk, hf]
  dsimp only
  rw [ha]
/-- a word, its class, its field -/
structure Wd (w x f : Str) : Prop where
  m1 : ∀ c o, FL_1 [c, o] () = .exn ⟨x, [(f, o)]⟩ () → F__law_met [.clo 1 [c, o]] () = .ok (.tup [.str w, o]) ()
  m2 : ∀ c o, FL_2 [c, o] () = .exn ⟨x, [(f, o)]⟩ () → F__law_met [.clo 2 [c, o]] () = .ok (.tup [.str w, o]) ()
  s : PyData.strOk w = true
theorem wd_n : Wd "numbers" "BadNumbers" "numbers" := ⟨fun c o h => met_of rfl h rfl rfl rfl, fun c o h => met_of rfl h rfl rfl rfl, by decide +kernel⟩
theorem wd_c : Wd "counts" "BadCounts" "counts" := ⟨fun c o h => met_of rfl h rfl rfl rfl, fun c o h => met_of rfl h rfl rfl rfl, by decide +kernel⟩
theorem wd_s : Wd "number" "BadNumber" "number" := ⟨fun c o h => met_of rfl h rfl rfl rfl, fun c o h => met_of rfl h rfl rfl rfl, by decide +kernel⟩
theorem very_ok {w x f : Str} (W : Wd w x f) {c : D} (hc : c.noLid = true) (h : Rf x f c veryD) : F__law_is_very [.str w, c] () = .ok (.bl true) () := by
  have e1 : guardC (F__law_met [.clo 1 [c, .lid [oddD]]]) () = .ok (.tup [.str w, .lid [oddD]]) () := by
    have m : F__law_met [.clo 1 [c, .lid [oddD]]] () = .ok (.tup [.str w, .lid [oddD]]) () := W.m1 c _ (fl_1 h rfl)
    unfold guardC
    rw [m]
    rfl
  have e2 : F__law_same 20 [.tup [.str w, .lst [oddD, lateD]], .tup [.str w, .lst [oddD, lateD]]] () = .ok (.bl true) () := by
    rw [same_eq]
    refine same_refl 20 _ ?_
    have : D.gd 20 (.tup [.str w, .lst [oddD, lateD]]) = (decide (2 ≤ 1000000) && (PyData.strOk w && (D.gd 19 (.lst [oddD, lateD]) && true))) := rfl
    rw [this, W.s, show D.gd 19 (.lst [oddD, lateD]) = true by decide +kernel]; rfl
  refine fnF_rt (ρ1 := [some (.str w), some c, none, none]) ?_
  have s0 : startE 4 [.str w, c] = [some (.str w), some c, none, none] := rfl
  rw [s0]
  show mVery F__law_met (F__law_same 20) 1 [some (.str w), some c, none, none] = _
  unfold mVery
  dsimp only
  rw [if_pos hc, e1]
  dsimp only [oddD]
  dsimp only [oddD] at e2
  rw [e2]
theorem refused_ok {w x f : Str} (W : Wd w x f) {odds asks : List D} (hl : odds.length < 1000) (ho : ∀ o ∈ odds, o.noClo = true ∧ o.gd 19 = true) (ha : ∀ c ∈ asks, c.noLid = true ∧ (∀ o ∈ odds, Rf x f c o) ∧ Rf x f c veryD) : F__law_all_refused [.str w, .lst odds, .lst asks] () = .ok (.bl true) () := by
  have s0 : startE 5 [.str w, .lst odds, .lst asks] = [some (.str w), some (.lst odds), some (.lst asks), none, none] := rfl
  obtain ⟨ρ', eF, hρ⟩ := forM_inv (ρ0 := [some (.str w), some (.lst odds), some (.lst asks), none, none]) (tg := tgN 3) (s1 := (sIf (tOr (tNot (tTru (eP1 allB (eComp 5 (itS (eV 1)) (tgN 4) tYesM (eCallC (F__law_same 20) (eCons (eCallC F__law_met (eCons (eLam 2 [3, 4]) eNil)) (eCons (eTup (eCons (eV 0) (eCons (eV 4) eNil))) eNil))))))) (tNot (tTru (eCall F__law_is_very (eCons (eV 0) (eCons (eV 3) eNil)))))) (sRet (eC (.bl false))) sSkip)) (fun _ ρ => ρ = [some (.str w), some (.lst odds), some (.lst asks), none, none]) asks 0 [some (.str w), some (.lst odds), some (.lst asks), none, none] (fun k c ρ hk hρ => by
    subst hρ
    obtain ⟨h1, h2, h3⟩ := ha c (List.mem_of_getElem? hk)
    refine ⟨[some (.str w), some (.lst odds), some (.lst asks), some c, none], .nx, [some (.str w), some (.lst odds), some (.lst asks), some c, none], rfl, ?_, .inl rfl, rfl⟩
    obtain ⟨s, eQ⟩ := comp_ok (j := 5) (it := itS (eV 1)) (tg := tgN 4) (a := (eCallC (F__law_same 20) (eCons (eCallC F__law_met (eCons (eLam 2 [3, 4]) eNil)) (eCons (eTup (eCons (eV 0) (eCons (eV 4) eNil))) eNil)))) (ρ := [some (.str w), some (.lst odds), some (.lst asks), some c, none]) (ρ1 := [some (.str w), some (.lst odds), some (.lst asks), some c, none]) (ds := odds) (fun _ => .bl true) rfl (by omega) (fun o hod s => by
      obtain ⟨o1, o2⟩ := ho o hod
      have m := W.m2 c o (fl_2 (h2 o hod) o1)
      have g1 : guardC (F__law_met [.clo 2 [c, o]]) () = .ok (.tup [.str w, o]) () := by
        unfold guardC
        rw [m]
        dsimp only
        rw [if_pos (by simp [D.noClo, D.noCloA, o1])]
      have sm : F__law_same 20 [.tup [.str w, o], .tup [.str w, o]] () = .ok (.bl true) () := by
        rw [same_eq]
        refine same_refl 20 _ ?_
        have : D.gd 20 (.tup [.str w, o]) = (decide (2 ≤ 1000000) && (PyData.strOk w && (D.gd 19 o && true))) := rfl
        rw [this, W.s, o2]; rfl
      have g2 : guardC (F__law_same 20 [.tup [.str w, o], .tup [.str w, o]]) () = .ok (.bl true) () := by
        unfold guardC
        rw [sm]; rfl
      have e1 : eCallC F__law_met (eCons (eLam 2 [3, 4]) eNil) [some (.str w), some (.lst odds), some (.lst asks), some c, some o] = .ok (.tup [.str w, o]) [some (.str w), some (.lst odds), some (.lst asks), some c, some o] := callC_step (xs := [.clo 2 [c, o]]) rfl g1
      have e2 : eTup (eCons (eV 0) (eCons (eV 4) eNil)) [some (.str w), some (.lst odds), some (.lst asks), some c, some o] = .ok (.tup [.str w, o]) [some (.str w), some (.lst odds), some (.lst asks), some c, some o] := rfl
      exact ⟨[some (.str w), some (.lst odds), some (.lst asks), some c, some o], [some (.str w), some (.lst odds), some (.lst asks), some c, some o], rfl, callC_step (cons_step e1 (cons1_step e2)) g2⟩) rfl
    rw [show odds.map (fun _ => D.bl true) = List.replicate _ (.bl true) from List.map_const' ..] at eQ
    have e3 : eP1 allB (eComp 5 (itS (eV 1)) (tgN 4) tYesM (eCallC (F__law_same 20) (eCons (eCallC F__law_met (eCons (eLam 2 [3, 4]) eNil)) (eCons (eTup (eCons (eV 0) (eCons (eV 4) eNil))) eNil)))) [some (.str w), some (.lst odds), some (.lst asks), some c, none] = .ok (.bl true) [some (.str w), some (.lst odds), some (.lst asks), some c, none] := p1_step eQ (allB_rep _)
    have e4 : eCall F__law_is_very (eCons (eV 0) (eCons (eV 3) eNil)) [some (.str w), some (.lst odds), some (.lst asks), some c, none] = .ok (.bl true) [some (.str w), some (.lst odds), some (.lst asks), some c, none] := call_step (xs := [.str w, c]) rfl (very_ok W h1 h3)
    exact if_f (ρ1 := [some (.str w), some (.lst odds), some (.lst asks), some c, none]) (tOr_f (tNot_step (k := true) (tTru_step e3)) (tNot_step (k := true) (tTru_step e4))) rfl) rfl
  subst hρ
  refine fnF_rt (ρ1 := [some (.str w), some (.lst odds), some (.lst asks), none, none]) ?_
  rw [s0]
  refine seq_nx (ρ' := [some (.str w), some (.lst odds), some (.lst asks), none, none]) ?_ rfl
  have eI : itS (eV 2) [some (.str w), some (.lst odds), some (.lst asks), none, none] = .ok asks [some (.str w), some (.lst odds), some (.lst asks), none, none] := rfl
  rw [ap_sFor, eI, bnd_ok]
  exact eF
theorem refusedG {w x f : Str} (W : Wd w x f) {odds asks : List D} (hl : odds.length < 1000) (ho : ∀ o ∈ odds, o.noClo = true ∧ o.gd 19 = true) (ha : ∀ c ∈ asks, c.noLid = true ∧ (∀ o ∈ odds, Rf x f c o) ∧ Rf x f c veryD) : guardC (F__law_all_refused [.str w, .lst odds, .lst asks]) () = .ok (.bl true) () := by
  unfold guardC
  rw [refused_ok W hl ho ha]; rfl
end K73
-- Q73e
/-! the pure side: the law -/
namespace K73
open PySem PP
def lw_0 : SM := (sAsg 2 (eIo F__law_numbers 1 (eCons (eC (.int 4)) (eCons (eC (.int 9)) eNil))))
def lw_1 : SM := (sAsg 3 (eLst (eCons (eC .non) (eCons (eC (.int 5)) (eCons (eC (.str "12")) (eCons (eC (.dct [] [])) (eCons (eLst eNil) (eCons (eLst (eCons (eC (.int 0)) eNil)) (eCons (eLst (eCons (eP1 negI (eC (.int 1))) eNil)) (eCons (eLst (eCons (eC (.bl true)) eNil)) (eCons (eLst (eCons (eC (.int 2)) (eCons (eC (.int 1)) eNil))) (eCons (eLst (eCons (eC (.int 1)) (eCons (eC (.int 1)) eNil))) (eCons (eLst (eCons (eC (.int 1)) (eCons (eC .non) eNil))) (eCons (eLst (eCons (eC (.str "1")) eNil)) eNil))))))))))))))
def lw_2 : SM := (sAsg 4 (eLst (eCons (eLam 3 []) eNil)))
def lw_3 : SM := (sApp 4 (eLam 4 []))
def lw_4 : SM := (sApp 4 (eLam 5 []))
def lw_5 : SM := (sApp 4 (eLam 6 []))
def lw_6 : SM := (sApp 4 (eLam 7 []))
def lw_7 : SM := (sApp 4 (eLam 8 []))
def lw_8 : SM := (sApp 4 (eLam 9 []))
def lw_9 : SM := (sApp 4 (eLam 10 []))
def lw_10 : SM := (sApp 4 (eLam 11 []))
def lw_11 : SM := (sApp 4 (eLam 12 []))
def lw_12 : SM := (sIf (tNot (tTru (eCallC F__law_all_refused (eCons (eC (.str "numbers")) (eCons (eV 3) (eCons (eV 4) eNil)))))) (sRet (eC (.bl false))) sSkip)
def lw_13 : SM := (sAsg 4 (eLst (eCons (eLam 13 []) eNil)))
def lw_14 : SM := (sApp 4 (eLam 14 []))
def lw_15 : SM := (sIf (tNot (tTru (eCallC F__law_all_refused (eCons (eC (.str "numbers")) (eCons (eP2 catD (eV 3) (eLst (eCons (eLst (eCons (eC (.int 2)) eNil)) (eCons (eLst (eCons (eC (.int 3)) (eCons (eC (.int 5)) eNil))) (eCons (eLst (eCons (eC (.int 2)) (eCons (eC (.int 3)) eNil))) eNil))))) (eCons (eV 4) eNil)))))) (sRet (eC (.bl false))) sSkip)
def lw_16 : SM := (sAsg 3 (eLst (eCons (eC .non) (eCons (eC (.int 5)) (eCons (eC (.str "ab")) (eCons (eC (.dct [] [])) (eCons (eP2 repD (eLst (eCons (eC (.int 0)) eNil)) (eP2 addI (eP1 lenD (eV 2)) (eC (.int 1)))) (eCons (eP2 repD (eLst (eCons (eC (.int 0)) eNil)) (eP2 subI (eP1 lenD (eV 2)) (eC (.int 1)))) (eCons (eP2 repD (eLst (eCons (eP1 negI (eC (.int 1))) eNil)) (eP1 lenD (eV 2))) (eCons (eP2 repD (eLst (eCons (eC (.bl true)) eNil)) (eP1 lenD (eV 2))) (eCons (eP2 repD (eLst (eCons (eC .non) eNil)) (eP1 lenD (eV 2))) eNil)))))))))))
def lw_17 : SM := (sIf (tNot (tTru (eCallC F__law_all_refused (eCons (eC (.str "counts")) (eCons (eV 3) (eCons (eLst (eCons (eLam 15 [2]) eNil)) eNil)))))) (sRet (eC (.bl false))) sSkip)
def lw_18 : SM := (sAsg 3 (eLst (eCons (eC .non) (eCons (eP1 negI (eC (.int 1))) (eCons (eC (.str "2")) (eCons (eLst eNil) (eCons (eC (.bl true)) (eCons (eC (.dct [] [])) eNil))))))))
def lw_19 : SM := (sAsg 4 (eLst (eCons (eLam 16 [2]) eNil)))
def lw_20 : SM := (sApp 4 (eLam 17 [2]))
def lw_21 : SM := (sApp 4 (eLam 18 [2]))
def lw_22 : SM := (sApp 4 (eLam 19 []))
def lw_23 : SM := (sRet (eCallC F__law_all_refused (eCons (eC (.str "number")) (eCons (eV 3) (eCons (eV 4) eNil)))))
theorem law_eq : m_law = (sSeq lw_0 (sSeq lw_1 (sSeq lw_2 (sSeq lw_3 (sSeq lw_4 (sSeq lw_5 (sSeq lw_6 (sSeq lw_7 (sSeq lw_8 (sSeq lw_9 (sSeq lw_10 (sSeq lw_11 (sSeq lw_12 (sSeq lw_13 (sSeq lw_14 (sSeq lw_15 (sSeq lw_16 (sSeq lw_17 (sSeq lw_18 (sSeq lw_19 (sSeq lw_20 (sSeq lw_21 (sSeq lw_22 lw_23))))))))))))))))))))))) := rfl
theorem noLid_ints : ∀ ys : List Int, D.noLidA (ys.map .int) = true
  | [] => rfl
  | y :: ys => by simp [D.noLidA, D.noLid, noLid_ints ys]
theorem noLid_c (k : Nat) (ys : List Int) : D.noLid (.clo k [liI ys]) = true := by
  simp [D.noLid, D.noLidA, noLid_ints ys]
/-! who refuses what -/
def asks1 : List D := [.clo 3 [], .clo 4 [], .clo 5 [], .clo 6 [], .clo 7 [], .clo 8 [], .clo 9 [], .clo 10 [], .clo 11 [], .clo 12 []]
def asks2 : List D := [.clo 13 [], .clo 14 []]
def asks4 (nu : D) : List D := [.clo 16 [nu], .clo 17 [nu], .clo 18 [nu], .clo 19 []]
theorem rf_1 {c o : D} (hc : c ∈ asks1) (ho : o ∈ veryD :: nOdds) : Rf "BadNumbers" "numbers" c o := by
  have hn := need_bad ho
  unfold asks1 at hc
  simp only [List.mem_cons, List.not_mem_nil, or_false] at hc
  rcases hc with rfl | rfl | rfl | rfl | rfl | rfl | rfl | rfl | rfl | rfl
  · exact ⟨_, _, _, rfl, rfl, a_3 hn⟩
  · exact ⟨_, _, _, rfl, rfl, a_4 hn⟩
  · exact ⟨_, _, _, rfl, rfl, a_5 hn⟩
  · exact ⟨_, _, _, rfl, rfl, a_6 hn⟩
  · exact ⟨_, _, _, rfl, rfl, a_7 hn⟩
  · exact ⟨_, _, _, rfl, rfl, a_8 hn⟩
  · exact ⟨_, _, _, rfl, rfl, a_9 hn⟩
  · exact ⟨_, _, _, rfl, rfl, a_10 hn⟩
  · exact ⟨_, _, _, rfl, rfl, a_11 hn⟩
  · exact ⟨_, _, _, rfl, rfl, a_12 hn⟩
theorem rf_2 {c o : D} (hc : c ∈ asks2) (ho : o ∈ veryD :: (nOdds ++ oOdds)) : Rf "BadNumbers" "numbers" c o := by
  have hn : F_need_with_one [o] () = .exn (xN o) () := by
    rw [← List.cons_append, List.mem_append] at ho
    rcases ho with ho | ho
    · exact one_n (need_bad ho)
    · exact one_o ho
  unfold asks2 at hc
  simp only [List.mem_cons, List.not_mem_nil, or_false] at hc
  rcases hc with rfl | rfl
  · exact ⟨_, _, _, rfl, rfl, a_13 hn⟩
  · exact ⟨_, _, _, rfl, rfl, a_14 hn⟩
theorem rf_4 {ys : List Int} (h : NOk ys) {c o : D} (hc : c ∈ asks4 (liI ys)) (ho : o ∈ veryD :: sOdds) : Rf "BadNumber" "number" c o := by
  unfold asks4 at hc
  simp only [List.mem_cons, List.not_mem_nil, or_false] at hc
  rcases hc with rfl | rfl | rfl | rfl
  · exact ⟨_, _, _, rfl, rfl, a_16 h ho⟩
  · exact ⟨_, _, _, rfl, rfl, a_17 h ho⟩
  · exact ⟨_, _, _, rfl, rfl, a_18 h ho⟩
  · exact ⟨_, _, _, rfl, rfl, a_19 ho⟩
theorem n_fit : ∀ o ∈ nOdds ++ oOdds, o.noClo = true ∧ o.gd 19 = true := by
  intro o ho
  unfold nOdds oOdds at ho
  simp only [List.mem_append, List.mem_cons, List.not_mem_nil, or_false] at ho
  rcases ho with (rfl | rfl | rfl | rfl | rfl | rfl | rfl | rfl | rfl | rfl | rfl | rfl) | rfl | rfl | rfl <;> exact ⟨by decide +kernel, by decide +kernel⟩
theorem s_fit : ∀ o ∈ sOdds, o.noClo = true ∧ o.gd 19 = true := by
  intro o ho
  unfold sOdds at ho
  simp only [List.mem_cons, List.not_mem_nil, or_false] at ho
  rcases ho with rfl | rfl | rfl | rfl | rfl | rfl <;> exact ⟨by decide +kernel, by decide +kernel⟩
theorem c_fit {n : Nat} (h0 : 0 < n) (h4 : n ≤ 4) : ∀ o ∈ cOdds n, o.noClo = true ∧ o.gd 19 = true := by
  intro o ho
  unfold cOdds at ho
  simp only [List.mem_cons, List.not_mem_nil, or_false] at ho
  have cs : n = 1 ∨ n = 2 ∨ n = 3 ∨ n = 4 := by omega
  rcases cs with rfl | rfl | rfl | rfl <;> rcases ho with rfl | rfl | rfl | rfl | rfl | rfl | rfl | rfl | rfl <;> exact ⟨by decide +kernel, by decide +kernel⟩
section
variable {s nu od : D}
theorem app_c {k : Nat} {js : List Nat} {ds cs : List D} {ρ ρ' : PP.Env} (hρ : ρ = [none, some s, some nu, some od, some (.lst cs)]) (hs : slotsD ρ js = some ds) (hl : cs.length < 100) (hρ' : ρ' = [none, some s, some nu, some od, some (.lst (cs ++ [.clo k ds]))]) : sApp 4 (eLam k js) ρ = .ok .nx ρ' := by
  subst hρ
  subst hρ'
  have l := line_big
  have e : eLam k js [none, some s, some nu, some od, some (.lst cs)] = .ok (.clo k ds) [none, some s, some nu, some od, some (.lst cs)] := by
    unfold eLam
    rw [hs]
  have c : chkL 4 [none, some s, some nu, some od, some (.lst cs)] = .ok () [none, some s, some nu, some od, some (.lst cs)] := rfl
  rw [ap_sApp, c, bnd_ok, e, bnd_ok, updL_app (ds := cs) rfl (by omega), bnd_ok]
  rfl
theorem ask_t {r : EM (List D)} {ρ : PP.Env} {xs : List D} (hr : r ρ = .ok xs ρ) (hg : guardC (F__law_all_refused xs) () = .ok (.bl true) ()) : (sIf (tNot (tTru (eCallC F__law_all_refused r))) (sRet (eC (.bl false))) sSkip) ρ = .ok .nx ρ :=
  if_f (ρ1 := ρ) (tNot_step (k := true) (tTru_step (callC_step hr hg))) rfl
end
theorem lw16_ok {s od od' : D} {ys : List Int} (h : NOk ys) : lw_16 [none, some s, some (liI ys), some od, some od'] = .ok .nx [none, some s, some (liI ys), some (.lst (cOdds ys.length)), some od'] := by
  have hl := h.len
  have h0 : 0 < ys.length := List.length_pos_iff.mpr h.ne
  have eL : (eP1 lenD (eV 2)) [none, some s, some (liI ys), some od, some od'] = .ok (.int (ys.length : Nat)) [none, some s, some (liI ys), some od, some od'] := p1_step (x := liI ys) (ρ1 := [none, some s, some (liI ys), some od, some od']) rfl (by rw [ap_lenL, List.length_map])
  have rp (a : EM D) (d : D) (t : EM D) (m : Nat) (ha : a [none, some s, some (liI ys), some od, some od'] = .ok d [none, some s, some (liI ys), some od, some od']) (ht : t [none, some s, some (liI ys), some od, some od'] = .ok (.int (m : Nat)) [none, some s, some (liI ys), some od, some od']) (hm : m < 1000) : eP2 repD (eLst (eCons a eNil)) t [none, some s, some (liI ys), some od, some od'] = .ok (.lst (List.replicate m d)) [none, some s, some (liI ys), some od, some od'] := by
    refine p2_step (x := .lst [d]) (y := .int (m : Nat)) (ρ1 := [none, some s, some (liI ys), some od, some od']) ?_ ht (repD_ok (by omega))
    rw [ap_eLst, cons1_step ha]; rfl
  have e5 := rp (eC (.int 0)) (.int 0) (eP2 addI (eP1 lenD (eV 2)) (eC (.int 1))) (ys.length + 1) rfl (p2_step (x := .int (ys.length : Nat)) (y := .int 1) (ρ1 := [none, some s, some (liI ys), some od, some od']) eL rfl rfl) (by omega)
  have e6 := rp (eC (.int 0)) (.int 0) (eP2 subI (eP1 lenD (eV 2)) (eC (.int 1))) (ys.length - 1) rfl (p2_step (x := .int (ys.length : Nat)) (y := .int 1) (ρ1 := [none, some s, some (liI ys), some od, some od']) eL rfl (by rw [ap_subI, show (ys.length : Int) - 1 = ((ys.length - 1 : Nat) : Int) by omega])) (by omega)
  have e7 := rp (eP1 negI (eC (.int 1))) (.int (-1)) (eP1 lenD (eV 2)) ys.length rfl eL (by omega)
  have e8 := rp (eC (.bl true)) (.bl true) (eP1 lenD (eV 2)) ys.length rfl eL (by omega)
  have e9 := rp (eC .non) .non (eP1 lenD (eV 2)) ys.length rfl eL (by omega)
  have c0 (d : D) : eC d [none, some s, some (liI ys), some od, some od'] = .ok d [none, some s, some (liI ys), some od, some od'] := rfl
  have e10 := cons_step (c0 .non) (cons_step (c0 (.int 5)) (cons_step (c0 (.str "ab")) (cons_step (c0 (.dct [] [])) (cons_step e5 (cons_step e6 (cons_step e7 (cons_step e8 (cons1_step e9))))))))
  unfold lw_16
  refine asg_step (ρ1 := [none, some s, some (liI ys), some od, some od']) ?_
  rw [ap_eLst, e10]; rfl
theorem law_run : ∀ ns : List Int, ns.length ≤ 63 → ∃ ρ', m_law (lawEnv 5 ns) = .ok (.rt (.bl true)) ρ' := by
  intro ns _
  have w0 : Wf 0 (stream0 ns) := ⟨ns, 0, 0, 17, rfl, by decide, by decide, by decide, by decide, by decide⟩
  obtain ⟨ys, s, e0, h⟩ := numbers_ok w0 (by decide)
  have hl := h.len
  have h0 : 0 < ys.length := List.length_pos_iff.mpr h.ne
  have q0 : lw_0 (lawEnv 5 ns) = .ok .nx [none, some s, some (liI ys), none, none] := asg_step (ρ1 := [none, some s, none, none, none]) (io_step (ρ1 := [none, some (stream0 ns), none, none, none]) rfl rfl e0)
  have q1 : lw_1 [none, some s, some (liI ys), none, none] = .ok .nx [none, some s, some (liI ys), some (.lst nOdds), none] := rfl
  have q2 : lw_2 [none, some s, some (liI ys), some (.lst nOdds), none] = .ok .nx [none, some s, some (liI ys), some (.lst nOdds), some (.lst [.clo 3 []])] := rfl
  have g1 : guardC (F__law_all_refused [.str "numbers", .lst nOdds, .lst asks1]) () = .ok (.bl true) () := refusedG wd_n (by unfold nOdds; simp) (fun o ho => n_fit o (List.mem_append_left _ ho)) fun c hc => ⟨by unfold asks1 at hc; simp only [List.mem_cons, List.not_mem_nil, or_false] at hc; rcases hc with rfl | rfl | rfl | rfl | rfl | rfl | rfl | rfl | rfl | rfl <;> rfl, fun o ho => rf_1 hc (List.mem_cons_of_mem _ ho), rf_1 hc List.mem_cons_self⟩
  have g2 : guardC (F__law_all_refused [.str "numbers", .lst (nOdds ++ oOdds), .lst asks2]) () = .ok (.bl true) () := refusedG wd_n (by unfold nOdds oOdds; simp) n_fit fun c hc => ⟨by unfold asks2 at hc; simp only [List.mem_cons, List.not_mem_nil, or_false] at hc; rcases hc with rfl | rfl <;> rfl, fun o ho => rf_2 hc (List.mem_cons_of_mem _ ho), rf_2 hc List.mem_cons_self⟩
  have g3 : guardC (F__law_all_refused [.str "counts", .lst (cOdds ys.length), .lst [.clo 15 [liI ys]]]) () = .ok (.bl true) () := refusedG wd_c (by unfold cOdds; simp) (c_fit h0 hl) fun c hc => by
    rw [List.mem_singleton] at hc
    subst hc
    exact ⟨noLid_c _ _, fun o ho => ⟨_, _, _, rfl, rfl, a_15 h (List.mem_cons_of_mem _ ho)⟩, ⟨_, _, _, rfl, rfl, a_15 h List.mem_cons_self⟩⟩
  have g4 : guardC (F__law_all_refused [.str "number", .lst sOdds, .lst (asks4 (liI ys))]) () = .ok (.bl true) () := refusedG wd_s (by unfold sOdds; simp) s_fit fun c hc => ⟨by
    unfold asks4 at hc
    simp only [List.mem_cons, List.not_mem_nil, or_false] at hc
    rcases hc with rfl | rfl | rfl | rfl
    · exact noLid_c _ _
    · exact noLid_c _ _
    · exact noLid_c _ _
    · rfl, fun o ho => rf_4 h hc (List.mem_cons_of_mem _ ho), rf_4 h hc List.mem_cons_self⟩
  have q12 : lw_12 [none, some s, some (liI ys), some (.lst nOdds), some (.lst asks1)] = .ok .nx [none, some s, some (liI ys), some (.lst nOdds), some (.lst asks1)] := ask_t rfl g1
  have q13 : lw_13 [none, some s, some (liI ys), some (.lst nOdds), some (.lst asks1)] = .ok .nx [none, some s, some (liI ys), some (.lst nOdds), some (.lst [.clo 13 []])] := rfl
  have q15 : lw_15 [none, some s, some (liI ys), some (.lst nOdds), some (.lst asks2)] = .ok .nx [none, some s, some (liI ys), some (.lst nOdds), some (.lst asks2)] := by
    have c1 : catD (.lst nOdds) (.lst oOdds) () = .ok (.lst (nOdds ++ oOdds)) () := catD_ok (by unfold nOdds oOdds; simp)
    have e1 : (eP2 catD (eV 3) (eLst (eCons (eLst (eCons (eC (.int 2)) eNil)) (eCons (eLst (eCons (eC (.int 3)) (eCons (eC (.int 5)) eNil))) (eCons (eLst (eCons (eC (.int 2)) (eCons (eC (.int 3)) eNil))) eNil))))) [none, some s, some (liI ys), some (.lst nOdds), some (.lst asks2)] = .ok (.lst (nOdds ++ oOdds)) [none, some s, some (liI ys), some (.lst nOdds), some (.lst asks2)] := p2_step (x := .lst nOdds) (y := .lst oOdds) (ρ1 := [none, some s, some (liI ys), some (.lst nOdds), some (.lst asks2)]) rfl rfl c1
    have e0 : eC (.str "numbers") [none, some s, some (liI ys), some (.lst nOdds), some (.lst asks2)] = .ok (.str "numbers") [none, some s, some (liI ys), some (.lst nOdds), some (.lst asks2)] := rfl
    have e2 : eV 4 [none, some s, some (liI ys), some (.lst nOdds), some (.lst asks2)] = .ok (.lst asks2) [none, some s, some (liI ys), some (.lst nOdds), some (.lst asks2)] := rfl
    exact ask_t (cons_step e0 (cons_step e1 (cons1_step e2))) g2
  have q17 : lw_17 [none, some s, some (liI ys), some (.lst (cOdds ys.length)), some (.lst asks2)] = .ok .nx [none, some s, some (liI ys), some (.lst (cOdds ys.length)), some (.lst asks2)] := ask_t (xs := [.str "counts", .lst (cOdds ys.length), .lst [.clo 15 [liI ys]]]) rfl g3
  have q18 : lw_18 [none, some s, some (liI ys), some (.lst (cOdds ys.length)), some (.lst asks2)] = .ok .nx [none, some s, some (liI ys), some (.lst sOdds), some (.lst asks2)] := rfl
  have q19 : lw_19 [none, some s, some (liI ys), some (.lst sOdds), some (.lst asks2)] = .ok .nx [none, some s, some (liI ys), some (.lst sOdds), some (.lst [.clo 16 [liI ys]])] := rfl
  have q23 : lw_23 [none, some s, some (liI ys), some (.lst sOdds), some (.lst (asks4 (liI ys)))] = .ok (.rt (.bl true)) [none, some s, some (liI ys), some (.lst sOdds), some (.lst (asks4 (liI ys)))] := ret_step (callC_step (xs := [.str "number", .lst sOdds, .lst (asks4 (liI ys))]) rfl g4)
  refine ⟨[none, some s, some (liI ys), some (.lst sOdds), some (.lst (asks4 (liI ys)))], ?_⟩
  rw [law_eq]
  refine seq_nx q0 (seq_nx q1 (seq_nx q2 ?_))
  refine seq_nx (app_c rfl rfl (by simp) rfl) (seq_nx (app_c rfl rfl (by simp) rfl) (seq_nx (app_c rfl rfl (by simp) rfl) (seq_nx (app_c rfl rfl (by simp) rfl) (seq_nx (app_c rfl rfl (by simp) rfl) (seq_nx (app_c rfl rfl (by simp) rfl) (seq_nx (app_c rfl rfl (by simp) rfl) (seq_nx (app_c rfl rfl (by simp) rfl) (seq_nx (app_c rfl rfl (by simp) rfl) ?_))))))))
  refine seq_nx q12 (seq_nx q13 (seq_nx (app_c rfl rfl (by simp) rfl) (seq_nx q15 (seq_nx (lw16_ok h) (seq_nx q17 (seq_nx q18 (seq_nx q19 ?_)))))))
  exact seq_nx (app_c rfl rfl (by simp) rfl) (seq_nx (app_c rfl rfl (by simp) rfl) (seq_nx (app_c rfl rfl (by simp) rfl) q23))
end K73
-- A73
namespace K73
open PySem PySem.Spec PyProof.Rows L2 PP

/-! ### the head -/
def d__law_stream : He.DefD := ⟨("_law_stream", none), "_law_stream", "_law_stream", C8.fnArgs s__law_stream, C8.fnBody s__law_stream, C8.fnScope s__law_stream, [], []⟩
def d__law_draw : He.DefD := ⟨("_law_draw", none), "_law_draw", "_law_draw", C8.fnArgs s__law_draw, C8.fnBody s__law_draw, C8.fnScope s__law_draw, [], []⟩
def d__law_ascending : He.DefD := ⟨("_law_ascending", none), "_law_ascending", "_law_ascending", C8.fnArgs s__law_ascending, C8.fnBody s__law_ascending, C8.fnScope s__law_ascending, [], []⟩
def d__law_numbers : He.DefD := ⟨("_law_numbers", none), "_law_numbers", "_law_numbers", C8.fnArgs s__law_numbers, C8.fnBody s__law_numbers, C8.fnScope s__law_numbers, [], []⟩
def d_is_whole : He.DefD := ⟨("is_whole", none), "is_whole", "is_whole", C8.fnArgs s_is_whole, C8.fnBody s_is_whole, C8.fnScope s_is_whole, [], []⟩
def d_is_list : He.DefD := ⟨("is_list", none), "is_list", "is_list", C8.fnArgs s_is_list, C8.fnBody s_is_list, C8.fnScope s_is_list, [], []⟩
def d_is_ascending : He.DefD := ⟨("is_ascending", none), "is_ascending", "is_ascending", C8.fnArgs s_is_ascending, C8.fnBody s_is_ascending, C8.fnScope s_is_ascending, [], []⟩
def d_need_numbers : He.DefD := ⟨("need_numbers", none), "need_numbers", "need_numbers", C8.fnArgs s_need_numbers, C8.fnBody s_need_numbers, C8.fnScope s_need_numbers, [], []⟩
def d_is_number : He.DefD := ⟨("is_number", none), "is_number", "is_number", C8.fnArgs s_is_number, C8.fnBody s_is_number, C8.fnScope s_is_number, [], []⟩
def d_is_row : He.DefD := ⟨("is_row", none), "is_row", "is_row", C8.fnArgs s_is_row, C8.fnBody s_is_row, C8.fnScope s_is_row, [], []⟩
def d_need_sum : He.DefD := ⟨("need_sum", none), "need_sum", "need_sum", C8.fnArgs s_need_sum, C8.fnBody s_need_sum, C8.fnScope s_need_sum, [], []⟩
def d_is_sum_of : He.DefD := ⟨("is_sum_of", none), "is_sum_of", "is_sum_of", C8.fnArgs s_is_sum_of, C8.fnBody s_is_sum_of, C8.fnScope s_is_sum_of, [], []⟩
def d_table_of : He.DefD := ⟨("table_of", none), "table_of", "table_of", C8.fnArgs s_table_of, C8.fnBody s_table_of, C8.fnScope s_table_of, [], []⟩
def d_rest_table : He.DefD := ⟨("rest_table", none), "rest_table", "rest_table", C8.fnArgs s_rest_table, C8.fnBody s_rest_table, C8.fnScope s_rest_table, [], []⟩
def d_is_rest_table : He.DefD := ⟨("is_rest_table", none), "is_rest_table", "is_rest_table", C8.fnArgs s_is_rest_table, C8.fnBody s_is_rest_table, C8.fnScope s_is_rest_table, [], []⟩
def d_summed_or_table : He.DefD := ⟨("summed_or_table", none), "summed_or_table", "summed_or_table", C8.fnArgs s_summed_or_table, C8.fnBody s_summed_or_table, C8.fnScope s_summed_or_table, [], []⟩
def d_gaps : He.DefD := ⟨("gaps", none), "gaps", "gaps", C8.fnArgs s_gaps, C8.fnBody s_gaps, C8.fnScope s_gaps, [], []⟩
def d_greatest_gap : He.DefD := ⟨("greatest_gap", none), "greatest_gap", "greatest_gap", C8.fnArgs s_greatest_gap, C8.fnBody s_greatest_gap, C8.fnScope s_greatest_gap, [], []⟩
def d_sums_set : He.DefD := ⟨("sums_set", none), "sums_set", "sums_set", C8.fnArgs s_sums_set, C8.fnBody s_sums_set, C8.fnScope s_sums_set, [], []⟩
def d_needless_numbers : He.DefD := ⟨("needless_numbers", none), "needless_numbers", "needless_numbers", C8.fnArgs s_needless_numbers, C8.fnBody s_needless_numbers, C8.fnScope s_needless_numbers, [], []⟩
def d_is_even_gapped : He.DefD := ⟨("is_even_gapped", none), "is_even_gapped", "is_even_gapped", C8.fnArgs s_is_even_gapped, C8.fnBody s_is_even_gapped, C8.fnScope s_is_even_gapped, [], []⟩
def d_fewest_counts : He.DefD := ⟨("fewest_counts", none), "fewest_counts", "fewest_counts", C8.fnArgs s_fewest_counts, C8.fnBody s_fewest_counts, C8.fnScope s_fewest_counts, [], []⟩
def d_need_with_one : He.DefD := ⟨("need_with_one", none), "need_with_one", "need_with_one", C8.fnArgs s_need_with_one, C8.fnBody s_need_with_one, C8.fnScope s_need_with_one, [], []⟩
def d_greedy_counts : He.DefD := ⟨("greedy_counts", none), "greedy_counts", "greedy_counts", C8.fnArgs s_greedy_counts, C8.fnBody s_greedy_counts, C8.fnScope s_greedy_counts, [], []⟩
def d_greedy_gap : He.DefD := ⟨("greedy_gap", none), "greedy_gap", "greedy_gap", C8.fnArgs s_greedy_gap, C8.fnBody s_greedy_gap, C8.fnScope s_greedy_gap, [], []⟩
def d__law_met : He.DefD := ⟨("_law_met", none), "_law_met", "_law_met", C8.fnArgs s__law_met, C8.fnBody s__law_met, C8.fnScope s__law_met, [], []⟩
def d__law_same : He.DefD := ⟨("_law_same", none), "_law_same", "_law_same", C8.fnArgs s__law_same, C8.fnBody s__law_same, C8.fnScope s__law_same, [], []⟩
def d__law_is_very : He.DefD := ⟨("_law_is_very", none), "_law_is_very", "_law_is_very", C8.fnArgs s__law_is_very, C8.fnBody s__law_is_very, C8.fnScope s__law_is_very, [], []⟩
def d__law_all_refused : He.DefD := ⟨("_law_all_refused", none), "_law_all_refused", "_law_all_refused", C8.fnArgs s__law_all_refused, C8.fnBody s__law_all_refused, C8.fnScope s__law_all_refused, [], []⟩
def d_law : He.DefD := ⟨("law", none), "law", "law", C8.fnArgs s_law, C8.fnBody s_law, C8.fnScope s_law, [], []⟩
abbrev i_BadCounts : Stmt := (C8.clsBody (top 11)).getD 0 (.Pass ⟨0, 0, 0, 0⟩)
def di_BadCounts : He.DefD := ⟨("BadCounts", some "__init__"), "__init__", "BadCounts.__init__", C8.fnArgs i_BadCounts, C8.fnBody i_BadCounts, C8.fnScope i_BadCounts, [], []⟩
abbrev i_BadNumber : Stmt := (C8.clsBody (top 8)).getD 0 (.Pass ⟨0, 0, 0, 0⟩)
def di_BadNumber : He.DefD := ⟨("BadNumber", some "__init__"), "__init__", "BadNumber.__init__", C8.fnArgs i_BadNumber, C8.fnBody i_BadNumber, C8.fnScope i_BadNumber, [], []⟩
abbrev i_BadNumbers : Stmt := (C8.clsBody (top 10)).getD 0 (.Pass ⟨0, 0, 0, 0⟩)
def di_BadNumbers : He.DefD := ⟨("BadNumbers", some "__init__"), "__init__", "BadNumbers.__init__", C8.fnArgs i_BadNumbers, C8.fnBody i_BadNumbers, C8.fnScope i_BadNumbers, [], []⟩
def fn : List He.DefD := ([d__law_stream, d__law_draw, d__law_ascending, d__law_numbers, d_is_whole, d_is_list, d_is_ascending, d_need_numbers, d_is_number, d_is_row, d_need_sum, d_is_sum_of, d_table_of, d_rest_table, d_is_rest_table, d_summed_or_table, d_gaps, d_greatest_gap, d_sums_set, d_needless_numbers, d_is_even_gapped, d_fewest_counts, d_need_with_one, d_greedy_counts, d_greedy_gap, d__law_met, d__law_same, d__law_is_very, d__law_all_refused, d_law] : List He.DefD) ++ ([di_BadCounts, di_BadNumber, di_BadNumbers] : List He.DefD)
def fa : List He.Fa := ([.glo "_law_stream", .glo "_law_draw", .glo "_law_ascending", .glo "_law_numbers", .glo "is_whole", .glo "is_list", .glo "is_ascending", .glo "need_numbers", .glo "is_number", .glo "is_row", .glo "need_sum", .glo "is_sum_of", .glo "table_of", .glo "rest_table", .glo "is_rest_table", .glo "summed_or_table", .glo "gaps", .glo "greatest_gap", .glo "sums_set", .glo "needless_numbers", .glo "is_even_gapped", .glo "fewest_counts", .glo "need_with_one", .glo "greedy_counts", .glo "greedy_gap", .glo "_law_met", .glo "_law_same", .glo "_law_is_very", .glo "_law_all_refused", .glo "law"] : List He.Fa) ++ ([.glo "BadCounts", .glo "BadNumber", .glo "BadNumbers", .free "abs", .free "all", .free "bool", .free "dict", .free "int", .free "isinstance", .free "len", .free "list", .free "range", .free "sorted", .free "str", .free "tuple", .free "zip"] : List He.Fa)
def lamDefs : List Str := (["_law_is_very", "_law_all_refused", "law"] : List Str)
def exL : List (Str × Str) := ([("BadCounts", "counts"), ("BadNumber", "number"), ("BadNumbers", "numbers")] : List (Str × Str))
def hdL : List (Str × Str) := ([("BadCounts", "counts"), ("BadNumber", "number"), ("BadNumbers", "numbers")] : List (Str × Str))
def knL : List Str := (["BadCounts", "BadNumber", "BadNumbers"] : List Str)
def hcL : List Str := (["BadCounts", "BadNumber", "BadNumbers"] : List Str)
def exK (K : PySem.W.Frag) : Bool := factsB K lamDefs exL hdL knL hcL
abbrev R : PySem.W.OpenRow := PySem.W.OpenLaw.row PySem.Challenge.rw_pointswhole_k73_sums_refused
def loose : List PySem.Str := (["is_list", "is_whole", "is_number", "is_row", "is_ascending", "has", "least_period", "multiple", "plain_of", "lowered", "told_set", "made", "sum_at", "common_divisor", "need_numbers", "need_sum", "is_sum_of", "table_of", "rest_table", "is_entry", "is_kept", "is_rest_table", "is_made", "counts_for", "summed_or_table", "gaps_of", "gaps", "greatest_gap", "sums_set", "needless_numbers"] : List PySem.Str) ++ (["is_even_gapped", "fewest_of", "fewest_counts", "greedy_of", "need_with_one", "greedy_counts", "greedy_gap", "_law_stream", "_law_draw", "_law_same", "_law_is_very", "_law_ascending", "_law_numbers", "_law_all_refused", "_law_met", "WholeError", "BadNumber", "BadNumbers", "BadCounts"] : List PySem.Str)
abbrev hk : PySem.W.Hook := He.hookX 5 fa fn [] (tfOf lamDefs) exK
def ob (s : PySem.W.SharedT) : He.AlX := He.obsX 5 fa fn [] (tfOf lamDefs) exK (HandSHeadRun.getT s)
theorem ob_eq (s : PySem.W.SharedT) : ob s = hk.obs s.abs := He.obsX_eq (HandSHeadRun.getT_eq s)
theorem run (w : World) : HandSHeadRun.RunEq R (PySem.W.view R.prog [57]) hk ob 20000 loose w := by
  intro os
  kernel_rfl
theorem facts {w : World} {K : PySem.W.Frag} {h : Heap} {mg : Str → Option Value} {f : Addr} (X : K.In h) (G : h.Ns mainGlobals mg) (hfa : mg ("law" : Str) = some (.ref f)) (c : He.SaysX fa fn [] (tfOf lamDefs) exK w h K) (hrun : ∀ ns : List Int, ns.length ≤ 63 → ∃ ρ', m_law (lawEnv 5 ns) = .ok (.rt (.bl true)) ρ') :
    LamX.LawAtS PySem.Challenge.rw_pointswhole_k73_sums_refused w K (L2.CX (PySem.Challenge.rw_pointswhole_k73_sums_refused).prog w) 24 63 "script" mg f h := by
  have cd := c.t.d
  have FB := factsB_ok c.more
  obtain ⟨fd__law_stream, F__law_stream⟩ := cd.def_ 0 (d := d__law_stream) rfl
  obtain ⟨fd__law_draw, F__law_draw⟩ := cd.def_ 1 (d := d__law_draw) rfl
  obtain ⟨fd__law_ascending, F__law_ascending⟩ := cd.def_ 2 (d := d__law_ascending) rfl
  obtain ⟨fd__law_numbers, F__law_numbers⟩ := cd.def_ 3 (d := d__law_numbers) rfl
  obtain ⟨fd_is_whole, F_is_whole⟩ := cd.def_ 4 (d := d_is_whole) rfl
  obtain ⟨fd_is_list, F_is_list⟩ := cd.def_ 5 (d := d_is_list) rfl
  obtain ⟨fd_is_ascending, F_is_ascending⟩ := cd.def_ 6 (d := d_is_ascending) rfl
  obtain ⟨fd_need_numbers, F_need_numbers⟩ := cd.def_ 7 (d := d_need_numbers) rfl
  obtain ⟨fd_is_number, F_is_number⟩ := cd.def_ 8 (d := d_is_number) rfl
  obtain ⟨fd_is_row, F_is_row⟩ := cd.def_ 9 (d := d_is_row) rfl
  obtain ⟨fd_need_sum, F_need_sum⟩ := cd.def_ 10 (d := d_need_sum) rfl
  obtain ⟨fd_is_sum_of, F_is_sum_of⟩ := cd.def_ 11 (d := d_is_sum_of) rfl
  obtain ⟨fd_table_of, F_table_of⟩ := cd.def_ 12 (d := d_table_of) rfl
  obtain ⟨fd_rest_table, F_rest_table⟩ := cd.def_ 13 (d := d_rest_table) rfl
  obtain ⟨fd_is_rest_table, F_is_rest_table⟩ := cd.def_ 14 (d := d_is_rest_table) rfl
  obtain ⟨fd_summed_or_table, F_summed_or_table⟩ := cd.def_ 15 (d := d_summed_or_table) rfl
  obtain ⟨fd_gaps, F_gaps⟩ := cd.def_ 16 (d := d_gaps) rfl
  obtain ⟨fd_greatest_gap, F_greatest_gap⟩ := cd.def_ 17 (d := d_greatest_gap) rfl
  obtain ⟨fd_sums_set, F_sums_set⟩ := cd.def_ 18 (d := d_sums_set) rfl
  obtain ⟨fd_needless_numbers, F_needless_numbers⟩ := cd.def_ 19 (d := d_needless_numbers) rfl
  obtain ⟨fd_is_even_gapped, F_is_even_gapped⟩ := cd.def_ 20 (d := d_is_even_gapped) rfl
  obtain ⟨fd_fewest_counts, F_fewest_counts⟩ := cd.def_ 21 (d := d_fewest_counts) rfl
  obtain ⟨fd_need_with_one, F_need_with_one⟩ := cd.def_ 22 (d := d_need_with_one) rfl
  obtain ⟨fd_greedy_counts, F_greedy_counts⟩ := cd.def_ 23 (d := d_greedy_counts) rfl
  obtain ⟨fd_greedy_gap, F_greedy_gap⟩ := cd.def_ 24 (d := d_greedy_gap) rfl
  obtain ⟨fd__law_met, F__law_met⟩ := cd.def_ 25 (d := d__law_met) rfl
  obtain ⟨fd__law_same, F__law_same⟩ := cd.def_ 26 (d := d__law_same) rfl
  obtain ⟨fd__law_is_very, F__law_is_very⟩ := cd.def_ 27 (d := d__law_is_very) rfl
  obtain ⟨fd__law_all_refused, F__law_all_refused⟩ := cd.def_ 28 (d := d__law_all_refused) rfl
  obtain ⟨fd_law, F_law⟩ := cd.def_ 29 (d := d_law) rfl
  obtain ⟨fi_BadCounts, I_BadCounts⟩ := cd.def_ 30 (d := di_BadCounts) rfl
  obtain ⟨fi_BadNumber, I_BadNumber⟩ := cd.def_ 31 (d := di_BadNumber) rfl
  obtain ⟨fi_BadNumbers, I_BadNumbers⟩ := cd.def_ 32 (d := di_BadNumbers) rfl
  have b_abs : mg "abs" = none := He.free_ok X G (cd.fact 33 (f := .free "abs") rfl)
  have b_all : mg "all" = none := He.free_ok X G (cd.fact 34 (f := .free "all") rfl)
  have b_bool : mg "bool" = none := He.free_ok X G (cd.fact 35 (f := .free "bool") rfl)
  have b_dict : mg "dict" = none := He.free_ok X G (cd.fact 36 (f := .free "dict") rfl)
  have b_int : mg "int" = none := He.free_ok X G (cd.fact 37 (f := .free "int") rfl)
  have b_isinstance : mg "isinstance" = none := He.free_ok X G (cd.fact 38 (f := .free "isinstance") rfl)
  have b_len : mg "len" = none := He.free_ok X G (cd.fact 39 (f := .free "len") rfl)
  have b_list : mg "list" = none := He.free_ok X G (cd.fact 40 (f := .free "list") rfl)
  have b_range : mg "range" = none := He.free_ok X G (cd.fact 41 (f := .free "range") rfl)
  have b_sorted : mg "sorted" = none := He.free_ok X G (cd.fact 42 (f := .free "sorted") rfl)
  have b_str : mg "str" = none := He.free_ok X G (cd.fact 43 (f := .free "str") rfl)
  have b_tuple : mg "tuple" = none := He.free_ok X G (cd.fact 44 (f := .free "tuple") rfl)
  have b_zip : mg "zip" = none := He.free_ok X G (cd.fact 45 (f := .free "zip") rfl)
  have g__law_stream : mg "_law_stream" = some (.ref (He.ga K "_law_stream")) := He.glo_ok X G (cd.fact 0 (f := .glo "_law_stream") rfl)
  have g__law_draw : mg "_law_draw" = some (.ref (He.ga K "_law_draw")) := He.glo_ok X G (cd.fact 1 (f := .glo "_law_draw") rfl)
  have g__law_ascending : mg "_law_ascending" = some (.ref (He.ga K "_law_ascending")) := He.glo_ok X G (cd.fact 2 (f := .glo "_law_ascending") rfl)
  have g__law_numbers : mg "_law_numbers" = some (.ref (He.ga K "_law_numbers")) := He.glo_ok X G (cd.fact 3 (f := .glo "_law_numbers") rfl)
  have g_is_whole : mg "is_whole" = some (.ref (He.ga K "is_whole")) := He.glo_ok X G (cd.fact 4 (f := .glo "is_whole") rfl)
  have g_is_list : mg "is_list" = some (.ref (He.ga K "is_list")) := He.glo_ok X G (cd.fact 5 (f := .glo "is_list") rfl)
  have g_is_ascending : mg "is_ascending" = some (.ref (He.ga K "is_ascending")) := He.glo_ok X G (cd.fact 6 (f := .glo "is_ascending") rfl)
  have g_need_numbers : mg "need_numbers" = some (.ref (He.ga K "need_numbers")) := He.glo_ok X G (cd.fact 7 (f := .glo "need_numbers") rfl)
  have g_is_number : mg "is_number" = some (.ref (He.ga K "is_number")) := He.glo_ok X G (cd.fact 8 (f := .glo "is_number") rfl)
  have g_is_row : mg "is_row" = some (.ref (He.ga K "is_row")) := He.glo_ok X G (cd.fact 9 (f := .glo "is_row") rfl)
  have g_need_sum : mg "need_sum" = some (.ref (He.ga K "need_sum")) := He.glo_ok X G (cd.fact 10 (f := .glo "need_sum") rfl)
  have g_is_sum_of : mg "is_sum_of" = some (.ref (He.ga K "is_sum_of")) := He.glo_ok X G (cd.fact 11 (f := .glo "is_sum_of") rfl)
  have g_table_of : mg "table_of" = some (.ref (He.ga K "table_of")) := He.glo_ok X G (cd.fact 12 (f := .glo "table_of") rfl)
  have g_rest_table : mg "rest_table" = some (.ref (He.ga K "rest_table")) := He.glo_ok X G (cd.fact 13 (f := .glo "rest_table") rfl)
  have g_is_rest_table : mg "is_rest_table" = some (.ref (He.ga K "is_rest_table")) := He.glo_ok X G (cd.fact 14 (f := .glo "is_rest_table") rfl)
  have g_summed_or_table : mg "summed_or_table" = some (.ref (He.ga K "summed_or_table")) := He.glo_ok X G (cd.fact 15 (f := .glo "summed_or_table") rfl)
  have g_gaps : mg "gaps" = some (.ref (He.ga K "gaps")) := He.glo_ok X G (cd.fact 16 (f := .glo "gaps") rfl)
  have g_greatest_gap : mg "greatest_gap" = some (.ref (He.ga K "greatest_gap")) := He.glo_ok X G (cd.fact 17 (f := .glo "greatest_gap") rfl)
  have g_sums_set : mg "sums_set" = some (.ref (He.ga K "sums_set")) := He.glo_ok X G (cd.fact 18 (f := .glo "sums_set") rfl)
  have g_needless_numbers : mg "needless_numbers" = some (.ref (He.ga K "needless_numbers")) := He.glo_ok X G (cd.fact 19 (f := .glo "needless_numbers") rfl)
  have g_is_even_gapped : mg "is_even_gapped" = some (.ref (He.ga K "is_even_gapped")) := He.glo_ok X G (cd.fact 20 (f := .glo "is_even_gapped") rfl)
  have g_fewest_counts : mg "fewest_counts" = some (.ref (He.ga K "fewest_counts")) := He.glo_ok X G (cd.fact 21 (f := .glo "fewest_counts") rfl)
  have g_need_with_one : mg "need_with_one" = some (.ref (He.ga K "need_with_one")) := He.glo_ok X G (cd.fact 22 (f := .glo "need_with_one") rfl)
  have g_greedy_counts : mg "greedy_counts" = some (.ref (He.ga K "greedy_counts")) := He.glo_ok X G (cd.fact 23 (f := .glo "greedy_counts") rfl)
  have g_greedy_gap : mg "greedy_gap" = some (.ref (He.ga K "greedy_gap")) := He.glo_ok X G (cd.fact 24 (f := .glo "greedy_gap") rfl)
  have g__law_met : mg "_law_met" = some (.ref (He.ga K "_law_met")) := He.glo_ok X G (cd.fact 25 (f := .glo "_law_met") rfl)
  have g__law_same : mg "_law_same" = some (.ref (He.ga K "_law_same")) := He.glo_ok X G (cd.fact 26 (f := .glo "_law_same") rfl)
  have g__law_is_very : mg "_law_is_very" = some (.ref (He.ga K "_law_is_very")) := He.glo_ok X G (cd.fact 27 (f := .glo "_law_is_very") rfl)
  have g__law_all_refused : mg "_law_all_refused" = some (.ref (He.ga K "_law_all_refused")) := He.glo_ok X G (cd.fact 28 (f := .glo "_law_all_refused") rfl)
  have g_law : mg "law" = some (.ref (He.ga K "law")) := He.glo_ok X G (cd.fact 29 (f := .glo "law") rfl)
  have ef := hfa.symm.trans g_law
  cases ef
  refine law_at (xs := lamDefs) (CT := CTl) (ex := exK) X c (fun s u => FunD.bindsA (ps := ["script"]) F_law (fun _ _ _ _ _ _ us hl => match us, hl with | [_], _ => rfl) s [u] rfl) hrun fun base KB GB tb => ?_
  let g := gOf K mg lamDefs CTl
  have hK : g.K = K := rfl
  have hG : g.mg = mg := rfl
  have hCT : g.CT = CTl := rfl
  have EX_BadCounts := exAt_of (P := (PySem.Challenge.rw_pointswhole_k73_sums_refused).prog) (w := w) (base := base) X G (FB.ex "BadCounts" "counts" (by decide +kernel)) I_BadCounts ⟨rfl, rfl, rfl, by decide +kernel, rfl, by decide +kernel, by decide +kernel⟩ (fun _ _ _ _ _ _ us hl => match us, hl with | [_, _], _ => rfl) rfl rfl rfl rfl (fun _ => rfl)
  have EX_BadNumber := exAt_of (P := (PySem.Challenge.rw_pointswhole_k73_sums_refused).prog) (w := w) (base := base) X G (FB.ex "BadNumber" "number" (by decide +kernel)) I_BadNumber ⟨rfl, rfl, rfl, by decide +kernel, rfl, by decide +kernel, by decide +kernel⟩ (fun _ _ _ _ _ _ us hl => match us, hl with | [_, _], _ => rfl) rfl rfl rfl rfl (fun _ => rfl)
  have EX_BadNumbers := exAt_of (P := (PySem.Challenge.rw_pointswhole_k73_sums_refused).prog) (w := w) (base := base) X G (FB.ex "BadNumbers" "numbers" (by decide +kernel)) I_BadNumbers ⟨rfl, rfl, rfl, by decide +kernel, rfl, by decide +kernel, by decide +kernel⟩ (fun _ _ _ _ _ _ us hl => match us, hl with | [_, _], _ => rfl) rfl rfl rfl rfl (fun _ => rfl)
  have O__law_draw := ok__law_draw (P := (PySem.Challenge.rw_pointswhole_k73_sums_refused).prog) (w := w) (base := base) (g := g) hK hG hCT F__law_draw b_abs b_int
  have A__law_draw := fnIoAt_of F__law_draw g__law_draw bd__law_draw O__law_draw
  have O__law_ascending := ok__law_ascending (P := (PySem.Challenge.rw_pointswhole_k73_sums_refused).prog) (w := w) (base := base) (g := g) hK hG hCT F__law_ascending b_sorted
  have A__law_ascending := fnAt_of F__law_ascending g__law_ascending bd__law_ascending O__law_ascending
  have O__law_numbers := ok__law_numbers (P := (PySem.Challenge.rw_pointswhole_k73_sums_refused).prog) (w := w) (base := base) (g := g) hK hG hCT F__law_numbers b_range (A__law_ascending.mono (by decide)) (A__law_draw.mono (by decide))
  have A__law_numbers := fnIoAt_of F__law_numbers g__law_numbers bd__law_numbers O__law_numbers
  have O_is_whole := ok_is_whole (P := (PySem.Challenge.rw_pointswhole_k73_sums_refused).prog) (w := w) (base := base) (g := g) hK hG hCT F_is_whole b_bool b_int b_isinstance
  have A_is_whole := fnAt_of F_is_whole g_is_whole bd_is_whole O_is_whole
  have O_is_list := ok_is_list (P := (PySem.Challenge.rw_pointswhole_k73_sums_refused).prog) (w := w) (base := base) (g := g) hK hG hCT F_is_list b_isinstance b_list b_tuple
  have A_is_list := fnAt_of F_is_list g_is_list bd_is_list O_is_list
  have O_is_ascending := ok_is_ascending (P := (PySem.Challenge.rw_pointswhole_k73_sums_refused).prog) (w := w) (base := base) (g := g) hK hG hCT F_is_ascending b_all b_zip
  have A_is_ascending := fnAt_of F_is_ascending g_is_ascending bd_is_ascending O_is_ascending
  have O_need_numbers := ok_need_numbers (P := (PySem.Challenge.rw_pointswhole_k73_sums_refused).prog) (w := w) (base := base) (g := g) hK hG hCT F_need_numbers b_all b_len b_tuple (A_is_ascending.mono (by decide)) (A_is_list.mono (by decide)) (A_is_whole.mono (by decide)) EX_BadNumbers
  have A_need_numbers := fnAt_of F_need_numbers g_need_numbers bd_need_numbers O_need_numbers
  have O_is_number := ok_is_number (P := (PySem.Challenge.rw_pointswhole_k73_sums_refused).prog) (w := w) (base := base) (g := g) hK hG hCT F_is_number (A_is_whole.mono (by decide))
  have A_is_number := fnAt_of F_is_number g_is_number bd_is_number O_is_number
  have O_is_row := ok_is_row (P := (PySem.Challenge.rw_pointswhole_k73_sums_refused).prog) (w := w) (base := base) (g := g) hK hG hCT F_is_row b_len (A_is_list.mono (by decide))
  have A_is_row := fnAt_of F_is_row g_is_row bd_is_row O_is_row
  have O_need_sum := ok_need_sum (P := (PySem.Challenge.rw_pointswhole_k73_sums_refused).prog) (w := w) (base := base) (g := g) hK hG hCT F_need_sum (A_is_number.mono (by decide)) EX_BadNumber
  have A_need_sum := fnAt_of F_need_sum g_need_sum bd_need_sum O_need_sum
  have O_is_sum_of := ok_is_sum_of (P := (PySem.Challenge.rw_pointswhole_k73_sums_refused).prog) (w := w) (base := base) (g := g) hK hG hCT F_is_sum_of b_all b_len (A_is_number.mono (by decide)) (A_is_row.mono (by decide)) (A_need_numbers.mono (by decide)) (A_need_sum.mono (by decide)) EX_BadCounts
  have A_is_sum_of := fnAt_of F_is_sum_of g_is_sum_of bd_is_sum_of O_is_sum_of
  have AL_3 := L_3 (P := (PySem.Challenge.rw_pointswhole_k73_sums_refused).prog) (w := w) (base := base) (g := g) hK hG hCT (A_is_sum_of.mono (by decide))
  have A_table_of := A_table_of (P := (PySem.Challenge.rw_pointswhole_k73_sums_refused).prog) (w := w) (base := base) (g := g) F_table_of g_table_of
  have O_rest_table := ok_rest_table (P := (PySem.Challenge.rw_pointswhole_k73_sums_refused).prog) (w := w) (base := base) (g := g) hK hG hCT F_rest_table (A_need_numbers.mono (by decide)) (A_table_of.mono (by decide))
  have A_rest_table := fnAt_of F_rest_table g_rest_table bd_rest_table O_rest_table
  have AL_4 := L_4 (P := (PySem.Challenge.rw_pointswhole_k73_sums_refused).prog) (w := w) (base := base) (g := g) hK hG hCT (A_rest_table.mono (by decide))
  have O_is_rest_table := ok_is_rest_table (P := (PySem.Challenge.rw_pointswhole_k73_sums_refused).prog) (w := w) (base := base) (g := g) hK hG hCT F_is_rest_table (A_need_numbers.mono (by decide))
  have A_is_rest_table := fnAt_of F_is_rest_table g_is_rest_table bd_is_rest_table O_is_rest_table
  have AL_5 := L_5 (P := (PySem.Challenge.rw_pointswhole_k73_sums_refused).prog) (w := w) (base := base) (g := g) hK hG hCT (A_is_rest_table.mono (by decide))
  have O_summed_or_table := ok_summed_or_table (P := (PySem.Challenge.rw_pointswhole_k73_sums_refused).prog) (w := w) (base := base) (g := g) hK hG hCT F_summed_or_table (A_need_numbers.mono (by decide)) (A_need_sum.mono (by decide))
  have A_summed_or_table := fnAt_of F_summed_or_table g_summed_or_table bd_summed_or_table O_summed_or_table
  have AL_6 := L_6 (P := (PySem.Challenge.rw_pointswhole_k73_sums_refused).prog) (w := w) (base := base) (g := g) hK hG hCT (A_summed_or_table.mono (by decide))
  have O_gaps := ok_gaps (P := (PySem.Challenge.rw_pointswhole_k73_sums_refused).prog) (w := w) (base := base) (g := g) hK hG hCT F_gaps (A_need_numbers.mono (by decide))
  have A_gaps := fnAt_of F_gaps g_gaps bd_gaps O_gaps
  have AL_7 := L_7 (P := (PySem.Challenge.rw_pointswhole_k73_sums_refused).prog) (w := w) (base := base) (g := g) hK hG hCT (A_gaps.mono (by decide))
  have O_greatest_gap := ok_greatest_gap (P := (PySem.Challenge.rw_pointswhole_k73_sums_refused).prog) (w := w) (base := base) (g := g) hK hG hCT F_greatest_gap (A_need_numbers.mono (by decide))
  have A_greatest_gap := fnAt_of F_greatest_gap g_greatest_gap bd_greatest_gap O_greatest_gap
  have AL_8 := L_8 (P := (PySem.Challenge.rw_pointswhole_k73_sums_refused).prog) (w := w) (base := base) (g := g) hK hG hCT (A_greatest_gap.mono (by decide))
  have O_sums_set := ok_sums_set (P := (PySem.Challenge.rw_pointswhole_k73_sums_refused).prog) (w := w) (base := base) (g := g) hK hG hCT F_sums_set (A_need_numbers.mono (by decide))
  have A_sums_set := fnAt_of F_sums_set g_sums_set bd_sums_set O_sums_set
  have AL_9 := L_9 (P := (PySem.Challenge.rw_pointswhole_k73_sums_refused).prog) (w := w) (base := base) (g := g) hK hG hCT (A_sums_set.mono (by decide))
  have O_needless_numbers := ok_needless_numbers (P := (PySem.Challenge.rw_pointswhole_k73_sums_refused).prog) (w := w) (base := base) (g := g) hK hG hCT F_needless_numbers (A_need_numbers.mono (by decide))
  have A_needless_numbers := fnAt_of F_needless_numbers g_needless_numbers bd_needless_numbers O_needless_numbers
  have AL_10 := L_10 (P := (PySem.Challenge.rw_pointswhole_k73_sums_refused).prog) (w := w) (base := base) (g := g) hK hG hCT (A_needless_numbers.mono (by decide))
  have O_is_even_gapped := ok_is_even_gapped (P := (PySem.Challenge.rw_pointswhole_k73_sums_refused).prog) (w := w) (base := base) (g := g) hK hG hCT F_is_even_gapped (A_need_numbers.mono (by decide))
  have A_is_even_gapped := fnAt_of F_is_even_gapped g_is_even_gapped bd_is_even_gapped O_is_even_gapped
  have AL_11 := L_11 (P := (PySem.Challenge.rw_pointswhole_k73_sums_refused).prog) (w := w) (base := base) (g := g) hK hG hCT (A_is_even_gapped.mono (by decide))
  have O_fewest_counts := ok_fewest_counts (P := (PySem.Challenge.rw_pointswhole_k73_sums_refused).prog) (w := w) (base := base) (g := g) hK hG hCT F_fewest_counts (A_need_numbers.mono (by decide)) (A_need_sum.mono (by decide))
  have A_fewest_counts := fnAt_of F_fewest_counts g_fewest_counts bd_fewest_counts O_fewest_counts
  have AK_fewest_counts_0_number_numbers := fnKAt_of (n := 0) (ks := ["number", "numbers"]) (perm := [1, 0]) F_fewest_counts g_fewest_counts (fun _ _ _ _ _ _ us ws h1 h2 => match us, ws, h1, h2 with | [], [_, _], _, _ => rfl) O_fewest_counts
  have AL_12 := L_12 (P := (PySem.Challenge.rw_pointswhole_k73_sums_refused).prog) (w := w) (base := base) (g := g) hK hG hCT (AK_fewest_counts_0_number_numbers.mono (by decide))
  have O_need_with_one := ok_need_with_one (P := (PySem.Challenge.rw_pointswhole_k73_sums_refused).prog) (w := w) (base := base) (g := g) hK hG hCT F_need_with_one (A_need_numbers.mono (by decide)) EX_BadNumbers
  have A_need_with_one := fnAt_of F_need_with_one g_need_with_one bd_need_with_one O_need_with_one
  have O_greedy_counts := ok_greedy_counts (P := (PySem.Challenge.rw_pointswhole_k73_sums_refused).prog) (w := w) (base := base) (g := g) hK hG hCT F_greedy_counts (A_need_sum.mono (by decide)) (A_need_with_one.mono (by decide))
  have A_greedy_counts := fnAt_of F_greedy_counts g_greedy_counts bd_greedy_counts O_greedy_counts
  have AL_13 := L_13 (P := (PySem.Challenge.rw_pointswhole_k73_sums_refused).prog) (w := w) (base := base) (g := g) hK hG hCT (A_greedy_counts.mono (by decide))
  have O_greedy_gap := ok_greedy_gap (P := (PySem.Challenge.rw_pointswhole_k73_sums_refused).prog) (w := w) (base := base) (g := g) hK hG hCT F_greedy_gap (A_need_with_one.mono (by decide))
  have A_greedy_gap := fnAt_of F_greedy_gap g_greedy_gap bd_greedy_gap O_greedy_gap
  have AL_14 := L_14 (P := (PySem.Challenge.rw_pointswhole_k73_sums_refused).prog) (w := w) (base := base) (g := g) hK hG hCT (A_greedy_gap.mono (by decide))
  have AL_15 := L_15 (P := (PySem.Challenge.rw_pointswhole_k73_sums_refused).prog) (w := w) (base := base) (g := g) hK hG hCT (A_is_sum_of.mono (by decide))
  have AL_16 := L_16 (P := (PySem.Challenge.rw_pointswhole_k73_sums_refused).prog) (w := w) (base := base) (g := g) hK hG hCT b_len (A_is_sum_of.mono (by decide))
  have AL_17 := L_17 (P := (PySem.Challenge.rw_pointswhole_k73_sums_refused).prog) (w := w) (base := base) (g := g) hK hG hCT (A_summed_or_table.mono (by decide))
  have AL_18 := L_18 (P := (PySem.Challenge.rw_pointswhole_k73_sums_refused).prog) (w := w) (base := base) (g := g) hK hG hCT (A_fewest_counts.mono (by decide))
  have AL_19 := L_19 (P := (PySem.Challenge.rw_pointswhole_k73_sums_refused).prog) (w := w) (base := base) (g := g) hK hG hCT (A_greedy_counts.mono (by decide))
  have AL_1 := L_1 (P := (PySem.Challenge.rw_pointswhole_k73_sums_refused).prog) (w := w) (base := base) (g := g) hK hG hCT (AL_10.mono (by decide)) (AL_11.mono (by decide)) (AL_12.mono (by decide)) (AL_13.mono (by decide)) (AL_14.mono (by decide)) (AL_15.mono (by decide)) (AL_16.mono (by decide)) (AL_17.mono (by decide)) (AL_18.mono (by decide)) (AL_19.mono (by decide)) (AL_3.mono (by decide)) (AL_4.mono (by decide)) (AL_5.mono (by decide)) (AL_6.mono (by decide)) (AL_7.mono (by decide)) (AL_8.mono (by decide)) (AL_9.mono (by decide))
  have AL_2 := L_2 (P := (PySem.Challenge.rw_pointswhole_k73_sums_refused).prog) (w := w) (base := base) (g := g) hK hG hCT (AL_10.mono (by decide)) (AL_11.mono (by decide)) (AL_12.mono (by decide)) (AL_13.mono (by decide)) (AL_14.mono (by decide)) (AL_15.mono (by decide)) (AL_16.mono (by decide)) (AL_17.mono (by decide)) (AL_18.mono (by decide)) (AL_19.mono (by decide)) (AL_3.mono (by decide)) (AL_4.mono (by decide)) (AL_5.mono (by decide)) (AL_6.mono (by decide)) (AL_7.mono (by decide)) (AL_8.mono (by decide)) (AL_9.mono (by decide))
  have O__law_met := ok__law_met (P := (PySem.Challenge.rw_pointswhole_k73_sums_refused).prog) (w := w) (base := base) (g := g) hK hG hCT F__law_met (AL_1.mono (by decide)) (AL_2.mono (by decide)) (tryOk_of X G FB (by decide +kernel) (by decide +kernel) (by decide +kernel))
  have A__law_met := fnAt_of F__law_met g__law_met bd__law_met O__law_met
  have A__law_same := A__law_same (P := (PySem.Challenge.rw_pointswhole_k73_sums_refused).prog) (w := w) (base := base) (g := g) hK hG hCT F__law_same g__law_same b_all b_bool b_dict b_int b_isinstance b_len b_list b_str b_tuple b_zip 20
  have MET : ∀ l, FnAt (PySem.Challenge.rw_pointswhole_k73_sums_refused).prog w K mg base (g.wt l) 21 "_law_met" 1 .sh K73.F__law_met := by
    intro l
    have O__law_draw := ok__law_draw (P := (PySem.Challenge.rw_pointswhole_k73_sums_refused).prog) (w := w) (base := base) (g := g.wt l) hK hG hCT F__law_draw b_abs b_int
    have A__law_draw := fnIoAt_of F__law_draw g__law_draw bd__law_draw O__law_draw
    have O__law_ascending := ok__law_ascending (P := (PySem.Challenge.rw_pointswhole_k73_sums_refused).prog) (w := w) (base := base) (g := g.wt l) hK hG hCT F__law_ascending b_sorted
    have A__law_ascending := fnAt_of F__law_ascending g__law_ascending bd__law_ascending O__law_ascending
    have O__law_numbers := ok__law_numbers (P := (PySem.Challenge.rw_pointswhole_k73_sums_refused).prog) (w := w) (base := base) (g := g.wt l) hK hG hCT F__law_numbers b_range (A__law_ascending.mono (by decide)) (A__law_draw.mono (by decide))
    have A__law_numbers := fnIoAt_of F__law_numbers g__law_numbers bd__law_numbers O__law_numbers
    have O_is_whole := ok_is_whole (P := (PySem.Challenge.rw_pointswhole_k73_sums_refused).prog) (w := w) (base := base) (g := g.wt l) hK hG hCT F_is_whole b_bool b_int b_isinstance
    have A_is_whole := fnAt_of F_is_whole g_is_whole bd_is_whole O_is_whole
    have O_is_list := ok_is_list (P := (PySem.Challenge.rw_pointswhole_k73_sums_refused).prog) (w := w) (base := base) (g := g.wt l) hK hG hCT F_is_list b_isinstance b_list b_tuple
    have A_is_list := fnAt_of F_is_list g_is_list bd_is_list O_is_list
    have O_is_ascending := ok_is_ascending (P := (PySem.Challenge.rw_pointswhole_k73_sums_refused).prog) (w := w) (base := base) (g := g.wt l) hK hG hCT F_is_ascending b_all b_zip
    have A_is_ascending := fnAt_of F_is_ascending g_is_ascending bd_is_ascending O_is_ascending
    have O_need_numbers := ok_need_numbers (P := (PySem.Challenge.rw_pointswhole_k73_sums_refused).prog) (w := w) (base := base) (g := g.wt l) hK hG hCT F_need_numbers b_all b_len b_tuple (A_is_ascending.mono (by decide)) (A_is_list.mono (by decide)) (A_is_whole.mono (by decide)) EX_BadNumbers
    have A_need_numbers := fnAt_of F_need_numbers g_need_numbers bd_need_numbers O_need_numbers
    have O_is_number := ok_is_number (P := (PySem.Challenge.rw_pointswhole_k73_sums_refused).prog) (w := w) (base := base) (g := g.wt l) hK hG hCT F_is_number (A_is_whole.mono (by decide))
    have A_is_number := fnAt_of F_is_number g_is_number bd_is_number O_is_number
    have O_is_row := ok_is_row (P := (PySem.Challenge.rw_pointswhole_k73_sums_refused).prog) (w := w) (base := base) (g := g.wt l) hK hG hCT F_is_row b_len (A_is_list.mono (by decide))
    have A_is_row := fnAt_of F_is_row g_is_row bd_is_row O_is_row
    have O_need_sum := ok_need_sum (P := (PySem.Challenge.rw_pointswhole_k73_sums_refused).prog) (w := w) (base := base) (g := g.wt l) hK hG hCT F_need_sum (A_is_number.mono (by decide)) EX_BadNumber
    have A_need_sum := fnAt_of F_need_sum g_need_sum bd_need_sum O_need_sum
    have O_is_sum_of := ok_is_sum_of (P := (PySem.Challenge.rw_pointswhole_k73_sums_refused).prog) (w := w) (base := base) (g := g.wt l) hK hG hCT F_is_sum_of b_all b_len (A_is_number.mono (by decide)) (A_is_row.mono (by decide)) (A_need_numbers.mono (by decide)) (A_need_sum.mono (by decide)) EX_BadCounts
    have A_is_sum_of := fnAt_of F_is_sum_of g_is_sum_of bd_is_sum_of O_is_sum_of
    have AL_3 := L_3 (P := (PySem.Challenge.rw_pointswhole_k73_sums_refused).prog) (w := w) (base := base) (g := g.wt l) hK hG hCT (A_is_sum_of.mono (by decide))
    have A_table_of := K73.A_table_of (P := (PySem.Challenge.rw_pointswhole_k73_sums_refused).prog) (w := w) (base := base) (g := g.wt l) F_table_of g_table_of
    have O_rest_table := ok_rest_table (P := (PySem.Challenge.rw_pointswhole_k73_sums_refused).prog) (w := w) (base := base) (g := g.wt l) hK hG hCT F_rest_table (A_need_numbers.mono (by decide)) (A_table_of.mono (by decide))
    have A_rest_table := fnAt_of F_rest_table g_rest_table bd_rest_table O_rest_table
    have AL_4 := L_4 (P := (PySem.Challenge.rw_pointswhole_k73_sums_refused).prog) (w := w) (base := base) (g := g.wt l) hK hG hCT (A_rest_table.mono (by decide))
    have O_is_rest_table := ok_is_rest_table (P := (PySem.Challenge.rw_pointswhole_k73_sums_refused).prog) (w := w) (base := base) (g := g.wt l) hK hG hCT F_is_rest_table (A_need_numbers.mono (by decide))
    have A_is_rest_table := fnAt_of F_is_rest_table g_is_rest_table bd_is_rest_table O_is_rest_table
    have AL_5 := L_5 (P := (PySem.Challenge.rw_pointswhole_k73_sums_refused).prog) (w := w) (base := base) (g := g.wt l) hK hG hCT (A_is_rest_table.mono (by decide))
    have O_summed_or_table := ok_summed_or_table (P := (PySem.Challenge.rw_pointswhole_k73_sums_refused).prog) (w := w) (base := base) (g := g.wt l) hK hG hCT F_summed_or_table (A_need_numbers.mono (by decide)) (A_need_sum.mono (by decide))
    have A_summed_or_table := fnAt_of F_summed_or_table g_summed_or_table bd_summed_or_table O_summed_or_table
    have AL_6 := L_6 (P := (PySem.Challenge.rw_pointswhole_k73_sums_refused).prog) (w := w) (base := base) (g := g.wt l) hK hG hCT (A_summed_or_table.mono (by decide))
    have O_gaps := ok_gaps (P := (PySem.Challenge.rw_pointswhole_k73_sums_refused).prog) (w := w) (base := base) (g := g.wt l) hK hG hCT F_gaps (A_need_numbers.mono (by decide))
    have A_gaps := fnAt_of F_gaps g_gaps bd_gaps O_gaps
    have AL_7 := L_7 (P := (PySem.Challenge.rw_pointswhole_k73_sums_refused).prog) (w := w) (base := base) (g := g.wt l) hK hG hCT (A_gaps.mono (by decide))
    have O_greatest_gap := ok_greatest_gap (P := (PySem.Challenge.rw_pointswhole_k73_sums_refused).prog) (w := w) (base := base) (g := g.wt l) hK hG hCT F_greatest_gap (A_need_numbers.mono (by decide))
    have A_greatest_gap := fnAt_of F_greatest_gap g_greatest_gap bd_greatest_gap O_greatest_gap
    have AL_8 := L_8 (P := (PySem.Challenge.rw_pointswhole_k73_sums_refused).prog) (w := w) (base := base) (g := g.wt l) hK hG hCT (A_greatest_gap.mono (by decide))
    have O_sums_set := ok_sums_set (P := (PySem.Challenge.rw_pointswhole_k73_sums_refused).prog) (w := w) (base := base) (g := g.wt l) hK hG hCT F_sums_set (A_need_numbers.mono (by decide))
    have A_sums_set := fnAt_of F_sums_set g_sums_set bd_sums_set O_sums_set
    have AL_9 := L_9 (P := (PySem.Challenge.rw_pointswhole_k73_sums_refused).prog) (w := w) (base := base) (g := g.wt l) hK hG hCT (A_sums_set.mono (by decide))
    have O_needless_numbers := ok_needless_numbers (P := (PySem.Challenge.rw_pointswhole_k73_sums_refused).prog) (w := w) (base := base) (g := g.wt l) hK hG hCT F_needless_numbers (A_need_numbers.mono (by decide))
    have A_needless_numbers := fnAt_of F_needless_numbers g_needless_numbers bd_needless_numbers O_needless_numbers
    have AL_10 := L_10 (P := (PySem.Challenge.rw_pointswhole_k73_sums_refused).prog) (w := w) (base := base) (g := g.wt l) hK hG hCT (A_needless_numbers.mono (by decide))
    have O_is_even_gapped := ok_is_even_gapped (P := (PySem.Challenge.rw_pointswhole_k73_sums_refused).prog) (w := w) (base := base) (g := g.wt l) hK hG hCT F_is_even_gapped (A_need_numbers.mono (by decide))
    have A_is_even_gapped := fnAt_of F_is_even_gapped g_is_even_gapped bd_is_even_gapped O_is_even_gapped
    have AL_11 := L_11 (P := (PySem.Challenge.rw_pointswhole_k73_sums_refused).prog) (w := w) (base := base) (g := g.wt l) hK hG hCT (A_is_even_gapped.mono (by decide))
    have O_fewest_counts := ok_fewest_counts (P := (PySem.Challenge.rw_pointswhole_k73_sums_refused).prog) (w := w) (base := base) (g := g.wt l) hK hG hCT F_fewest_counts (A_need_numbers.mono (by decide)) (A_need_sum.mono (by decide))
    have A_fewest_counts := fnAt_of F_fewest_counts g_fewest_counts bd_fewest_counts O_fewest_counts
    have AK_fewest_counts_0_number_numbers := fnKAt_of (n := 0) (ks := ["number", "numbers"]) (perm := [1, 0]) F_fewest_counts g_fewest_counts (fun _ _ _ _ _ _ us ws h1 h2 => match us, ws, h1, h2 with | [], [_, _], _, _ => rfl) O_fewest_counts
    have AL_12 := L_12 (P := (PySem.Challenge.rw_pointswhole_k73_sums_refused).prog) (w := w) (base := base) (g := g.wt l) hK hG hCT (AK_fewest_counts_0_number_numbers.mono (by decide))
    have O_need_with_one := ok_need_with_one (P := (PySem.Challenge.rw_pointswhole_k73_sums_refused).prog) (w := w) (base := base) (g := g.wt l) hK hG hCT F_need_with_one (A_need_numbers.mono (by decide)) EX_BadNumbers
    have A_need_with_one := fnAt_of F_need_with_one g_need_with_one bd_need_with_one O_need_with_one
    have O_greedy_counts := ok_greedy_counts (P := (PySem.Challenge.rw_pointswhole_k73_sums_refused).prog) (w := w) (base := base) (g := g.wt l) hK hG hCT F_greedy_counts (A_need_sum.mono (by decide)) (A_need_with_one.mono (by decide))
    have A_greedy_counts := fnAt_of F_greedy_counts g_greedy_counts bd_greedy_counts O_greedy_counts
    have AL_13 := L_13 (P := (PySem.Challenge.rw_pointswhole_k73_sums_refused).prog) (w := w) (base := base) (g := g.wt l) hK hG hCT (A_greedy_counts.mono (by decide))
    have O_greedy_gap := ok_greedy_gap (P := (PySem.Challenge.rw_pointswhole_k73_sums_refused).prog) (w := w) (base := base) (g := g.wt l) hK hG hCT F_greedy_gap (A_need_with_one.mono (by decide))
    have A_greedy_gap := fnAt_of F_greedy_gap g_greedy_gap bd_greedy_gap O_greedy_gap
    have AL_14 := L_14 (P := (PySem.Challenge.rw_pointswhole_k73_sums_refused).prog) (w := w) (base := base) (g := g.wt l) hK hG hCT (A_greedy_gap.mono (by decide))
    have AL_15 := L_15 (P := (PySem.Challenge.rw_pointswhole_k73_sums_refused).prog) (w := w) (base := base) (g := g.wt l) hK hG hCT (A_is_sum_of.mono (by decide))
    have AL_16 := L_16 (P := (PySem.Challenge.rw_pointswhole_k73_sums_refused).prog) (w := w) (base := base) (g := g.wt l) hK hG hCT b_len (A_is_sum_of.mono (by decide))
    have AL_17 := L_17 (P := (PySem.Challenge.rw_pointswhole_k73_sums_refused).prog) (w := w) (base := base) (g := g.wt l) hK hG hCT (A_summed_or_table.mono (by decide))
    have AL_18 := L_18 (P := (PySem.Challenge.rw_pointswhole_k73_sums_refused).prog) (w := w) (base := base) (g := g.wt l) hK hG hCT (A_fewest_counts.mono (by decide))
    have AL_19 := L_19 (P := (PySem.Challenge.rw_pointswhole_k73_sums_refused).prog) (w := w) (base := base) (g := g.wt l) hK hG hCT (A_greedy_counts.mono (by decide))
    have AL_1 := L_1 (P := (PySem.Challenge.rw_pointswhole_k73_sums_refused).prog) (w := w) (base := base) (g := g.wt l) hK hG hCT (AL_10.mono (by decide)) (AL_11.mono (by decide)) (AL_12.mono (by decide)) (AL_13.mono (by decide)) (AL_14.mono (by decide)) (AL_15.mono (by decide)) (AL_16.mono (by decide)) (AL_17.mono (by decide)) (AL_18.mono (by decide)) (AL_19.mono (by decide)) (AL_3.mono (by decide)) (AL_4.mono (by decide)) (AL_5.mono (by decide)) (AL_6.mono (by decide)) (AL_7.mono (by decide)) (AL_8.mono (by decide)) (AL_9.mono (by decide))
    have AL_2 := L_2 (P := (PySem.Challenge.rw_pointswhole_k73_sums_refused).prog) (w := w) (base := base) (g := g.wt l) hK hG hCT (AL_10.mono (by decide)) (AL_11.mono (by decide)) (AL_12.mono (by decide)) (AL_13.mono (by decide)) (AL_14.mono (by decide)) (AL_15.mono (by decide)) (AL_16.mono (by decide)) (AL_17.mono (by decide)) (AL_18.mono (by decide)) (AL_19.mono (by decide)) (AL_3.mono (by decide)) (AL_4.mono (by decide)) (AL_5.mono (by decide)) (AL_6.mono (by decide)) (AL_7.mono (by decide)) (AL_8.mono (by decide)) (AL_9.mono (by decide))
    have O__law_met := ok__law_met (P := (PySem.Challenge.rw_pointswhole_k73_sums_refused).prog) (w := w) (base := base) (g := g.wt l) hK hG hCT F__law_met (AL_1.mono (by decide)) (AL_2.mono (by decide)) (tryOk_of X G FB (by decide +kernel) (by decide +kernel) (by decide +kernel))
    have A__law_met := fnAt_of F__law_met g__law_met bd__law_met O__law_met
    have A__law_same := K73.A__law_same (P := (PySem.Challenge.rw_pointswhole_k73_sums_refused).prog) (w := w) (base := base) (g := g.wt l) hK hG hCT F__law_same g__law_same b_all b_bool b_dict b_int b_isinstance b_len b_list b_str b_tuple b_zip 20
    exact A__law_met.mono (by decide)
  have O__law_is_very := ok__law_is_very (P := (PySem.Challenge.rw_pointswhole_k73_sums_refused).prog) (w := w) (base := base) (g := g) hK hG hCT F__law_is_very MET (A__law_same.mono (by decide)) (lamDef_of (CT := CTl) (x := "_law_is_very") (by decide) FB.apart (tb "_law_is_very" (by decide))) (code_of F__law_is_very)
  have A__law_is_very := fnAt_of F__law_is_very g__law_is_very bd__law_is_very O__law_is_very
  have O__law_all_refused := ok__law_all_refused (P := (PySem.Challenge.rw_pointswhole_k73_sums_refused).prog) (w := w) (base := base) (g := g) hK hG hCT F__law_all_refused b_all (A__law_is_very.mono (by decide)) (A__law_met.mono (by decide)) (A__law_same.mono (by decide)) (lamDef_of (CT := CTl) (x := "_law_all_refused") (by decide) FB.apart (tb "_law_all_refused" (by decide))) (code_of F__law_all_refused)
  have A__law_all_refused := fnAt_of F__law_all_refused g__law_all_refused bd__law_all_refused O__law_all_refused
  have SA := stream_at (P := (PySem.Challenge.rw_pointswhole_k73_sums_refused).prog) (w := w) (base := base) F__law_stream g__law_stream b_list
  exact ok_law (P := (PySem.Challenge.rw_pointswhole_k73_sums_refused).prog) (w := w) (base := base) (g := g) hK hG hCT F_law b_len (A__law_all_refused.mono (by decide)) (A__law_numbers.mono (by decide)) (lamDef_of (CT := CTl) (x := "law") (by decide) FB.apart (tb "law" (by decide))) (code_of F_law) SA
end K73
-- F73
open PySem PySem.W PySem.Calls PyProof.Rows in
theorem PySem.Challenge.cw_pointswhole_k73_sums_refused_holds : PySem.Challenge.rw_pointswhole_k73_sums_refused.Holds := by
  w_on; o_law
  refine HandSHeadRun.head_any (r := OpenLaw.row PySem.Challenge.rw_pointswhole_k73_sums_refused) (q := view (OpenLaw.row PySem.Challenge.rw_pointswhole_k73_sums_refused).prog [57]) (H := K73.hk) (ob := K73.ob) (M := 20000) (loose := K73.loose) (d := HandSHeadRun.topDef (OpenLaw.row PySem.Challenge.rw_pointswhole_k73_sums_refused).prog 57) (kwd := []) K73.ob_eq
    (by kernel_rfl) (fun s => by kernel_rfl) K73.run (by kernel_rfl) (by kernel_rfl) (by kernel_rfl) (by rfl) (by first | assumption | decide +kernel) (by decide +kernel) ⟨rfl, rfl, rfl, rfl, rfl, by decide +kernel⟩ ?hw ?hc
  case hw => w_witness2
  case hc =>
    refine LamX.walk_ofTsE (l := PySem.Challenge.rw_pointswhole_k73_sums_refused) (n := 63) (k := 24) (x := "script") (CX := fun w => L2.CX (PySem.Challenge.rw_pointswhole_k73_sums_refused).prog w) rfl (by decide) (by kernel_rfl) ⟨rfl, by decide, by decide⟩ ?F (fun w H s e s' z => PP.cx_none z)
    intro w mg fa h Y G hmg0
    obtain ⟨K, KX, c⟩ := Y
    have hmg : mg ("law" : PySem.Str) = some (.ref fa) := by
      have e : (HandSHeadRun.topDef (OpenLaw.row PySem.Challenge.rw_pointswhole_k73_sums_refused).prog 57).name = ("law" : PySem.Str) := by kernel_rfl
      rw [← e]
      exact hmg0
    exact ⟨K, KX, K73.facts KX G hmg c K73.law_run⟩
