import PyProof.Rows.All
import Wide.All
import OpenK.AllK
import Wide.FinOn
import HandS.ForMost
import HandS.ForExc
import HandS.HeadHook1
import HandS.CallSlots
import HandS.Wide
import HandS.IsInst
import HandS.Zip
import HandS.Defaults
import HandS.HeadHook2
import HandS.ExcOwn
import HandS.Small
import HandS.Style
import HandS.Strs
import HandS.More
import HandS.TupSets
import PyProof.Rows.SortShellAny
import KE.KDictList
import HandS.ExcIs
import HandS.Head0
import HandS.Head1
import HandS.Head2
import HandS.HeadEnd
import KE.KStateDown
import PySem.Challenge.RW_manrent_k10_estates_not_there
set_option Elab.async false
set_option linter.all false
set_option maxRecDepth 100000
/-! MR0: the shallow semantics: values as trees, frames of slots, a store of objects; one combinator a construct. -/
namespace MR
open PySem

abbrev Kk := Sum Int Str

/-- a datum. scr: the script (read only). obj: an object or container of the store. loc: the container that the frame's slot owns -/
inductive D where
  | non | bl (b : Bool) | int (i : Int) | str (x : Str)
  | tup (l : List D) | lst (l : List D)
  | dK (l : List (Kk × D)) | dT (l : List (List Kk × D))
  | obj (r : Nat) | loc (i : Nat) | scr (l : List Int)

inductive Slot where
  | emp | val (w : D) | own (w : D) | exn (a : PySem.Addr)
abbrev Sl := List Slot
inductive Ob where
  | ins (c : String) (fs : List (String × D))
  | con (lk : Bool) (w : D)
abbrev Sto := List Ob

/-- an exception: its class, its field (of NoText) -/
structure Exn where
  c : String
  x : Option Int

inductive Res (α : Type) where
  | ok (a : α) (σ : Sl) (S : Sto)
  | exc (e : Exn) (σ : Sl) (S : Sto)
  | fail

def Res.bind {α β : Type} (r : Res α) (k : α → Sl → Sto → Res β) : Res β := match r with
  | .ok a σ S => k a σ S
  | .exc e σ S => .exc e σ S
  | .fail => .fail
@[simp] theorem Res.bind_ok {α β : Type} {a : α} {σ : Sl} {S : Sto} {k : α → Sl → Sto → Res β} : (Res.ok a σ S).bind k = k a σ S := rfl
@[simp] theorem Res.bind_exc {α β : Type} {e : Exn} {σ : Sl} {S : Sto} {k : α → Sl → Sto → Res β} : (Res.exc e σ S).bind k = .exc e σ S := rfl
@[simp] theorem Res.bind_fail {α β : Type} {k : α → Sl → Sto → Res β} : (Res.fail : Res α).bind k = .fail := rfl

abbrev DE := Sl → Sto → Res D
abbrev DT := Sl → Sto → Res Bool
abbrev DA := Sl → Sto → Res (List D)
inductive Fl where
  | next | ret (w : D) | brk | cnt
abbrev DS := Sl → Sto → Res Fl
/-- a def as a function of data and the store -/
inductive Out where
  | ok (w : D) (S : Sto)
  | exc (e : Exn) (S : Sto)
  | fail
abbrev Den := List D → Sto → Out

/-- what stands behind a value: a container by place, or itself -/
def deref (σ : Sl) (S : Sto) : D → Option D
  | .loc i => (match σ[i]? with
    | some (.own c) => some c
    | _ => none)
  | .obj r => (match S[r]? with
    | some (.con _ c) => some c
    | _ => none)
  | w => some w
/-- a slot's container is frozen: a value from here on -/
def frz (w : D) (σ : Sl) (S : Sto) : Res D := match w with
  | .loc i => (match σ[i]? with
    | some (.own c) => .ok c (σ.set i (.val c)) S
    | _ => .fail)
  | w => .ok w σ S
def ofOpt {α : Type} (o : Option α) (σ : Sl) (S : Sto) : Res α := match o with
  | some a => .ok a σ S
  | none => .fail

/-! ### names, constants -/
def dVar (i : Nat) : DE := fun σ S => match σ[i]? with
  | some (.val w) => .ok w σ S
  | some (.own _) => .ok (.loc i) σ S
  | _ => .fail
def dC (w : D) : DE := fun σ S => .ok w σ S
/-- as a value that may be kept -/
def dV (f : DE) : DE := fun σ S => (f σ S).bind frz

/-! ### operations on values -/
def d1 (op : D → Option D) (f : DE) : DE := fun σ S => (f σ S).bind fun x σ S => ofOpt ((deref σ S x).bind op) σ S
def d2 (op : D → D → Option D) (f g : DE) : DE := fun σ S => (f σ S).bind fun x σ S => (g σ S).bind fun y σ S => ofOpt ((deref σ S x).bind fun a => (deref σ S y).bind fun b => op a b) σ S

def most : Nat := 16777216
def opAdd : D → D → Option D
  | .int i, .int j => some (.int (i + j))
  | .str x, .str y => if x.length + y.length ≤ most then some (.str (x ++ y)) else none
  | .lst x, .lst y => if x.length + y.length ≤ most then some (.lst (x ++ y)) else none
  | .tup x, .tup y => if x.length ≠ 0 ∧ y.length ≠ 0 ∧ x.length + y.length ≤ most then some (.tup (x ++ y)) else none
  | _, _ => none
def opSub : D → D → Option D
  | .int i, .int j => some (.int (i - j))
  | _, _ => none
def mulOk (i j : Int) : Prop := i.natAbs.log2 + j.natAbs.log2 < 1000000
instance (i j : Int) : Decidable (mulOk i j) := by unfold mulOk; infer_instance
def opMul : D → D → Option D
  | .int i, .int j => if mulOk i j then some (.int (i * j)) else none
  | _, _ => none
def opMod : D → D → Option D
  | .int i, .int j => if 0 < j then some (.int (i % j)) else none
  | _, _ => none
def divOk (j : Int) : Prop := j ≠ 0 ∧ j.natAbs.log2 < 9000
instance (j : Int) : Decidable (divOk j) := by unfold divOk; infer_instance
def opDiv : D → D → Option D
  | .int i, .int j => if divOk j then some (.int (i.fdiv j)) else none
  | _, _ => none
def opLt : D → D → Option D
  | .int i, .int j => some (.bl (decide (i < j)))
  | _, _ => none
def opLe : D → D → Option D
  | .int i, .int j => some (.bl (decide (i ≤ j)))
  | _, _ => none
def opGt : D → D → Option D
  | .int i, .int j => some (.bl (decide (j < i)))
  | _, _ => none
def opGe : D → D → Option D
  | .int i, .int j => some (.bl (decide (j ≤ i)))
  | _, _ => none
/-- == of two flat things of one kind -/
def opEq : D → D → Option D
  | .int i, .int j => some (.bl (decide (i = j)))
  | .str i, .str j => some (.bl (decide (i = j)))
  | .bl i, .bl j => some (.bl (decide (i = j)))
  | _, _ => none
def opNe : D → D → Option D
  | .int i, .int j => some (.bl (!decide (i = j)))
  | .str i, .str j => some (.bl (!decide (i = j)))
  | .bl i, .bl j => some (.bl (!decide (i = j)))
  | _, _ => none

/-! ### tests -/
def tVal (f : DE) : DT := fun σ S => (f σ S).bind fun x σ S => match x with
  | .bl b => .ok b σ S
  | _ => .fail
def tAnd (f g : DT) : DT := fun σ S => (f σ S).bind fun b σ S => if b = true then g σ S else .ok false σ S
def tOr (f g : DT) : DT := fun σ S => (f σ S).bind fun b σ S => if b = true then .ok true σ S else g σ S
def tNot (f : DT) : DT := fun σ S => (f σ S).bind fun b σ S => .ok (!b) σ S
/-- a test as a value -/
def eT (f : DT) : DE := fun σ S => (f σ S).bind fun b σ S => .ok (.bl b) σ S

/-! ### arguments, displays, calls -/
def aNil : DA := fun σ S => .ok [] σ S
def aCons (f : DE) (r : DA) : DA := fun σ S => (dV f σ S).bind fun x σ S => (r σ S).bind fun xs σ S => .ok (x :: xs) σ S
def dTup (r : DA) : DE := fun σ S => (r σ S).bind fun xs σ S => if xs.length ≤ most then .ok (.tup xs) σ S else .fail
def dLst (r : DA) : DE := fun σ S => (r σ S).bind fun xs σ S => if xs.length ≤ most then .ok (.lst xs) σ S else .fail
def dCall (d : Den) (r : DA) : DE := fun σ S => (r σ S).bind fun xs σ S => match d xs S with
  | .ok w S' => .ok w σ S'
  | .exc e S' => .exc e σ S'
  | .fail => .fail

/-! ### statements -/
def sNil : DS := fun σ S => .ok .next σ S
def sSeq (f g : DS) : DS := fun σ S => (f σ S).bind fun x σ S => match x with
  | .next => g σ S
  | x => .ok x σ S
def sSet (i : Nat) (f : DE) : DS := fun σ S => (dV f σ S).bind fun w σ S => .ok .next (σ.set i (.val w)) S
def sRet (f : DE) : DS := fun σ S => (dV f σ S).bind fun w σ S => .ok (.ret w) σ S
def sIf (c : DT) (f g : DS) : DS := fun σ S => (c σ S).bind fun b σ S => if b = true then f σ S else g σ S
def sExpr (f : DE) : DS := fun σ S => (f σ S).bind fun _ σ S => .ok .next σ S
/-- a, b = e1, e2 -/
def sPar (i j : Nat) (r : DA) : DS := fun σ S => (r σ S).bind fun xs σ S => match xs with
  | [v, w] => .ok .next ((σ.set i (.val v)).set j (.val w)) S
  | _ => .fail

/-- a def's body as a function: n slots, its arguments first -/
def dDef (n : Nat) (f : DS) : Den := fun ws S => match f (ws.map Slot.val ++ List.replicate (n - ws.length) .emp) S with
  | .ok .next _ S' => .ok .non S'
  | .ok (.ret w) _ S' => .ok w S'
  | .ok _ _ _ => .fail
  | .exc e _ S' => .exc e S'
  | .fail => .fail

/-- while, at most n turns -/
def sWhile (c : DT) (f : DS) : Nat → DS
  | 0 => fun _ _ => .fail
  | n + 1 => fun σ S => (c σ S).bind fun b σ S => if b = true then (f σ S).bind fun x σ S => (match x with
      | .next => sWhile c f n σ S
      | .cnt => sWhile c f n σ S
      | .brk => .ok .next σ S
      | .ret w => .ok (.ret w) σ S) else .ok .next σ S
end MR

set_option Elab.async false
set_option linter.all false
set_option maxRecDepth 100000
/-! MR1: what a datum stands for in the abstract heap; the relation between states; the meaning of a denotation as a reading of the hand layer. -/
namespace MR
open PySem PySem.Spec PyProof.Rows L2

def isDc : HO → Prop
  | .dK _ => True
  | .dT _ => True
  | _ => False
/-- I: what is frozen (a dict may be locked by a loop) -/
def Sub (I H : Hp) : Prop := ∀ a o, I a = some o → H a = some o ∨ (isDc o ∧ ∃ ob, H a = some (.frz ob o))

mutual
inductive Rep (K : PySem.W.Frag) (ρ : List Addr) (I : Hp) : V → D → Prop
  | non : Rep K ρ I .non .non
  | bl {b : Bool} : Rep K ρ I (.bl b) (.bl b)
  | int {i : Int} : Rep K ρ I (.int i) (.int i)
  | str {x : Str} : Rep K ρ I (.str x) (.str x)
  | tup {a : Addr} {vs : List V} {ws : List D} (h : SqT K I a vs) (r : Reps K ρ I vs ws) : Rep K ρ I (.ref a) (.tup ws)
  | lst {a : Addr} {vs : List V} {ws : List D} (h : I a = some (.lst vs)) (r : Reps K ρ I vs ws) : Rep K ρ I (.ref a) (.lst ws)
  | dK {a : Addr} {kvs : List (Key × V)} {kws : List (Kk × D)} (h : I a = some (.dK kvs)) (e : kvs.map (·.1) = kws.map (·.1)) (r : Reps K ρ I (kvs.map (·.2)) (kws.map (·.2))) : Rep K ρ I (.ref a) (.dK kws)
  | dT {a : Addr} {kvs : List (List Key × V)} {kws : List (List Kk × D)} (h : I a = some (.dT kvs)) (e : kvs.map (·.1) = kws.map (·.1)) (r : Reps K ρ I (kvs.map (·.2)) (kws.map (·.2))) : Rep K ρ I (.ref a) (.dT kws)
  | obj {r : Nat} {a : Addr} (h : ρ[r]? = some a) : Rep K ρ I (.ref a) (.obj r)
  | scr {a : Addr} {ns : List Int} (h : SqL K I a (ns.map V.int)) : Rep K ρ I (.ref a) (.scr ns)
inductive Reps (K : PySem.W.Frag) (ρ : List Addr) (I : Hp) : List V → List D → Prop
  | nil : Reps K ρ I [] []
  | cons {v : V} {vs : List V} {w : D} {ws : List D} (h : Rep K ρ I v w) (r : Reps K ρ I vs ws) : Reps K ρ I (v :: vs) (w :: ws)
end

/-- more is frozen, more objects are there -/
structure Gr (ρ : List Addr) (I : Hp) (ρ' : List Addr) (I' : Hp) : Prop where
  ex : ∀ a o, I a = some o → I' a = some o
  pre : ∀ (r : Nat) (a : Addr), ρ[r]? = some a → ρ'[r]? = some a
theorem Gr.refl {ρ : List Addr} {I : Hp} : Gr ρ I ρ I := ⟨fun _ _ h => h, fun _ _ h => h⟩
theorem Gr.trans {ρ ρ' ρ'' : List Addr} {I I' I'' : Hp} (a : Gr ρ I ρ' I') (b : Gr ρ' I' ρ'' I'') : Gr ρ I ρ'' I'' := ⟨fun x o h => b.ex x o (a.ex x o h), fun r x h => b.pre r x (a.pre r x h)⟩
theorem SqT.gr {K : PySem.W.Frag} {ρ ρ' : List Addr} {I I' : Hp} {a : Addr} {vs : List V} (g : Gr ρ I ρ' I') (h : SqT K I a vs) : SqT K I' a vs := by
  rcases h with (h | ⟨o, h⟩) | h
  · exact .inl (.inl (g.ex _ _ h))
  · exact .inl (.inr ⟨o, g.ex _ _ h⟩)
  · exact .inr h
theorem SqL.gr {K : PySem.W.Frag} {ρ ρ' : List Addr} {I I' : Hp} {a : Addr} {vs : List V} (g : Gr ρ I ρ' I') (h : SqL K I a vs) : SqL K I' a vs := by
  rcases h with (h | ⟨o, h⟩) | h
  · exact .inl (.inl (g.ex _ _ h))
  · exact .inl (.inr ⟨o, g.ex _ _ h⟩)
  · exact .inr h
mutual
theorem Rep.gr {K : PySem.W.Frag} {ρ ρ' : List Addr} {I I' : Hp} (g : Gr ρ I ρ' I') : ∀ {v : V} {w : D}, Rep K ρ I v w → Rep K ρ' I' v w
  | _, _, .non => .non
  | _, _, .bl => .bl
  | _, _, .int => .int
  | _, _, .str => .str
  | _, _, .tup h r => .tup (SqT.gr g h) (Reps.gr g r)
  | _, _, .lst h r => .lst (g.ex _ _ h) (Reps.gr g r)
  | _, _, .dK h e r => .dK (g.ex _ _ h) e (Reps.gr g r)
  | _, _, .dT h e r => .dT (g.ex _ _ h) e (Reps.gr g r)
  | _, _, .obj h => .obj (g.pre _ _ h)
  | _, _, .scr h => .scr (SqL.gr g h)
theorem Reps.gr {K : PySem.W.Frag} {ρ ρ' : List Addr} {I I' : Hp} (g : Gr ρ I ρ' I') : ∀ {vs : List V} {ws : List D}, Reps K ρ I vs ws → Reps K ρ' I' vs ws
  | _, _, .nil => .nil
  | _, _, .cons h r => .cons (Rep.gr g h) (Reps.gr g r)
end
section
variable {K : PySem.W.Frag} {ρ : List Addr} {I : Hp}
theorem Reps.length : ∀ {vs : List V} {ws : List D}, Reps K ρ I vs ws → vs.length = ws.length
  | _, _, .nil => rfl
  | _, _, .cons _ r => congrArg (· + 1) r.length
theorem Reps.get : ∀ {vs : List V} {ws : List D} {i : Nat} {w : D}, Reps K ρ I vs ws → ws[i]? = some w → ∃ v, vs[i]? = some v ∧ Rep K ρ I v w
  | _, _, _, _, .nil, e => by cases e
  | _, _, 0, _, .cons h _, e => by cases e; exact ⟨_, rfl, h⟩
  | _, _, i + 1, _, .cons _ r, e => Reps.get (i := i) r e
theorem Reps.get' : ∀ {vs : List V} {ws : List D} {i : Nat} {v : V}, Reps K ρ I vs ws → vs[i]? = some v → ∃ w, ws[i]? = some w ∧ Rep K ρ I v w
  | _, _, _, _, .nil, e => by cases e
  | _, _, 0, _, .cons h _, e => by cases e; exact ⟨_, rfl, h⟩
  | _, _, i + 1, _, .cons _ r, e => Reps.get' (i := i) r e
theorem Reps.append : ∀ {vs vs' : List V} {ws ws' : List D}, Reps K ρ I vs ws → Reps K ρ I vs' ws' → Reps K ρ I (vs ++ vs') (ws ++ ws')
  | _, _, _, _, .nil, q => q
  | _, _, _, _, .cons h r, q => .cons h (Reps.append r q)
theorem Reps.take : ∀ {vs : List V} {ws : List D} (n : Nat), Reps K ρ I vs ws → Reps K ρ I (vs.take n) (ws.take n)
  | _, _, 0, _ => .nil
  | _, _, _ + 1, .nil => .nil
  | _, _, n + 1, .cons h r => .cons h (Reps.take n r)
theorem Reps.drop : ∀ {vs : List V} {ws : List D} (n : Nat), Reps K ρ I vs ws → Reps K ρ I (vs.drop n) (ws.drop n)
  | _, _, 0, r => r
  | _, _, _ + 1, .nil => .nil
  | _, _, n + 1, .cons _ r => Reps.drop n r
theorem Reps.set {v : V} {w : D} (h : Rep K ρ I v w) : ∀ {vs : List V} {ws : List D} (n : Nat), Reps K ρ I vs ws → Reps K ρ I (vs.set n v) (ws.set n w)
  | _, _, _, .nil => .nil
  | _, _, 0, .cons _ r => .cons h r
  | _, _, n + 1, .cons q r => .cons q (Reps.set h n r)
end

/-- a container that can be written, at a -/
def OwnAt (K : PySem.W.Frag) (ρ : List Addr) (I H : Hp) (a : Addr) : D → Prop
  | .lst ws => ∃ vs, H a = some (.lst vs) ∧ Reps K ρ I vs ws
  | .dK kws => ∃ kvs, H a = some (.dK kvs) ∧ kvs.map (·.1) = kws.map (·.1) ∧ Reps K ρ I (kvs.map (·.2)) (kws.map (·.2))
  | .dT kws => ∃ kvs, H a = some (.dT kvs) ∧ kvs.map (·.1) = kws.map (·.1) ∧ Reps K ρ I (kvs.map (·.2)) (kws.map (·.2))
  | _ => False
/-- .. while a loop walks it -/
def LockAt (K : PySem.W.Frag) (ρ : List Addr) (I H : Hp) (a : Addr) : D → Prop
  | .lst ws => ∃ vs, H a = some (.lst vs) ∧ Reps K ρ I vs ws
  | .dK kws => ∃ ob kvs, H a = some (.frz ob (.dK kvs)) ∧ kvs.map (·.1) = kws.map (·.1) ∧ Reps K ρ I (kvs.map (·.2)) (kws.map (·.2))
  | .dT kws => ∃ ob kvs, H a = some (.frz ob (.dT kvs)) ∧ kvs.map (·.1) = kws.map (·.1) ∧ Reps K ρ I (kvs.map (·.2)) (kws.map (·.2))
  | _ => False
/-- the class's address -/
abbrev ca (K : PySem.W.Frag) (c : String) : Addr := He.ga K (Str.ofString c)
def CellAt (K : PySem.W.Frag) (ρ : List Addr) (I H : Hp) (a : Addr) : Ob → Prop
  | .ins c fs => ∃ dx fsV, H a = some (.ins (ca K c) dx fsV) ∧ fsV.map (·.1) = fs.map (fun p => Str.ofString p.1) ∧ Reps K ρ I (fsV.map (·.2)) (fs.map (·.2))
  | .con false c => OwnAt K ρ I H a c
  | .con true c => LockAt K ρ I H a c
def SlotAt (K : PySem.W.Frag) (ρ : List Addr) (I F H : Hp) (σV : L2.St) (i : Nat) : Slot → Prop
  | .emp => True
  | .val w => ∃ v, σV[i]? = some (some v) ∧ Rep K ρ I v w
  | .own c => ∃ a, σV[i]? = some (some (.ref a)) ∧ F a = none ∧ I a = none ∧ a ∉ ρ ∧ OwnAt K ρ I H a c
  | .exn b => σV[i]? = some (some (.ref b))
/-- what the callers want kept holds no cell of the store, but those that are locked -/
def FOk (F : Hp) (a : Addr) (o : Ob) : Prop := match o with
  | .con true _ => ∃ ob u, F a = some (.frz ob u)
  | _ => F a = none
theorem FOk.mono {F F' : Hp} {a : Addr} {o : Ob} (h : FOk F a o) (h0 : F a = none → F' a = none) (h1 : ∀ ob u, F a = some (.frz ob u) → F' a = some (.frz ob u)) : FOk F' a o := by
  cases o with
  | ins c fs => exact h0 h
  | con lk c =>
    cases lk with
    | false => exact h0 h
    | true => obtain ⟨ob, u, e⟩ := h; exact ⟨ob, u, h1 ob u e⟩
theorem FOk.not {F : Hp} {a : Addr} {o : Ob} {x : HO} (h : FOk F a o) (e : F a = some x) : ∃ ob u, x = .frz ob u := by
  cases o with
  | ins c fs => rw [show F a = none from h] at e; cases e
  | con lk c =>
    cases lk with
    | false => rw [show F a = none from h] at e; cases e
    | true => obtain ⟨ob, u, e'⟩ := h; rw [e'] at e; cases e; exact ⟨ob, u, rfl⟩
/-- the states of the two worlds: F what the callers want kept, I what is frozen, ρ where the store's objects stand -/
structure RB (K : PySem.W.Frag) (F I : Hp) (ρ : List Addr) (S : Sto) (H : Hp) (σV : L2.St) (σ : Sl) : Prop where
  fr : ∀ a o, F a = some o → H a = some o
  sub : Sub I H
  dis : ∀ a o, F a = some o → I a = none
  store : ∀ (r : Nat) (o : Ob), S[r]? = some o → ∃ a, ρ[r]? = some a ∧ FOk F a o ∧ I a = none ∧ CellAt K ρ I H a o
  nd : ∀ (r r' : Nat) (a : Addr), ρ[r]? = some a → ρ[r']? = some a → r = r'
  rl : ρ.length = S.length
  len : σ.length = σV.length
  slot : ∀ (i : Nat) (s : Slot), σ[i]? = some s → SlotAt K ρ I F H σV i s
  inj : ∀ (i j : Nat) (c c' : D) (v : V), σ[i]? = some (.own c) → σ[j]? = some (.own c') → σV[i]? = some (some v) → σV[j]? = some (some v) → i = j

/-- a value of an expression, a slot's own container among them -/
def TRep (K : PySem.W.Frag) (ρ : List Addr) (I : Hp) (σV : L2.St) (v : V) (w : D) : Prop := (∃ i, w = .loc i ∧ σV[i]? = some (some v)) ∨ Rep K ρ I v w
theorem TRep.gr {K : PySem.W.Frag} {ρ ρ' : List Addr} {I I' : Hp} {σV : L2.St} {v : V} {w : D} (g : Gr ρ I ρ' I') (h : TRep K ρ I σV v w) : TRep K ρ' I' σV v w := by
  rcases h with h | h
  · exact .inl h
  · exact .inr (h.gr g)

/-- the exception's own dict, where its class has a field -/
def ExcAt (e : Exn) (d : Option Addr) (H : Hp) : Prop := match e.x with
  | none => d = none
  | some n => ∃ a, d = some a ∧ H a = some (.xd [(Str.ofString "at", .int n)])

/-! ### the meaning of a denotation -/
def postR {α β : Type} (K : PySem.W.Frag) (Wx : WX) (T : List Addr → Hp → L2.St → β → α → Prop) (F I : Hp) (ρ : List Addr) (σV : L2.St) (r : Res α) (Q : β → Hp → Prop) : Prop := match r with
  | .ok a σ' S' => ∀ I' ρ' H' b, Gr ρ I ρ' I' → RB K F I' ρ' S' H' σV σ' → T ρ' I' σV b a → Q b H'
  | .exc e σ' S' => ∀ I' ρ' H' d, Gr ρ I ρ' I' → RB K F I' ρ' S' H' σV σ' → ExcAt e d H' → Wx (.ref (ca K e.c)) d σV H'
  | .fail => False
def semR {α β : Type} (K : PySem.W.Frag) (Wx : WX) (T : List Addr → Hp → L2.St → β → α → Prop) (f : Sl → Sto → Res α) (σV : L2.St) (H : Hp) (Q : β → Hp → Prop) : Prop :=
  ∃ F I ρ σ S, RB K F I ρ S H σV σ ∧ postR K Wx T F I ρ σV (f σ S) Q
abbrev semE (K : PySem.W.Frag) (Wx : WX) (f : DE) : TE := semR K Wx (TRep K) f
abbrev semT (K : PySem.W.Frag) (Wx : WX) (f : DT) : TT := semR K Wx (fun _ _ _ b a => b = a) f
abbrev semA (K : PySem.W.Frag) (Wx : WX) (f : DA) : TA := semR K Wx (fun ρ I _ vs ws => Reps K ρ I vs ws) f
/-- the value of a kept kind: no slot's own container -/
abbrev semV (K : PySem.W.Frag) (Wx : WX) (f : DE) : TE := semR K Wx (fun ρ I _ v w => Rep K ρ I v w) f

section
variable {K : PySem.W.Frag} {Wx : WX} {F I : Hp} {ρ : List Addr} {σV : L2.St} {H : Hp}
theorem post_gr {α β : Type} {T : List Addr → Hp → L2.St → β → α → Prop} {r : Res α} {Q : β → Hp → Prop} {I1 : Hp} {ρ1 : List Addr} (g : Gr ρ I ρ1 I1) (h : postR K Wx T F I ρ σV r Q) : postR K Wx T F I1 ρ1 σV r Q := by
  cases r with
  | ok a σ S => exact fun I' ρ' H' b g' => h I' ρ' H' b (g.trans g')
  | exc e σ S => exact fun I' ρ' H' d g' => h I' ρ' H' d (g.trans g')
  | fail => exact h
theorem post_bind {α α2 β β2 : Type} {T : List Addr → Hp → L2.St → β → α → Prop} {T2 : List Addr → Hp → L2.St → β2 → α2 → Prop} {r : Res α} {k : α → Sl → Sto → Res α2} {Q : β2 → Hp → Prop} {Q1 : β → Hp → Prop}
    (h : postR K Wx T2 F I ρ σV (r.bind k) Q)
    (q : ∀ I1 ρ1 σ1 S1 H1 a b, r = .ok a σ1 S1 → Gr ρ I ρ1 I1 → RB K F I1 ρ1 S1 H1 σV σ1 → T ρ1 I1 σV b a → postR K Wx T2 F I1 ρ1 σV (k a σ1 S1) Q → Q1 b H1) : postR K Wx T F I ρ σV r Q1 := by
  cases r with
  | ok a σ S => exact fun I' ρ' H' b g rb t => q I' ρ' σ S H' a b rfl g rb t (post_gr g h)
  | exc e σ S => exact h
  | fail => exact h
theorem post_ok {α β : Type} {T : List Addr → Hp → L2.St → β → α → Prop} {a : α} {b : β} {σ : Sl} {S : Sto} {Q : β → Hp → Prop} {I' : Hp} {ρ' : List Addr} {H' : Hp} (h : postR K Wx T F I ρ σV (.ok a σ S) Q) (g : Gr ρ I ρ' I') (rb : RB K F I' ρ' S H' σV σ) (t : T ρ' I' σV b a) : Q b H' := h I' ρ' H' b g rb t
theorem post_opt {α β : Type} {T : List Addr → Hp → L2.St → β → α → Prop} {o : Option α} {σ : Sl} {S : Sto} {Q : β → Hp → Prop} (h : postR K Wx T F I ρ σV (ofOpt o σ S) Q) : ∃ a, o = some a ∧ postR K Wx T F I ρ σV (.ok a σ S) Q := by
  cases o with
  | none => exact h.elim
  | some a => exact ⟨a, rfl, h⟩
end

/-! ### the content of a value, as it stands now -/
def At (K : PySem.W.Frag) (ρ : List Addr) (I H : Hp) (v : V) : D → Prop
  | .non => v = .non
  | .bl b => v = .bl b
  | .int i => v = .int i
  | .str x => v = .str x
  | .tup ws => ∃ a vs, v = .ref a ∧ SqT K H a vs ∧ Reps K ρ I vs ws
  | .lst ws => ∃ a vs, v = .ref a ∧ H a = some (.lst vs) ∧ Reps K ρ I vs ws
  | .dK kws => ∃ a kvs, v = .ref a ∧ Rd H a (.dK kvs) ∧ kvs.map (·.1) = kws.map (·.1) ∧ Reps K ρ I (kvs.map (·.2)) (kws.map (·.2))
  | .dT kws => ∃ a kvs, v = .ref a ∧ Rd H a (.dT kvs) ∧ kvs.map (·.1) = kws.map (·.1) ∧ Reps K ρ I (kvs.map (·.2)) (kws.map (·.2))
  | .obj r => ∃ a, v = .ref a ∧ ρ[r]? = some a
  | .loc _ => False
  | .scr ns => ∃ a, v = .ref a ∧ SqL K H a (ns.map V.int)
theorem Sub.rd {I H : Hp} (s : Sub I H) {a : Addr} {o : HO} (h : I a = some o) : Rd H a o := by
  rcases s a o h with h | ⟨_, ob, h⟩
  · exact .inl h
  · exact .inr ⟨ob, h⟩
theorem Sub.sqT {K : PySem.W.Frag} {I H : Hp} (s : Sub I H) {a : Addr} {vs : List V} (h : SqT K I a vs) : SqT K H a vs := by
  rcases h with (h | ⟨o, h⟩) | h
  · rcases s a _ h with h | ⟨d, _⟩
    · exact .inl (.inl h)
    · exact d.elim
  · rcases s a _ h with h | ⟨d, _⟩
    · exact .inl (.inr ⟨o, h⟩)
    · exact d.elim
  · exact .inr h
theorem Sub.sqL {K : PySem.W.Frag} {I H : Hp} (s : Sub I H) {a : Addr} {vs : List V} (h : SqL K I a vs) : SqL K H a vs := by
  rcases h with (h | ⟨o, h⟩) | h
  · rcases s a _ h with h | ⟨d, _⟩
    · exact .inl (.inl h)
    · exact d.elim
  · rcases s a _ h with h | ⟨d, _⟩
    · exact .inl (.inr ⟨o, h⟩)
    · exact d.elim
  · exact .inr h
theorem Rep.at {K : PySem.W.Frag} {ρ : List Addr} {I H : Hp} (s : Sub I H) {v : V} {w : D} (h : Rep K ρ I v w) : At K ρ I H v w := by
  cases h with
  | non => rfl
  | bl => rfl
  | int => rfl
  | str => rfl
  | tup h r => exact ⟨_, _, rfl, s.sqT h, r⟩
  | lst h r =>
    rcases s _ _ h with h | ⟨d, _⟩
    · exact ⟨_, _, rfl, h, r⟩
    · exact d.elim
  | dK h e r => exact ⟨_, _, rfl, s.rd h, e, r⟩
  | dT h e r => exact ⟨_, _, rfl, s.rd h, e, r⟩
  | obj h => exact ⟨_, rfl, h⟩
  | scr h => exact ⟨_, rfl, s.sqL h⟩
theorem OwnAt.at {K : PySem.W.Frag} {ρ : List Addr} {I H : Hp} {a : Addr} {c : D} (h : OwnAt K ρ I H a c) : At K ρ I H (.ref a) c := by
  cases c with
  | lst ws => obtain ⟨vs, h, r⟩ := h; exact ⟨a, vs, rfl, h, r⟩
  | dK kws => obtain ⟨kvs, h, e, r⟩ := h; exact ⟨a, kvs, rfl, .inl h, e, r⟩
  | dT kws => obtain ⟨kvs, h, e, r⟩ := h; exact ⟨a, kvs, rfl, .inl h, e, r⟩
  | _ => exact h.elim
theorem LockAt.at {K : PySem.W.Frag} {ρ : List Addr} {I H : Hp} {a : Addr} {c : D} (h : LockAt K ρ I H a c) : At K ρ I H (.ref a) c := by
  cases c with
  | lst ws => obtain ⟨vs, h, r⟩ := h; exact ⟨a, vs, rfl, h, r⟩
  | dK kws => obtain ⟨ob, kvs, h, e, r⟩ := h; exact ⟨a, kvs, rfl, .inr ⟨ob, h⟩, e, r⟩
  | dT kws => obtain ⟨ob, kvs, h, e, r⟩ := h; exact ⟨a, kvs, rfl, .inr ⟨ob, h⟩, e, r⟩
  | _ => exact h.elim
section
variable {K : PySem.W.Frag} {F I : Hp} {ρ : List Addr} {S : Sto} {H : Hp} {σV : L2.St} {σ : Sl}
theorem RB.at (rb : RB K F I ρ S H σV σ) {v : V} {x a : D} (t : TRep K ρ I σV v x) (e : deref σ S x = some a) : At K ρ I H v a := by
  rcases t with ⟨i, rfl, hv⟩ | r
  · unfold deref at e
    split at e
    · rename_i i' h1
      injection h1 with h1
      subst h1
      split at e
      · rename_i c hc
        cases e
        obtain ⟨b, hb, _, _, _, ho⟩ := rb.slot _ _ hc
        rw [hv] at hb
        cases hb
        exact ho.at
      · cases e
    · rename_i h1; cases h1
    · rename_i h1 h2; exact absurd rfl (h1 _)
  · cases r with
    | obj h =>
      unfold deref at e
      simp only at e
      split at e
      · rename_i lk c hc
        cases e
        obtain ⟨b, hb, _, _, ho⟩ := rb.store _ _ hc
        rw [h] at hb
        cases hb
        cases lk with
        | false => exact OwnAt.at ho
        | true => exact LockAt.at ho
      · cases e
    | non => cases e; exact Rep.at rb.sub .non
    | bl => cases e; exact Rep.at rb.sub .bl
    | int => cases e; exact Rep.at rb.sub .int
    | str => cases e; exact Rep.at rb.sub .str
    | tup h r => cases e; exact Rep.at rb.sub (.tup h r)
    | lst h r => cases e; exact Rep.at rb.sub (.lst h r)
    | dK h k r => cases e; exact Rep.at rb.sub (.dK h k r)
    | dT h k r => cases e; exact Rep.at rb.sub (.dT h k r)
    | scr h => cases e; exact Rep.at rb.sub (.scr h)

/-! ### changes of the states -/
theorem Sub.none_of (s : Sub I H) {p : Addr} (h : H p = none) : I p = none := by
  cases e : I p with
  | none => rfl
  | some o =>
    rcases s p o e with q | ⟨_, _, q⟩
    · rw [h] at q; cases q
    · rw [h] at q; cases q
theorem OwnAt.gr {ρ' : List Addr} {I' H' : Hp} {a : Addr} {c : D} (g : Gr ρ I ρ' I') (k : ∀ o, H a = some o → H' a = some o) (h : OwnAt K ρ I H a c) : OwnAt K ρ' I' H' a c := by
  cases c with
  | lst ws => obtain ⟨vs, h, r⟩ := h; exact ⟨vs, k _ h, r.gr g⟩
  | dK kws => obtain ⟨kvs, h, e, r⟩ := h; exact ⟨kvs, k _ h, e, r.gr g⟩
  | dT kws => obtain ⟨kvs, h, e, r⟩ := h; exact ⟨kvs, k _ h, e, r.gr g⟩
  | _ => exact h.elim
theorem LockAt.gr {ρ' : List Addr} {I' H' : Hp} {a : Addr} {c : D} (g : Gr ρ I ρ' I') (k : ∀ o, H a = some o → H' a = some o) (h : LockAt K ρ I H a c) : LockAt K ρ' I' H' a c := by
  cases c with
  | lst ws => obtain ⟨vs, h, r⟩ := h; exact ⟨vs, k _ h, r.gr g⟩
  | dK kws => obtain ⟨ob, kvs, h, e, r⟩ := h; exact ⟨ob, kvs, k _ h, e, r.gr g⟩
  | dT kws => obtain ⟨ob, kvs, h, e, r⟩ := h; exact ⟨ob, kvs, k _ h, e, r.gr g⟩
  | _ => exact h.elim
theorem CellAt.gr {ρ' : List Addr} {I' H' : Hp} {a : Addr} {c : Ob} (g : Gr ρ I ρ' I') (k : ∀ o, H a = some o → H' a = some o) (h : CellAt K ρ I H a c) : CellAt K ρ' I' H' a c := by
  cases c with
  | ins c fs => obtain ⟨dx, fsV, h, e, r⟩ := h; exact ⟨dx, fsV, k _ h, e, r.gr g⟩
  | con lk c =>
    cases lk with
    | false => exact OwnAt.gr g k h
    | true => exact LockAt.gr g k h
theorem OwnAt.there {a : Addr} {c : D} (h : OwnAt K ρ I H a c) : ∃ o, H a = some o := by
  cases c with
  | lst ws => obtain ⟨vs, h, r⟩ := h; exact ⟨_, h⟩
  | dK kws => obtain ⟨kvs, h, e, r⟩ := h; exact ⟨_, h⟩
  | dT kws => obtain ⟨kvs, h, e, r⟩ := h; exact ⟨_, h⟩
  | _ => exact h.elim
theorem OwnAt.nofrz {a : Addr} {c : D} (h : OwnAt K ρ I H a c) {ob : Obj} {u : HO} : ¬ H a = some (.frz ob u) := fun e => by
  cases c with
  | lst ws => obtain ⟨vs, h, r⟩ := h; rw [h] at e; cases e
  | dK kws => obtain ⟨kvs, h, e2, r⟩ := h; rw [h] at e; cases e
  | dT kws => obtain ⟨kvs, h, e2, r⟩ := h; rw [h] at e; cases e
  | _ => exact h.elim
theorem LockAt.there {a : Addr} {c : D} (h : LockAt K ρ I H a c) : ∃ o, H a = some o := by
  cases c with
  | lst ws => obtain ⟨vs, h, r⟩ := h; exact ⟨_, h⟩
  | dK kws => obtain ⟨ob, kvs, h, e, r⟩ := h; exact ⟨_, h⟩
  | dT kws => obtain ⟨ob, kvs, h, e, r⟩ := h; exact ⟨_, h⟩
  | _ => exact h.elim
theorem CellAt.there {a : Addr} {c : Ob} (h : CellAt K ρ I H a c) : ∃ o, H a = some o := by
  cases c with
  | ins c fs => obtain ⟨dx, fsV, h, e, r⟩ := h; exact ⟨_, h⟩
  | con lk c =>
    cases lk with
    | false => exact OwnAt.there h
    | true => exact LockAt.there h
/-- a place that is free is no object's -/
theorem RB.nρ (rb : RB K F I ρ S H σV σ) {p : Addr} (hp : H p = none) : p ∉ ρ := fun hm => by
  obtain ⟨r, hr⟩ := List.getElem?_of_mem hm
  have lt : r < S.length := by rw [← rb.rl]; exact (List.getElem?_eq_some_iff.mp hr).1
  obtain ⟨a, ha, _, _, hc⟩ := rb.store r _ (List.getElem?_eq_getElem lt)
  rw [hr] at ha
  cases ha
  obtain ⟨o, ho⟩ := hc.there
  rw [hp] at ho
  cases ho
/-- a new frozen thing -/
theorem RB.new (rb : RB K F I ρ S H σV σ) {p : Addr} {o : HO} (hp : H p = none) : Gr ρ I ρ (upd I p o) ∧ RB K F (upd I p o) ρ S (upd H p o) σV σ := by
  have ip := rb.sub.none_of hp
  have g : Gr ρ I ρ (upd I p o) := ⟨fun a u h => by rw [upd_ne (ne_of_none h ip)]; exact h, fun _ _ h => h⟩
  refine ⟨g, ⟨fun a u h => ?_, fun a u h => ?_, fun a u h => ?_, fun r c h => ?_, rb.nd, rb.rl, rb.len, fun i s h => ?_, rb.inj⟩⟩
  · have q := rb.fr a u h
    rw [upd_ne (ne_of_none q hp)]
    exact q
  · by_cases e : a = p
    · subst e
      rw [upd_same] at h ⊢
      exact .inl h
    · rw [upd_ne e] at h ⊢
      exact rb.sub a u h
  · rw [upd_ne (ne_of_none (rb.fr a u h) hp)]
    exact rb.dis a u h
  · obtain ⟨a, ha, hf, hi, hc⟩ := rb.store r c h
    obtain ⟨u, hu⟩ := hc.there
    have ne := ne_of_none hu hp
    exact ⟨a, ha, hf, by rw [upd_ne ne]; exact hi, hc.gr g fun u hu => by rw [upd_ne ne]; exact hu⟩
  · have q := rb.slot i s h
    cases s with
    | emp => trivial
    | exn b => first | exact q | exact (List.getElem?_set_ne e).trans q | exact e.trans q
    | val w => obtain ⟨v, hv, r⟩ := q; exact ⟨v, hv, r.gr g⟩
    | own c =>
      obtain ⟨a, ha, hf, hi, hr, ho⟩ := q
      obtain ⟨u, hu⟩ := ho.there
      have ne := ne_of_none hu hp
      exact ⟨a, ha, hf, by rw [upd_ne ne]; exact hi, hr, ho.gr g fun u hu => by rw [upd_ne ne]; exact hu⟩
/-- a slot is set to a value -/
theorem RB.setV (rb : RB K F I ρ S H σV σ) {i : Nat} {v : V} {w : D} (r : Rep K ρ I v w) : RB K F I ρ S H (σV.set i (some v)) (σ.set i (.val w)) := by
  refine ⟨rb.fr, rb.sub, rb.dis, rb.store, rb.nd, rb.rl, by rw [List.length_set, List.length_set]; exact rb.len, fun j s h => ?_, fun j k c c' u h1 h2 h3 h4 => ?_⟩
  · by_cases e : i = j
    · subst e
      have lt : i < (σ.set i (.val w)).length := (List.getElem?_eq_some_iff.mp h).1
      rw [List.length_set] at lt
      rw [List.getElem?_set_self lt] at h
      cases h
      exact ⟨v, List.getElem?_set_self (by rw [← rb.len]; exact lt), r⟩
    · rw [List.getElem?_set_ne e] at h
      have q := rb.slot j s h
      cases s with
      | emp => trivial
      | exn b => first | exact q | exact (List.getElem?_set_ne e).trans q | exact e.trans q
      | val w => obtain ⟨v, hv, r⟩ := q; exact ⟨v, by rw [List.getElem?_set_ne e]; exact hv, r⟩
      | own c => obtain ⟨a, ha, q⟩ := q; exact ⟨a, by rw [List.getElem?_set_ne e]; exact ha, q⟩
  · have ne : ∀ {j : Nat} {c : D}, (σ.set i (.val w))[j]? = some (.own c) → i ≠ j := fun {j c} h e => by
      subst e
      have lt : i < (σ.set i (.val w)).length := (List.getElem?_eq_some_iff.mp h).1
      rw [List.length_set] at lt
      rw [List.getElem?_set_self lt] at h
      cases h
    have n1 := ne h1
    have n2 := ne h2
    rw [List.getElem?_set_ne n1] at h1 h3
    rw [List.getElem?_set_ne n2] at h2 h4
    exact rb.inj j k c c' u h1 h2 h3 h4
/-- a slot's own container is frozen -/
theorem RB.frz (rb : RB K F I ρ S H σV σ) {i : Nat} {c : D} {v : V} (hc : σ[i]? = some (.own c)) (hv : σV[i]? = some (some v)) : ∃ I', Gr ρ I ρ I' ∧ RB K F I' ρ S H σV (σ.set i (.val c)) ∧ Rep K ρ I' v c := by
  obtain ⟨a, ha, hf, hi, hr, ho⟩ := rb.slot i _ hc
  rw [hv] at ha
  cases ha
  obtain ⟨o, hao⟩ := ho.there
  have g : Gr ρ I ρ (upd I a o) := ⟨fun b u h => by rw [upd_ne (ne_of_none h hi)]; exact h, fun _ _ h => h⟩
  have rep : Rep K ρ (upd I a o) (.ref a) c := by
    cases c with
    | lst ws =>
      obtain ⟨vs, h, r⟩ := ho
      rw [hao] at h; cases h
      exact .lst upd_same (r.gr g)
    | dK kws =>
      obtain ⟨kvs, h, e, r⟩ := ho
      rw [hao] at h; cases h
      exact .dK upd_same e (r.gr g)
    | dT kws =>
      obtain ⟨kvs, h, e, r⟩ := ho
      rw [hao] at h; cases h
      exact .dT upd_same e (r.gr g)
    | _ => exact ho.elim
  have lt : i < σ.length := (List.getElem?_eq_some_iff.mp hc).1
  have ne : ∀ {j : Nat} {c' : D}, (σ.set i (.val c))[j]? = some (.own c') → i ≠ j := fun {j c'} h e => by
    subst e
    rw [List.getElem?_set_self lt] at h
    cases h
  refine ⟨upd I a o, g, ⟨rb.fr, fun b u h => ?_, fun b u h => ?_, fun r ob h => ?_, rb.nd, rb.rl, by rw [List.length_set]; exact rb.len, fun j s h => ?_, fun j k c1 c2 u h1 h2 h3 h4 => ?_⟩, rep⟩
  · by_cases e : b = a
    · subst e
      rw [upd_same] at h
      exact .inl (hao.trans h)
    · rw [upd_ne e] at h
      exact rb.sub b u h
  · rw [upd_ne (ne_of_none h hf)]
    exact rb.dis b u h
  · obtain ⟨b, hb, hfb, hib, hcb⟩ := rb.store r ob h
    have n : b ≠ a := fun e => hr (e ▸ List.mem_of_getElem? hb)
    exact ⟨b, hb, hfb, by rw [upd_ne n]; exact hib, hcb.gr g fun _ z => z⟩
  · by_cases e : i = j
    · subst e
      rw [List.getElem?_set_self lt] at h
      cases h
      exact ⟨_, hv, rep⟩
    · rw [List.getElem?_set_ne e] at h
      have q := rb.slot j s h
      cases s with
      | emp => trivial
      | exn b => first | exact q | exact (List.getElem?_set_ne e).trans q | exact e.trans q
      | val w => obtain ⟨v, hv, r⟩ := q; exact ⟨v, hv, r.gr g⟩
      | own c' =>
        obtain ⟨b, hb, hfb, hib, hrb, hob⟩ := q
        have n : b ≠ a := fun z => by
          subst z
          exact e (rb.inj i j c c' _ hc h hv hb)
        exact ⟨b, hb, hfb, by rw [upd_ne n]; exact hib, hrb, hob.gr g fun _ z => z⟩
  · have n1 := ne h1
    have n2 := ne h2
    rw [List.getElem?_set_ne n1] at h1
    rw [List.getElem?_set_ne n2] at h2
    exact rb.inj j k c1 c2 u h1 h2 h3 h4
end
end MR

set_option Elab.async false
set_option linter.all false
set_option maxRecDepth 100000
/-! MR2: soundness of names, operations, tests, displays, calls, plain statements, defs. -/
namespace MR
open PySem PySem.Spec PyProof.Rows L2

theorem _root_.L2.PE.imp {X : Cx} {e : Expr} {t t' : TE} (h : PE X e t) (i : ∀ σ H Q, t' σ H Q → t σ H Q) : PE X e t' := ⟨fun pins s σ H Q I q => h.run pins s σ H Q I (i _ _ _ q)⟩
theorem _root_.L2.PT.imp {X : Cx} {e : Expr} {t t' : TT} (h : PT X e t) (i : ∀ σ H Q, t' σ H Q → t σ H Q) : PT X e t' := ⟨fun pins s σ H Q I q => h.run pins s σ H Q I (i _ _ _ q)⟩
theorem _root_.L2.PW.imp {X : Cx} {e : Expr} {t t' : TT} (h : PW X e t) (i : ∀ σ H Q, t' σ H Q → t σ H Q) : PW X e t' := ⟨fun wh pins s σ H Q I q => h.run wh pins s σ H Q I (i _ _ _ q)⟩
theorem _root_.L2.PA.imp {X : Cx} {e : List Expr} {t t' : TA} (h : PA X e t) (i : ∀ σ H Q, t' σ H Q → t σ H Q) : PA X e t' := ⟨fun pos pins s σ H Q I q => h.run pos pins s σ H Q I (i _ _ _ q)⟩
theorem _root_.L2.PS.imp {X : Cx} {e : Stmt} {t t' : TS} (h : PS X e t) (i : ∀ D σ H, t' D σ H → t D σ H) : PS X e t' := ⟨fun pins s σ H D I q => h.run pins s σ H D I (i _ _ _ q)⟩
theorem _root_.L2.PSs.imp {X : Cx} {e : List Stmt} {t t' : TS} (h : PSs X e t) (i : ∀ D σ H, t' D σ H → t D σ H) : PSs X e t' := ⟨fun pins s σ H D I q => h.run pins s σ H D I (i _ _ _ q)⟩

abbrev SE (X : Cx) (Wx : WX) (e : Expr) (f : DE) : Prop := PE X e (semE X.K Wx f)
abbrev SV (X : Cx) (Wx : WX) (e : Expr) (f : DE) : Prop := PE X e (semV X.K Wx f)
abbrev ST (X : Cx) (Wx : WX) (e : Expr) (f : DT) : Prop := PT X e (semT X.K Wx f)
abbrev SW (X : Cx) (Wx : WX) (e : Expr) (f : DT) : Prop := PW X e (semT X.K Wx f)
abbrev SA (X : Cx) (Wx : WX) (es : List Expr) (f : DA) : Prop := PA X es (semA X.K Wx f)

section
variable {X : Cx} {Wx : WX}
/-! ### names and constants -/
theorem c_var (i : Nat) {x : Str} {pos : Pos} (hN : X.N[i]? = some x := by rfl) (hv : Vis X.env.scope x := by first | exact Or.inl rfl | exact Or.inr (Or.inl rfl) | exact Or.inr (Or.inr rfl)) (hd : (x == ("__debug__" : Str)) = false := by decide)
    (hcd : (x == ("__classdict__" : Str)) = false := by decide) : SE X Wx (.Name x pos) (dVar i) := by
  refine PE.imp (pe_var hN hv hd hcd) fun σV H Q h => ?_
  obtain ⟨F, I, ρ, σ, S, rb, h⟩ := h
  unfold dVar at h
  split at h
  · rename_i w hw
    obtain ⟨v, hv, r⟩ := rb.slot i _ hw
    exact ⟨v, hv, h I ρ H v Gr.refl rb (.inr r)⟩
  · rename_i c hc
    obtain ⟨a, ha, _⟩ := rb.slot i _ hc
    exact ⟨_, ha, h I ρ H _ Gr.refl rb (.inl ⟨i, rfl, ha⟩)⟩
  · exact h.elim
theorem sem_c {v : V} {w : D} {σV : L2.St} {H : Hp} {Q : VK} (r : ∀ ρ I, Sub I H → Rep X.K ρ I v w) (h : semE X.K Wx (dC w) σV H Q) : Q v H := by
  obtain ⟨F, I, ρ, σ, S, rb, h⟩ := h
  exact h I ρ H v Gr.refl rb (.inr (r ρ I rb.sub))
theorem c_int {i : Int} {j : Nat} {pos : Pos} : SE X Wx (.Constant (.int i) j pos) (dC (.int i)) := PE.imp pe_int fun _ _ _ h => sem_c (fun _ _ _ => .int) h
theorem c_bl {i : Bool} {j : Nat} {pos : Pos} : SE X Wx (.Constant (.bool i) j pos) (dC (.bl i)) := PE.imp pe_bl fun _ _ _ h => sem_c (fun _ _ _ => .bl) h
theorem c_non {j : Nat} {pos : Pos} : SE X Wx (.Constant .none j pos) (dC .non) := PE.imp pe_non fun _ _ _ h => sem_c (fun _ _ _ => .non) h
theorem c_str {x : Str} {j : Nat} {pos : Pos} : SE X Wx (.Constant (.str x) j pos) (dC (.str x)) := PE.imp pe_str fun _ _ _ h => sem_c (fun _ _ _ => .str) h
/-- a constant of the module: v its value, of which w is told whatever stands in the heap -/
theorem c_glob {x : Str} {v : V} {u : Value} {w : D} {pos : Pos} (hm : X.mg x = some u) (r : RelV v u) (t : ∀ ρ I, Rep X.K ρ I v w) (hg : Gl X x := by rfl) (hd : (x == ("__debug__" : Str)) = false := by decide) : SE X Wx (.Name x pos) (dC w) :=
  PE.imp (pe_glob hg hm r hd) fun _ _ _ h => sem_c (fun ρ I _ => t ρ I) h

/-- kept -/
theorem c_v {e : Expr} {f : DE} (h : SE X Wx e f) : SV X Wx e (dV f) := by
  refine PE.imp h fun σV H Q h => ?_
  obtain ⟨F, I, ρ, σ, S, rb, h⟩ := h
  refine ⟨F, I, ρ, σ, S, rb, post_bind h fun I1 ρ1 σ1 S1 H1 a b _ g rb1 t hp => ?_⟩
  rcases t with ⟨i, rfl, hv⟩ | r
  · unfold frz at hp
    simp only at hp
    split at hp
    · rename_i c hc
      obtain ⟨I2, g2, rb2, r2⟩ := rb1.frz hc hv
      exact hp I2 ρ1 H1 b g2 rb2 r2
    · exact hp.elim
  · have e : frz a σ1 S1 = .ok a σ1 S1 := by cases r <;> rfl
    rw [e] at hp
    exact hp I1 ρ1 H1 b Gr.refl rb1 r
theorem c_e {e : Expr} {f : DE} (h : SV X Wx e f) : SE X Wx e f := by
  refine PE.imp h fun σV H Q h => ?_
  obtain ⟨F, I, ρ, σ, S, rb, h⟩ := h
  refine ⟨F, I, ρ, σ, S, rb, ?_⟩
  cases e : f σ S with
  | ok a σ' S' =>
    rw [e] at h
    exact fun I' ρ' H' b g rb r => h I' ρ' H' b g rb (.inr r)
  | exc e' σ' S' =>
    rw [e] at h
    exact h
  | fail =>
    rw [e] at h
    exact h

/-! ### two-place operations -/
/-- what an operation's rule asks is met where the datum operation succeeds -/
def OpS (K : PySem.W.Frag) (r : R2) (op : D → D → Option D) : Prop := ∀ (F I : Hp) (ρ : List Addr) (S : Sto) (H : Hp) (σV : L2.St) (σ : Sl) (v1 v2 : V) (a b z : D) (Q : VK), RB K F I ρ S H σV σ → At K ρ I H v1 a → At K ρ I H v2 b → op a b = some z →
  (∀ I' H' v, Gr ρ I ρ I' → RB K F I' ρ S H' σV σ → Rep K ρ I' v z → Q v H') → r v1 v2 H Q
theorem sem_op {r : R2} {op : D → D → Option D} {f g : DE} (ho : OpS X.K r op) {σV : L2.St} {H : Hp} {Q : VK} (h : semE X.K Wx (d2 op f g) σV H Q) : tOp r (semE X.K Wx f) (semE X.K Wx g) σV H Q := by
  obtain ⟨F, I, ρ, σ, S, rb, h⟩ := h
  refine ⟨F, I, ρ, σ, S, rb, post_bind h fun I1 ρ1 σ1 S1 H1 x v1 _ g1 rb1 t1 h1 => ?_⟩
  refine ⟨F, I1, ρ1, σ1, S1, rb1, post_bind h1 fun I2 ρ2 σ2 S2 H2 y v2 _ g2 rb2 t2 h2 => ?_⟩
  obtain ⟨z, ez, h3⟩ := post_opt h2
  obtain ⟨a, ea, ez⟩ := Option.bind_eq_some_iff.mp ez
  obtain ⟨b, eb, ez⟩ := Option.bind_eq_some_iff.mp ez
  exact ho F I2 ρ2 S2 H2 σV σ2 v1 v2 a b z Q rb2 (rb2.at (t1.gr g2) ea) (rb2.at t2 eb) ez fun I' H' v g' rb' r' => h3 I' ρ2 H' v g' rb' (.inr r')
theorem c_op {a b : Expr} {o : Operator} {pos : Pos} {r : R2} {op : D → D → Option D} {f g : DE} (hr : OpR X (binaryOp o) r) (hs : OpS X.K r op) (ha : SE X Wx a f) (hb : SE X Wx b g) : SE X Wx (.BinOp a o b pos) (d2 op f g) :=
  PE.imp (pe_op hr ha hb) fun _ _ _ h => sem_op hs h
theorem c_cmp {a b : Expr} {o : CmpOp} {pos : Pos} {r : R2} {op : D → D → Option D} {f g : DE} (hr : OpR X (compareOp o) r) (hs : OpS X.K r op) (ha : SE X Wx a f) (hb : SE X Wx b g) (hm : behindInMarks o b = false) : SE X Wx (.Compare a [o] [b] pos) (d2 op f g) :=
  PE.imp (pe_cmpR hr ha hb hm) fun _ _ _ h => sem_op hs h
theorem sem_tval {f : DE} {σV : L2.St} {H : Hp} {Q : Bool → Hp → Prop} (h : semT X.K Wx (tVal f) σV H Q) : semE X.K Wx f σV H fun x H' => ∃ k, x = .bl k ∧ Q k H' := by
  obtain ⟨F, I, ρ, σ, S, rb, h⟩ := h
  refine ⟨F, I, ρ, σ, S, rb, post_bind h fun I1 ρ1 σ1 S1 H1 x v1 _ g1 rb1 t1 h1 => ?_⟩
  rcases t1 with ⟨i, rfl, _⟩ | t1
  · exact h1.elim
  · cases t1 with
    | bl => exact ⟨_, rfl, h1 I1 ρ1 H1 _ Gr.refl rb1 rfl⟩
    | _ => exact h1.elim
theorem ct_cmp {a b : Expr} {o : CmpOp} {pos : Pos} {r : R2} {op : D → D → Option D} {f g : DE} (hr : OpR X (compareOp o) r) (hs : OpS X.K r op) (ha : SE X Wx a f) (hb : SE X Wx b g) (hm : behindInMarks o b = false) : ST X Wx (.Compare a [o] [b] pos) (tVal (d2 op f g)) :=
  PT.imp (pt_cmpR hr ha hb hm) fun _ _ _ h => sem_op hs (sem_tval h)
theorem ct_val {e : Expr} {f : DE} (h : SE X Wx e f) (he : ∀ whole, isTrue e X.env whole = (do let v ← whole; standAt e.pos; holding [v] (truthy v)) := by intro _; rfl) : ST X Wx e (tVal f) :=
  PT.imp (pt_val h he) fun _ _ _ h => sem_tval h

/-! ### and, or, not -/
theorem ct_not {a : Expr} {pos : Pos} {f : DT} (h : ST X Wx a f) : ST X Wx (.UnaryOp .Not a pos) (tNot f) := by
  refine PT.imp (pt_not h) fun σV H Q h => ?_
  obtain ⟨F, I, ρ, σ, S, rb, h⟩ := h
  exact ⟨F, I, ρ, σ, S, rb, post_bind h fun I1 ρ1 σ1 S1 H1 x v1 _ g1 rb1 t1 h1 => h1 I1 ρ1 H1 _ Gr.refl rb1 (by rw [t1])⟩
theorem cw_and1 {a : Expr} {pos : Pos} {f : DT} (h : ST X Wx a f) : SW X Wx (.BoolOp .And [a] pos) f := pw_and1 h
theorem cw_or1 {a : Expr} {pos : Pos} {f : DT} (h : ST X Wx a f) : SW X Wx (.BoolOp .Or [a] pos) f := pw_or1 h
theorem cw_and {a b : Expr} {rest : List Expr} {pos : Pos} {f g : DT} (h : ST X Wx a f) (k : SW X Wx (.BoolOp .And (b :: rest) pos) g) : SW X Wx (.BoolOp .And (a :: b :: rest) pos) (tAnd f g) := by
  refine PW.imp (pw_and h k) fun σV H Q h => ?_
  obtain ⟨F, I, ρ, σ, S, rb, h⟩ := h
  refine ⟨F, I, ρ, σ, S, rb, post_bind h fun I1 ρ1 σ1 S1 H1 x v1 _ g1 rb1 t1 h1 => ?_⟩
  subst t1
  cases v1 with
  | true => exact ⟨F, I1, ρ1, σ1, S1, rb1, h1⟩
  | false => exact h1 I1 ρ1 H1 _ Gr.refl rb1 rfl
theorem cw_or {a b : Expr} {rest : List Expr} {pos : Pos} {f g : DT} (h : ST X Wx a f) (k : SW X Wx (.BoolOp .Or (b :: rest) pos) g) : SW X Wx (.BoolOp .Or (a :: b :: rest) pos) (tOr f g) := by
  refine PW.imp (pw_or h k) fun σV H Q h => ?_
  obtain ⟨F, I, ρ, σ, S, rb, h⟩ := h
  refine ⟨F, I, ρ, σ, S, rb, post_bind h fun I1 ρ1 σ1 S1 H1 x v1 _ g1 rb1 t1 h1 => ?_⟩
  subst t1
  cases v1 with
  | true => exact h1 I1 ρ1 H1 _ Gr.refl rb1 rfl
  | false => exact ⟨F, I1, ρ1, σ1, S1, rb1, h1⟩
/-- .. as values -/
theorem sem_vbl {f : DE} {g : Bool → DE} {σV : L2.St} {H : Hp} {Q : VK} (h : semE X.K Wx (fun σ S => (tVal f σ S).bind fun b σ S => g b σ S) σV H Q) : semE X.K Wx f σV H fun x H1 => ∃ c, x = .bl c ∧ semE X.K Wx (g c) σV H1 Q := by
  obtain ⟨F, I, ρ, σ, S, rb, h⟩ := h
  refine ⟨F, I, ρ, σ, S, rb, ?_⟩
  have h2 : postR X.K Wx (TRep X.K) F I ρ σV ((f σ S).bind fun x σ S => ((match x with
    | .bl b => Res.ok b σ S
    | _ => .fail) : Res Bool).bind fun b σ S => g b σ S) Q := by
    unfold tVal at h
    dsimp only at h
    cases e : f σ S with
    | ok a σ' S' => rw [e] at h; exact h
    | exc a σ' S' => rw [e] at h; exact h
    | fail => rw [e] at h; exact h
  refine post_bind h2 fun I1 ρ1 σ1 S1 H1 x v1 _ g1 rb1 t1 h1 => ?_
  rcases t1 with ⟨i, rfl, _⟩ | t1
  · exact h1.elim
  · cases t1 with
    | bl => exact ⟨_, rfl, F, I1, ρ1, σ1, S1, rb1, h1⟩
    | _ => exact h1.elim
def vAnd (f g : DE) : DE := fun σ S => (tVal f σ S).bind fun b σ S => (if b = true then g else dC (.bl false)) σ S
def vOr (f g : DE) : DE := fun σ S => (tVal f σ S).bind fun b σ S => (if b = true then dC (.bl true) else g) σ S
def vNot (f : DE) : DE := fun σ S => (tVal f σ S).bind fun b σ S => (dC (.bl (!b))) σ S
theorem c_one {a : Expr} {op : BoolOp} {pos : Pos} {f : DE} (h : SE X Wx a f) : SE X Wx (.BoolOp op [a] pos) f := pe_one h
theorem c_and {a b : Expr} {rest : List Expr} {pos : Pos} {f g : DE} (h : SE X Wx a f) (k : SE X Wx (.BoolOp .And (b :: rest) pos) g) : SE X Wx (.BoolOp .And (a :: b :: rest) pos) (vAnd f g) := by
  refine PE.imp (pe_and h k) fun σV H Q h => ?_
  obtain ⟨F, I, ρ, σ, S, rb, h⟩ := sem_vbl (g := fun b => if b = true then g else dC (.bl false)) h
  refine ⟨F, I, ρ, σ, S, rb, ?_⟩
  cases e : f σ S with
  | ok a σ' S' =>
    rw [e] at h
    intro I' ρ' H' v gr rb' t
    obtain ⟨c, rfl, q⟩ := h I' ρ' H' v gr rb' t
    refine ⟨c, rfl, ?_⟩
    cases c with
    | true => exact q
    | false => exact sem_c (fun _ _ _ => .bl) q
  | exc a σ' S' => rw [e] at h; exact h
  | fail => rw [e] at h; exact h
theorem c_or {a b : Expr} {rest : List Expr} {pos : Pos} {f g : DE} (h : SE X Wx a f) (k : SE X Wx (.BoolOp .Or (b :: rest) pos) g) : SE X Wx (.BoolOp .Or (a :: b :: rest) pos) (vOr f g) := by
  refine PE.imp (pe_or h k) fun σV H Q h => ?_
  obtain ⟨F, I, ρ, σ, S, rb, h⟩ := sem_vbl (g := fun b => if b = true then dC (.bl true) else g) h
  refine ⟨F, I, ρ, σ, S, rb, ?_⟩
  cases e : f σ S with
  | ok a σ' S' =>
    rw [e] at h
    intro I' ρ' H' v gr rb' t
    obtain ⟨c, rfl, q⟩ := h I' ρ' H' v gr rb' t
    refine ⟨c, rfl, ?_⟩
    cases c with
    | true => exact sem_c (fun _ _ _ => .bl) q
    | false => exact q
  | exc a σ' S' => rw [e] at h; exact h
  | fail => rw [e] at h; exact h
theorem c_not {a : Expr} {pos : Pos} {f : DE} (h : SE X Wx a f) : SE X Wx (.UnaryOp .Not a pos) (vNot f) := by
  refine PE.imp (pe_not h) fun σV H Q h => ?_
  obtain ⟨F, I, ρ, σ, S, rb, h⟩ := sem_vbl (g := fun b => dC (.bl (!b))) h
  refine ⟨F, I, ρ, σ, S, rb, ?_⟩
  cases e : f σ S with
  | ok a σ' S' =>
    rw [e] at h
    intro I' ρ' H' v gr rb' t
    obtain ⟨c, rfl, q⟩ := h I' ρ' H' v gr rb' t
    exact ⟨c, rfl, sem_c (fun _ _ _ => .bl) q⟩
  | exc a σ' S' => rw [e] at h; exact h
  | fail => rw [e] at h; exact h

/-! ### arguments, displays -/
theorem ca_nil : SA X Wx [] aNil := by
  refine PA.imp pa_nil fun σV H Q h => ?_
  obtain ⟨F, I, ρ, σ, S, rb, h⟩ := h
  exact h I ρ H [] Gr.refl rb .nil
theorem ca_cons {e : Expr} {es : List Expr} {f : DE} {r : DA} (h : SE X Wx e f) (k : SA X Wx es r) (hs : starEach (e :: es) X.env = (false, eval e X.env) :: starEach es X.env := by rfl) : SA X Wx (e :: es) (aCons f r) := by
  refine PA.imp (pa_cons (c_v h) k hs) fun σV H Q h => ?_
  obtain ⟨F, I, ρ, σ, S, rb, h⟩ := h
  refine ⟨F, I, ρ, σ, S, rb, post_bind h fun I1 ρ1 σ1 S1 H1 x v1 _ g1 rb1 t1 h1 => ?_⟩
  exact ⟨F, I1, ρ1, σ1, S1, rb1, post_bind h1 fun I2 ρ2 σ2 S2 H2 y v2 _ g2 rb2 t2 h2 => h2 I2 ρ2 H2 _ Gr.refl rb2 (.cons (t1.gr g2) t2)⟩
theorem most_eq : most = sizeLine := by decide
theorem c_tup {es : List Expr} {x1} {pos : Pos} {r : DA} (h : SA X Wx es r) : SE X Wx (.Tuple es x1 pos) (dTup r) := by
  refine PE.imp (pe_tup h) fun σV H Q h => ?_
  obtain ⟨F, I, ρ, σ, S, rb, h⟩ := h
  refine ⟨F, I, ρ, σ, S, rb, post_bind h fun I1 ρ1 σ1 S1 H1 x v1 _ g1 rb1 t1 h1 => ?_⟩
  split at h1
  · rename_i hl
    refine ⟨by rw [t1.length, ← most_eq]; exact hl, fun p hp => ?_⟩
    obtain ⟨g2, rb2⟩ := rb1.new (o := .tup v1) hp
    exact h1 _ ρ1 _ _ g2 rb2 (.inr (.tup (.inl (.inl upd_same)) (t1.gr g2)))
  · exact h1.elim
theorem c_lst {es : List Expr} {pos : Pos} {r : DA} (h : SA X Wx es r) : SE X Wx (.List es pos) (dLst r) := by
  refine PE.imp (pe_lst h) fun σV H Q h => ?_
  obtain ⟨F, I, ρ, σ, S, rb, h⟩ := h
  refine ⟨F, I, ρ, σ, S, rb, post_bind h fun I1 ρ1 σ1 S1 H1 x v1 _ g1 rb1 t1 h1 => ?_⟩
  split at h1
  · rename_i hl
    refine ⟨by rw [t1.length, ← most_eq]; exact hl, fun p hp => ?_⟩
    obtain ⟨g2, rb2⟩ := rb1.new (o := .lst v1) hp
    exact h1 _ ρ1 _ _ g2 rb2 (.inr (.lst upd_same (t1.gr g2)))
  · exact h1.elim
end

/-! ### the operations -/
section
variable {K : PySem.W.Frag}
theorem ops_int0 {g : Int → Int → V} {op : D → D → Option D} (h : ∀ a b z, op a b = some z → ∃ i j, a = .int i ∧ b = .int j ∧ ∀ ρ I, Rep K ρ I (g i j) z) : OpS K (rI0 g) op := by
  intro F I ρ S H σV σ v1 v2 a b z Q rb h1 h2 ez q
  obtain ⟨i, j, rfl, rfl, r⟩ := h a b z ez
  exact ⟨i, j, h1, h2, q I H _ Gr.refl rb (r ρ I)⟩
theorem ops_int {C : Int → Int → Prop} {g : Int → Int → V} {op : D → D → Option D} (h : ∀ a b z, op a b = some z → ∃ i j, a = .int i ∧ b = .int j ∧ C i j ∧ ∀ ρ I, Rep K ρ I (g i j) z) : OpS K (rI C g) op := by
  intro F I ρ S H σV σ v1 v2 a b z Q rb h1 h2 ez q
  obtain ⟨i, j, rfl, rfl, c, r⟩ := h a b z ez
  exact ⟨i, j, h1, h2, c, q I H _ Gr.refl rb (r ρ I)⟩
theorem os_sub : OpS K (rI0 fun i j => .int (i - j)) opSub := ops_int0 fun a b z e => by
  unfold opSub at e; split at e
  · cases e; exact ⟨_, _, rfl, rfl, fun _ _ => .int⟩
  · cases e
theorem os_mod : OpS K (rI (fun _ j => 0 < j) fun i j => .int (i % j)) opMod := ops_int fun a b z e => by
  unfold opMod at e; split at e
  · split at e
    · cases e; exact ⟨_, _, rfl, rfl, by assumption, fun _ _ => .int⟩
    · cases e
  · cases e
def CDivNW (_ j : Int) : Prop := divOk j
theorem op_divNW {X : Cx} : OpR X (binaryOp .FloorDiv) (rI CDivNW fun i j => .int (i.fdiv j)) := opI fun i j _ _ _ _ _ hc q => floordiv_int hc.1 q (.inl (PyProof.noPylong_of_log2 hc.2))
theorem os_div : OpS K (rI CDivNW fun i j => .int (i.fdiv j)) opDiv := ops_int fun a b z e => by
  unfold opDiv at e; split at e
  · split at e
    · cases e; exact ⟨_, _, rfl, rfl, by assumption, fun _ _ => .int⟩
    · cases e
  · cases e
theorem os_lt : OpS K (rI0 fun i j => .bl (decide (i < j))) opLt := ops_int0 fun a b z e => by
  unfold opLt at e; split at e
  · cases e; exact ⟨_, _, rfl, rfl, fun _ _ => .bl⟩
  · cases e
theorem os_le : OpS K (rI0 fun i j => .bl (decide (i ≤ j))) opLe := ops_int0 fun a b z e => by
  unfold opLe at e; split at e
  · cases e; exact ⟨_, _, rfl, rfl, fun _ _ => .bl⟩
  · cases e
theorem os_gt : OpS K (rI0 fun i j => .bl (decide (j < i))) opGt := ops_int0 fun a b z e => by
  unfold opGt at e; split at e
  · cases e; exact ⟨_, _, rfl, rfl, fun _ _ => .bl⟩
  · cases e
theorem os_ge : OpS K (rI0 fun i j => .bl (decide (j ≤ i))) opGe := ops_int0 fun a b z e => by
  unfold opGe at e; split at e
  · cases e; exact ⟨_, _, rfl, rfl, fun _ _ => .bl⟩
  · cases e
end
end MR

set_option Elab.async false
set_option linter.all false
set_option maxRecDepth 100000
/-! MR3: statements, defs, calls. -/
namespace MR
open PySem PySem.Spec PyProof.Rows L2

/-- what a def hands back: a kept value; or (fresh) a container that nobody else holds, or a scalar -/
def scalar : D → Bool
  | .non => true | .bl _ => true | .int _ => true | .str _ => true | .tup _ => true
  | _ => false
def RetAt (fr : Bool) (K : PySem.W.Frag) (F I : Hp) (ρ : List Addr) (H : Hp) (v : V) (w : D) : Prop := match fr with
  | false => Rep K ρ I v w
  | true => (∃ a, v = .ref a ∧ F a = none ∧ I a = none ∧ a ∉ ρ ∧ OwnAt K ρ I H a w) ∨ (scalar w = true ∧ Rep K ρ I v w)
def postS (fr : Bool) (K : PySem.W.Frag) (Wx : WX) (F I : Hp) (ρ : List Addr) (r : Res Fl) (D : Ends) : Prop := match r with
  | .ok .next σ' S' => ∀ I' ρ' H' σV', Gr ρ I ρ' I' → RB K F I' ρ' S' H' σV' σ' → D.nx σV' H'
  | .ok (.ret w) _ S' => ∀ I' ρ' H' v, Gr ρ I ρ' I' → RB K F I' ρ' S' H' [] [] → RetAt fr K F I' ρ' H' v w → D.rt v H'
  | .ok .brk σ' S' => ∀ I' ρ' H' σV', Gr ρ I ρ' I' → RB K F I' ρ' S' H' σV' σ' → D.bk σV' H'
  | .ok .cnt σ' S' => ∀ I' ρ' H' σV', Gr ρ I ρ' I' → RB K F I' ρ' S' H' σV' σ' → D.ct σV' H'
  | .exc e σ' S' => ∀ I' ρ' H' d σV', Gr ρ I ρ' I' → RB K F I' ρ' S' H' σV' σ' → ExcAt e d H' → Wx (.ref (ca K e.c)) d σV' H'
  | .fail => False
def semS (fr : Bool) (K : PySem.W.Frag) (Wx : WX) (f : DS) : TS := fun D σV H => ∃ F I ρ σ S, RB K F I ρ S H σV σ ∧ postS fr K Wx F I ρ (f σ S) D
abbrev SS (fr : Bool) (X : Cx) (Wx : WX) (st : Stmt) (f : DS) : Prop := PS X st (semS fr X.K Wx f)
abbrev SSs (fr : Bool) (X : Cx) (Wx : WX) (st : List Stmt) (f : DS) : Prop := PSs X st (semS fr X.K Wx f)

section
variable {fr : Bool} {K : PySem.W.Frag} {Wx : WX} {F I : Hp} {ρ : List Addr} {σV : L2.St} {H : Hp}
theorem postS_gr {r : Res Fl} {D : Ends} {I1 : Hp} {ρ1 : List Addr} (g : Gr ρ I ρ1 I1) (h : postS fr K Wx F I ρ r D) : postS fr K Wx F I1 ρ1 r D := by
  cases r with
  | ok a σ S =>
    cases a with
    | next => exact fun I' ρ' H' b g' => h I' ρ' H' b (g.trans g')
    | ret w => exact fun I' ρ' H' b g' => h I' ρ' H' b (g.trans g')
    | brk => exact fun I' ρ' H' b g' => h I' ρ' H' b (g.trans g')
    | cnt => exact fun I' ρ' H' b g' => h I' ρ' H' b (g.trans g')
  | exc e σ S => exact fun I' ρ' H' d s g' => h I' ρ' H' d s (g.trans g')
  | fail => exact h
theorem postS_bind {α β : Type} {T : List Addr → Hp → L2.St → β → α → Prop} {r : Res α} {k : α → Sl → Sto → Res Fl} {D : Ends} {Q1 : β → Hp → Prop}
    (h : postS fr K Wx F I ρ (r.bind k) D)
    (q : ∀ I1 ρ1 σ1 S1 H1 a b, r = .ok a σ1 S1 → Gr ρ I ρ1 I1 → RB K F I1 ρ1 S1 H1 σV σ1 → T ρ1 I1 σV b a → postS fr K Wx F I1 ρ1 (k a σ1 S1) D → Q1 b H1) : postR K Wx T F I ρ σV r Q1 := by
  cases r with
  | ok a σ S => exact fun I' ρ' H' b g rb t => q I' ρ' σ S H' a b rfl g rb t (postS_gr g h)
  | exc e σ S => exact fun I' ρ' H' d => h I' ρ' H' d σV
  | fail => exact h
theorem RB.drop {S : Sto} {σ : Sl} (rb : RB K F I ρ S H σV σ) : RB K F I ρ S H [] [] := ⟨rb.fr, rb.sub, rb.dis, rb.store, rb.nd, rb.rl, rfl, fun i s h => by simp at h, fun i j c c' v h => by simp at h⟩
end

section
variable {fr : Bool} {X : Cx} {Wx : WX}
theorem cs_nil : SSs fr X Wx [] sNil := by
  refine PSs.imp pss_nil fun D σV H h => ?_
  obtain ⟨F, I, ρ, σ, S, rb, h⟩ := h
  exact h I ρ H σV Gr.refl rb
theorem sem_seq {f g : DS} {D : Ends} {σV : L2.St} {H : Hp} (h : semS fr X.K Wx (sSeq f g) D σV H) : tSeq (semS fr X.K Wx f) (semS fr X.K Wx g) D σV H := by
  obtain ⟨F, I, ρ, σ, S, rb, h⟩ := h
  refine ⟨F, I, ρ, σ, S, rb, ?_⟩
  unfold sSeq at h
  cases e : f σ S with
  | ok a σ' S' =>
    rw [e] at h
    cases a with
    | next => exact fun I' ρ' H' σV' g' rb' => ⟨F, I', ρ', σ', S', rb', postS_gr g' h⟩
    | ret w => exact h
    | brk => exact h
    | cnt => exact h
  | exc a σ' S' => rw [e] at h; exact h
  | fail => rw [e] at h; exact h
theorem cs_cons {st : Stmt} {rest : List Stmt} {f g : DS} (h : SS fr X Wx st f) (k : SSs fr X Wx rest g) : SSs fr X Wx (st :: rest) (sSeq f g) := PSs.imp (pss_cons h k) fun _ _ _ h => sem_seq h
theorem cs_one {st : Stmt} {f : DS} (h : SS fr X Wx st f) : SSs fr X Wx [st] f := pss_one h
theorem cs_ret {e : Expr} {pos : Pos} {f : DE} (h : SE X Wx e f) : SS false X Wx (.Return (some e) pos) (sRet f) := by
  refine PS.imp (ps_ret (c_v h)) fun D σV H h => ?_
  obtain ⟨F, I, ρ, σ, S, rb, h⟩ := h
  exact ⟨F, I, ρ, σ, S, rb, postS_bind h fun I1 ρ1 σ1 S1 H1 x v1 _ g1 rb1 t1 h1 => h1 I1 ρ1 H1 v1 Gr.refl rb1.drop t1⟩
theorem cs_set {i : Nat} {x : Str} {e : Expr} {f : DE} {pos pos' : Pos} (hN : X.N.Nodup) (h : SE X Wx e f) (hi : X.N[i]? = some x := by rfl) (hx : Loc X.env.scope x := by first | exact Or.inl rfl | exact Or.inr rfl)
    (hs : swapsWith e (some (.Name x pos')) pos.line X.env = pure false := by rfl) (hf : X.fn x = true ∨ X.env.scope.names.lookup x = some .local := by first | exact .inl rfl | exact .inr rfl | assumption) : SS fr X Wx (.Assign [.Name x pos'] e pos) (sSet i f) := by
  refine PS.imp (ps_set hN hi hx (c_v h) hs hf) fun D σV H h => ?_
  obtain ⟨F, I, ρ, σ, S, rb, h⟩ := h
  exact ⟨F, I, ρ, σ, S, rb, postS_bind h fun I1 ρ1 σ1 S1 H1 x v1 _ g1 rb1 t1 h1 => h1 I1 ρ1 H1 _ Gr.refl (rb1.setV t1)⟩
theorem cs_expr {e : Expr} {f : DE} {pos : Pos} (h : SE X Wx e f) (hs : swapsWith e none pos.line X.env = pure false := by rfl) : SS fr X Wx (.Expr e pos) (sExpr f) := by
  refine PS.imp (ps_expr h hs) fun D σV H h => ?_
  obtain ⟨F, I, ρ, σ, S, rb, h⟩ := h
  exact ⟨F, I, ρ, σ, S, rb, postS_bind h fun I1 ρ1 σ1 S1 H1 x v1 _ g1 rb1 t1 h1 => h1 I1 ρ1 H1 _ Gr.refl rb1⟩
theorem cs_if {c : Expr} {a b : List Stmt} {pos : Pos} {t : DT} {f g : DS} (hc : ST X Wx c t) (ha : SSs fr X Wx a f) (hb : SSs fr X Wx b g) : SS fr X Wx (.If c a b pos) (sIf t f g) := by
  refine PS.imp (ps_if hc ha hb) fun D σV H h => ?_
  obtain ⟨F, I, ρ, σ, S, rb, h⟩ := h
  refine ⟨F, I, ρ, σ, S, rb, postS_bind h fun I1 ρ1 σ1 S1 H1 x v1 _ g1 rb1 t1 h1 => ?_⟩
  subst t1
  cases v1 with
  | true => exact ⟨F, I1, ρ1, σ1, S1, rb1, h1⟩
  | false => exact ⟨F, I1, ρ1, σ1, S1, rb1, h1⟩
theorem cs_par {i j : Nat} {x y : Str} {a b : Expr} {r : DA} {px py pt pos : Pos} {kt k2 pt2} (hN : X.N.Nodup) (h : SA X Wx [a, b] r) (hc : X.calm = true := by rfl) (hi : X.N[i]? = some x := by rfl) (hj : X.N[j]? = some y := by rfl) (hij : i ≠ j := by decide)
    (hx : X.env.scope.names.lookup x = some .local := by rfl) (hy : X.env.scope.names.lookup y = some .local := by rfl) (hs : swappedStores [Expr.Tuple [Expr.Name x px, Expr.Name y py] kt pt] (Expr.Tuple [a, b] k2 pt2) X.env = pure (some [x, y]) := by rfl) :
    SS fr X Wx (.Assign [.Tuple [.Name x px, .Name y py] kt pt] (.Tuple [a, b] k2 pt2) pos) (sPar i j r) := by
  refine PS.imp (ps_par hc hN hi hj hij hx hy h hs) fun D σV H h => ?_
  obtain ⟨F, I, ρ, σ, S, rb, h⟩ := h
  refine ⟨F, I, ρ, σ, S, rb, postS_bind h fun I1 ρ1 σ1 S1 H1 ws vs _ g1 rb1 t1 h1 => ?_⟩
  cases t1 with
  | nil => exact h1.elim
  | cons q1 t1 => cases t1 with
    | nil => exact h1.elim
    | cons q2 t1 => cases t1 with
      | nil => exact ⟨_, _, rfl, h1 I1 ρ1 H1 _ Gr.refl ((rb1.setV q1).setV q2)⟩
      | cons q3 t1 => exact h1.elim

/-! ### while -/
theorem cs_while {c : Expr} {body : List Stmt} {pos : Pos} {t : DT} {f : DS} (n : Nat) (hp : PassesOwn (model X.prog X.w) X.A X.env X.xe) (hc : ST X Wx c t) (hb : SSs fr X Wx body f) : SS fr X Wx (.While c body [] pos) (sWhile t f n) := by
  refine PS.imp (ps_while hp hc hb) fun D σV H h => ?_
  obtain ⟨F, I, ρ, σ, S, rb, h⟩ := h
  refine ⟨fun m σV H => ∃ I' ρ' σ S, Gr ρ I ρ' I' ∧ RB X.K F I' ρ' S H σV σ ∧ postS fr X.K Wx F I' ρ' (sWhile t f m σ S) D, ⟨n, I, ρ, σ, S, Gr.refl, rb, h⟩, ?_⟩
  intro m σV' H' ⟨I1, ρ1, σ1, S1, g1, rb1, h1⟩
  cases m with
  | zero => exact h1.elim
  | succ m =>
    refine ⟨F, I1, ρ1, σ1, S1, rb1, postS_bind h1 fun I2 ρ2 σ2 S2 H2 x v1 _ g2 rb2 t2 h2 => ?_⟩
    subst t2
    cases v1 with
    | false => exact h2 I2 ρ2 H2 _ Gr.refl rb2
    | true =>
      refine ⟨fun σV2 H2 => ∃ I' ρ' σ S, Gr ρ I ρ' I' ∧ RB X.K F I' ρ' S H2 σV2 σ ∧ postS fr X.K Wx F I' ρ' (sWhile t f m σ S) D, fun σ' H' q => ⟨m, Nat.lt_succ_self m, q⟩, F, I2, ρ2, σ2, S2, rb2, ?_⟩
      have h2' : postS fr X.K Wx F I2 ρ2 ((f σ2 S2).bind fun x σ S => (match x with
        | .next => sWhile t f m σ S
        | .cnt => sWhile t f m σ S
        | .brk => .ok .next σ S
        | .ret w => .ok (.ret w) σ S)) D := h2
      cases e : f σ2 S2 with
      | ok a σ3 S3 =>
        rw [e] at h2'
        cases a with
        | next => exact fun I' ρ' H' σV' g' rb' => ⟨I', ρ', σ3, S3, (g1.trans g2).trans g', rb', postS_gr g' h2'⟩
        | cnt => exact fun I' ρ' H' σV' g' rb' => ⟨I', ρ', σ3, S3, (g1.trans g2).trans g', rb', postS_gr g' h2'⟩
        | brk => exact h2'
        | ret w => exact h2'
      | exc a σ' S' => rw [e] at h2'; exact h2'
      | fail => rw [e] at h2'; exact h2'
end

/-! ### defs -/
def postD (fr : Bool) (K : PySem.W.Frag) (F I : Hp) (ρ : List Addr) (r : Out) (Q : VK) (E : XK) : Prop := match r with
  | .ok w S' => ∀ I' ρ' H' v, Gr ρ I ρ' I' → RB K F I' ρ' S' H' [] [] → RetAt fr K F I' ρ' H' v w → Q v H'
  | .exc e S' => ∀ I' ρ' H' d, Gr ρ I ρ' I' → RB K F I' ρ' S' H' [] [] → ExcAt e d H' → E (.ref (ca K e.c)) d H'
  | .fail => False
/-- a def's promise: as its denotation says -/
def spD (fr : Bool) (K : PySem.W.Frag) (n : Nat) (d : Den) : Sp := fun vs H Q E => vs.length = n ∧ ∃ F I ρ S ws, RB K F I ρ S H [] [] ∧ Reps K ρ I vs ws ∧ postD fr K F I ρ (d ws S) Q E
theorem RB.start {K : PySem.W.Frag} {F I : Hp} {ρ : List Addr} {S : Sto} {H : Hp} {vs : List V} {ws : List D} (rb : RB K F I ρ S H [] []) (r : Reps K ρ I vs ws) (N : List Str) : RB K F I ρ S H (start N vs) (ws.map Slot.val ++ List.replicate (N.length - ws.length) .emp) := by
  have no : ∀ {i : Nat} {c : D}, ¬ (ws.map Slot.val ++ List.replicate (N.length - ws.length) Slot.emp)[i]? = some (Slot.own c) := fun {i c} h => by
    have hm := List.mem_of_getElem? h
    rcases List.mem_append.mp hm with hm | hm
    · obtain ⟨w, _, e⟩ := List.mem_map.mp hm
      cases e
    · have := List.eq_of_mem_replicate hm
      cases this
  refine ⟨rb.fr, rb.sub, rb.dis, rb.store, rb.nd, rb.rl, ?_, fun i s h => ?_, fun i j c c' v h => absurd h no⟩
  · unfold L2.start
    simp only [List.length_append, List.length_map, List.length_replicate, r.length]
  · cases s with
    | emp => trivial
    | exn b =>
      rcases List.mem_append.mp (List.mem_of_getElem? h) with hm | hm
      · obtain ⟨w, _, e⟩ := List.mem_map.mp hm
        cases e
      · have := List.eq_of_mem_replicate hm
        cases this
    | own c => exact absurd h no
    | val w =>
      by_cases hi : i < ws.length
      · rw [List.getElem?_append_left (by rw [List.length_map]; exact hi), List.getElem?_map] at h
        obtain ⟨w', hw, e⟩ := Option.map_eq_some_iff.mp h
        cases e
        obtain ⟨v, hv, rv⟩ := r.get hw
        refine ⟨v, ?_, rv⟩
        unfold L2.start
        rw [List.getElem?_append_left (by rw [List.length_map, r.length]; exact hi), List.getElem?_map, hv]
        rfl
      · rw [List.getElem?_append_right (by rw [List.length_map]; omega)] at h
        have := List.eq_of_mem_replicate (List.mem_of_getElem? h)
        cases this
/-- THE RULE for a def -/
theorem def_ok {fr : Bool} {P : Program} {w : World} {K : PySem.W.Frag} {mg : Str → Option Value} {base : Heap} {x qual : Str} {params : Arguments} {body : List Stmt} {scope : Scope} {f : Addr} {fd : FuncData} {N ps : List Str} {k n : Nat} {d : DS}
    (F : FunD K x qual params body scope [] [] f fd) (S : FnScope N ps scope) (hn : N.length = n)
    (hb : ∀ (cdv : Value) (A : Around) (outer : List Env) (s : Shared) (H : Hp) (E : XK), Room k (A.deeper (envOfC qual scope s.heap.objs.size f cdv)) →
      SSs fr (cxOf (L2.CX P w) P w K mg base N qual scope f cdv A outer s H E) (fun cls d _ H => E cls d H) body d) :
    FnOk P w K mg base (L2.CX P w) (k + 1) f fd ps (spD fr K ps.length (dDef n d)) := by
  refine F.ok S (fun vs H Q E h => h.1) fun cdv A outer s H vs Q E hr h => ?_
  obtain ⟨hl, F0, I, ρ, S0, ws, rb, r, h⟩ := h
  refine ⟨_, hb cdv A outer s H E hr, F0, I, ρ, _, S0, rb.start r N, ?_⟩
  unfold dDef at h
  rw [hn]
  cases e : d (ws.map Slot.val ++ List.replicate (n - ws.length) .emp) S0 with
  | ok a σ' S' =>
    rw [e] at h
    cases a with
    | next =>
      intro I' ρ' H' σV' g rb'
      cases fr with
      | false => exact h I' ρ' H' .non g rb'.drop .non
      | true => exact h I' ρ' H' .non g rb'.drop (.inr ⟨rfl, .non⟩)
    | ret w => exact h
    | brk => exact h.elim
    | cnt => exact h.elim
  | exc a σ' S' =>
    rw [e] at h
    exact fun I' ρ' H' d σV' g rb' he => h I' ρ' H' d g rb'.drop he
  | fail => rw [e] at h; exact h

/-- a def of the module as callers take it -/
structure Fn (fr : Bool) (P : Program) (w : World) (K : PySem.W.Frag) (mg : Str → Option Value) (base : Heap) (x : Str) (k n : Nat) (d : Den) : Prop where
  ex : ∃ (f : Addr) (fd : FuncData) (ps : List Str), mg x = some (.ref f) ∧ PySem.W.keepIn K (.ref f) = true ∧ Binds K fd ps [] ∧ ps.length = n ∧ FnOk P w K mg base (L2.CX P w) k f fd ps (spD fr K n d)

section
variable {fr : Bool} {X : Cx} {Wx : WX}
open Classical in
/-- what a callee must leave as it is: the frame's wish, and what the slots own -/
noncomputable def fr1 (F H : Hp) (σV : L2.St) (σ : Sl) : Hp := fun a => if ∃ (i : Nat) (c : D), σ[i]? = some (.own c) ∧ σV[i]? = some (some (.ref a)) then H a else F a
theorem RB.callee {K : PySem.W.Frag} {F I : Hp} {ρ : List Addr} {S : Sto} {H : Hp} {σV : L2.St} {σ : Sl} (rb : RB K F I ρ S H σV σ) : RB K (fr1 F H σV σ) I ρ S H [] [] := by
  refine ⟨fun a o h => ?_, rb.sub, fun a o h => ?_, fun r o h => ?_, rb.nd, rb.rl, rfl, fun i s h => by simp at h, fun i j c c' v h => by simp at h⟩
  · unfold fr1 at h
    split at h
    · exact h
    · exact rb.fr a o h
  · unfold fr1 at h
    split at h
    · rename_i q
      obtain ⟨i, c, h1, h2⟩ := q
      obtain ⟨b, hb, _, hib, _⟩ := rb.slot i _ h1
      rw [h2] at hb
      cases hb
      exact hib
    · exact rb.dis a o h
  · obtain ⟨a, ha, hf, hi, hc⟩ := rb.store r o h
    have e : fr1 F H σV σ a = F a := by
      unfold fr1
      split
      · rename_i q
        obtain ⟨i, c, h1, h2⟩ := q
        obtain ⟨b, hb, _, _, nb, _⟩ := rb.slot i _ h1
        rw [h2] at hb
        cases hb
        exact absurd (List.mem_of_getElem? ha) nb
      · rfl
    exact ⟨a, ha, hf.mono (fun z => e.trans z) fun ob u z => e.trans z, hi, hc⟩
theorem RB.back {K : PySem.W.Frag} {F I I' : Hp} {ρ ρ' : List Addr} {S S' : Sto} {H H' : Hp} {σV : L2.St} {σ : Sl} (rb : RB K F I ρ S H σV σ) (g : Gr ρ I ρ' I') (rb' : RB K (fr1 F H σV σ) I' ρ' S' H' [] []) : RB K F I' ρ' S' H' σV σ := by
  have own1 : ∀ {i : Nat} {c : D} {a : Addr}, σ[i]? = some (.own c) → σV[i]? = some (some (.ref a)) → fr1 F H σV σ a = H a := fun {i c a} h1 h2 => by
    unfold fr1
    rw [if_pos ⟨i, c, h1, h2⟩]
  have oth : ∀ {a : Addr} {o : HO}, F a = some o → fr1 F H σV σ a = some o := fun {a o} h => by
    unfold fr1
    split
    · exact rb.fr a o h
    · exact h
  have Fn : ∀ {a : Addr}, fr1 F H σV σ a = none → F a = none := fun {a} h => by
    cases e : F a with
    | none => rfl
    | some o =>
      rw [oth e] at h
      cases h
  refine ⟨fun a o h => rb'.fr a o (oth h), rb'.sub, fun a o h => rb'.dis a o (oth h), fun r o h => ?_, rb'.nd, rb'.rl, rb.len, fun i s h => ?_, rb.inj⟩
  · obtain ⟨a, ha, hf, hi, hc⟩ := rb'.store r o h
    refine ⟨a, ha, hf.mono Fn fun ob u z => ?_, hi, hc⟩
    unfold fr1 at z
    split at z
    · rename_i q
      obtain ⟨i, c, h1, h2⟩ := q
      obtain ⟨b, hb, _, _, _, ho⟩ := rb.slot i _ h1
      rw [h2] at hb
      cases hb
      exact absurd z ho.nofrz
    · exact z
  · have q := rb.slot i s h
    cases s with
    | emp => trivial
    | exn b => first | exact q | exact (List.getElem?_set_ne e).trans q | exact e.trans q
    | val w => obtain ⟨v, hv, r⟩ := q; exact ⟨v, hv, r.gr g⟩
    | own c =>
      obtain ⟨a, ha, hf, hi, hr, ho⟩ := q
      obtain ⟨o, hao⟩ := ho.there
      have fa : fr1 F H σV σ a = some o := (own1 h ha).trans hao
      have keep : H' a = some o := rb'.fr a o fa
      refine ⟨a, ha, hf, ?_, ?_, ho.gr g fun u hu => ?_⟩
      · exact rb'.dis a o fa
      · intro hm
        obtain ⟨r, hr'⟩ := List.getElem?_of_mem hm
        have lt : r < S'.length := by rw [← rb'.rl]; exact (List.getElem?_eq_some_iff.mp hr').1
        obtain ⟨b, hb, hfb, _⟩ := rb'.store r _ (List.getElem?_eq_getElem lt)
        rw [hr'] at hb
        cases hb
        obtain ⟨ob, u, e⟩ := hfb.not fa
        exact ho.nofrz (e ▸ hao)
      · rw [hao] at hu
        cases hu
        exact keep
end
end MR

set_option Elab.async false
set_option linter.all false
set_option maxRecDepth 100000
/-! MR4: calls, fresh containers, containers that are changed. -/
namespace MR
open PySem PySem.Spec PyProof.Rows L2

section
variable {K : PySem.W.Frag} {F I : Hp} {ρ : List Addr} {S : Sto} {H : Hp} {σV : L2.St} {σ : Sl}
/-- no slot owns what stands at a -/
def NoOwn (σV : L2.St) (σ : Sl) (a : Addr) : Prop := ∀ (i : Nat) (c : D), σ[i]? = some (.own c) → σV[i]? ≠ some (some (.ref a))
/-- a container at a that nobody else holds -/
structure Fresh (K : PySem.W.Frag) (F I : Hp) (ρ : List Addr) (H : Hp) (σV : L2.St) (σ : Sl) (a : Addr) (c : D) : Prop where
  nf : F a = none
  ni : I a = none
  nr : a ∉ ρ
  no : NoOwn σV σ a
  own : OwnAt K ρ I H a c
theorem fr1_none {a : Addr} (h : fr1 F H σV σ a = none) (hH : ∃ o, H a = some o) : F a = none ∧ NoOwn σV σ a := by
  have no : NoOwn σV σ a := fun i c h1 h2 => by
    unfold fr1 at h
    rw [if_pos ⟨i, c, h1, h2⟩] at h
    obtain ⟨o, e⟩ := hH
    rw [e] at h
    cases h
  refine ⟨?_, no⟩
  unfold fr1 at h
  rw [if_neg (fun ⟨i, c, h1, h2⟩ => no i c h1 h2)] at h
  exact h
/-- it is frozen -/
theorem RB.frzA (rb : RB K F I ρ S H σV σ) {a : Addr} {c : D} (f : Fresh K F I ρ H σV σ a c) : ∃ I', Gr ρ I ρ I' ∧ RB K F I' ρ S H σV σ ∧ Rep K ρ I' (.ref a) c := by
  obtain ⟨hf, hi, hr, no, ho⟩ := f
  obtain ⟨o, hao⟩ := ho.there
  have g : Gr ρ I ρ (upd I a o) := ⟨fun b u h => by rw [upd_ne (ne_of_none h hi)]; exact h, fun _ _ h => h⟩
  have rep : Rep K ρ (upd I a o) (.ref a) c := by
    cases c with
    | lst ws =>
      obtain ⟨vs, h, r⟩ := ho
      rw [hao] at h; cases h
      exact .lst upd_same (r.gr g)
    | dK kws =>
      obtain ⟨kvs, h, e, r⟩ := ho
      rw [hao] at h; cases h
      exact .dK upd_same e (r.gr g)
    | dT kws =>
      obtain ⟨kvs, h, e, r⟩ := ho
      rw [hao] at h; cases h
      exact .dT upd_same e (r.gr g)
    | _ => exact ho.elim
  refine ⟨upd I a o, g, ⟨rb.fr, fun b u h => ?_, fun b u h => ?_, fun r ob h => ?_, rb.nd, rb.rl, rb.len, fun j s h => ?_, rb.inj⟩, rep⟩
  · by_cases e : b = a
    · subst e
      rw [upd_same] at h
      exact .inl (hao.trans h)
    · rw [upd_ne e] at h
      exact rb.sub b u h
  · rw [upd_ne (ne_of_none h hf)]
    exact rb.dis b u h
  · obtain ⟨b, hb, hfb, hib, hcb⟩ := rb.store r ob h
    have n : b ≠ a := fun e => hr (e ▸ List.mem_of_getElem? hb)
    exact ⟨b, hb, hfb, by rw [upd_ne n]; exact hib, hcb.gr g fun _ z => z⟩
  · have q := rb.slot j s h
    cases s with
    | emp => trivial
    | exn b => first | exact q | exact (List.getElem?_set_ne e).trans q | exact e.trans q
    | val w => obtain ⟨v, hv, r⟩ := q; exact ⟨v, hv, r.gr g⟩
    | own c' =>
      obtain ⟨b, hb, hfb, hib, hrb, hob⟩ := q
      have n : b ≠ a := fun z => no j c' h (z ▸ hb)
      exact ⟨b, hb, hfb, by rw [upd_ne n]; exact hib, hrb, hob.gr g fun _ z => z⟩
/-- a slot takes it -/
theorem RB.setO (rb : RB K F I ρ S H σV σ) {i : Nat} {a : Addr} {c : D} (f : Fresh K F I ρ H σV σ a c) : RB K F I ρ S H (σV.set i (some (.ref a))) (σ.set i (.own c)) := by
  refine ⟨rb.fr, rb.sub, rb.dis, rb.store, rb.nd, rb.rl, by rw [List.length_set, List.length_set]; exact rb.len, fun j s h => ?_, fun j k c1 c2 u h1 h2 h3 h4 => ?_⟩
  · by_cases e : i = j
    · subst e
      have lt : i < (σ.set i (.own c)).length := (List.getElem?_eq_some_iff.mp h).1
      rw [List.length_set] at lt
      rw [List.getElem?_set_self lt] at h
      cases h
      exact ⟨a, List.getElem?_set_self (by rw [← rb.len]; exact lt), f.nf, f.ni, f.nr, f.own⟩
    · rw [List.getElem?_set_ne e] at h
      have q := rb.slot j s h
      cases s with
      | emp => trivial
      | exn b => first | exact q | exact (List.getElem?_set_ne e).trans q | exact e.trans q
      | val w => obtain ⟨v, hv, r⟩ := q; exact ⟨v, by rw [List.getElem?_set_ne e]; exact hv, r⟩
      | own c => obtain ⟨a, ha, q⟩ := q; exact ⟨a, by rw [List.getElem?_set_ne e]; exact ha, q⟩
  · have at_i : ∀ {c1 : D} {u : V}, (σV.set i (some (.ref a)))[i]? = some (some u) → u = .ref a := fun {c1 u} h => by
      have lt : i < (σV.set i (some (.ref a))).length := (List.getElem?_eq_some_iff.mp h).1
      rw [List.length_set] at lt
      rw [List.getElem?_set_self lt] at h
      cases h
      rfl
    by_cases e1 : i = j
    · by_cases e2 : i = k
      · exact e1.symm.trans e2
      · subst e1
        have := at_i (c1 := c1) h3
        subst this
        rw [List.getElem?_set_ne e2] at h2 h4
        exact absurd h4 (f.no k c2 h2)
    · rw [List.getElem?_set_ne e1] at h1 h3
      by_cases e2 : i = k
      · subst e2
        have := at_i (c1 := c1) h4
        subst this
        exact absurd h3 (f.no j c1 h1)
      · rw [List.getElem?_set_ne e2] at h2 h4
        exact rb.inj j k c1 c2 u h1 h2 h3 h4
/-- a new container, fresh -/
theorem RB.newO (rb : RB K F I ρ S H σV σ) {p : Addr} {o : HO} (hp : H p = none) : RB K F I ρ S (upd H p o) σV σ ∧ F p = none ∧ I p = none ∧ p ∉ ρ ∧ NoOwn σV σ p := by
  have ip := rb.sub.none_of hp
  have k : ∀ b u, H b = some u → upd H p o b = some u := fun b u h => by rw [upd_ne (ne_of_none h hp)]; exact h
  refine ⟨⟨fun a u h => k a u (rb.fr a u h), fun a u h => ?_, rb.dis, fun r c h => ?_, rb.nd, rb.rl, rb.len, fun i s h => ?_, rb.inj⟩, ?_, ip, rb.nρ hp, fun i c h1 h2 => ?_⟩
  · rcases rb.sub a u h with q | ⟨d, ob, q⟩
    · exact .inl (k _ _ q)
    · exact .inr ⟨d, ob, k _ _ q⟩
  · obtain ⟨a, ha, hf, hi, hc⟩ := rb.store r c h
    exact ⟨a, ha, hf, hi, hc.gr Gr.refl (k a)⟩
  · have q := rb.slot i s h
    cases s with
    | emp => trivial
    | exn b => first | exact q | exact (List.getElem?_set_ne e).trans q | exact e.trans q
    | val w => exact q
    | own c => obtain ⟨a, ha, hf, hi, hr, ho⟩ := q; exact ⟨a, ha, hf, hi, hr, ho.gr Gr.refl (k a)⟩
  · cases e : F p with
    | none => rfl
    | some u =>
      have := rb.fr p u e
      rw [hp] at this
      cases this
  · obtain ⟨a, ha, _, _, _, ho⟩ := rb.slot i _ h1
    rw [h2] at ha
    cases ha
    obtain ⟨u, hu⟩ := ho.there
    rw [hp] at hu
    cases hu
end

/-! ### fresh results -/
def postF (K : PySem.W.Frag) (Wx : WX) (F I : Hp) (ρ : List Addr) (σV : L2.St) (r : Res D) (Q : VK) : Prop := match r with
  | .ok w σ' S' => ∀ I' ρ' H' v, Gr ρ I ρ' I' → RB K F I' ρ' S' H' σV σ' → ((∃ a, v = .ref a ∧ Fresh K F I' ρ' H' σV σ' a w) ∨ (scalar w = true ∧ Rep K ρ' I' v w)) → Q v H'
  | .exc e σ' S' => ∀ I' ρ' H' d, Gr ρ I ρ' I' → RB K F I' ρ' S' H' σV σ' → ExcAt e d H' → Wx (.ref (ca K e.c)) d σV H'
  | .fail => False
def semF (K : PySem.W.Frag) (Wx : WX) (f : DE) : TE := fun σV H Q => ∃ F I ρ σ S, RB K F I ρ S H σV σ ∧ postF K Wx F I ρ σV (f σ S) Q
abbrev SF (X : Cx) (Wx : WX) (e : Expr) (f : DE) : Prop := PE X e (semF X.K Wx f)
section
variable {fr : Bool} {X : Cx} {Wx : WX}
theorem postF_gr {K : PySem.W.Frag} {F I : Hp} {ρ : List Addr} {σV : L2.St} {r : Res D} {Q : VK} {I1 : Hp} {ρ1 : List Addr} (g : Gr ρ I ρ1 I1) (h : postF K Wx F I ρ σV r Q) : postF K Wx F I1 ρ1 σV r Q := by
  cases r with
  | ok a σ S => exact fun I' ρ' H' b g' => h I' ρ' H' b (g.trans g')
  | exc e σ S => exact fun I' ρ' H' d g' => h I' ρ' H' d (g.trans g')
  | fail => exact h
theorem postF_bind {K : PySem.W.Frag} {F I : Hp} {ρ : List Addr} {σV : L2.St} {α β : Type} {T : List Addr → Hp → L2.St → β → α → Prop} {r : Res α} {k : α → Sl → Sto → Res D} {Q : VK} {Q1 : β → Hp → Prop}
    (h : postF K Wx F I ρ σV (r.bind k) Q)
    (q : ∀ I1 ρ1 σ1 S1 H1 a b, r = .ok a σ1 S1 → Gr ρ I ρ1 I1 → RB K F I1 ρ1 S1 H1 σV σ1 → T ρ1 I1 σV b a → postF K Wx F I1 ρ1 σV (k a σ1 S1) Q → Q1 b H1) : postR K Wx T F I ρ σV r Q1 := by
  cases r with
  | ok a σ S => exact fun I' ρ' H' b g rb t => q I' ρ' σ S H' a b rfl g rb t (postF_gr g h)
  | exc e σ S => exact h
  | fail => exact h
/-- fresh, then kept as a value -/
theorem c_f {e : Expr} {f : DE} (h : SF X Wx e f) : SE X Wx e f := by
  refine PE.imp h fun σV H Q h => ?_
  obtain ⟨F, I, ρ, σ, S, rb, h⟩ := h
  refine ⟨F, I, ρ, σ, S, rb, ?_⟩
  cases e : f σ S with
  | ok a σ' S' =>
    rw [e] at h
    intro I' ρ' H' v g rb' t
    rcases t with ⟨b, rfl, fr⟩ | ⟨_, r⟩
    · obtain ⟨I2, g2, rb2, r2⟩ := rb'.frzA fr
      exact h I2 ρ' H' _ (g.trans g2) rb2 (.inr r2)
    · exact h I' ρ' H' v g rb' (.inr r)
  | exc a σ' S' => rw [e] at h; exact h
  | fail => rw [e] at h; exact h
def sSetO (i : Nat) (f : DE) : DS := fun σ S => (f σ S).bind fun w σ S => .ok .next (σ.set i (if scalar w then .val w else .own w)) S
theorem sem_setO {fr : Bool} {i : Nat} {f : DE} {D : Ends} {σV : L2.St} {H : Hp} (h : semS fr X.K Wx (sSetO i f) D σV H) : semF X.K Wx f σV H fun v H' => D.nx (σV.set i (some v)) H' := by
  obtain ⟨F, I, ρ, σ, S, rb, h⟩ := h
  refine ⟨F, I, ρ, σ, S, rb, ?_⟩
  unfold sSetO at h
  cases e : f σ S with
  | ok a σ' S' =>
    rw [e] at h
    intro I' ρ' H' v g rb' t
    have h2 : postS fr X.K Wx F I ρ (.ok .next (σ'.set i (if scalar a then .val a else .own a)) S') D := h
    rcases t with ⟨b, rfl, fr⟩ | ⟨hs, r⟩
    · have ns : scalar a = false := by
        have := fr.own
        cases a <;> first | rfl | exact this.elim
      rw [ns] at h2
      exact h2 I' ρ' H' _ g (rb'.setO fr)
    · rw [hs] at h2
      exact h2 I' ρ' H' _ g (rb'.setV r)
  | exc a σ' S' => rw [e] at h; exact fun I' ρ' H' d => h I' ρ' H' d σV
  | fail => rw [e] at h; exact h
/-- a fresh container kept as a value by a slot -/
theorem sem_setF {fr : Bool} {i : Nat} {f : DE} {D : Ends} {σV : L2.St} {H : Hp} (hf : ∀ σ S w σ' S', f σ S = .ok w σ' S' → ∀ j, w ≠ .loc j := by intros; assumption) (h : semS fr X.K Wx (sSet i f) D σV H) : semF X.K Wx f σV H fun v H' => D.nx (σV.set i (some v)) H' := by
  obtain ⟨F, I, ρ, σ, S, rb, h⟩ := h
  refine ⟨F, I, ρ, σ, S, rb, ?_⟩
  unfold sSet dV at h
  cases e : f σ S with
  | ok a σ' S' =>
    rw [e] at h
    intro I' ρ' H' v g rb' t
    have ez : frz a σ' S' = .ok a σ' S' := by
      cases a with
      | loc j => exact absurd rfl (hf _ _ _ _ _ e j)
      | _ => rfl
    have h2 : postS fr X.K Wx F I ρ ((frz a σ' S').bind fun w σ S => .ok .next (σ.set i (.val w)) S) D := h
    rw [ez] at h2
    rcases t with ⟨b, rfl, fr⟩ | ⟨hs, r⟩
    · obtain ⟨I2, g2, rb2, r2⟩ := rb'.frzA fr
      exact h2 I2 ρ' H' _ (g.trans g2) (rb2.setV r2)
    · exact h2 I' ρ' H' _ g (rb'.setV r)
  | exc a σ' S' => rw [e] at h; exact fun I' ρ' H' d => h I' ρ' H' d σV
  | fail => rw [e] at h; exact h
theorem cs_setO {i : Nat} {x : Str} {e : Expr} {f : DE} {pos pos' : Pos} (hN : X.N.Nodup) (h : SF X Wx e f) (hi : X.N[i]? = some x := by rfl) (hx : Loc X.env.scope x := by first | exact Or.inl rfl | exact Or.inr rfl)
    (hs : swapsWith e (some (.Name x pos')) pos.line X.env = pure false := by rfl) (hf : X.fn x = true ∨ X.env.scope.names.lookup x = some .local := by first | exact .inl rfl | exact .inr rfl | assumption) : SS fr X Wx (.Assign [.Name x pos'] e pos) (sSetO i f) :=
  PS.imp (ps_set hN hi hx h hs hf) fun D σV H h => sem_setO h
/-- return of a fresh container -/
def sRetF (f : DE) : DS := fun σ S => (f σ S).bind fun w σ S => .ok (.ret w) σ S
theorem cs_retF {e : Expr} {pos : Pos} {f : DE} (h : SF X Wx e f) : SS true X Wx (.Return (some e) pos) (sRetF f) := by
  refine PS.imp (ps_ret h) fun D σV H h => ?_
  obtain ⟨F, I, ρ, σ, S, rb, h⟩ := h
  refine ⟨F, I, ρ, σ, S, rb, ?_⟩
  unfold sRetF at h
  cases e : f σ S with
  | ok a σ' S' =>
    rw [e] at h
    intro I' ρ' H' v g rb' t
    rcases t with ⟨b, rfl, fr⟩ | t
    · exact h I' ρ' H' _ g rb'.drop (.inl ⟨b, rfl, fr.nf, fr.ni, fr.nr, fr.own⟩)
    · exact h I' ρ' H' _ g rb'.drop (.inr t)
  | exc a σ' S' => rw [e] at h; exact fun I' ρ' H' d => h I' ρ' H' d σV
  | fail => rw [e] at h; exact h
/-- return x, x's slot owning its container (or holding a scalar) -/
def sRetO (i : Nat) : DS := fun σ S => match σ[i]? with
  | some (.own c) => .ok (.ret c) σ S
  | some (.val w) => if scalar w then .ok (.ret w) σ S else .fail
  | _ => .fail
theorem cs_retO (i : Nat) {x : Str} {pos pos' : Pos} (hN : X.N[i]? = some x := by rfl) (hv : Vis X.env.scope x := by first | exact Or.inl rfl | exact Or.inr (Or.inl rfl) | exact Or.inr (Or.inr rfl)) (hd : (x == ("__debug__" : Str)) = false := by decide)
    (hcd : (x == ("__classdict__" : Str)) = false := by decide) : SS true X Wx (.Return (some (.Name x pos')) pos) (sRetO i) := by
  refine PS.imp (ps_ret (pe_var hN hv hd hcd)) fun D σV H h => ?_
  obtain ⟨F, I, ρ, σ, S, rb, h⟩ := h
  unfold sRetO at h
  split at h
  · rename_i c hc
    obtain ⟨a, ha, hf, hi, hr, ho⟩ := rb.slot i _ hc
    exact ⟨_, ha, h I ρ H _ Gr.refl rb.drop (.inl ⟨a, rfl, hf, hi, hr, ho⟩)⟩
  · rename_i w hw
    split at h
    · rename_i hs
      obtain ⟨v, hv, r⟩ := rb.slot i _ hw
      exact ⟨v, hv, h I ρ H _ Gr.refl rb.drop (.inr ⟨hs, r⟩)⟩
    · exact h.elim
  · exact h.elim
/-- return None and other scalars in a def that hands back fresh containers -/
def sRetS (f : DE) : DS := fun σ S => (f σ S).bind fun w σ S => if scalar w then .ok (.ret w) σ S else .fail
theorem cs_retS {e : Expr} {pos : Pos} {f : DE} (h : SE X Wx e f) : SS true X Wx (.Return (some e) pos) (sRetS f) := by
  refine PS.imp (ps_ret h) fun D σV H h => ?_
  obtain ⟨F, I, ρ, σ, S, rb, h⟩ := h
  refine ⟨F, I, ρ, σ, S, rb, postS_bind h fun I1 ρ1 σ1 S1 H1 x v1 _ g1 rb1 t1 h1 => ?_⟩
  split at h1
  · rename_i hs
    rcases t1 with ⟨i, rfl, _⟩ | t1
    · cases hs
    · exact h1 I1 ρ1 H1 v1 Gr.refl rb1.drop (.inr ⟨hs, t1⟩)
  · exact h1.elim
theorem cf_lst {es : List Expr} {pos : Pos} {r : DA} (h : SA X Wx es r) : SF X Wx (.List es pos) (dLst r) := by
  refine PE.imp (pe_lst h) fun σV H Q h => ?_
  obtain ⟨F, I, ρ, σ, S, rb, h⟩ := h
  refine ⟨F, I, ρ, σ, S, rb, postF_bind h fun I1 ρ1 σ1 S1 H1 x v1 _ g1 rb1 t1 h1 => ?_⟩
  split at h1
  · rename_i hl
    refine ⟨by rw [t1.length, ← most_eq]; exact hl, fun p hp => ?_⟩
    obtain ⟨rb2, nf, ni, nr, no⟩ := rb1.newO (o := .lst v1) hp
    exact h1 _ ρ1 _ _ Gr.refl rb2 (.inl ⟨p, rfl, nf, ni, nr, no, v1, upd_same, t1⟩)
  · exact h1.elim

/-! ### the call of a def -/
theorem post_call {K : PySem.W.Frag} {F I : Hp} {ρ : List Addr} {S : Sto} {H : Hp} {σV : L2.St} {σ : Sl} {vs : List V} {ws : List D} {d : Den} {n : Nat} {Q : VK} (rb : RB K F I ρ S H σV σ) (r : Reps K ρ I vs ws) (hn : vs.length = n)
    (h : postR K Wx (fun ρ I _ v w => Rep K ρ I v w) F I ρ σV (match d ws S with
      | .ok w S' => .ok w σ S'
      | .exc e S' => .exc e σ S'
      | .fail => .fail) Q) : spD false K n d vs H Q (WE Wx σV) := by
  refine ⟨hn, fr1 F H σV σ, I, ρ, S, ws, rb.callee, r, ?_⟩
  cases e : d ws S with
  | ok w S' =>
    rw [e] at h
    exact fun I' ρ' H' v g rb' t => h I' ρ' H' v g (rb.back g rb') t
  | exc x S' =>
    rw [e] at h
    exact fun I' ρ' H' v g rb' t => h I' ρ' H' v g (rb.back g rb') t
  | fail => rw [e] at h; exact h
theorem post_callF {K : PySem.W.Frag} {F I : Hp} {ρ : List Addr} {S : Sto} {H : Hp} {σV : L2.St} {σ : Sl} {vs : List V} {ws : List D} {d : Den} {n : Nat} {Q : VK} (rb : RB K F I ρ S H σV σ) (r : Reps K ρ I vs ws) (hn : vs.length = n)
    (h : postF K Wx F I ρ σV (match d ws S with
      | .ok w S' => .ok w σ S'
      | .exc e S' => .exc e σ S'
      | .fail => .fail) Q) : spD true K n d vs H Q (WE Wx σV) := by
  refine ⟨hn, fr1 F H σV σ, I, ρ, S, ws, rb.callee, r, ?_⟩
  cases e : d ws S with
  | ok w S' =>
    rw [e] at h
    intro I' ρ' H' v g rb' t
    rcases t with ⟨a, rfl, nf, ni, nr, ho⟩ | t
    · have rb2 := rb.back g rb'
      have no : F a = none ∧ NoOwn σV σ a := by
        have no1 : NoOwn σV σ a := fun i c h1 h2 => by
          obtain ⟨b, hb, _, _, _, hob⟩ := rb.slot i _ h1
          obtain ⟨u, hu⟩ := hob.there
          rw [h2] at hb
          cases hb
          unfold fr1 at nf
          rw [if_pos ⟨i, c, h1, h2⟩, hu] at nf
          cases nf
        refine ⟨?_, no1⟩
        unfold fr1 at nf
        rw [if_neg (fun ⟨i, c, h1, h2⟩ => no1 i c h1 h2)] at nf
        exact nf
      exact h I' ρ' H' _ g rb2 (.inl ⟨a, rfl, no.1, ni, nr, no.2, ho⟩)
    · exact h I' ρ' H' v g (rb.back g rb') (.inr t)
  | exc x S' =>
    rw [e] at h
    exact fun I' ρ' H' v g rb' t => h I' ρ' H' v g (rb.back g rb') t
  | fail => rw [e] at h; exact h
variable {k n m : Nat} {x : Str} {d : Den} {p pos : Pos} {e : Expr} {es : List Expr} {r : DA}
theorem c_call (C : Fn false X.prog X.w X.K X.mg X.base x k n d) (tk : Takes X Wx) (hr : Room m X.A) (hkm : k ≤ m) (ha : SA X Wx (e :: es) r) (hn : (e :: es).length = n := by rfl) (hg : Gl X x := by rfl) (hdb : (x == ("__debug__" : Str)) = false := by decide)
    (he : starEach (e :: es) X.env = (false, eval e X.env) :: starEach es X.env := by rfl) (hpl : (backTo pos (starEach es X.env)).any (·.1) = false := by rfl) (hlen : ∀ σ S ws σ' S', r σ S = .ok ws σ' S' → ws.length = n) : SV X Wx (.Call (.Name x p) (e :: es) [] pos) (dCall d r) := by
  obtain ⟨f, fd, ps, hm, hk, hb, hp, ok⟩ := C.ex
  refine PE.imp (pe_callSD (E := WE Wx) ok (hr.mono hkm) hg hm hk hb .nil (fun σ => passAt tk σ) ha hdb he hpl) fun σV H Q h => ?_
  obtain ⟨F, I, ρ, σ, S, rb, h⟩ := h
  refine ⟨F, I, ρ, σ, S, rb, post_bind h fun I1 ρ1 σ1 S1 H1 ws vs er g1 rb1 t1 h1 => ?_⟩
  rw [List.append_nil]
  exact post_call rb1 t1 (by rw [t1.length]; exact hlen _ _ _ _ _ er) h1
theorem cf_call (C : Fn true X.prog X.w X.K X.mg X.base x k n d) (tk : Takes X Wx) (hr : Room m X.A) (hkm : k ≤ m) (ha : SA X Wx (e :: es) r) (hn : (e :: es).length = n := by rfl) (hg : Gl X x := by rfl) (hdb : (x == ("__debug__" : Str)) = false := by decide)
    (he : starEach (e :: es) X.env = (false, eval e X.env) :: starEach es X.env := by rfl) (hpl : (backTo pos (starEach es X.env)).any (·.1) = false := by rfl) (hlen : ∀ σ S ws σ' S', r σ S = .ok ws σ' S' → ws.length = n) : SF X Wx (.Call (.Name x p) (e :: es) [] pos) (dCall d r) := by
  obtain ⟨f, fd, ps, hm, hk, hb, hp, ok⟩ := C.ex
  refine PE.imp (pe_callSD (E := WE Wx) ok (hr.mono hkm) hg hm hk hb .nil (fun σ => passAt tk σ) ha hdb he hpl) fun σV H Q h => ?_
  obtain ⟨F, I, ρ, σ, S, rb, h⟩ := h
  refine ⟨F, I, ρ, σ, S, rb, postF_bind h fun I1 ρ1 σ1 S1 H1 ws vs er g1 rb1 t1 h1 => ?_⟩
  rw [List.append_nil]
  exact post_callF rb1 t1 (by rw [t1.length]; exact hlen _ _ _ _ _ er) h1
end

/-! ### a container is changed -/
def chg (σ : Sl) (S : Sto) (x c' : D) : Option (Sl × Sto) := match x with
  | .loc i => (match σ[i]? with
    | some (.own _) => some (σ.set i (.own c'), S)
    | _ => none)
  | .obj r => (match S[r]? with
    | some (.con false _) => some (σ, S.set r (.con false c'))
    | _ => none)
  | _ => none
def ofMut {α : Type} (a : α) (o : Option (Sl × Sto)) : Res α := match o with
  | some (σ, S) => .ok a σ S
  | none => .fail
section
variable {K : PySem.W.Frag} {F I : Hp} {ρ : List Addr} {S : Sto} {H : Hp} {σV : L2.St} {σ : Sl}
/-- the place of a container that may be changed, and what comes of a change -/
theorem RB.chg (rb : RB K F I ρ S H σV σ) {v : V} {x c c' : D} {σ' : Sl} {S' : Sto} (t : TRep K ρ I σV v x) (e : deref σ S x = some c) (em : chg σ S x c' = some (σ', S')) : ∃ a, v = .ref a ∧ OwnAt K ρ I H a c ∧ ∀ o, OwnAt K ρ I (upd H a o) a c' → RB K F I ρ S' (upd H a o) σV σ' := by
  rcases t with ⟨i, rfl, hv⟩ | t
  · unfold MR.chg at em
    dsimp only at em
    split at em
    · rename_i c0 hc
      cases em
      unfold deref at e
      dsimp only at e
      rw [hc] at e
      cases e
      obtain ⟨a, ha, hf, hi, hr, ho⟩ := rb.slot i _ hc
      rw [hv] at ha
      cases ha
      have lt : i < σ.length := (List.getElem?_eq_some_iff.mp hc).1
      refine ⟨a, rfl, ho, fun o new => ?_⟩
      have k : ∀ b u, b ≠ a → H b = some u → upd H a o b = some u := fun b u n h => by rw [upd_ne n]; exact h
      refine ⟨fun b u h => k b u (ne_of_none h hf) (rb.fr b u h), fun b u h => ?_, rb.dis, fun r ob h => ?_, rb.nd, rb.rl, by rw [List.length_set]; exact rb.len, fun j s h => ?_, fun j q c1 c2 u h1 h2 h3 h4 => ?_⟩
      · have n := ne_of_none h hi
        rcases rb.sub b u h with z | ⟨d, ob, z⟩
        · exact .inl (k _ _ n z)
        · exact .inr ⟨d, ob, k _ _ n z⟩
      · obtain ⟨b, hb, hfb, hib, hcb⟩ := rb.store r ob h
        have n : b ≠ a := fun z => hr (z ▸ List.mem_of_getElem? hb)
        exact ⟨b, hb, hfb, hib, hcb.gr Gr.refl fun u => k b u n⟩
      · by_cases ij : i = j
        · subst ij
          rw [List.getElem?_set_self lt] at h
          cases h
          exact ⟨a, hv, hf, hi, hr, new⟩
        · rw [List.getElem?_set_ne ij] at h
          have q := rb.slot j s h
          cases s with
          | emp => trivial
          | exn b => first | exact q | exact (List.getElem?_set_ne e).trans q | exact e.trans q
          | val w => exact q
          | own c2 =>
            obtain ⟨b, hb, hfb, hib, hrb, hob⟩ := q
            have n : b ≠ a := fun z => ij (rb.inj i j _ c2 _ hc h hv (z ▸ hb))
            exact ⟨b, hb, hfb, hib, hrb, hob.gr Gr.refl fun u => k b u n⟩
      · have own_of : ∀ {j : Nat} {c1 : D}, (σ.set i (.own c'))[j]? = some (.own c1) → ∃ c3, σ[j]? = some (.own c3) := fun {j c1} h => by
          by_cases ij : i = j
          · subst ij; exact ⟨_, hc⟩
          · rw [List.getElem?_set_ne ij] at h; exact ⟨_, h⟩
        obtain ⟨c3, h1⟩ := own_of h1
        obtain ⟨c4, h2⟩ := own_of h2
        exact rb.inj j q c3 c4 u h1 h2 h3 h4
    · cases em
  · cases t with
    | @obj r a hra =>
      unfold MR.chg at em
      dsimp only at em
      split at em
      · rename_i _ c0 hc
        cases em
        unfold deref at e
        dsimp only at e
        rw [hc] at e
        cases e
        obtain ⟨b, hb, hf, hi, ho⟩ := rb.store _ _ hc
        rw [hra] at hb
        cases hb
        have lt : r < S.length := (List.getElem?_eq_some_iff.mp hc).1
        refine ⟨a, rfl, ho, fun o new => ?_⟩
        have k : ∀ b u, b ≠ a → H b = some u → upd H a o b = some u := fun b u n h => by rw [upd_ne n]; exact h
        refine ⟨fun b u h => k b u (ne_of_none h hf) (rb.fr b u h), fun b u h => ?_, rb.dis, fun r2 ob h => ?_, rb.nd, by rw [List.length_set]; exact rb.rl, rb.len, fun j s h => ?_, rb.inj⟩
        · have n := ne_of_none h hi
          rcases rb.sub b u h with z | ⟨d, ob, z⟩
          · exact .inl (k _ _ n z)
          · exact .inr ⟨d, ob, k _ _ n z⟩
        · by_cases er : r = r2
          · subst er
            rw [List.getElem?_set_self lt] at h
            cases h
            exact ⟨a, hra, hf, hi, new⟩
          · rw [List.getElem?_set_ne er] at h
            obtain ⟨b, hb, hfb, hib, hcb⟩ := rb.store r2 ob h
            have n : b ≠ a := fun z => er (rb.nd r r2 a hra (z ▸ hb))
            exact ⟨b, hb, hfb, hib, hcb.gr Gr.refl fun u => k b u n⟩
        · have q := rb.slot j s h
          cases s with
          | emp => trivial
          | exn b => first | exact q | exact (List.getElem?_set_ne e).trans q | exact e.trans q
          | val w => exact q
          | own c2 =>
            obtain ⟨b, hb, hfb, hib, hrb, hob⟩ := q
            have n : b ≠ a := fun z => hrb (z ▸ List.mem_of_getElem? hra)
            exact ⟨b, hb, hfb, hib, hrb, hob.gr Gr.refl fun u => k b u n⟩
      · cases em
    | _ => cases em
end
/-! ### xs.append(e) -/
def isLst : D → Bool
  | .lst _ => true
  | _ => false
/-- a method of a list: the list is looked up ahead of the arguments, and again behind them -/
def dMeth (is : D → Bool) (k : D → D → List D → Sl → Sto → Res D) (fo : DE) (fa : DA) : DE := fun σ S => (fo σ S).bind fun x σ S => if ((deref σ S x).map is) = some true then (fa σ S).bind fun ws σ S => (match deref σ S x with
  | some c => k x c ws σ S
  | none => .fail) else .fail
def kApp : D → D → List D → Sl → Sto → Res D := fun x c ws σ S => match c, ws with
  | .lst xs, [w] => if xs.length < most then ofMut .non (chg σ S x (.lst (xs ++ [w]))) else .fail
  | _, _ => .fail
section
variable {X : Cx} {Wx : WX}
theorem SqL_at {K : PySem.W.Frag} {H : Hp} {a : Addr} {xs : List V} (h : H a = some (.lst xs)) : SqL K H a xs := .inl (.inl h)
/-- what a method's rule asks is met where its datum step succeeds -/
def MtS (K : PySem.W.Frag) (r : V → List V → Hp → VK → Prop) (k : D → D → List D → Sl → Sto → Res D) : Prop := ∀ (Wx : WX) (F I : Hp) (ρ : List Addr) (S : Sto) (H : Hp) (σV : L2.St) (σ : Sl) (v : V) (vs : List V) (x c : D) (ws : List D) (Q : VK), RB K F I ρ S H σV σ → TRep K ρ I σV v x → deref σ S x = some c →
  Reps K ρ I vs ws → postR K Wx (TRep K) F I ρ σV (k x c ws σ S) Q → r v vs H Q
def TyS (K : PySem.W.Frag) (T : String) (is : D → Bool) : Prop := ∀ (ρ : List Addr) (I H : Hp) (v : V) (c : D), At K ρ I H v c → is c = true → tyV K T v H
theorem ty_list {K : PySem.W.Frag} : TyS K "list" isLst := fun ρ I H v c h e => by
  cases c with
  | lst ws => obtain ⟨a, vs, rfl, h, _⟩ := h; exact .inl ⟨rfl, vs, SqL_at h⟩
  | _ => cases e
theorem sem_meth {T : String} {is : D → Bool} {r : V → List V → Hp → VK → Prop} {k : D → D → List D → Sl → Sto → Res D} {fo : DE} {fa : DA} (ht : TyS X.K T is) (hs : MtS X.K r k) {σV : L2.St} {H : Hp} {Q : VK} (h : semE X.K Wx (dMeth is k fo fa) σV H Q) :
    tBM X.K T r (semE X.K Wx fo) (semA X.K Wx fa) σV H Q := by
  obtain ⟨F, I, ρ, σ, S, rb, h⟩ := h
  refine ⟨F, I, ρ, σ, S, rb, post_bind h fun I1 ρ1 σ1 S1 H1 x v1 _ g1 rb1 t1 h1 => ?_⟩
  split at h1
  · rename_i hi
    obtain ⟨c, hc, hic⟩ := Option.map_eq_some_iff.mp hi
    refine ⟨ht ρ1 I1 H1 v1 c (rb1.at t1 hc) hic, F, I1, ρ1, σ1, S1, rb1, post_bind h1 fun I2 ρ2 σ2 S2 H2 ws vs _ g2 rb2 t2 h2 => ?_⟩
    split at h2
    · rename_i c2 hc2
      exact hs Wx F I2 ρ2 S2 H2 σV σ2 v1 vs x c2 ws Q rb2 (t1.gr g2) hc2 t2 h2
    · exact h2.elim
  · exact h1.elim
theorem post_mut {K : PySem.W.Frag} {F I : Hp} {ρ : List Addr} {S : Sto} {H : Hp} {σV : L2.St} {σ : Sl} {v y : V} {x c c' z : D} {Q : VK} (rb : RB K F I ρ S H σV σ) (t : TRep K ρ I σV v x) (e : deref σ S x = some c) (ry : Rep K ρ I y z)
    (h : postR K Wx (TRep K) F I ρ σV (ofMut z (chg σ S x c')) Q) : ∃ a, v = .ref a ∧ OwnAt K ρ I H a c ∧ ∀ o, OwnAt K ρ I (upd H a o) a c' → Q y (upd H a o) := by
  cases em : chg σ S x c' with
  | none => rw [em] at h; exact h.elim
  | some q =>
    obtain ⟨σ', S'⟩ := q
    rw [em] at h
    obtain ⟨a, rfl, ho, k⟩ := rb.chg t e em
    exact ⟨a, rfl, ho, fun o new => h I ρ _ y Gr.refl (k o new) (.inr ry)⟩
theorem ms_app {K : PySem.W.Frag} : MtS K rAppend kApp := by
  intro Wx F I ρ S H σV σ v vs x c ws Q rb t e r h
  unfold kApp at h
  split at h
  · rename_i xs w
    split at h
    · rename_i hl
      obtain ⟨a, rfl, ⟨vs0, hv, rv⟩, k⟩ := post_mut rb t e .non h
      cases r with
      | cons r1 r2 =>
        cases r2
        refine ⟨a, vs0, _, rfl, rfl, hv, by rw [rv.length, ← most_eq]; exact hl, k _ ⟨_, upd_same, rv.append (.cons r1 .nil)⟩⟩
    · exact h.elim
  · exact h.elim
theorem c_app {o e : Expr} {apos cpos : Pos} {fo fe : DE} (ho : SE X Wx o fo) (he : SE X Wx e fe) (hbase : attributeBase o "append" X.env (eval o X.env) = eval o X.env := by rfl)
    (hfew : ((backTo cpos (starEach [e] X.env)).all (fun x => !x.1) && (backToKw cpos (keywordEach [] X.env)).all (fun x => x.1.isSome) && decide ([e].length + ([] : List Keyword).length + (if ([] : List Keyword).isEmpty then 0 else 1) < 30)) = true := by rfl)
    (hline : (apos.endLine == cpos.line) = true := by rfl) (hs : starEach [e] X.env = (false, eval e X.env) :: starEach [] X.env := by rfl) : SE X Wx (.Call (.Attribute o "append" apos) [e] [] cpos) (dMeth isLst kApp fo (aCons fe aNil)) :=
  PE.imp (pe_bm PySem.F.plainAttrs_list PySem.F.slot_list_append PySem.F.type_list_append mt_append ho (ca_cons he ca_nil hs) hbase hfew hline hs) fun _ _ _ h => sem_meth ty_list ms_app h
end
end MR

set_option Elab.async false
set_option linter.all false
set_option maxRecDepth 100000
/-! MR5: one-place operations, built-ins, subscripts, slices; what is walked; for, comprehensions. -/
namespace MR
open PySem PySem.Spec PyProof.Rows L2

section
variable {X : Cx} {Wx : WX}
/-! ### built-ins of one and of two values -/
def B1 (K : PySem.W.Frag) (r : List V → Hp → VK → Prop) (op : D → Option D) : Prop := ∀ (F I : Hp) (ρ : List Addr) (S : Sto) (H : Hp) (σV : L2.St) (σ : Sl) (v : V) (a z : D) (Q : VK), RB K F I ρ S H σV σ → At K ρ I H v a → op a = some z →
  (∀ I' H' v, Gr ρ I ρ I' → RB K F I' ρ S H' σV σ → Rep K ρ I' v z → Q v H') → r [v] H Q
def B2 (K : PySem.W.Frag) (r : List V → Hp → VK → Prop) (op : D → D → Option D) : Prop := OpS K (fun x y => r [x, y]) op
theorem sem_b1 {r : List V → Hp → VK → Prop} {op : D → Option D} {f : DE} (ho : B1 X.K r op) {σV : L2.St} {H : Hp} {Q : VK} (h : semE X.K Wx (d1 op f) σV H Q) : tCB r (tCons (semE X.K Wx f) tNil) σV H Q := by
  obtain ⟨F, I, ρ, σ, S, rb, h⟩ := h
  refine ⟨F, I, ρ, σ, S, rb, post_bind h fun I1 ρ1 σ1 S1 H1 x v1 _ g1 rb1 t1 h1 => ?_⟩
  obtain ⟨z, ez, h3⟩ := post_opt h1
  obtain ⟨a, ea, ez⟩ := Option.bind_eq_some_iff.mp ez
  exact ho F I1 ρ1 S1 H1 σV σ1 v1 a z Q rb1 (rb1.at t1 ea) ez fun I' H' v g' rb' r' => h3 I' ρ1 H' v g' rb' (.inr r')
theorem c_b1 {x : Str} {id : String} {e : Expr} {p pos : Pos} {f : DE} {r : List V → Hp → VK → Prop} {op : D → Option D} (hc : CallR X (.builtin id) r) (hs : B1 X.K r op) (hm : X.mg x = none) (h : SE X Wx e f) (hv : bootBuiltins x = some (.builtin id) := by decide +kernel) (hg : Gl X x := by rfl) (hn : x ≠ "__name__" := by decide) (hdb : (x == ("__debug__" : Str)) = false := by decide)
    (he : starEach [e] X.env = (false, eval e X.env) :: starEach [] X.env := by rfl) : SE X Wx (.Call (.Name x p) [e] [] pos) (d1 op f) :=
  PE.imp (pe_callB hc hg hm hv (pa_cons h pa_nil he) hn hdb he rfl) fun _ _ _ h => sem_b1 hs h
theorem c_t1 {x : Str} {id : String} {e : Expr} {p pos : Pos} {f : DE} {r : List V → Hp → VK → Prop} {op : D → Option D} (hc : CallR X (.type id) r) (hs : B1 X.K r op) (hm : X.mg x = none) (h : SE X Wx e f) (hv : bootBuiltins x = some (.type id) := by decide +kernel) (hg : Gl X x := by rfl) (hn : x ≠ "__name__" := by decide) (hdb : (x == ("__debug__" : Str)) = false := by decide)
    (he : starEach [e] X.env = (false, eval e X.env) :: starEach [] X.env := by rfl) : SE X Wx (.Call (.Name x p) [e] [] pos) (d1 op f) :=
  PE.imp (pe_callTy hc hg hm hv (pa_cons h pa_nil he) hn hdb he rfl) fun _ _ _ h => sem_b1 hs h
theorem c_b2 {x : Str} {id : String} {e e2 : Expr} {p pos : Pos} {f g : DE} {r : List V → Hp → VK → Prop} {op : D → D → Option D} (hc : CallR X (.builtin id) r) (hs : B2 X.K r op) (hm : X.mg x = none) (h : SE X Wx e f) (k : SE X Wx e2 g) (hv : bootBuiltins x = some (.builtin id) := by decide +kernel) (hg : Gl X x := by rfl) (hn : x ≠ "__name__" := by decide) (hdb : (x == ("__debug__" : Str)) = false := by decide)
    (he : starEach [e, e2] X.env = (false, eval e X.env) :: starEach [e2] X.env := by rfl) (he2 : starEach [e2] X.env = (false, eval e2 X.env) :: starEach [] X.env := by rfl) (hpl : (backTo pos (starEach [e2] X.env)).any (·.1) = false := by rfl) : SE X Wx (.Call (.Name x p) [e, e2] [] pos) (d2 op f g) :=
  PE.imp (pe_callB hc hg hm hv (pa_cons h (pa_cons k pa_nil he2) he) hn hdb he hpl) fun σ H Q h => (sem_op (r := fun x y => r [x, y]) hs h : tOp (fun x y => r [x, y]) _ _ σ H Q)

/-! ### fresh results of one value -/
def B1F (K : PySem.W.Frag) (r : List V → Hp → VK → Prop) (op : D → Option D) : Prop := ∀ (F I : Hp) (ρ : List Addr) (S : Sto) (H : Hp) (σV : L2.St) (σ : Sl) (v : V) (a z : D) (Q : VK), RB K F I ρ S H σV σ → At K ρ I H v a → op a = some z →
  (∀ I' H' v, Gr ρ I ρ I' → RB K F I' ρ S H' σV σ → ((∃ a, v = .ref a ∧ Fresh K F I' ρ H' σV σ a z) ∨ (scalar z = true ∧ Rep K ρ I' v z)) → Q v H') → r [v] H Q
theorem sem_b1F {r : List V → Hp → VK → Prop} {op : D → Option D} {f : DE} (ho : B1F X.K r op) {σV : L2.St} {H : Hp} {Q : VK} (h : semF X.K Wx (d1 op f) σV H Q) : tCB r (tCons (semE X.K Wx f) tNil) σV H Q := by
  obtain ⟨F, I, ρ, σ, S, rb, h⟩ := h
  refine ⟨F, I, ρ, σ, S, rb, postF_bind h fun I1 ρ1 σ1 S1 H1 x v1 _ g1 rb1 t1 h1 => ?_⟩
  cases ez : (deref σ1 S1 x).bind op with
  | none => rw [ez] at h1; exact h1.elim
  | some z =>
    rw [ez] at h1
    obtain ⟨a, ea, ez⟩ := Option.bind_eq_some_iff.mp ez
    exact ho F I1 ρ1 S1 H1 σV σ1 v1 a z Q rb1 (rb1.at t1 ea) ez fun I' H' v g' rb' r' => h1 I' ρ1 H' v g' rb' r'
theorem cf_b1 {x : Str} {id : String} {e : Expr} {p pos : Pos} {f : DE} {r : List V → Hp → VK → Prop} {op : D → Option D} (hc : CallR X (.builtin id) r) (hs : B1F X.K r op) (hm : X.mg x = none) (h : SE X Wx e f) (hv : bootBuiltins x = some (.builtin id) := by decide +kernel) (hg : Gl X x := by rfl) (hn : x ≠ "__name__" := by decide) (hdb : (x == ("__debug__" : Str)) = false := by decide)
    (he : starEach [e] X.env = (false, eval e X.env) :: starEach [] X.env := by rfl) : SF X Wx (.Call (.Name x p) [e] [] pos) (d1 op f) :=
  PE.imp (pe_callB hc hg hm hv (pa_cons h pa_nil he) hn hdb he rfl) fun _ _ _ h => sem_b1F hs h
theorem cf_t1 {x : Str} {id : String} {e : Expr} {p pos : Pos} {f : DE} {r : List V → Hp → VK → Prop} {op : D → Option D} (hc : CallR X (.type id) r) (hs : B1F X.K r op) (hm : X.mg x = none) (h : SE X Wx e f) (hv : bootBuiltins x = some (.type id) := by decide +kernel) (hg : Gl X x := by rfl) (hn : x ≠ "__name__" := by decide) (hdb : (x == ("__debug__" : Str)) = false := by decide)
    (he : starEach [e] X.env = (false, eval e X.env) :: starEach [] X.env := by rfl) : SF X Wx (.Call (.Name x p) [e] [] pos) (d1 op f) :=
  PE.imp (pe_callTy hc hg hm hv (pa_cons h pa_nil he) hn hdb he rfl) fun _ _ _ h => sem_b1F hs h
end

/-! ### + * == != in -/
def toData : D → Option PyData
  | .non => some .none
  | .bl b => some (.bool b)
  | .int i => some (.int i)
  | .str x => some (.str x)
  | .tup l => (toDatas l).map .tuple
  | .lst l => (toDatas l).map .list
  | _ => none
where toDatas : List D → Option (List PyData)
  | [] => some []
  | d :: ds => (toData d).bind fun x => (toDatas ds).map fun xs => x :: xs
def deepEq (a b : D) : Option Bool := (toData a).bind fun d => (toData b).bind fun e => if SeqAt.shaped d && SeqAt.shaped e then some (PyData.eqv d e) else none
def eqD : D → D → Option Bool
  | .int i, .int j => some (decide (i = j))
  | .str i, .str j => some (decide (i = j))
  | .bl i, .bl j => some (decide (i = j))
  | .non, .non => some true
  | .non, .int _ => some false | .int _, .non => some false | .non, .str _ => some false | .str _, .non => some false | .non, .bl _ => some false | .bl _, .non => some false
  | .int _, .str _ => some false | .str _, .int _ => some false | .bl _, .str _ => some false | .str _, .bl _ => some false
  | a, b => deepEq a b
def opEq' (a b : D) : Option D := (eqD a b).map D.bl
def opNe' (a b : D) : Option D := (eqD a b).map fun x => D.bl (!x)
section
variable {K : PySem.W.Frag}
mutual
theorem Rep.dp {ρ : List Addr} {I H : Hp} (s : Sub I H) : ∀ {v : V} {w : D} {d : PyData}, Rep K ρ I v w → toData w = some d → Dp K H v d
  | _, _, _, .non, e => by cases e; exact .non
  | _, _, _, .bl, e => by cases e; exact .bl _
  | _, _, _, .int, e => by cases e; exact .int _
  | _, _, _, .str, e => by cases e; exact .str _
  | _, _, _, .tup h r, e => by
    obtain ⟨ds, e1, e2⟩ := Option.map_eq_some_iff.mp (show (toData.toDatas _).map PyData.tuple = some _ from e)
    subst e2
    exact .tup (s.sqT h) (Reps.dp s r e1)
  | _, _, _, .lst h r, e => by
    obtain ⟨ds, e1, e2⟩ := Option.map_eq_some_iff.mp (show (toData.toDatas _).map PyData.list = some _ from e)
    subst e2
    exact .lst (s.sqL (.inl (.inl h))) (Reps.dp s r e1)
  | _, _, _, .dK _ _ _, e => by cases e
  | _, _, _, .dT _ _ _, e => by cases e
  | _, _, _, .obj _, e => by cases e
  | _, _, _, .scr _, e => by cases e
theorem Reps.dp {ρ : List Addr} {I H : Hp} (s : Sub I H) : ∀ {vs : List V} {ws : List D} {ds : List PyData}, Reps K ρ I vs ws → toData.toDatas ws = some ds → DpAll K H vs ds
  | _, _, _, .nil, e => by cases e; exact .nil
  | _, _, _, .cons h r, e => by
    obtain ⟨x, e1, e2⟩ := Option.bind_eq_some_iff.mp (show (toData _).bind _ = some _ from e)
    obtain ⟨xs, e3, e4⟩ := Option.map_eq_some_iff.mp e2
    subst e4
    exact .cons (Rep.dp s h e1) (Reps.dp s r e3)
end
theorem At.dp {ρ : List Addr} {I H : Hp} (s : Sub I H) {v : V} {a : D} {d : PyData} (h : At K ρ I H v a) (e : toData a = some d) : Dp K H v d := by
  cases a with
  | non => cases h; cases e; exact .non
  | bl b => cases h; cases e; exact .bl _
  | int i => cases h; cases e; exact .int _
  | str x => cases h; cases e; exact .str _
  | tup ws =>
    obtain ⟨a, vs, rfl, h, r⟩ := h
    obtain ⟨ds, e1, e2⟩ := Option.map_eq_some_iff.mp (show (toData.toDatas _).map PyData.tuple = some _ from e)
    subst e2
    exact .tup h (Reps.dp s r e1)
  | lst ws =>
    obtain ⟨a, vs, rfl, h, r⟩ := h
    obtain ⟨ds, e1, e2⟩ := Option.map_eq_some_iff.mp (show (toData.toDatas _).map PyData.list = some _ from e)
    subst e2
    exact .lst (.inl (.inl h)) (Reps.dp s r e1)
  | _ => cases e
def rEqA (K : PySem.W.Frag) : R2 := fun x y H Q => rEq x y H Q ∨ rEqD K x y H Q
def rNeA (K : PySem.W.Frag) : R2 := fun x y H Q => rNe x y H Q ∨ rNeD K x y H Q
theorem eqD_cases {ρ : List Addr} {I H : Hp} {v1 v2 : V} {a b : D} {x : Bool} (h1 : At K ρ I H v1 a) (h2 : At K ρ I H v2 b) (e : eqD a b = some x) : (scal v1 v2 = true ∧ decide (v1 = v2) = x) ∨ deepEq a b = some x := by
  unfold eqD at e
  split at e
  all_goals first
    | (cases h1; cases h2; cases e; refine .inl ⟨rfl, ?_⟩; first | rfl | (simp))
    | exact .inr e
theorem os_eq : OpS K (rEqA K) opEq' := by
  intro F I ρ S H σV σ v1 v2 a b z Q rb h1 h2 ez q
  obtain ⟨x, e, rfl⟩ := Option.map_eq_some_iff.mp ez
  rcases eqD_cases h1 h2 e with ⟨hs, hx⟩ | hd
  · refine .inl ⟨hs, ?_⟩
    rw [hx]
    exact q I H _ Gr.refl rb .bl
  · obtain ⟨d, ed, hd⟩ := Option.bind_eq_some_iff.mp hd
    obtain ⟨d', ed', hd⟩ := Option.bind_eq_some_iff.mp hd
    split at hd
    · rename_i hsh
      obtain ⟨s1, s2⟩ := Bool.and_eq_true_iff.mp hsh
      cases hd
      exact .inr ⟨d, d', h1.dp rb.sub ed, h2.dp rb.sub ed', s1, s2, q I H _ Gr.refl rb .bl⟩
    · cases hd
theorem os_ne : OpS K (rNeA K) opNe' := by
  intro F I ρ S H σV σ v1 v2 a b z Q rb h1 h2 ez q
  obtain ⟨x, e, rfl⟩ := Option.map_eq_some_iff.mp ez
  rcases eqD_cases h1 h2 e with ⟨hs, hx⟩ | hd
  · refine .inl ⟨hs, ?_⟩
    rw [hx]
    exact q I H _ Gr.refl rb .bl
  · obtain ⟨d, ed, hd⟩ := Option.bind_eq_some_iff.mp hd
    obtain ⟨d', ed', hd⟩ := Option.bind_eq_some_iff.mp hd
    split at hd
    · rename_i hsh
      obtain ⟨s1, s2⟩ := Bool.and_eq_true_iff.mp hsh
      cases hd
      exact .inr ⟨d, d', h1.dp rb.sub ed, h2.dp rb.sub ed', s1, s2, q I H _ Gr.refl rb .bl⟩
    · cases hd
/-- a + b -/
def rAddA (K : PySem.W.Frag) : R2 := fun x y H Q => rI0 (fun i j => .int (i + j)) x y H Q ∨ ((∃ i j, x = .str i ∧ y = .str j ∧ i.length + j.length ≤ sizeLine ∧ Q (.str (i ++ j)) H) ∨ (rCat x y H Q ∨ rCatT K x y H Q))
theorem op_addA {X : Cx} : OpR X (binaryOp .Add) (rAddA X.K) := op_add.or (op_add_str.or (op_cat.or op_catT))
theorem os_add : OpS K (rAddA K) opAdd := by
  intro F I ρ S H σV σ v1 v2 a b z Q rb h1 h2 ez q
  unfold opAdd at ez
  split at ez
  · cases h1; cases h2; cases ez
    exact .inl ⟨_, _, rfl, rfl, q I H _ Gr.refl rb .int⟩
  · cases h1; cases h2
    split at ez
    · rename_i hl
      cases ez
      exact .inr (.inl ⟨_, _, rfl, rfl, by rw [← most_eq]; exact hl, q I H _ Gr.refl rb .str⟩)
    · cases ez
  · obtain ⟨a, vs, rfl, ha, ra⟩ := h1
    obtain ⟨b, ws, rfl, hb, rb'⟩ := h2
    split at ez
    · rename_i hl
      cases ez
      refine .inr (.inr (.inl ⟨a, b, vs, ws, rfl, rfl, ha, hb, by rw [ra.length, rb'.length, ← most_eq]; exact hl, fun p hp => ?_⟩))
      obtain ⟨g, rb2⟩ := rb.new (o := .lst (vs ++ ws)) hp
      exact q _ _ _ g rb2 (.lst upd_same ((ra.append rb').gr g))
    · cases ez
  · obtain ⟨a, vs, rfl, ha, ra⟩ := h1
    obtain ⟨b, ws, rfl, hb, rb'⟩ := h2
    split at ez
    · rename_i hl
      cases ez
      refine .inr (.inr (.inr ⟨a, b, vs, ws, rfl, rfl, ha, hb, fun z => hl.1 (by rw [← ra.length, z]; rfl), by rw [ra.length, rb'.length, ← most_eq]; exact hl.2.2, fun z => absurd (by rw [← rb'.length, z]; rfl) hl.2.1, fun _ p hp => ?_⟩))
      obtain ⟨g, rb2⟩ := rb.new (o := .tup (vs ++ ws)) hp
      exact q _ _ _ g rb2 (.tup (.inl (.inl upd_same)) ((ra.append rb').gr g))
    · cases ez
  · cases ez
theorem os_mul : OpS K (rI CMulW fun i j => .int (i * j)) opMul := ops_int fun a b z e => by
  unfold opMul at e; split at e
  · split at e
    · cases e; exact ⟨_, _, rfl, rfl, by assumption, fun _ _ => .int⟩
    · cases e
  · cases e
def opPow : D → D → Option D
  | .int i, .int j => if 0 ≤ j ∧ j ≤ 1000000 ∧ i.natAbs < 2 ^ 64 then some (.int (i ^ j.toNat)) else none
  | _, _ => none
theorem os_pow : OpS K (rI CPow fun i j => .int (i ^ j.toNat)) opPow := ops_int fun a b z e => by
  unfold opPow at e; split at e
  · split at e
    · cases e; exact ⟨_, _, rfl, rfl, by assumption, fun _ _ => .int⟩
    · cases e
  · cases e
/-! ### subscripts -/
def opIx : D → D → Option D
  | .lst xs, .int i => atI xs i
  | .tup xs, .int i => atI xs i
  | .str z, .int i => if z.length ≤ most then (atI z.cps.toList i).map fun c => .str ⟨#[c]⟩ else none
  | _, _ => none
theorem Reps.atI {ρ : List Addr} {I : Hp} {vs : List V} {ws : List D} {i : Int} {w : D} (r : Reps K ρ I vs ws) (e : L2.atI ws i = some w) : ∃ v, L2.atI vs i = some v ∧ Rep K ρ I v w := by
  unfold L2.atI at e ⊢
  rw [r.length]
  obtain ⟨j, e1, e2⟩ := Option.bind_eq_some_iff.mp e
  obtain ⟨v, e3, rv⟩ := r.get e2
  exact ⟨v, by rw [e1]; exact e3, rv⟩
theorem os_ix : OpS K (rIx K) opIx := by
  intro F I ρ S H σV σ v1 v2 a b z Q rb h1 h2 ez q
  unfold opIx at ez
  split at ez
  · obtain ⟨a, vs, rfl, ha, ra⟩ := h1
    cases h2
    obtain ⟨v, ev, rv⟩ := ra.atI ez
    exact .inl ⟨a, vs, _, v, rfl, rfl, SqL_at ha, ev, q I H v Gr.refl rb rv⟩
  · obtain ⟨a, vs, rfl, ha, ra⟩ := h1
    cases h2
    obtain ⟨v, ev, rv⟩ := ra.atI ez
    exact .inr (.inl ⟨a, vs, _, v, rfl, rfl, ha, ev, q I H v Gr.refl rb rv⟩)
  · cases h1; cases h2
    split at ez
    · rename_i hl
      obtain ⟨c, ec, rfl⟩ := Option.map_eq_some_iff.mp ez
      exact .inr (.inr ⟨_, _, c, rfl, rfl, by rw [← most_eq]; exact hl, ec, q I H _ Gr.refl rb .str⟩)
    · cases ez
  · cases ez
theorem c_ix {X : Cx} {Wx : WX} {a b : Expr} {pos : Pos} {f g : DE} (ha : SE X Wx a f) (hb : SE X Wx b g) (hs : PlainIx b := by intro _ _; rfl) : SE X Wx (.Subscript a b pos) (d2 opIx f g) :=
  PE.imp (pe_ix ix_seq ha hb hs) fun _ _ _ h => sem_op os_ix h
/-! ### built-ins -/
def opLen0 : D → Option D
  | .lst xs => some (.int xs.length)
  | .tup xs => some (.int xs.length)
  | .str z => if z.length ≤ most then some (.int z.length) else none
  | _ => none
theorem b_len0 : B1 K (fun xs H Q => ∃ x n, xs = [x] ∧ LenV K x H n ∧ Q (.int n) H) opLen0 := by
  intro F I ρ S H σV σ v a z Q rb h ez q
  unfold opLen0 at ez
  split at ez
  · obtain ⟨a, vs, rfl, ha, ra⟩ := h
    cases ez
    exact ⟨_, _, rfl, .inl ⟨vs, SqL_at ha, rfl⟩, q I H _ Gr.refl rb (by rw [ra.length]; exact .int)⟩
  · obtain ⟨a, vs, rfl, ha, ra⟩ := h
    cases ez
    exact ⟨_, _, rfl, .inr ⟨vs, ha, rfl⟩, q I H _ Gr.refl rb (by rw [ra.length]; exact .int)⟩
  · cases h
    split at ez
    · rename_i hl
      cases ez
      exact ⟨_, _, rfl, ⟨by rw [← most_eq]; exact hl, rfl⟩, q I H _ Gr.refl rb .int⟩
    · cases ez
  · cases ez
def opLen : D → Option D
  | .lst xs => some (.int xs.length)
  | .tup xs => some (.int xs.length)
  | .str z => if z.length ≤ most then some (.int z.length) else none
  | .dK l => some (.int l.length)
  | _ => none
theorem call_lenA {X : Cx} : CallR X (.builtin "len") (fun xs H Q => (∃ x n, xs = [x] ∧ LenV X.K x H n ∧ Q (.int n) H) ∨ ∃ a kvs, xs = [V.ref a] ∧ Rd H a (.dK kvs) ∧ Q (.int kvs.length) H) := by
  intro pins s σ H xs us Q I r h
  rcases h with h | ⟨a, kvs, rfl, ha, q⟩
  · exact call_len pins s σ H xs us Q I r h
  · obtain ⟨u, rfl, ru⟩ := vals1 r
    cases ru
    exact d_len I ha fun t s' I' => ⟨.int kvs.length, H, I', ⟨t, rfl⟩, q⟩
theorem b_len : B1 K (fun xs H Q => (∃ x n, xs = [x] ∧ LenV K x H n ∧ Q (.int n) H) ∨ ∃ a kvs, xs = [V.ref a] ∧ Rd H a (.dK kvs) ∧ Q (.int kvs.length) H) opLen := by
  intro F I ρ S H σV σ v a z Q rb h ez q
  cases a with
  | dK l =>
    cases ez
    obtain ⟨b, kvs, rfl, ha, e, r⟩ := h
    have el : kvs.length = l.length := by
      have := congrArg List.length e
      rwa [List.length_map, List.length_map] at this
    exact .inr ⟨b, kvs, rfl, ha, by rw [el]; exact q I H _ Gr.refl rb .int⟩
  | _ =>
    refine .inl ?_
    exact b_len0 F I ρ S H σV σ v _ z Q rb h ez q
def opAbs : D → Option D
  | .int i => some (.int (if i < 0 then -i else i))
  | _ => none
theorem b_abs : B1 K (fun xs H Q => ∃ i, xs = [.int i] ∧ Q (.int (if i < 0 then -i else i)) H) opAbs := by
  intro F I ρ S H σV σ v a z Q rb h ez q
  unfold opAbs at ez
  split at ez
  · cases h; cases ez
    exact ⟨_, rfl, q I H _ Gr.refl rb .int⟩
  · cases ez
def opMin : D → D → Option D
  | .int i, .int j => some (.int (if j < i then j else i))
  | _, _ => none
def opMax : D → D → Option D
  | .int i, .int j => some (.int (if j > i then j else i))
  | _, _ => none
theorem b_min : B2 K (fun xs H Q => ∃ i j, xs = [.int i, .int j] ∧ Q (.int (if j < i then j else i)) H) opMin := by
  intro F I ρ S H σV σ v1 v2 a b z Q rb h1 h2 ez q
  unfold opMin at ez
  split at ez
  · cases h1; cases h2; cases ez
    exact ⟨_, _, rfl, q I H _ Gr.refl rb .int⟩
  · cases ez
theorem b_max : B2 K (fun xs H Q => ∃ i j, xs = [.int i, .int j] ∧ Q (.int (if j > i then j else i)) H) opMax := by
  intro F I ρ S H σV σ v1 v2 a b z Q rb h1 h2 ez q
  unfold opMax at ez
  split at ez
  · cases h1; cases h2; cases ez
    exact ⟨_, _, rfl, q I H _ Gr.refl rb .int⟩
  · cases ez
def bools : List D → Option (List Bool)
  | [] => some []
  | .bl b :: r => (bools r).map fun bs => b :: bs
  | _ => none
theorem Reps.bools {ρ : List Addr} {I : Hp} : ∀ {vs : List V} {ws : List D} {bs : List Bool}, Reps K ρ I vs ws → MR.bools ws = some bs → vs = bs.map V.bl
  | _, _, _, .nil, e => by cases e; rfl
  | _, _, _, .cons h r, e => by
    unfold MR.bools at e
    split at e
    · rename_i h1; cases h1
    · rename_i b rest h1
      cases h1
      obtain ⟨bs, e1, rfl⟩ := Option.map_eq_some_iff.mp e
      cases h
      rw [Reps.bools r e1]
      rfl
    · cases e
def opAll : D → Option D
  | .lst xs => (bools xs).map fun bs => .bl (bs.all id)
  | _ => none
def opAny : D → Option D
  | .lst xs => (bools xs).map fun bs => .bl (bs.any id)
  | _ => none
theorem b_all : B1 K (rAll K) opAll := by
  intro F I ρ S H σV σ v a z Q rb h ez q
  unfold opAll at ez
  split at ez
  · obtain ⟨a, vs, rfl, ha, ra⟩ := h
    obtain ⟨bs, e, rfl⟩ := Option.map_eq_some_iff.mp ez
    have := ra.bools e
    subst this
    exact ⟨a, bs, rfl, SqL_at ha, q I H _ Gr.refl rb .bl⟩
  · cases ez
theorem b_any : B1 K (rAny K) opAny := by
  intro F I ρ S H σV σ v a z Q rb h ez q
  unfold opAny at ez
  split at ez
  · obtain ⟨a, vs, rfl, ha, ra⟩ := h
    obtain ⟨bs, e, rfl⟩ := Option.map_eq_some_iff.mp ez
    have := ra.bools e
    subst this
    exact ⟨a, bs, rfl, SqL_at ha, q I H _ Gr.refl rb .bl⟩
  · cases ez
/-- int(text) -/
def opIntS : D → Option D
  | .str a => if a.length ≤ 640 then (PySem.intText? a).map D.int else none
  | .int i => some (.int i)
  | .bl k => some (.int (if k then 1 else 0))
  | _ => none
def rIntA : List V → Hp → VK → Prop := fun xs H Q => (∃ a n, xs = [.str a] ∧ PySem.intText? a = some n ∧ a.length ≤ 640 ∧ Q (.int n) H) ∨ ((∃ i, xs = [.int i] ∧ Q (.int i) H) ∨ ∃ k, xs = [.bl k] ∧ Q (.int (if k then 1 else 0)) H)
theorem call_intA {X : Cx} : CallR X (.type "int") rIntA := by
  intro pins s σ H xs us Q I r h
  rcases h with h | h
  · exact call_int_str pins s σ H xs us Q I r h
  · exact call_int1 pins s σ H xs us Q I r h
theorem b_int : B1 K rIntA opIntS := by
  intro F I ρ S H σV σ v a z Q rb h ez q
  unfold opIntS at ez
  split at ez
  · cases h
    split at ez
    · rename_i hl
      obtain ⟨n, e, rfl⟩ := Option.map_eq_some_iff.mp ez
      exact .inl ⟨_, n, rfl, e, hl, q I H _ Gr.refl rb .int⟩
    · cases ez
  · cases h; cases ez
    exact .inr (.inl ⟨_, rfl, q I H _ Gr.refl rb .int⟩)
  · cases h; cases ez
    exact .inr (.inr ⟨_, rfl, q I H _ Gr.refl rb .int⟩)
  · cases ez
end
end MR

set_option Elab.async false
set_option linter.all false
set_option maxRecDepth 100000
/-! MR6: is None, isinstance, slices; targets; what is walked; for; comprehensions. -/
namespace MR
open PySem PySem.Spec PyProof.Rows L2

section
variable {X : Cx} {Wx : WX}
/-! ### is None -/
def isN : D → Bool
  | .non => true
  | _ => false
def dIsN (f : DE) : DE := fun σ S => (f σ S).bind fun x σ S => .ok (.bl (isN x)) σ S
def dNotN (f : DE) : DE := fun σ S => (f σ S).bind fun x σ S => .ok (.bl (!isN x)) σ S
theorem TRep.isN {K : PySem.W.Frag} {F I : Hp} {ρ : List Addr} {S : Sto} {H : Hp} {σV : L2.St} {σ : Sl} {v : V} {x : D} (rb : RB K F I ρ S H σV σ) (t : TRep K ρ I σV v x) (hl : ∀ i, x = .loc i → ∃ c, σ[i]? = some (.own c)) : decide (v = V.non) = MR.isN x := by
  rcases t with ⟨i, rfl, hv⟩ | t
  · obtain ⟨c, hc⟩ := hl i rfl
    obtain ⟨a, ha, _⟩ := rb.slot i _ hc
    rw [hv] at ha
    cases ha
    rfl
  · cases t <;> rfl
theorem sem_isN {f : DE} {σV : L2.St} {H : Hp} {Q : VK} (h : semE X.K Wx (dIsN (dV f)) σV H Q) : tIsN (semV X.K Wx (dV f)) σV H Q := by
  obtain ⟨F, I, ρ, σ, S, rb, h⟩ := h
  refine ⟨F, I, ρ, σ, S, rb, post_bind h fun I1 ρ1 σ1 S1 H1 x v1 _ g1 rb1 t1 h1 => ?_⟩
  have e : decide (v1 = V.non) = MR.isN x := by cases t1 <;> rfl
  rw [e]
  exact h1 I1 ρ1 H1 _ Gr.refl rb1 (.inr .bl)
theorem sem_notN {f : DE} {σV : L2.St} {H : Hp} {Q : VK} (h : semE X.K Wx (dNotN (dV f)) σV H Q) : tNotN (semV X.K Wx (dV f)) σV H Q := by
  obtain ⟨F, I, ρ, σ, S, rb, h⟩ := h
  refine ⟨F, I, ρ, σ, S, rb, post_bind h fun I1 ρ1 σ1 S1 H1 x v1 _ g1 rb1 t1 h1 => ?_⟩
  have e : decide (v1 = V.non) = MR.isN x := by cases t1 <;> rfl
  rw [e]
  exact h1 I1 ρ1 H1 _ Gr.refl rb1 (.inr .bl)
theorem c_isN {a : Expr} {j : Nat} {pos pos' : Pos} {f : DE} (h : SE X Wx a f) : SE X Wx (.Compare a [.Is] [.Constant .none j pos'] pos) (dIsN (dV f)) := PE.imp (pe_cmp (pc_isN (c_v h))) fun _ _ _ h => sem_isN h
theorem c_notN {a : Expr} {j : Nat} {pos pos' : Pos} {f : DE} (h : SE X Wx a f) : SE X Wx (.Compare a [.IsNot] [.Constant .none j pos'] pos) (dNotN (dV f)) := PE.imp (pe_cmp (pc_notN (c_v h))) fun _ _ _ h => sem_notN h
theorem ct_isN {a : Expr} {j : Nat} {pos pos' : Pos} {f : DE} (h : SE X Wx a f) : ST X Wx (.Compare a [.Is] [.Constant .none j pos'] pos) (tVal (dIsN (dV f))) := PT.imp (pt_cmp (pc_isN (c_v h))) fun _ _ _ h => sem_isN (sem_tval h)
theorem ct_notN {a : Expr} {j : Nat} {pos pos' : Pos} {f : DE} (h : SE X Wx a f) : ST X Wx (.Compare a [.IsNot] [.Constant .none j pos'] pos) (tVal (dNotN (dV f))) := PT.imp (pt_cmp (pc_notN (c_v h))) fun _ _ _ h => sem_notN (sem_tval h)

/-! ### isinstance(e, T), T a built-in class -/
inductive Kd where
  | int | bool | str | tuple | list | dict
def Kd.nm : Kd → String
  | .int => "int" | .bool => "bool" | .str => "str" | .tuple => "tuple" | .list => "list" | .dict => "dict"
def isiD : Kd → D → Option Bool
  | .int, .int _ => some true | .int, .bl _ => some true
  | .bool, .bl _ => some true
  | .str, .str _ => some true
  | .tuple, .tup _ => some true
  | .list, .lst _ => some true
  | .dict, .dK _ => some true
  | _, .non => some false | _, .bl _ => some false | _, .int _ => some false | _, .str _ => some false | _, .tup _ => some false | _, .lst _ => some false | _, .dK _ => some false
  | _, _ => none
def opIsi (k : Kd) (a : D) : Option D := (isiD k a).map D.bl
def rIsi1 (K : PySem.W.Frag) (c : V) : V → Hp → VK → Prop := fun x H Q => rIsi K [x, c] H Q
theorem SqT_ty {K : PySem.W.Frag} {H : Hp} {a : Addr} {vs : List V} (h : SqT K H a vs) : TyX K H (.ref a) (.type "tuple") := by
  rcases h with (h | ⟨o, h⟩) | h
  · exact .base (.tup h)
  · exact .fTuple h
  · obtain ⟨o, its, n, h1, h2, _⟩ := h
    exact .kTuple h1 h2
theorem os_isi {K : PySem.W.Frag} (k : Kd) {F I : Hp} {ρ : List Addr} {S : Sto} {H : Hp} {σV : L2.St} {σ : Sl} {v : V} {a z : D} {Q : VK} (rb : RB K F I ρ S H σV σ) (h : At K ρ I H v a) (ez : opIsi k a = some z) (q : ∀ v, Rep K ρ I v z → Q v H) : rIsi K [v, .ty k.nm] H Q := by
  obtain ⟨b, eb, rfl⟩ := Option.map_eq_some_iff.mp ez
  cases a with
  | non => cases h; cases k <;> cases eb <;> exact ⟨_, _, _, _, _, rfl, .ty _, .base .non, kit_ty (by decide +kernel), q _ .bl⟩
  | bl b => cases h; cases k <;> cases eb <;> exact ⟨_, _, _, _, _, rfl, .ty _, .base (.bl _), kit_ty (by decide +kernel), q _ .bl⟩
  | int i => cases h; cases k <;> cases eb <;> exact ⟨_, _, _, _, _, rfl, .ty _, .base (.int _), kit_ty (by decide +kernel), q _ .bl⟩
  | str x => cases h; cases k <;> cases eb <;> exact ⟨_, _, _, _, _, rfl, .ty _, .base (.str _), kit_ty (by decide +kernel), q _ .bl⟩
  | tup ws => obtain ⟨a, vs, rfl, h, _⟩ := h; cases k <;> cases eb <;> exact ⟨_, _, _, _, _, rfl, .ty _, SqT_ty h, kit_ty (by decide +kernel), q _ .bl⟩
  | lst ws => obtain ⟨a, vs, rfl, h, _⟩ := h; cases k <;> cases eb <;> exact ⟨_, _, _, _, _, rfl, .ty _, .base (.lst h), kit_ty (by decide +kernel), q _ .bl⟩
  | dK ws =>
    obtain ⟨a, kvs, rfl, h, _⟩ := h
    have ty : TyX K H (.ref a) (.type "dict") := by
      rcases h with h | ⟨o, h⟩
      · exact .base (.dK h)
      · exact .fDict h
    cases k <;> cases eb <;> exact ⟨_, _, _, _, _, rfl, .ty _, ty, kit_ty (by decide +kernel), q _ .bl⟩
  | _ => cases k <;> cases eb
theorem sem_isi {k : Kd} {f : DE} {σV : L2.St} {H : Hp} {Q : VK} (h : semE X.K Wx (d1 (opIsi k) f) σV H Q) : tCB (rIsi X.K) (tCons (semE X.K Wx f) (tCons (tC (.ty k.nm)) tNil)) σV H Q := by
  obtain ⟨F, I, ρ, σ, S, rb, h⟩ := h
  refine ⟨F, I, ρ, σ, S, rb, post_bind h fun I1 ρ1 σ1 S1 H1 x v1 _ g1 rb1 t1 h1 => ?_⟩
  obtain ⟨z, ez, h3⟩ := post_opt h1
  obtain ⟨a, ea, ez⟩ := Option.bind_eq_some_iff.mp ez
  exact os_isi k rb1 (rb1.at t1 ea) ez fun v r => h3 I1 ρ1 H1 v Gr.refl rb1 (.inr r)
theorem c_isi (k : Kd) {e : Expr} {p q pos : Pos} {f : DE} (hm : X.mg "isinstance" = none) (hk : X.mg (Str.ofString k.nm) = none) (h : SE X Wx e f) (hv : bootBuiltins (Str.ofString k.nm) = some (.type k.nm) := by decide +kernel) (hg : Gl X "isinstance" := by rfl) (hg2 : Gl X (Str.ofString k.nm) := by rfl) (hn : (Str.ofString k.nm) ≠ "__name__" := by decide) (hdb : (Str.ofString k.nm == ("__debug__" : Str)) = false := by decide)
    (he : starEach [e, .Name (Str.ofString k.nm) q] X.env = (false, eval e X.env) :: starEach [.Name (Str.ofString k.nm) q] X.env := by rfl) (hpl : (backTo pos (starEach [.Name (Str.ofString k.nm) q] X.env)).any (·.1) = false := by rfl) :
    SE X Wx (.Call (.Name "isinstance" p) [e, .Name (Str.ofString k.nm) q] [] pos) (d1 (opIsi k) f) :=
  PE.imp (pe_callB call_isi hg hm (by decide +kernel) (pa_cons h (pa_cons (pe_bltn (v := .ty k.nm) hg2 hk hv rfl hn hdb) pa_nil) he) (by decide) (by decide) he hpl) fun _ _ _ h => sem_isi h

/-! ### slices -/
def cutL {α : Type} (xs : List α) (lo hi : Option Int) : List α := (xs.drop (HT.sIx xs.length 0 lo)).take (HT.sIx xs.length xs.length hi - HT.sIx xs.length 0 lo)
theorem cutL_len {α : Type} (xs : List α) (lo hi : Option Int) : (cutL xs lo hi).length ≤ xs.length := by
  unfold cutL
  rw [List.length_take, List.length_drop]
  omega
def opSl : D → Option Int → Option Int → Option D
  | .lst xs, lo, hi => some (.lst (cutL xs lo hi))
  | .scr ns, lo, hi => some (.lst ((cutL ns lo hi).map D.int))
  | .tup xs, lo, hi => if HT.sIx xs.length 0 lo = 0 ∧ HT.sIx xs.length xs.length hi = xs.length then none else some (.tup (cutL xs lo hi))
  | .str z, lo, hi => if z.length ≤ most then some (.str (cutS z lo hi)) else none
  | _, _, _ => none
/-- a slice's part: left out, or an int -/
abbrev DO := Sl → Sto → Res (Option Int)
def oNone : DO := fun σ S => .ok none σ S
def oSome (f : DE) : DO := fun σ S => (f σ S).bind fun x σ S => match x with
  | .int i => .ok (some i) σ S
  | _ => .fail
abbrev semO (K : PySem.W.Frag) (Wx : WX) (f : DO) : TO := semR K Wx (fun _ _ _ b a => b = a) f
abbrev SO (X : Cx) (Wx : WX) (e : Option Expr) (f : DO) : Prop := PO X e (semO X.K Wx f)
theorem _root_.L2.PO.imp {X : Cx} {e : Option Expr} {t t' : TO} (h : PO X e t) (i : ∀ σ H Q, t' σ H Q → t σ H Q) : PO X e t' := ⟨fun pins s σ H Q I q => h.run pins s σ H Q I (i _ _ _ q)⟩
theorem co_none : SO X Wx none oNone := PO.imp po_none fun σV H Q h => by
  obtain ⟨F, I, ρ, σ, S, rb, h⟩ := h
  exact h I ρ H none Gr.refl rb rfl
theorem co_some {e : Expr} {f : DE} (h : SE X Wx e f) : SO X Wx (some e) (oSome f) := PO.imp (po_some h) fun σV H Q h => by
  obtain ⟨F, I, ρ, σ, S, rb, h⟩ := h
  refine ⟨F, I, ρ, σ, S, rb, post_bind h fun I1 ρ1 σ1 S1 H1 x v1 _ g1 rb1 t1 h1 => ?_⟩
  rcases t1 with ⟨i, rfl, _⟩ | t1
  · exact h1.elim
  · cases t1 with
    | int => exact ⟨_, rfl, h1 I1 ρ1 H1 _ Gr.refl rb1 rfl⟩
    | _ => exact h1.elim
def dSl (f : DE) (lo hi : DO) : DE := fun σ S => (f σ S).bind fun x σ S => (lo σ S).bind fun l σ S => (hi σ S).bind fun u σ S => ofOpt ((deref σ S x).bind fun a => opSl a l u) σ S
def rSlA (K : PySem.W.Frag) : V → Option Int → Option Int → Hp → VK → Prop := fun x lo hi H Q => rSlL K x lo hi H Q ∨ (rSlT K x lo hi H Q ∨ (∃ z, x = .str z ∧ z.length ≤ sizeLine ∧ Q (.str (cutS z lo hi)) H))
theorem Reps.cut {K : PySem.W.Frag} {ρ : List Addr} {I : Hp} {vs : List V} {ws : List D} (r : Reps K ρ I vs ws) (lo hi : Option Int) : Reps K ρ I (cutV vs lo hi) (cutL ws lo hi) := by
  unfold cutV cutL
  rw [r.length]
  exact (r.drop _).take _
theorem cutV_map (ns : List Int) (lo hi : Option Int) : cutV (ns.map V.int) lo hi = (cutL ns lo hi).map V.int := by
  unfold cutV cutL
  rw [List.length_map, List.map_take, List.map_drop]
theorem Reps.ints {K : PySem.W.Frag} {ρ : List Addr} {I : Hp} : ∀ ns : List Int, Reps K ρ I (ns.map V.int) (ns.map D.int)
  | [] => .nil
  | _ :: r => .cons .int (Reps.ints r)
theorem sl_all : SlR X (rSlA X.K) := sl_list.or (sl_tup.or sl_str)
theorem cf_sl {e : Expr} {lo hi : Option Expr} {p2 pos : Pos} {f : DE} {l u : DO} (h : SE X Wx e f) (hl : SO X Wx lo l) (hu : SO X Wx hi u) : SF X Wx (.Subscript e (.Slice lo hi none p2) pos) (dSl f l u) := by
  refine PE.imp (pe_slice sl_all h hl hu) fun σV H Q h => ?_
  obtain ⟨F, I, ρ, σ, S, rb, h⟩ := h
  refine ⟨F, I, ρ, σ, S, rb, postF_bind h fun I1 ρ1 σ1 S1 H1 x v1 _ g1 rb1 t1 h1 => ?_⟩
  refine ⟨F, I1, ρ1, σ1, S1, rb1, postF_bind h1 fun I2 ρ2 σ2 S2 H2 a2 b2 _ g2 rb2 t2 h2 => ?_⟩
  subst t2
  refine ⟨F, I2, ρ2, σ2, S2, rb2, postF_bind h2 fun I3 ρ3 σ3 S3 H3 a3 b3 _ g3 rb3 t3 h3 => ?_⟩
  subst t3
  cases ez : (deref σ3 S3 x).bind fun a => opSl a b2 b3 with
  | none => rw [ez] at h3; exact h3.elim
  | some z =>
    rw [ez] at h3
    obtain ⟨a, ea, ez⟩ := Option.bind_eq_some_iff.mp ez
    have hat := rb3.at ((t1.gr g2).gr g3) ea
    unfold opSl at ez
    split at ez
    · cases ez
      obtain ⟨a, vs, rfl, ha, ra⟩ := hat
      refine .inl ⟨a, vs, rfl, SqL_at ha, fun p hp => ?_⟩
      obtain ⟨rb4, nf, ni, nr, no⟩ := rb3.newO (o := .lst (cutV vs b2 b3)) hp
      exact h3 _ ρ3 _ _ Gr.refl rb4 (.inl ⟨p, rfl, nf, ni, nr, no, _, upd_same, ra.cut _ _⟩)
    · cases ez
      obtain ⟨a, rfl, ha⟩ := hat
      refine .inl ⟨a, _, rfl, ha, fun p hp => ?_⟩
      obtain ⟨rb4, nf, ni, nr, no⟩ := rb3.newO (o := .lst (cutV _ b2 b3)) hp
      exact h3 _ ρ3 _ _ Gr.refl rb4 (.inl ⟨p, rfl, nf, ni, nr, no, _, upd_same, by rw [cutV_map]; exact Reps.ints _⟩)
    · split at ez
      · cases ez
      · rename_i hw
        cases ez
        obtain ⟨a, vs, rfl, ha, ra⟩ := hat
        refine .inr (.inl ⟨a, vs, rfl, ha, by rw [ra.length]; exact hw, fun p hp => ?_⟩)
        obtain ⟨g4, rb4⟩ := rb3.new (o := .tup (cutV vs b2 b3)) hp
        exact h3 _ ρ3 _ _ g4 rb4 (.inr ⟨rfl, .tup (.inl (.inl upd_same)) ((ra.cut _ _).gr g4)⟩)
    · cases hat
      split at ez
      · rename_i hl
        cases ez
        exact .inr (.inr ⟨_, rfl, by rw [← most_eq]; exact hl, h3 I3 ρ3 H3 _ Gr.refl rb3 (.inr ⟨rfl, .str⟩)⟩)
      · cases ez
    · cases ez

/-! ### targets -/
abbrev DG := D → Sl → Option Sl
abbrev DGs := List D → Sl → Option Sl
def gN (i : Nat) : DG := fun d σ => some (σ.set i (.val d))
def gsNil : DGs := fun ds σ => match ds with
  | [] => some σ
  | _ => none
def gsCons (g : DG) (gs : DGs) : DGs := fun ds σ => match ds with
  | d :: r => (g d σ).bind fun σ' => gs r σ'
  | [] => none
def gT (n : Nat) (gs : DGs) : DG := fun d σ => match d with
  | .tup ws => if ws.length = n then gs ws σ else none
  | _ => none
end
end MR

set_option Elab.async false
set_option linter.all false
set_option maxRecDepth 100000
/-! MR7: targets; what is walked; for; comprehensions. -/
namespace MR
open PySem PySem.Spec PyProof.Rows L2

theorem _root_.L2.PG.imp {X : Cx} {e : Expr} {t t' : TG} (h : PG X e t) (i : ∀ v σ H Q, t' v σ H Q → t v σ H Q) : PG X e t' := ⟨fun pins s σ H v u Q I r q => h.run pins s σ H v u Q I r (i _ _ _ _ q)⟩
theorem _root_.L2.PGs.imp {X : Cx} {e : List Expr} {t t' : TGs} (h : PGs X e t) (i : ∀ v σ H Q, t' v σ H Q → t v σ H Q) : PGs X e t' := ⟨fun pins s σ H v u Q I r q => h.run pins s σ H v u Q I r (i _ _ _ _ q)⟩
theorem _root_.L2.PI.imp {X : Cx} {tg e : Expr} {t t' : TI} (h : PI X tg e t) (i : ∀ σ H Q, t' σ H Q → t σ H Q) : PI X tg e t' := ⟨fun pins s σ H Q I q => h.run pins s σ H Q I (i _ _ _ q)⟩
theorem _root_.L2.PTs.imp {X : Cx} {e : List Expr} {t t' : TT} (h : PTs X e t) (i : ∀ σ H Q, t' σ H Q → t σ H Q) : PTs X e t' := ⟨fun pins s σ H Q I q => h.run pins s σ H Q I (i _ _ _ q)⟩
section
variable {X : Cx} {Wx : WX}
theorem wipe_get (σ : L2.St) : ∀ (vs : List Nat) (j : Nat), (wipe σ vs)[j]? = if j ∈ vs then (σ[j]?).map (fun _ => none) else σ[j]?
  | [], j => by simp [wipe]
  | v :: vs, j => by
    unfold wipe
    by_cases e : v = j
    · subst e
      rw [if_pos (List.mem_cons_self ..)]
      by_cases lt : v < (wipe σ vs).length
      · rw [List.getElem?_set_self lt]
        rw [wipe_length] at lt
        rw [List.getElem?_eq_getElem lt]
        rfl
      · rw [List.getElem?_eq_none (by rw [List.length_set]; omega)]
        rw [wipe_length] at lt
        rw [List.getElem?_eq_none (by omega)]
        rfl
    · rw [List.getElem?_set_ne e, wipe_get σ vs j]
      have : (j ∈ v :: vs) ↔ j ∈ vs := by
        rw [List.mem_cons]
        exact ⟨fun h => h.elim (fun z => absurd z.symm e) id, .inr⟩
      by_cases h : j ∈ vs
      · rw [if_pos h, if_pos (this.mpr h)]
      · rw [if_neg h, if_neg (fun z => h (this.mp z))]
theorem wipe_set {σ : L2.St} {vs : List Nat} {i : Nat} {x : Option V} (h : i ∈ vs) : wipe (σ.set i x) vs = wipe σ vs := by
  apply List.ext_getElem?
  intro j
  rw [wipe_get, wipe_get]
  by_cases hj : j ∈ vs
  · rw [if_pos hj, if_pos hj]
    by_cases e : i = j
    · subst e
      by_cases lt : i < σ.length
      · rw [List.getElem?_set_self lt, List.getElem?_eq_getElem lt]
        rfl
      · rw [List.getElem?_eq_none (by rw [List.length_set]; omega), List.getElem?_eq_none (by omega)]
    · rw [List.getElem?_set_ne e]
  · have ne : i ≠ j := fun e => by subst e; exact hj h
    rw [if_neg hj, if_neg hj, List.getElem?_set_ne ne]
/-- vs: the slots that the target may set -/
def semG (K : PySem.W.Frag) (vs : List Nat) (g : DG) : TG := fun v σV H Q => ∃ F I ρ σ S d σ', RB K F I ρ S H σV σ ∧ Rep K ρ I v d ∧ g d σ = some σ' ∧ ∀ σV', wipe σV' vs = wipe σV vs → RB K F I ρ S H σV' σ' → Q σV' H
def semGs (K : PySem.W.Frag) (vs : List Nat) (g : DGs) : TGs := fun us σV H Q => ∃ F I ρ σ S ds σ', RB K F I ρ S H σV σ ∧ Reps K ρ I us ds ∧ g ds σ = some σ' ∧ ∀ σV', wipe σV' vs = wipe σV vs → RB K F I ρ S H σV' σ' → Q σV' H
abbrev SG (X : Cx) (vs : List Nat) (e : Expr) (g : DG) : Prop := PG X e (semG X.K vs g)
abbrev SGs (X : Cx) (vs : List Nat) (e : List Expr) (g : DGs) : Prop := PGs X e (semGs X.K vs g)
variable {tvs : List Nat}
theorem cg_name (i : Nat) {x : Str} {pos : Pos} (hN : X.N.Nodup) (hi : X.N[i]? = some x := by rfl) (hx : Loc X.env.scope x := by first | exact Or.inl rfl | exact Or.inr rfl) (hf : X.fn x = true ∨ X.env.scope.names.lookup x = some .local := by first | exact .inl rfl | exact .inr rfl | assumption) (hv : i ∈ tvs := by decide) : SG X tvs (.Name x pos) (gN i) := by
  refine PG.imp (pg_name hN hi hx hf) fun v σV H Q h => ?_
  obtain ⟨F, I, ρ, σ, S, d, σ', rb, r, e, q⟩ := h
  cases e
  exact q _ (wipe_set hv) (rb.setV r)
theorem cgs_nil : SGs X tvs [] gsNil := by
  refine PGs.imp pgs_nil fun vs σV H Q h => ?_
  obtain ⟨F, I, ρ, σ, S, ds, σ', rb, r, e, q⟩ := h
  cases r with
  | nil => cases e; exact ⟨rfl, q _ rfl rb⟩
  | cons _ _ => cases e
theorem cgs_cons {e : Expr} {es : List Expr} {g : DG} {gs : DGs} (h : SG X tvs e g) (k : SGs X tvs es gs) (hs : (assignEach (e :: es) X.env).map (·.2) = assign e X.env :: (assignEach es X.env).map (·.2) := by rfl) : SGs X tvs (e :: es) (gsCons g gs) := by
  refine PGs.imp (pgs_cons h k hs) fun vs σV H Q h => ?_
  obtain ⟨F, I, ρ, σ, S, ds, σ', rb, r, e, q⟩ := h
  cases r with
  | nil => cases e
  | cons h1 h2 =>
    obtain ⟨σ1, e1, e2⟩ := Option.bind_eq_some_iff.mp e
    exact ⟨_, _, rfl, F, I, ρ, σ, S, _, σ1, rb, h1, e1, fun σV' ew rb' => ⟨F, I, ρ, σ1, S, _, σ', rb', h2, e2, fun σV2 ew2 => q σV2 (ew2.trans ew)⟩⟩
theorem cg_tup {es : List Expr} {k n : Nat} {pos : Pos} {gs : DGs} (h : SGs X tvs es gs) (hc : X.calm = true := by rfl) (hn : (assignEach es X.env).length = n := by rfl) (hst : (assignEach es X.env).findIdx? (·.1) = none := by rfl) : SG X tvs (.Tuple es k pos) (gT n gs) := by
  refine PG.imp (pg_tup hc h hn hst) fun v σV H Q h => ?_
  obtain ⟨F, I, ρ, σ, S, d, σ', rb, r, e, q⟩ := h
  unfold gT at e
  split at e
  · rename_i ws
    split at e
    · rename_i hl
      cases r with
      | tup ht hr => exact ⟨_, _, rfl, rb.sub.sqT ht, by rw [hr.length]; exact hl, F, I, ρ, σ, S, ws, σ', rb, hr, e, q⟩
    · cases e
  · cases e
/-- target = value, for any target -/
def sAsg (g : DG) (f : DE) : DS := fun σ S => (dV f σ S).bind fun w σ S => (match g w σ with
  | some σ' => .ok .next σ' S
  | none => .fail)
theorem cs_asg {fr : Bool} {tg e : Expr} {pos : Pos} {f : DE} {g : DG} (hg : SG X tvs tg g) (h : SE X Wx e f) (hs : swapsWithSole [tg] e pos.line X.env = pure false := by rfl) (hw : swappedStores [tg] e X.env = pure none := by rfl) (h1 : (assignEach [tg] X.env).map (·.2) = [assign tg X.env] := by rfl) : SS fr X Wx (.Assign [tg] e pos) (sAsg g f) := by
  refine PS.imp (ps_asg (c_v h) hg hs hw h1) fun D σV H h => ?_
  obtain ⟨F, I, ρ, σ, S, rb, h⟩ := h
  refine ⟨F, I, ρ, σ, S, rb, postS_bind h fun I1 ρ1 σ1 S1 H1 x v1 _ g1 rb1 t1 h1 => ?_⟩
  split at h1
  · rename_i σ' e
    exact ⟨F, I1, ρ1, σ1, S1, x, σ', rb1, t1, e, fun σV' _ rb' => h1 I1 ρ1 H1 σV' Gr.refl rb'⟩
  · exact h1.elim

/-! ### what is walked -/
/-- J walks the items, whatever is done meanwhile to what is not frozen -/
def Walks (K : PySem.W.Frag) (F I : Hp) (ρ : List Addr) (J : It) (items : List D) : Prop := ∀ (I2 : Hp) (ρ2 : List Addr) (S2 : Sto) (H2 : Hp) (σV2 : L2.St) (σ2 : Sl), Gr ρ I ρ2 I2 → RB K F I2 ρ2 S2 H2 σV2 σ2 →
  (∀ (i : Nat) (d : D), items[i]? = some d → J.go i H2 ∧ ∀ x H3, J.yld i H2 x H3 → ∃ I3, Gr ρ2 I2 ρ2 I3 ∧ RB K F I3 ρ2 S2 H3 σV2 σ2 ∧ Rep K ρ2 I3 x d) ∧ J.stop items.length H2
abbrev DI := Sl → Sto → Res (List D)
def postI (K : PySem.W.Frag) (Wx : WX) (F I : Hp) (ρ : List Addr) (σV : L2.St) (r : Res (List D)) (R : It → Hp → Prop) : Prop := match r with
  | .ok items σ' S' => ∀ I' ρ' H' J, Gr ρ I ρ' I' → RB K F I' ρ' S' H' σV σ' → (∀ F', (∀ a o, F a = some o → F' a = some o) → Walks K F' I' ρ' J items) → R J H'
  | .exc e σ' S' => ∀ I' ρ' H' d, Gr ρ I ρ' I' → RB K F I' ρ' S' H' σV σ' → ExcAt e d H' → Wx (.ref (ca K e.c)) d σV H'
  | .fail => False
def semI (K : PySem.W.Frag) (Wx : WX) (f : DI) : TI := fun σV H R => ∃ F I ρ σ S, RB K F I ρ S H σV σ ∧ postI K Wx F I ρ σV (f σ S) R
abbrev SI (X : Cx) (Wx : WX) (tg iter : Expr) (f : DI) : Prop := PI X tg iter (semI X.K Wx f)
theorem postI_gr {K : PySem.W.Frag} {F I : Hp} {ρ : List Addr} {σV : L2.St} {r : Res (List D)} {R : It → Hp → Prop} {I1 : Hp} {ρ1 : List Addr} (g : Gr ρ I ρ1 I1) (h : postI K Wx F I ρ σV r R) : postI K Wx F I1 ρ1 σV r R := by
  cases r with
  | ok a σ S => exact fun I' ρ' H' b g' => h I' ρ' H' b (g.trans g')
  | exc e σ S => exact fun I' ρ' H' d g' => h I' ρ' H' d (g.trans g')
  | fail => exact h
theorem postI_bind {K : PySem.W.Frag} {F I : Hp} {ρ : List Addr} {σV : L2.St} {α β : Type} {T : List Addr → Hp → L2.St → β → α → Prop} {r : Res α} {k : α → Sl → Sto → Res (List D)} {R : It → Hp → Prop} {Q1 : β → Hp → Prop}
    (h : postI K Wx F I ρ σV (r.bind k) R)
    (q : ∀ I1 ρ1 σ1 S1 H1 a b, r = .ok a σ1 S1 → Gr ρ I ρ1 I1 → RB K F I1 ρ1 S1 H1 σV σ1 → T ρ1 I1 σV b a → postI K Wx F I1 ρ1 σV (k a σ1 S1) R → Q1 b H1) : postR K Wx T F I ρ σV r Q1 := by
  cases r with
  | ok a σ S => exact fun I' ρ' H' b g rb t => q I' ρ' σ S H' a b rfl g rb t (postI_gr g h)
  | exc e σ S => exact h
  | fail => exact h
/-- a list, kept -/
def iLst (f : DE) : DI := fun σ S => (dV f σ S).bind fun x σ S => match x with
  | .lst ws => .ok ws σ S
  | _ => .fail
theorem walks_list {K : PySem.W.Frag} {I : Hp} {ρ : List Addr} {a : Addr} {vs : List V} {ws : List D} (h : I a = some (.lst vs)) (r : Reps K ρ I vs ws) : ∀ F, Walks K F I ρ (Itl K a) ws := fun F I2 ρ2 S2 H2 σV2 σ2 g rb => by
  have ha : SqL K H2 a vs := rb.sub.sqL (.inl (.inl (g.ex _ _ h)))
  refine ⟨fun i d hd => ?_, vs, ha, by rw [r.length]; exact Nat.le_refl _⟩
  obtain ⟨v, hv, rv⟩ := r.get hd
  refine ⟨⟨vs, v, ha, hv⟩, fun x H3 y => ?_⟩
  obtain ⟨rfl, y⟩ := y
  have := y vs ha
  rw [hv] at this
  cases this
  exact ⟨I2, Gr.refl, rb, rv.gr g⟩
/-- a tuple -/
def iTup (f : DE) : DI := fun σ S => (dV f σ S).bind fun x σ S => match x with
  | .tup ws => .ok ws σ S
  | _ => .fail
theorem walks_tup {K : PySem.W.Frag} {I : Hp} {ρ : List Addr} {a : Addr} {vs : List V} {ws : List D} (h : SqT K I a vs) (r : Reps K ρ I vs ws) : ∀ F, Walks K F I ρ (Itt K a) ws := fun F I2 ρ2 S2 H2 σV2 σ2 g rb => by
  have ha : SqT K H2 a vs := rb.sub.sqT (SqT.gr g h)
  refine ⟨fun i d hd => ?_, vs, ha, by rw [r.length]; exact Nat.le_refl _⟩
  obtain ⟨v, hv, rv⟩ := r.get hd
  refine ⟨⟨vs, v, ha, hv⟩, fun x H3 y => ?_⟩
  obtain ⟨rfl, y⟩ := y
  have := y vs ha
  rw [hv] at this
  cases this
  exact ⟨I2, Gr.refl, rb, rv.gr g⟩
theorem ci_list {tg e : Expr} {f : DE} (h : SE X Wx e f) : SI X Wx tg e (iLst f) := by
  refine PI.imp (pi_list (c_v h)) fun σV H R h => ?_
  obtain ⟨F, I, ρ, σ, S, rb, h⟩ := h
  refine ⟨F, I, ρ, σ, S, rb, postI_bind h fun I1 ρ1 σ1 S1 H1 x v1 _ g1 rb1 t1 h1 => ?_⟩
  cases t1 with
  | lst hl hr => exact ⟨_, rfl, ⟨_, rb1.sub.sqL (.inl (.inl hl))⟩, h1 I1 ρ1 H1 _ Gr.refl rb1 fun F' _ => walks_list hl hr F'⟩
  | _ => exact h1.elim
theorem ci_tup {tg e : Expr} {f : DE} (h : SE X Wx e f) : SI X Wx tg e (iTup f) := by
  refine PI.imp (pi_tup (c_v h)) fun σV H R h => ?_
  obtain ⟨F, I, ρ, σ, S, rb, h⟩ := h
  refine ⟨F, I, ρ, σ, S, rb, postI_bind h fun I1 ρ1 σ1 S1 H1 x v1 _ g1 rb1 t1 h1 => ?_⟩
  cases t1 with
  | tup hl hr => exact ⟨_, rfl, ⟨_, rb1.sub.sqT hl⟩, h1 I1 ρ1 H1 _ Gr.refl rb1 fun F' _ => walks_tup hl hr F'⟩
  | _ => exact h1.elim
/-- a text's signs -/
def signs (x : Str) : List D := x.cps.toList.map fun c => .str ⟨#[c]⟩
def iStr (f : DE) : DI := fun σ S => (dV f σ S).bind fun x σ S => match x with
  | .str z => .ok (signs z) σ S
  | _ => .fail
theorem ci_str {tg e : Expr} {f : DE} (h : SE X Wx e f) : SI X Wx tg e (iStr f) := by
  refine PI.imp (pi_str (c_v h)) fun σV H R h => ?_
  obtain ⟨F, I, ρ, σ, S, rb, h⟩ := h
  refine ⟨F, I, ρ, σ, S, rb, postI_bind h fun I1 ρ1 σ1 S1 H1 x v1 _ g1 rb1 t1 h1 => ?_⟩
  cases t1 with
  | @str z =>
    refine ⟨z, rfl, h1 I1 ρ1 H1 _ Gr.refl rb1 fun F' _ I2 ρ2 S2 H2 σV2 σ2 g rb => ⟨fun i d hd => ?_, by unfold signs; rw [List.length_map, Array.length_toList]; exact Nat.le_refl _⟩⟩
    unfold signs at hd
    rw [List.getElem?_map] at hd
    obtain ⟨c, hc, rfl⟩ := Option.map_eq_some_iff.mp hd
    rw [Array.getElem?_toList] at hc
    refine ⟨(Array.getElem?_eq_some_iff.mp hc).1, fun x H3 y => ?_⟩
    obtain ⟨rfl, c', hc', rfl⟩ := y
    rw [hc] at hc'
    cases hc'
    exact ⟨I2, Gr.refl, rb, .str⟩
  | _ => exact h1.elim
/-- range -/
def ran (lo hi : Int) : List D := (List.range (hi - lo).toNat).map fun k => .int (lo + (k : Nat))
def small (i : Int) : Prop := -(2 ^ 62) ≤ i ∧ i < 2 ^ 62
instance (i : Int) : Decidable (small i) := by unfold small; infer_instance
def iRan1 (f : DE) : DI := fun σ S => (f σ S).bind fun x σ S => match x with
  | .int j => if small j then .ok (ran 0 j) σ S else .fail
  | _ => .fail
def iRan2 (f g : DE) : DI := fun σ S => (f σ S).bind fun x σ S => (g σ S).bind fun y σ S => match x, y with
  | .int i, .int j => if small i ∧ small j then .ok (ran i j) σ S else .fail
  | _, _ => .fail
theorem walks_ran {K : PySem.W.Frag} {F I : Hp} {ρ : List Addr} (lo hi : Int) : Walks K F I ρ (Itr lo (hi - lo).toNat) (ran lo hi) := fun I2 ρ2 S2 H2 σV2 σ2 g rb => by
  refine ⟨fun i d hd => ?_, by unfold ran; rw [List.length_map, List.length_range]; exact Nat.le_refl _⟩
  unfold ran at hd
  rw [List.getElem?_map] at hd
  obtain ⟨k, hk, rfl⟩ := Option.map_eq_some_iff.mp hd
  have hlt : i < (hi - lo).toNat := by
    have := (List.getElem?_eq_some_iff.mp hk).1
    rw [List.length_range] at this
    exact this
  rw [List.getElem?_range hlt] at hk
  cases hk
  refine ⟨hlt, fun x H3 y => ?_⟩
  obtain ⟨rfl, rfl⟩ := y
  exact ⟨I2, Gr.refl, rb, .int⟩
theorem ci_ran1 {tg a : Expr} {p pos : Pos} {f : DE} (hm : X.mg "range" = none) (h : SE X Wx a f) (hg : Gl X "range" := by rfl) (hs : starEach [a] X.env = [(false, eval a X.env)] := by rfl) : SI X Wx tg (.Call (.Name "range" p) [a] [] pos) (iRan1 f) := by
  refine PI.imp (pi_range1 hg hm (pa_cons h pa_nil hs) hs) fun σV H R h => ?_
  obtain ⟨F, I, ρ, σ, S, rb, h⟩ := h
  refine ⟨F, I, ρ, σ, S, rb, postI_bind h fun I1 ρ1 σ1 S1 H1 x v1 er1 g1 rb1 t1 h1 => ?_⟩
  split at h1
  · rename_i j
    split at h1
    · rename_i hj
      rcases t1 with ⟨i, q, _⟩ | t1
      · cases q
      · cases t1
        refine ⟨j, rfl, hj.1, hj.2, ?_⟩
        have w : ∀ F', Walks X.K F' I1 ρ1 (Itr 0 j.toNat) (ran 0 j) := fun F' => by
          have := walks_ran (K := X.K) (F := F') (I := I1) (ρ := ρ1) 0 j
          rw [Int.sub_zero] at this
          exact this
        exact h1 I1 ρ1 H1 _ Gr.refl rb1 fun F' _ => w F'
    · exact h1.elim
  · exact h1.elim
theorem ci_ran2 {tg a b : Expr} {p pos : Pos} {f g : DE} (hm : X.mg "range" = none) (h : SE X Wx a f) (k : SE X Wx b g) (hg : Gl X "range" := by rfl) (hs : starEach [a, b] X.env = [(false, eval a X.env), (false, eval b X.env)] := by rfl) (hs2 : starEach [b] X.env = [(false, eval b X.env)] := by rfl) : SI X Wx tg (.Call (.Name "range" p) [a, b] [] pos) (iRan2 f g) := by
  have hs1 : starEach [a, b] X.env = (false, eval a X.env) :: starEach [b] X.env := by rw [hs, hs2]
  refine PI.imp (pi_range2 hg hm (pa_cons h (pa_cons k pa_nil hs2) hs1) hs hs2) fun σV H R h => ?_
  obtain ⟨F, I, ρ, σ, S, rb, h⟩ := h
  refine ⟨F, I, ρ, σ, S, rb, postI_bind h fun I1 ρ1 σ1 S1 H1 x v1 er1 g1 rb1 t1 h1 => ?_⟩
  refine ⟨F, I1, ρ1, σ1, S1, rb1, postI_bind h1 fun I2 ρ2 σ2 S2 H2 y v2 er2 g2 rb2 t2 h2 => ?_⟩
  split at h2
  · rename_i i j
    split at h2
    · rename_i hj
      rcases t1 with ⟨i, q, _⟩ | t1
      · cases q
      · rcases t2 with ⟨i, q, _⟩ | t2
        · cases q
        · cases t1; cases t2
          exact ⟨i, j, rfl, ⟨hj.1.1, hj.1.2, hj.2.1, hj.2.2⟩, h2 I2 ρ2 H2 _ Gr.refl rb2 fun F' _ => walks_ran i j⟩
    · exact h2.elim
  · exact h2.elim
/-- zip of two lists, of two tuples -/
def pairs : List D → List D → List D
  | x :: xs, y :: ys => .tup [x, y] :: pairs xs ys
  | _, _ => []
def iZip (f g : DE) : DI := fun σ S => (dV f σ S).bind fun x σ S => (dV g σ S).bind fun y σ S => match x, y with
  | .lst xs, .lst ys => .ok (pairs xs ys) σ S
  | .tup xs, .tup ys => .ok (pairs xs ys) σ S
  | _, _ => .fail
theorem pairs_get : ∀ {xs ys : List D} {i : Nat} {d : D}, (pairs xs ys)[i]? = some d → ∃ x y, xs[i]? = some x ∧ ys[i]? = some y ∧ d = .tup [x, y]
  | x :: xs, y :: ys, 0, d, h => by cases h; exact ⟨x, y, rfl, rfl, rfl⟩
  | x :: xs, y :: ys, i + 1, d, h => pairs_get (xs := xs) (ys := ys) (i := i) h
  | [], _, i, d, h => by simp [pairs] at h
  | _ :: _, [], i, d, h => by simp [pairs] at h
theorem pairs_len : ∀ (xs ys : List D), xs.length ≤ (pairs xs ys).length ∨ ys.length ≤ (pairs xs ys).length
  | x :: xs, y :: ys => by
    rcases pairs_len xs ys with h | h
    · exact .inl (Nat.succ_le_succ h)
    · exact .inr (Nat.succ_le_succ h)
  | [], _ => .inl (Nat.zero_le _)
  | _ :: _, [] => .inr (Nat.zero_le _)
theorem walks_zip {K : PySem.W.Frag} {I : Hp} {ρ : List Addr} {a b : Addr} {vs us : List V} {ws zs : List D} (h : I a = some (.lst vs)) (r : Reps K ρ I vs ws) (h' : I b = some (.lst us)) (r' : Reps K ρ I us zs) : ∀ F, Walks K F I ρ (Itz K a b) (pairs ws zs) := fun F I2 ρ2 S2 H2 σV2 σ2 g rb => by
  have ha : SqL K H2 a vs := rb.sub.sqL (.inl (.inl (g.ex _ _ h)))
  have hb : SqL K H2 b us := rb.sub.sqL (.inl (.inl (g.ex _ _ h')))
  refine ⟨fun i d hd => ?_, vs, us, ha, hb, by rw [r.length, r'.length]; exact pairs_len ws zs⟩
  obtain ⟨x, y, hx, hy, rfl⟩ := pairs_get hd
  obtain ⟨v, hv, rv⟩ := r.get hx
  obtain ⟨u, hu, ru⟩ := r'.get hy
  refine ⟨⟨vs, us, v, u, ha, hb, hv, hu⟩, fun z H3 q => ?_⟩
  obtain ⟨T, x', y', rfl, hT, rfl, q1, q2⟩ := q
  have e1 := q1 vs ha
  have e2 := q2 us hb
  rw [hv] at e1
  rw [hu] at e2
  cases e1; cases e2
  obtain ⟨g3, rb3⟩ := rb.new (o := .tup [v, u]) hT
  exact ⟨_, g3, rb3, .tup (.inl (.inl upd_same)) (.cons ((rv.gr g).gr g3) (.cons ((ru.gr g).gr g3) .nil))⟩
theorem walks_zipT {K : PySem.W.Frag} {I : Hp} {ρ : List Addr} {a b : Addr} {vs us : List V} {ws zs : List D} (h : SqT K I a vs) (r : Reps K ρ I vs ws) (h' : SqT K I b us) (r' : Reps K ρ I us zs) : ∀ F, Walks K F I ρ (RZ.ItzT K a b) (pairs ws zs) := fun F I2 ρ2 S2 H2 σV2 σ2 g rb => by
  have ha : SqT K H2 a vs := rb.sub.sqT (SqT.gr g h)
  have hb : SqT K H2 b us := rb.sub.sqT (SqT.gr g h')
  refine ⟨fun i d hd => ?_, vs, us, ha, hb, by rw [r.length, r'.length]; exact pairs_len ws zs⟩
  obtain ⟨x, y, hx, hy, rfl⟩ := pairs_get hd
  obtain ⟨v, hv, rv⟩ := r.get hx
  obtain ⟨u, hu, ru⟩ := r'.get hy
  refine ⟨⟨vs, us, v, u, ha, hb, hv, hu⟩, fun z H3 q => ?_⟩
  obtain ⟨T, x', y', rfl, hT, rfl, q1, q2⟩ := q
  have e1 := q1 vs ha
  have e2 := q2 us hb
  rw [hv] at e1
  rw [hu] at e2
  cases e1; cases e2
  obtain ⟨g3, rb3⟩ := rb.new (o := .tup [v, u]) hT
  exact ⟨_, g3, rb3, .tup (.inl (.inl upd_same)) (.cons ((rv.gr g).gr g3) (.cons ((ru.gr g).gr g3) .nil))⟩
theorem ci_zip {elts : List Expr} {kk : Nat} {tpos : Pos} {a b : Expr} {p pos : Pos} {f g : DE} (hm : X.mg "zip" = none) (h : SE X Wx a f) (k : SE X Wx b g) (hg : Gl X "zip" := by rfl) (hs : starEach [a, b] X.env = (false, eval a X.env) :: starEach [b] X.env := by rfl) (hs2 : starEach [b] X.env = (false, eval b X.env) :: starEach [] X.env := by rfl) (hpl : (backTo pos (starEach [b] X.env)).any (·.1) = false := by rfl) :
    SI X Wx (.Tuple elts kk tpos) (.Call (.Name "zip" p) [a, b] [] pos) (iZip f g) := by
  refine PI.imp (RZ.pi_zipA hg hm (pa_cons (c_v h) (pa_cons (c_v k) pa_nil hs2) hs) hs hpl) fun σV H R h => ?_
  obtain ⟨F, I, ρ, σ, S, rb, h⟩ := h
  refine ⟨F, I, ρ, σ, S, rb, postI_bind h fun I1 ρ1 σ1 S1 H1 x v1 _ g1 rb1 t1 h1 => ?_⟩
  refine ⟨F, I1, ρ1, σ1, S1, rb1, postI_bind h1 fun I2 ρ2 σ2 S2 H2 y v2 _ g2 rb2 t2 h2 => ?_⟩
  have t1 := t1.gr g2
  split at h2
  · cases t1 with
    | lst q1 r1 => cases t2 with
      | lst q2 r2 => exact ⟨_, _, _, _, rfl, .inl ⟨rb2.sub.sqL (.inl (.inl q1)), rb2.sub.sqL (.inl (.inl q2)), h2 I2 ρ2 H2 _ Gr.refl rb2 fun F' _ => walks_zip q1 r1 q2 r2 F'⟩⟩
  · cases t1 with
    | tup q1 r1 => cases t2 with
      | tup q2 r2 => exact ⟨_, _, _, _, rfl, .inr ⟨rb2.sub.sqT q1, rb2.sub.sqT q2, h2 I2 ρ2 H2 _ Gr.refl rb2 fun F' _ => walks_zipT q1 r1 q2 r2 F'⟩⟩
  · exact h2.elim
/-- enumerate of a list -/
def enum (lo : Int) : List D → List D
  | [] => []
  | d :: ds => .tup [.int lo, d] :: enum (lo + 1) ds
def iEnum (f : DE) : DI := fun σ S => (dV f σ S).bind fun x σ S => match x with
  | .lst xs => .ok (enum 0 xs) σ S
  | _ => .fail
theorem enum_get : ∀ {xs : List D} {lo : Int} {i : Nat} {d : D}, (enum lo xs)[i]? = some d → ∃ x, xs[i]? = some x ∧ d = .tup [.int (lo + (i : Nat)), x]
  | x :: xs, lo, 0, d, h => by cases h; exact ⟨x, rfl, by simp⟩
  | x :: xs, lo, i + 1, d, h => by
    obtain ⟨y, hy, rfl⟩ := enum_get (xs := xs) (lo := lo + 1) (i := i) h
    exact ⟨y, hy, by congr 3; omega⟩
  | [], lo, i, d, h => by simp [enum] at h
theorem enum_len : ∀ (xs : List D) (lo : Int), (enum lo xs).length = xs.length
  | [], _ => rfl
  | _ :: xs, lo => congrArg (· + 1) (enum_len xs (lo + 1))
theorem ci_enum {elts : List Expr} {kk : Nat} {tpos : Pos} {a : Expr} {p pos : Pos} {f : DE} (hm : X.mg "enumerate" = none) (h : SE X Wx a f) (hg : Gl X "enumerate" := by rfl) (hs : starEach [a] X.env = [(false, eval a X.env)] := by rfl) :
    SI X Wx (.Tuple elts kk tpos) (.Call (.Name "enumerate" p) [a] [] pos) (iEnum f) := by
  refine PI.imp (pi_enum hg hm (pa_cons (c_v h) pa_nil hs) hs) fun σV H R h => ?_
  obtain ⟨F, I, ρ, σ, S, rb, h⟩ := h
  refine ⟨F, I, ρ, σ, S, rb, postI_bind h fun I1 ρ1 σ1 S1 H1 x v1 _ g1 rb1 t1 h1 => ?_⟩
  cases t1 with
  | @lst a vs ws hl r =>
    refine ⟨a, vs, rfl, rb1.sub.sqL (.inl (.inl hl)), h1 I1 ρ1 H1 _ Gr.refl rb1 fun F' _ I2 ρ2 S2 H2 σV2 σ2 g rb => ?_⟩
    have ha : SqL X.K H2 a vs := rb.sub.sqL (.inl (.inl (g.ex _ _ hl)))
    refine ⟨fun i d hd => ?_, vs, ha, by rw [enum_len, r.length]; exact Nat.le_refl _⟩
    obtain ⟨y, hy, rfl⟩ := enum_get hd
    obtain ⟨v, hv, rv⟩ := r.get hy
    refine ⟨⟨vs, v, ha, hv⟩, fun z H3 q => ?_⟩
    obtain ⟨T, x', rfl, hT, rfl, q1⟩ := q
    have e1 := q1 vs ha
    rw [hv] at e1
    cases e1
    obtain ⟨g3, rb3⟩ := rb.new (o := .tup [.int (i : Nat), v]) hT
    exact ⟨_, g3, rb3, .tup (.inl (.inl upd_same)) (.cons (by rw [Int.zero_add]; exact .int) (.cons ((rv.gr g).gr g3) .nil))⟩
  | _ => exact h1.elim

/-! ### for -/
def forL (g : DG) (f : DS) : List D → DS
  | [] => fun σ S => .ok .next σ S
  | d :: ds => fun σ S => match g d σ with
    | none => .fail
    | some σ => (f σ S).bind fun x σ S => (match x with
      | .next => forL g f ds σ S
      | .cnt => forL g f ds σ S
      | .brk => .ok .next σ S
      | .ret w => .ok (.ret w) σ S)
def sFor (it : DI) (g : DG) (f : DS) : DS := fun σ S => (it σ S).bind fun ds σ S => forL g f ds σ S
theorem cs_for {fr : Bool} {tg iter : Expr} {body : List Stmt} {pos : Pos} {it : DI} {g : DG} {f : DS} (hp : PassesOwn (model X.prog X.w) X.A X.env X.xe) (hi : SI X Wx tg iter it) (hg : SG X tvs tg g) (hb : SSs fr X Wx body f) (hc : X.calm = true := by rfl) (hs : ∀ x, foldedSetIterable iter X.env x = pure x := by intro _; rfl) : SS fr X Wx (.For tg iter body [] pos) (sFor it g f) := by
  refine PS.imp (ps_for hp hc hi hg hb hs) fun D σV H h => ?_
  obtain ⟨F, I, ρ, σ, S, rb, h⟩ := h
  refine ⟨F, I, ρ, σ, S, rb, ?_⟩
  unfold sFor at h
  cases e : it σ S with
  | exc a σ' S' => rw [e] at h; exact fun I' ρ' H' d => h I' ρ' H' d σV
  | fail => rw [e] at h; exact h
  | ok items σ' S' =>
    rw [e] at h
    intro I' ρ' H' J g' rb' wk
    have wk := wk F fun _ _ z => z
    have h : postS fr X.K Wx F I' ρ' (forL g f items σ' S') D := postS_gr g' h
    refine ⟨fun i m σV H => i + m = items.length ∧ ∃ I2 ρ2 σ2 S2, Gr ρ' I' ρ2 I2 ∧ RB X.K F I2 ρ2 S2 H σV σ2 ∧ postS fr X.K Wx F I2 ρ2 (forL g f (items.drop i) σ2 S2) D, ⟨items.length, Nat.zero_add _, I', ρ', σ', S', Gr.refl, rb', h⟩, ?_⟩
    intro i m σV2 H2 ⟨hm, I2, ρ2, σ2, S2, g2, rb2, h2⟩
    obtain ⟨w1, w2⟩ := wk I2 ρ2 S2 H2 σV2 σ2 g2 rb2
    cases m with
    | zero =>
      have hi : i = items.length := hm
      subst hi
      rw [List.drop_length] at h2
      exact .inl ⟨w2, h2 I2 ρ2 H2 σV2 Gr.refl rb2⟩
    | succ m =>
      have lt : i < items.length := by omega
      rw [List.drop_eq_getElem_cons lt] at h2
      obtain ⟨go, yl⟩ := w1 i items[i] (List.getElem?_eq_getElem lt)
      refine .inr ⟨go, fun σV3 H3 => i + 1 + m = items.length ∧ ∃ I2 ρ2 σ2 S2, Gr ρ' I' ρ2 I2 ∧ RB X.K F I2 ρ2 S2 H3 σV3 σ2 ∧ postS fr X.K Wx F I2 ρ2 (forL g f (items.drop (i + 1)) σ2 S2) D, fun σ' H' q => ⟨m, Nat.lt_succ_self m, q⟩, fun x H3 y => ?_⟩
      obtain ⟨I3, g3, rb3, r3⟩ := yl x H3 y
      unfold forL at h2
      split at h2
      · exact h2.elim
      · rename_i σ3 e3
        refine ⟨F, I3, ρ2, σ2, S2, items[i], σ3, rb3, r3, e3, fun σV4 _ rb4 => ⟨F, I3, ρ2, σ3, S2, rb4, ?_⟩⟩
        have h3 := postS_gr g3 h2
        cases e4 : f σ3 S2 with
        | ok a σ5 S5 =>
          rw [e4] at h3
          cases a with
          | next => exact fun I6 ρ6 H6 σV6 g6 rb6 => ⟨by omega, I6, ρ6, σ5, S5, ((g2.trans g3).trans g6), rb6, postS_gr g6 h3⟩
          | cnt => exact fun I6 ρ6 H6 σV6 g6 rb6 => ⟨by omega, I6, ρ6, σ5, S5, ((g2.trans g3).trans g6), rb6, postS_gr g6 h3⟩
          | brk => exact h3
          | ret w => exact h3
        | exc a σ5 S5 => rw [e4] at h3; exact h3
        | fail => rw [e4] at h3; exact h3
end
end MR

set_option Elab.async false
set_option linter.all false
set_option maxRecDepth 100000
/-! MR8: comprehensions. -/
namespace MR
open PySem PySem.Spec PyProof.Rows L2

def wipeD (σ : Sl) : List Nat → Sl
  | [] => σ
  | v :: vs => (wipeD σ vs).set v .emp
def restD (σ0 σ : Sl) : List Nat → Sl
  | [] => σ
  | v :: vs => (restD σ0 σ vs).set v ((σ0[v]?).getD .emp)
def noOwn (σ : Sl) (vs : List Nat) : Bool := vs.all fun i => match σ[i]? with
  | some (.own _) => false
  | _ => true
theorem wipeD_len (σ : Sl) : ∀ vs : List Nat, (wipeD σ vs).length = σ.length
  | [] => rfl
  | v :: vs => by unfold wipeD; rw [List.length_set, wipeD_len σ vs]
theorem restD_len (σ0 σ : Sl) : ∀ vs : List Nat, (restD σ0 σ vs).length = σ.length
  | [] => rfl
  | v :: vs => by unfold restD; rw [List.length_set, restD_len σ0 σ vs]
theorem setAt {α : Type} (l : List α) (v j : Nat) (f : Nat → α) : (l.set v (f v))[j]? = if j = v then (l[j]?).map (fun _ => f j) else l[j]? := by
  by_cases e : j = v
  · subst e
    rw [if_pos rfl]
    by_cases lt : j < l.length
    · rw [List.getElem?_set_self lt, List.getElem?_eq_getElem lt]; rfl
    · rw [List.getElem?_eq_none (by rw [List.length_set]; omega), List.getElem?_eq_none (by omega)]; rfl
  · rw [if_neg e, List.getElem?_set_ne (Ne.symm e)]
theorem wipeD_get (σ : Sl) : ∀ (vs : List Nat) (j : Nat), (wipeD σ vs)[j]? = if j ∈ vs then (σ[j]?).map (fun _ => Slot.emp) else σ[j]?
  | [], j => by simp [wipeD]
  | v :: vs, j => by
    unfold wipeD
    rw [setAt (wipeD σ vs) v j (fun _ => Slot.emp), wipeD_get σ vs j]
    by_cases e : j = v
    · subst e
      rw [if_pos rfl, if_pos (List.mem_cons_self ..)]
      split
      · rw [Option.map_map]; rfl
      · rfl
    · rw [if_neg e]
      by_cases h : j ∈ vs
      · rw [if_pos h, if_pos (List.mem_cons_of_mem _ h)]
      · rw [if_neg h, if_neg (fun z => (List.mem_cons.mp z).elim e h)]
theorem restD_get (σ0 σ : Sl) : ∀ (vs : List Nat) (j : Nat), (restD σ0 σ vs)[j]? = if j ∈ vs then (σ[j]?).map (fun _ => (σ0[j]?).getD .emp) else σ[j]?
  | [], j => by simp [restD]
  | v :: vs, j => by
    unfold restD
    rw [setAt (restD σ0 σ vs) v j (fun v => (σ0[v]?).getD .emp), restD_get σ0 σ vs j]
    by_cases e : j = v
    · subst e
      rw [if_pos rfl, if_pos (List.mem_cons_self ..)]
      split
      · rw [Option.map_map]; rfl
      · rfl
    · rw [if_neg e]
      by_cases h : j ∈ vs
      · rw [if_pos h, if_pos (List.mem_cons_of_mem _ h)]
      · rw [if_neg h, if_neg (fun z => (List.mem_cons.mp z).elim e h)]

section
variable {K : PySem.W.Frag} {F I : Hp} {ρ : List Addr} {S : Sto} {H : Hp} {σV : L2.St} {σ : Sl}
theorem RB.wipe (rb : RB K F I ρ S H σV σ) (vs : List Nat) : RB K F I ρ S H (L2.wipe σV vs) (wipeD σ vs) := by
  have own : ∀ {i : Nat} {c : D}, (wipeD σ vs)[i]? = some (.own c) → i ∉ vs ∧ σ[i]? = some (.own c) := fun {i c} h => by
    rw [wipeD_get] at h
    split at h
    · obtain ⟨_, _, e⟩ := Option.map_eq_some_iff.mp h
      cases e
    · rename_i hi; exact ⟨hi, h⟩
  refine ⟨rb.fr, rb.sub, rb.dis, rb.store, rb.nd, rb.rl, by rw [wipeD_len, wipe_length]; exact rb.len, fun i s h => ?_, fun i j c c' v h1 h2 h3 h4 => ?_⟩
  · rw [wipeD_get] at h
    split at h
    · obtain ⟨_, _, e⟩ := Option.map_eq_some_iff.mp h
      subst e
      trivial
    · rename_i hi
      have e : (L2.wipe σV vs)[i]? = σV[i]? := by rw [wipe_get, if_neg hi]
      have q := rb.slot i s h
      cases s with
      | emp => trivial
      | exn b => first | exact q | exact (List.getElem?_set_ne e).trans q | exact e.trans q
      | val w => obtain ⟨v, hv, r⟩ := q; exact ⟨v, e.trans hv, r⟩
      | own c => obtain ⟨a, ha, q⟩ := q; exact ⟨a, e.trans ha, q⟩
  · obtain ⟨n1, h1⟩ := own h1
    obtain ⟨n2, h2⟩ := own h2
    rw [wipe_get, if_neg n1] at h3
    rw [wipe_get, if_neg n2] at h4
    exact rb.inj i j c c' v h1 h2 h3 h4
theorem RB.unwipe {I' : Hp} {ρ' : List Addr} {S' : Sto} {H' : Hp} {σ' : Sl} {vs : List Nat} (rb : RB K F I ρ S H σV σ) (g : Gr ρ I ρ' I') (no : noOwn σ vs = true) (rb' : RB K F I' ρ' S' H' (L2.wipe σV vs) σ') : RB K F I' ρ' S' H' σV (restD σ σ' vs) := by
  have own : ∀ {i : Nat} {c : D}, (restD σ σ' vs)[i]? = some (.own c) → i ∉ vs ∧ σ'[i]? = some (.own c) := fun {i c} h => by
    rw [restD_get] at h
    split at h
    · rename_i hi
      obtain ⟨_, _, e⟩ := Option.map_eq_some_iff.mp h
      have q := List.all_eq_true.mp no i hi
      cases z : σ[i]? with
      | none => rw [z] at e; cases e
      | some s =>
        rw [z] at e q
        have e2 : s = .own c := e
        subst e2
        cases q
    · rename_i hi; exact ⟨hi, h⟩
  refine ⟨rb'.fr, rb'.sub, rb'.dis, rb'.store, rb'.nd, rb'.rl, by rw [restD_len]; exact rb'.len.trans (wipe_length _ _), fun i s h => ?_, fun i j c c' v h1 h2 h3 h4 => ?_⟩
  · cases s with
    | emp => trivial
    | exn b =>
      rw [restD_get] at h
      split at h
      · rename_i hi
        obtain ⟨_, _, e⟩ := Option.map_eq_some_iff.mp h
        cases z : σ[i]? with
        | none => rw [z] at e; cases e
        | some s =>
          rw [z] at e
          have e2 : s = .exn b := e
          subst e2
          exact rb.slot i _ z
      · rename_i hi
        have hv : (L2.wipe σV vs)[i]? = some (some (.ref b)) := rb'.slot i _ h
        rw [wipe_get, if_neg hi] at hv
        exact hv
    | own c =>
      obtain ⟨hi, h⟩ := own h
      obtain ⟨a, ha, q⟩ := rb'.slot i _ h
      rw [wipe_get, if_neg hi] at ha
      exact ⟨a, ha, q⟩
    | val w =>
      rw [restD_get] at h
      split at h
      · rename_i hi
        obtain ⟨_, _, e⟩ := Option.map_eq_some_iff.mp h
        cases z : σ[i]? with
        | none => rw [z] at e; cases e
        | some s =>
          rw [z] at e
          have e2 : s = .val w := e
          subst e2
          obtain ⟨v, hv, r⟩ := rb.slot i _ z
          exact ⟨v, hv, r.gr g⟩
      · rename_i hi
        obtain ⟨v, hv, r⟩ := rb'.slot i _ h
        rw [wipe_get, if_neg hi] at hv
        exact ⟨v, hv, r⟩
  · obtain ⟨n1, h1⟩ := own h1
    obtain ⟨n2, h2⟩ := own h2
    refine rb'.inj i j c c' v h1 h2 ?_ ?_
    · rw [wipe_get, if_neg n1]; exact h3
    · rw [wipe_get, if_neg n2]; exact h4
theorem RB.addF (rb : RB K F I ρ S H σV σ) {p : Addr} {o : HO} (hp : H p = none) : RB K (upd F p o) I ρ S (upd H p o) σV σ := by
  obtain ⟨rb2, nf, ni, nr, no⟩ := rb.newO (o := o) hp
  refine ⟨fun a u h => ?_, rb2.sub, fun a u h => ?_, fun r ob h => ?_, rb2.nd, rb2.rl, rb2.len, fun i s h => ?_, rb2.inj⟩
  · by_cases e : a = p
    · subst e; rw [upd_same] at h ⊢; exact h
    · rw [upd_ne e] at h; exact rb2.fr a u h
  · by_cases e : a = p
    · subst e; exact ni
    · rw [upd_ne e] at h; exact rb2.dis a u h
  · obtain ⟨a, ha, hf, hi, hc⟩ := rb2.store r ob h
    have n : a ≠ p := fun e => nr (e ▸ List.mem_of_getElem? ha)
    exact ⟨a, ha, hf.mono (fun z => by rw [upd_ne n]; exact z) (fun _ _ z => by rw [upd_ne n]; exact z), hi, hc⟩
  · have q := rb2.slot i s h
    cases s with
    | emp => trivial
    | exn b => first | exact q | exact (List.getElem?_set_ne e).trans q | exact e.trans q
    | val w => exact q
    | own c =>
      obtain ⟨a, ha, hf, hi, hr, ho⟩ := q
      have n : a ≠ p := fun e => no i c h (e ▸ ha)
      exact ⟨a, ha, by rw [upd_ne n]; exact hf, hi, hr, ho⟩
theorem RB.delF {p : Addr} {o : HO} (rb : RB K (upd F p o) I ρ S H σV σ) (hp : F p = none) (nz : ∀ ob u, o ≠ .frz ob u) : RB K F I ρ S H σV σ ∧ I p = none ∧ p ∉ ρ ∧ NoOwn σV σ p ∧ H p = some o := by
  have k : ∀ a u, F a = some u → upd F p o a = some u := fun a u h => by rw [upd_ne (ne_of_none h hp)]; exact h
  have kn : ∀ a, upd F p o a = none → F a = none ∧ a ≠ p := fun a h => by
    have n : a ≠ p := fun e => by subst e; rw [upd_same] at h; cases h
    rw [upd_ne n] at h
    exact ⟨h, n⟩
  refine ⟨⟨fun a u h => rb.fr a u (k a u h), rb.sub, fun a u h => rb.dis a u (k a u h), fun r ob h => ?_, rb.nd, rb.rl, rb.len, fun i s h => ?_, rb.inj⟩, rb.dis p o upd_same, fun hm => ?_, fun i c h1 h2 => ?_, rb.fr p o upd_same⟩
  · obtain ⟨a, ha, hf, hi, hc⟩ := rb.store r ob h
    refine ⟨a, ha, hf.mono (fun z => (kn a z).1) (fun ob u z => ?_), hi, hc⟩
    by_cases e : a = p
    · subst e; rw [upd_same] at z; cases z; exact absurd rfl (nz _ _)
    · rw [upd_ne e] at z; exact z
  · have q := rb.slot i s h
    cases s with
    | emp => trivial
    | exn b => first | exact q | exact (List.getElem?_set_ne e).trans q | exact e.trans q
    | val w => exact q
    | own c =>
      obtain ⟨a, ha, hf, q⟩ := q
      exact ⟨a, ha, (kn a hf).1, q⟩
  · obtain ⟨r, hr⟩ := List.getElem?_of_mem hm
    have lt : r < S.length := by rw [← rb.rl]; exact (List.getElem?_eq_some_iff.mp hr).1
    obtain ⟨a, ha, hf, _⟩ := rb.store r _ (List.getElem?_eq_getElem lt)
    rw [hr] at ha
    cases ha
    obtain ⟨ob, u, e⟩ := hf.not upd_same
    exact nz _ _ e
  · obtain ⟨a, ha, hf, _⟩ := rb.slot i _ h1
    rw [h2] at ha
    cases ha
    exact (kn _ hf).2 rfl
theorem RB.fset {p : Addr} {o o' : HO} (rb : RB K (upd F p o) I ρ S H σV σ) (hp : F p = none) (nz : ∀ ob u, o ≠ .frz ob u) : RB K (upd F p o') I ρ S (upd H p o') σV σ := by
  obtain ⟨rb2, ni, nr, no, _⟩ := rb.delF hp nz
  have k : ∀ b u, b ≠ p → H b = some u → upd H p o' b = some u := fun b u n h => by rw [upd_ne n]; exact h
  refine ⟨fun a u h => ?_, fun a u h => ?_, fun a u h => ?_, fun r ob h => ?_, rb2.nd, rb2.rl, rb2.len, fun i s h => ?_, rb2.inj⟩
  · by_cases e : a = p
    · subst e; rw [upd_same] at h ⊢; exact h
    · rw [upd_ne e] at h; exact k a u e (rb2.fr a u h)
  · have n := ne_of_none h ni
    rcases rb2.sub a u h with q | ⟨d, ob, q⟩
    · exact .inl (k _ _ n q)
    · exact .inr ⟨d, ob, k _ _ n q⟩
  · by_cases e : a = p
    · subst e; exact ni
    · rw [upd_ne e] at h; exact rb2.dis a u h
  · obtain ⟨a, ha, hf, hi, hc⟩ := rb2.store r ob h
    have n : a ≠ p := fun e => nr (e ▸ List.mem_of_getElem? ha)
    exact ⟨a, ha, hf.mono (fun z => by rw [upd_ne n]; exact z) (fun _ _ z => by rw [upd_ne n]; exact z), hi, hc.gr Gr.refl fun u => k a u n⟩
  · have q := rb2.slot i s h
    cases s with
    | emp => trivial
    | exn b => first | exact q | exact (List.getElem?_set_ne e).trans q | exact e.trans q
    | val w => exact q
    | own c =>
      obtain ⟨a, ha, hf, hi, hr, ho⟩ := q
      have n : a ≠ p := fun e => no i c h (e ▸ ha)
      exact ⟨a, ha, by rw [upd_ne n]; exact hf, hi, hr, ho.gr Gr.refl fun u => k a u n⟩
end

def lcL (g : DG) (c : DT) (e : DE) (vs : List Nat) : List D → List D → Sl → Sto → Res (List D)
  | [], acc, σ, S => .ok acc σ S
  | d :: ds, acc, σ, S => match g d σ with
    | none => .fail
    | some σ1 => (c σ1 S).bind fun b σ2 S2 => if b = true then (dV e σ2 S2).bind fun w σ3 S3 => (if acc.length < most then lcL g c e vs ds (acc ++ [w]) (wipeD σ3 vs) S3 else .fail)
        else lcL g c e vs ds acc (wipeD σ2 vs) S2
def noX {α : Type} : Res α → Res α
  | .exc _ _ _ => .fail
  | r => r
def dLc (it : DI) (g : DG) (c : DT) (e : DE) (vs : List Nat) : DE := fun σ S => (it σ S).bind fun items σ S => if noOwn σ vs = true then (noX (lcL g c e vs items [] (wipeD σ vs) S)).bind fun ws σ' S' => .ok (.lst ws) (restD σ σ' vs) S' else .fail
def tTrue : DT := fun σ S => .ok true σ S
abbrev W0 : WX := fun _ _ _ _ => False
section
variable {X : Cx} {Wx : WX}
theorem cts_nil : PTs X [] (semT X.K Wx tTrue) := PTs.imp pts_nil fun σV H Q h => by
  obtain ⟨F, I, ρ, σ, S, rb, h⟩ := h
  exact h I ρ H true Gr.refl rb rfl
theorem cts_one {c : Expr} {t : DT} (h : ST X Wx c t) : PTs X [c] (semT X.K Wx t) := pts_one h
theorem sem_lc {own : List (Str × Nat)} {it : DI} {g : DG} {c : DT} {f : DE} {σV : L2.St} {H : Hp} {Q : VK} (h : semF X.K Wx (dLc it g c f (own.map (·.2))) σV H Q) : tLc (semI X.K Wx it) (semG X.K (own.map (·.2)) g) (semT X.K W0 c) (semV X.K W0 (dV f)) (own.map (·.2)) σV H Q := by
  obtain ⟨F, I, ρ, σ, S, rb, h⟩ := h
  refine ⟨F, I, ρ, σ, S, rb, ?_⟩
  unfold dLc at h
  generalize hvs : own.map (·.2) = vs at h ⊢
  cases e : it σ S with
  | exc a σ' S' => rw [e] at h; exact h
  | fail => rw [e] at h; exact h
  | ok items σ' S' =>
    rw [e] at h
    intro I' ρ' H' J g' rb' wk Dl hD
    have h : postF X.K Wx F I' ρ' σV (if noOwn σ' vs = true then (noX (lcL g c f vs items [] (wipeD σ' vs) S')).bind fun ws σ'' S'' => .ok (.lst ws) (restD σ' σ'' vs) S'' else .fail) Q := postF_gr g' h
    split at h
    case isFalse => exact h.elim
    case isTrue hno =>
    have hF : F Dl = none := by
      cases q : F Dl with
      | none => rfl
      | some o => have := rb'.fr _ _ q; rw [hD] at this; cases this
    have rb0 := rb'.wipe vs
    refine ⟨fun i m H => i + m = items.length ∧ ∃ I2 ρ2 σ2 S2 acc accV, Gr ρ' I' ρ2 I2 ∧ RB X.K (upd F Dl (.lst accV)) I2 ρ2 S2 H (L2.wipe σV vs) σ2 ∧ Reps X.K ρ2 I2 accV acc ∧
      postF X.K Wx F I2 ρ2 σV ((noX (lcL g c f vs (items.drop i) acc σ2 S2)).bind fun ws σ'' S'' => .ok (.lst ws) (restD σ' σ'' vs) S'') Q, ⟨items.length, Nat.zero_add _, I', ρ', wipeD σ' vs, S', [], [], Gr.refl, rb0.addF hD, .nil, h⟩, ?_⟩
    intro i m H2 ⟨hm, I2, ρ2, σ2, S2, acc, accV, g2, rb2, racc, h2⟩
    obtain ⟨w1, w2⟩ := wk (upd F Dl (.lst accV)) (fun a o q => by rw [upd_ne (ne_of_none q hF)]; exact q) I2 ρ2 S2 H2 _ σ2 g2 rb2
    cases m with
    | zero =>
      have hi : i = items.length := hm
      subst hi
      rw [List.drop_length] at h2
      have h2 : postF X.K Wx F I2 ρ2 σV (.ok (.lst acc) (restD σ' σ2 vs) S2) Q := h2
      obtain ⟨rb3, ni, nr, no, hH⟩ := rb2.delF hF (fun _ _ z => by cases z)
      have rb4 := rb'.unwipe g2 hno rb3
      refine .inl ⟨w2, h2 I2 ρ2 H2 _ Gr.refl rb4 (.inl ⟨Dl, rfl, hF, ni, nr, fun j cc q1 q2 => ?_, accV, hH, racc⟩)⟩
      obtain ⟨b, hb, hfb, hib, hrb, hob⟩ := rb4.slot j _ q1
      rw [q2] at hb
      cases hb
      rw [restD_get] at q1
      split at q1
      · rename_i hj
        obtain ⟨_, _, ee⟩ := Option.map_eq_some_iff.mp q1
        have qq := List.all_eq_true.mp hno j hj
        cases z : σ'[j]? with
        | none => rw [z] at ee; cases ee
        | some s =>
          rw [z] at ee qq
          have e2 : s = .own cc := ee
          subst e2
          cases qq
      · rename_i hj
        refine no j cc q1 ?_
        rw [wipe_get, if_neg hj]
        exact q2
    | succ m =>
      have lt : i < items.length := by omega
      rw [List.drop_eq_getElem_cons lt] at h2
      obtain ⟨go, yl⟩ := w1 i items[i] (List.getElem?_eq_getElem lt)
      refine .inr ⟨go, fun H3 => i + 1 + m = items.length ∧ ∃ I2 ρ2 σ2 S2 acc accV, Gr ρ' I' ρ2 I2 ∧ RB X.K (upd F Dl (.lst accV)) I2 ρ2 S2 H3 (L2.wipe σV vs) σ2 ∧ Reps X.K ρ2 I2 accV acc ∧
        postF X.K Wx F I2 ρ2 σV ((noX (lcL g c f vs (items.drop (i + 1)) acc σ2 S2)).bind fun ws σ'' S'' => .ok (.lst ws) (restD σ' σ'' vs) S'') Q, fun H' q => ⟨m, Nat.lt_succ_self m, q⟩, fun x H3 y => ?_⟩
      obtain ⟨I3, g3, rb3, r3⟩ := yl x H3 y
      unfold lcL at h2
      cases eg : g items[i] σ2 with
      | none => rw [eg] at h2; exact h2.elim
      | some σ3 =>
        rw [eg] at h2
        subst hvs
        refine ⟨_, I3, ρ2, σ2, S2, items[i], σ3, rb3, r3, eg, fun σV4 ew rb4 => ⟨ew.trans ?_, _, I3, ρ2, σ3, S2, rb4, ?_⟩⟩
        · apply List.ext_getElem?
          intro j
          rw [wipe_get, wipe_get]
          split
          · rw [Option.map_map]; rfl
          · rfl
        have ew2 : L2.wipe σV4 (own.map (·.2)) = L2.wipe σV (own.map (·.2)) := ew.trans (by
          apply List.ext_getElem?
          intro j
          rw [wipe_get, wipe_get]
          split
          · rw [Option.map_map]; rfl
          · rfl)
        have h2 : postF X.K Wx F I3 ρ2 σV ((noX ((c σ3 S2).bind fun b σ2 S2 => if b = true then (dV f σ2 S2).bind fun w σ3 S3 => (if acc.length < most then lcL g c f (own.map (·.2)) (items.drop (i + 1)) (acc ++ [w]) (wipeD σ3 (own.map (·.2))) S3 else .fail) else lcL g c f (own.map (·.2)) (items.drop (i + 1)) acc (wipeD σ2 (own.map (·.2))) S2)).bind fun ws σ'' S'' => .ok (.lst ws) (restD σ' σ'' (own.map (·.2))) S'') Q := postF_gr g3 h2
        cases ec : c σ3 S2 with
        | exc a σ5 S5 => rw [ec] at h2; exact h2.elim
        | fail => rw [ec] at h2; exact h2.elim
        | ok b σ5 S5 =>
          rw [ec] at h2
          intro I5 ρ5 H5 b' g5 rb5 tb
          subst tb
          cases b' with
          | false =>
            rw [if_neg Bool.false_ne_true]
            have h3 : postF X.K Wx F I3 ρ2 σV ((noX (lcL g c f (own.map (·.2)) (items.drop (i + 1)) acc (wipeD σ5 (own.map (·.2))) S5)).bind fun ws σ'' S'' => .ok (.lst ws) (restD σ' σ'' (own.map (·.2))) S'') Q := h2
            have rb6 := rb5.wipe (own.map (·.2))
            rw [ew2] at rb6
            exact ⟨by omega, I5, ρ5, _, S5, acc, accV, (g2.trans g3).trans g5, rb6, racc.gr (g3.trans g5), postF_gr g5 h3⟩
          | true =>
            rw [if_pos rfl]
            have h3 : postF X.K Wx F I5 ρ5 σV ((noX ((dV f σ5 S5).bind fun w σ3 S3 => (if acc.length < most then lcL g c f (own.map (·.2)) (items.drop (i + 1)) (acc ++ [w]) (wipeD σ3 (own.map (·.2))) S3 else .fail))).bind fun ws σ'' S'' => .ok (.lst ws) (restD σ' σ'' (own.map (·.2))) S'') Q := postF_gr g5 h2
            refine ⟨_, I5, ρ5, σ5, S5, rb5, ?_⟩
            cases ev : dV f σ5 S5 with
            | exc a σ7 S7 => rw [ev] at h3; exact h3.elim
            | fail => rw [ev] at h3; exact h3.elim
            | ok w σ7 S7 =>
              rw [ev] at h3
              intro I7 ρ7 H7 v7 g7 rb7 r7
              have h4 : postF X.K Wx F I5 ρ5 σV ((noX (if acc.length < most then lcL g c f (own.map (·.2)) (items.drop (i + 1)) (acc ++ [w]) (wipeD σ7 (own.map (·.2))) S7 else .fail)).bind fun ws σ'' S'' => .ok (.lst ws) (restD σ' σ'' (own.map (·.2))) S'') Q := h3
              split at h4
              · rename_i hl
                obtain ⟨_, _, _, _, hH⟩ := rb7.delF hF (fun _ _ z => by cases z)
                refine ⟨accV, hH, by rw [racc.length, ← most_eq]; exact hl, by omega, I7, ρ7, _, S7, acc ++ [w], accV ++ [v7], ((g2.trans g3).trans g5).trans g7, ?_, ((racc.gr ((g3.trans g5).trans g7)).append (.cons r7 .nil)), postF_gr g7 h4⟩
                have rb8 := (rb7.fset (o' := .lst (accV ++ [v7])) hF (fun _ _ z => by cases z)).wipe (own.map (·.2))
                rw [ew2] at rb8
                exact rb8
              · exact h4.elim
theorem lc_noloc {it : DI} {g : DG} {c : DT} {f : DE} {vs : List Nat} : ∀ σ S w σ' S', dLc it g c f vs σ S = .ok w σ' S' → ∀ j, w ≠ .loc j := fun σ S w σ' S' h j => by
  unfold dLc at h
  cases e : it σ S with
  | exc a _ _ => rw [e] at h; cases h
  | fail => rw [e] at h; cases h
  | ok items σ1 S1 =>
    rw [e] at h
    dsimp only [Res.bind] at h
    split at h
    · cases e2 : noX (lcL g c f vs items [] (wipeD σ1 vs) S1) with
      | exc a _ _ => rw [e2] at h; cases h
      | fail => rw [e2] at h; cases h
      | ok ws σ2 S2 =>
        rw [e2] at h
        cases h
        intro z
        cases z
    · cases h
theorem cf_lc {elt tg iter : Expr} {ifs : List Expr} {scope : Scope} {own : List (Str × Nat)} {pos : Pos} {it : DI} {g : DG} {c : DT} {f : DE} (hN : X.N.Nodup) (ok : BlkOk X.N X.env.scope scope own) {vs : List Nat} (hvs : own.map (·.2) = vs) (hi : SI X Wx tg iter it)
    (hg : ∀ (s : Shared) (H : Hp) (C : Addr) (cl : List (Str × Addr)) (fp : List Addr), SG (X.blk s H scope (compEnvC scope cl C X.env) fp) vs tg g)
    (ht : ∀ (s : Shared) (H : Hp) (C : Addr) (cl : List (Str × Addr)) (fp : List Addr), PTs (X.blk s H scope (compEnvC scope cl C X.env) fp) ifs (semT X.K W0 c))
    (he : ∀ (s : Shared) (H : Hp) (C : Addr) (cl : List (Str × Addr)) (fp : List Addr), SE (X.blk s H scope (compEnvC scope cl C X.env) fp) W0 elt f) (hc : X.calm = true := by rfl) (hs : ∀ x, foldedSetIterable iter X.env x = pure x := by intro _; rfl) :
    SF X Wx (.ListComp elt [⟨tg, iter, ifs, 0⟩] scope pos) (dLc it g c f vs) := by
  subst hvs
  exact PE.imp (pe_lc (g := semG X.K (own.map (·.2)) g) (tt := semT X.K W0 c) (te := semV X.K W0 (dV f)) hc hN hi ok hg ht (fun s H C cl fp => c_v (he s H C cl fp)) hs) fun _ _ _ h => sem_lc h
/-- y = [..], y a local: stored within the comprehension's frame -/
theorem cs_setLcO {fr : Bool} {i : Nat} {y : Str} {py : Pos} {elt tg iter : Expr} {ifs : List Expr} {scope : Scope} {own : List (Str × Nat)} {pos spos : Pos} {it : DI} {g : DG} {c : DT} {f : DE} (hN : X.N.Nodup) (ok : BlkOk X.N X.env.scope scope own) {vs : List Nat} (hvs : own.map (·.2) = vs) (hsw : swapsWith (.ListComp elt [⟨tg, iter, ifs, 0⟩] scope pos) (some (.Name y py)) spos.line X.env = pure true) (hi : SI X Wx tg iter it)
    (hg : ∀ (s : Shared) (H : Hp) (C : Addr) (cl : List (Str × Addr)) (fp : List Addr), SG (X.blk s H scope (compEnvC scope cl C X.env) fp) vs tg g)
    (ht : ∀ (s : Shared) (H : Hp) (C : Addr) (cl : List (Str × Addr)) (fp : List Addr), PTs (X.blk s H scope (compEnvC scope cl C X.env) fp) ifs (semT X.K W0 c))
    (he : ∀ (s : Shared) (H : Hp) (C : Addr) (cl : List (Str × Addr)) (fp : List Addr), SE (X.blk s H scope (compEnvC scope cl C X.env) fp) W0 elt f) (hy : X.N[i]? = some y := by rfl) (hyl : X.env.scope.names.lookup y = some .local := by rfl) (hc : X.calm = true := by rfl) (hs : ∀ x, foldedSetIterable iter X.env x = pure x := by intro _; rfl) :
    SS fr X Wx (.Assign [.Name y py] (.ListComp elt [⟨tg, iter, ifs, 0⟩] scope pos) spos) (sSetO i (dLc it g c f vs)) := by
  subst hvs
  refine PS.imp (ps_setLc (g := semG X.K (own.map (·.2)) g) (tt := semT X.K W0 c) (te := semV X.K W0 (dV f)) hc hN hy hyl hsw hi ok hg ht (fun s H C cl fp => c_v (he s H C cl fp)) hs) fun D σV H h => ?_
  have h2 : semF X.K Wx (dLc it g c f (own.map (·.2))) σV H fun v H' => D.nx (σV.set i (some v)) H' := sem_setO h
  exact sem_lc h2
theorem cs_setLc {fr : Bool} {i : Nat} {y : Str} {py : Pos} {elt tg iter : Expr} {ifs : List Expr} {scope : Scope} {own : List (Str × Nat)} {pos spos : Pos} {it : DI} {g : DG} {c : DT} {f : DE} (hN : X.N.Nodup) (ok : BlkOk X.N X.env.scope scope own) {vs : List Nat} (hvs : own.map (·.2) = vs) (hsw : swapsWith (.ListComp elt [⟨tg, iter, ifs, 0⟩] scope pos) (some (.Name y py)) spos.line X.env = pure true) (hi : SI X Wx tg iter it)
    (hg : ∀ (s : Shared) (H : Hp) (C : Addr) (cl : List (Str × Addr)) (fp : List Addr), SG (X.blk s H scope (compEnvC scope cl C X.env) fp) vs tg g)
    (ht : ∀ (s : Shared) (H : Hp) (C : Addr) (cl : List (Str × Addr)) (fp : List Addr), PTs (X.blk s H scope (compEnvC scope cl C X.env) fp) ifs (semT X.K W0 c))
    (he : ∀ (s : Shared) (H : Hp) (C : Addr) (cl : List (Str × Addr)) (fp : List Addr), SE (X.blk s H scope (compEnvC scope cl C X.env) fp) W0 elt f) (hy : X.N[i]? = some y := by rfl) (hyl : X.env.scope.names.lookup y = some .local := by rfl) (hc : X.calm = true := by rfl) (hs : ∀ x, foldedSetIterable iter X.env x = pure x := by intro _; rfl) :
    SS fr X Wx (.Assign [.Name y py] (.ListComp elt [⟨tg, iter, ifs, 0⟩] scope pos) spos) (sSet i (dLc it g c f vs)) := by
  subst hvs
  refine PS.imp (ps_setLc (g := semG X.K (own.map (·.2)) g) (tt := semT X.K W0 c) (te := semV X.K W0 (dV f)) hc hN hy hyl hsw hi ok hg ht (fun s H C cl fp => c_v (he s H C cl fp)) hs) fun D σV H h => ?_
  have h2 : semF X.K Wx (dLc it g c f (own.map (·.2))) σV H fun v H' => D.nx (σV.set i (some v)) H' := sem_setF lc_noloc h
  exact sem_lc h2
end
end MR

set_option Elab.async false
set_option linter.all false
set_option maxRecDepth 100000
/-! MR9: in, not in; a < b < c; repeated texts and lists; join, split. -/
namespace MR
open PySem PySem.Spec PyProof.Rows L2

section
variable {K : PySem.W.Frag} {X : Cx} {Wx : WX}
/-! ### in -/
/-- flat data and their == -/
def flatD : D → Bool
  | .non => true | .bl _ => true | .int _ => true | .str _ => true
  | _ => false
def toV : D → V
  | .bl b => .bl b
  | .int i => .int i
  | .str x => .str x
  | _ => .non
def inD (x : D) (xs : List D) : Bool := inV (toV x) (xs.map toV)
theorem Rep.flat {ρ : List Addr} {I : Hp} {v : V} {w : D} (r : Rep K ρ I v w) (h : flatD w = true) : v = toV w ∧ flatV v = true := by
  cases r <;> first | exact ⟨rfl, rfl⟩ | cases h
theorem Reps.flat {ρ : List Addr} {I : Hp} : ∀ {vs : List V} {ws : List D}, Reps K ρ I vs ws → ws.all flatD = true → vs = ws.map toV ∧ vs.all flatV = true
  | _, _, .nil, _ => ⟨rfl, rfl⟩
  | _, _, .cons h r, e => by
    rw [List.all_cons, Bool.and_eq_true] at e
    obtain ⟨e1, e2⟩ := h.flat e.1
    obtain ⟨e3, e4⟩ := r.flat e.2
    exact ⟨by rw [e1, e3]; rfl, by rw [List.all_cons, e2, e4]; rfl⟩
theorem At.flat {ρ : List Addr} {I H : Hp} {v : V} {a : D} (r : At K ρ I H v a) (h : flatD a = true) : v = toV a ∧ flatV v = true := by
  cases a <;> first | (cases h; done) | (have r : v = _ := r; subst r; exact ⟨rfl, rfl⟩)
def inA : D → D → Option Bool
  | .str x, .str z => (match x.cps.toList with
    | [c] => some (decide (c ∈ z.cps.toList))
    | _ => none)
  | x, .lst xs => if flatD x && xs.all flatD then some (inD x xs) else none
  | x, .tup xs => if flatD x && xs.all flatD then some (inD x xs) else none
  | _, _ => none
def opIn (a b : D) : Option D := (inA a b).map D.bl
def opNotIn (a b : D) : Option D := (inA a b).map fun x => D.bl (!x)
def rInA (K : PySem.W.Frag) : R2 := fun x y H Q => (∃ (c : Nat) (z : Str), x = .str ⟨#[c]⟩ ∧ y = .str z ∧ Q (.bl (decide (c ∈ z.cps.toList))) H) ∨ rIn K false x y H Q
def rNotInA (K : PySem.W.Frag) : R2 := fun x y H Q => (∃ (c : Nat) (z : Str), x = .str ⟨#[c]⟩ ∧ y = .str z ∧ Q (.bl (!decide (c ∈ z.cps.toList))) H) ∨ rIn K true x y H Q
theorem op_inA : OpR X (compareOp .In) (rInA X.K) := op_in_sign.or op_in_seq
theorem op_notInA : OpR X (compareOp .NotIn) (rNotInA X.K) := op_notIn_sign.or op_notIn_seq
theorem inA_cases {ρ : List Addr} {I H : Hp} {v1 v2 : V} {a b : D} {x : Bool} (h1 : At K ρ I H v1 a) (h2 : At K ρ I H v2 b) (e : inA a b = some x) :
    (∃ (c : Nat) (z : Str), v1 = .str ⟨#[c]⟩ ∧ v2 = .str z ∧ decide (c ∈ z.cps.toList) = x) ∨ ∃ p xs, v2 = .ref p ∧ (SqL K H p xs ∨ SqT K H p xs) ∧ flatV v1 = true ∧ xs.all flatV = true ∧ inV v1 xs = x := by
  unfold inA at e
  split at e
  · rename_i x0 z0
    cases h1; cases h2
    cases hx : x0.cps.toList with
    | nil => rw [hx] at e; cases e
    | cons c r =>
      rw [hx] at e
      cases r with
      | cons _ _ => cases e
      | nil =>
        cases e
        have : x0 = ⟨#[c]⟩ := by
          obtain ⟨⟨l⟩⟩ := x0
          have : l = [c] := hx
          subst this
          rfl
        subst this
        exact .inl ⟨c, z0, rfl, rfl, rfl⟩
  · obtain ⟨p, vs, rfl, hp, r⟩ := h2
    split at e
    · rename_i hf
      obtain ⟨f1, f2⟩ := Bool.and_eq_true_iff.mp hf
      cases e
      obtain ⟨e1, e2⟩ := h1.flat f1
      obtain ⟨e3, e4⟩ := r.flat f2
      exact .inr ⟨p, vs, rfl, .inl (SqL_at hp), e2, e4, by rw [e1, e3]; rfl⟩
    · cases e
  · obtain ⟨p, vs, rfl, hp, r⟩ := h2
    split at e
    · rename_i hf
      obtain ⟨f1, f2⟩ := Bool.and_eq_true_iff.mp hf
      cases e
      obtain ⟨e1, e2⟩ := h1.flat f1
      obtain ⟨e3, e4⟩ := r.flat f2
      exact .inr ⟨p, vs, rfl, .inr hp, e2, e4, by rw [e1, e3]; rfl⟩
    · cases e
  · cases e
theorem os_in : OpS K (rInA K) opIn := by
  intro F I ρ S H σV σ v1 v2 a b z Q rb h1 h2 ez q
  obtain ⟨x, e, rfl⟩ := Option.map_eq_some_iff.mp ez
  rcases inA_cases h1 h2 e with ⟨c, z, rfl, rfl, hx⟩ | ⟨p, xs, rfl, hp, f1, f2, hx⟩
  · exact .inl ⟨c, z, rfl, rfl, by rw [hx]; exact q I H _ Gr.refl rb .bl⟩
  · exact .inr ⟨p, xs, rfl, hp, f1, f2, by rw [hx]; exact q I H _ Gr.refl rb .bl⟩
theorem os_notIn : OpS K (rNotInA K) opNotIn := by
  intro F I ρ S H σV σ v1 v2 a b z Q rb h1 h2 ez q
  obtain ⟨x, e, rfl⟩ := Option.map_eq_some_iff.mp ez
  rcases inA_cases h1 h2 e with ⟨c, z, rfl, rfl, hx⟩ | ⟨p, xs, rfl, hp, f1, f2, hx⟩
  · exact .inl ⟨c, z, rfl, rfl, by rw [hx]; exact q I H _ Gr.refl rb .bl⟩
  · exact .inr ⟨p, xs, rfl, hp, f1, f2, by rw [hx]; exact q I H _ Gr.refl rb .bl⟩
theorem c_in {a b : Expr} {pos : Pos} {f g : DE} (ha : SE X Wx a f) (hb : SE X Wx b g) (hm : behindInMarks .In b = false := by rfl) : SE X Wx (.Compare a [.In] [b] pos) (d2 opIn f g) := c_cmp op_inA os_in ha hb hm
theorem ct_in {a b : Expr} {pos : Pos} {f g : DE} (ha : SE X Wx a f) (hb : SE X Wx b g) (hm : behindInMarks .In b = false := by rfl) : ST X Wx (.Compare a [.In] [b] pos) (tVal (d2 opIn f g)) := ct_cmp op_inA os_in ha hb hm
theorem c_notIn {a b : Expr} {pos : Pos} {f g : DE} (ha : SE X Wx a f) (hb : SE X Wx b g) (hm : behindInMarks .NotIn b = false := by rfl) : SE X Wx (.Compare a [.NotIn] [b] pos) (d2 opNotIn f g) := c_cmp op_notInA os_notIn ha hb hm
theorem ct_notIn {a b : Expr} {pos : Pos} {f g : DE} (ha : SE X Wx a f) (hb : SE X Wx b g) (hm : behindInMarks .NotIn b = false := by rfl) : ST X Wx (.Compare a [.NotIn] [b] pos) (tVal (d2 opNotIn f g)) := ct_cmp op_notInA os_notIn ha hb hm

/-! ### a op b op' c -/
def dChain (op op' : D → D → Option D) (f g h : DE) : DE := fun σ S => (f σ S).bind fun x σ S => (g σ S).bind fun y σ S => match (deref σ S x).bind fun a => (deref σ S y).bind fun b => op a b with
  | some (.bl true) => (h σ S).bind fun z σ S => ofOpt ((deref σ S y).bind fun a => (deref σ S z).bind fun b => op' a b) σ S
  | some (.bl false) => .ok (.bl false) σ S
  | _ => .fail
theorem sem_chain {r r' : R2} {op op' : D → D → Option D} {f g h : DE} (ho : OpS X.K r op) (ho' : OpS X.K r' op') {σV : L2.St} {H : Hp} {Q : VK} (hh : semE X.K Wx (dChain op op' f g h) σV H Q) : tChain r r' (semE X.K Wx f) (semE X.K Wx g) (semE X.K Wx h) σV H Q := by
  obtain ⟨F, I, ρ, σ, S, rb, hh⟩ := hh
  refine ⟨F, I, ρ, σ, S, rb, post_bind hh fun I1 ρ1 σ1 S1 H1 x v1 _ g1 rb1 t1 h1 => ?_⟩
  refine ⟨F, I1, ρ1, σ1, S1, rb1, post_bind h1 fun I2 ρ2 σ2 S2 H2 y v2 _ g2 rb2 t2 h2 => ?_⟩
  cases ez : (deref σ2 S2 x).bind fun a => (deref σ2 S2 y).bind fun b => op a b with
  | none => rw [ez] at h2; exact h2.elim
  | some z =>
    rw [ez] at h2
    obtain ⟨a, ea, ez⟩ := Option.bind_eq_some_iff.mp ez
    obtain ⟨b, eb, ez⟩ := Option.bind_eq_some_iff.mp ez
    refine ho F I2 ρ2 S2 H2 σV σ2 v1 v2 a b z _ rb2 (rb2.at (t1.gr g2) ea) (rb2.at t2 eb) ez fun I3 H3 v3 g3 rb3 r3 => ?_
    cases z with
    | bl k =>
      cases r3
      refine ⟨k, rfl, ?_⟩
      cases k with
      | false =>
        rw [if_neg Bool.false_ne_true]
        exact (post_gr g3 h2) I3 ρ2 H3 _ Gr.refl rb3 (.inr .bl)
      | true =>
        rw [if_pos rfl]
        refine ⟨F, I3, ρ2, σ2, S2, rb3, post_bind (post_gr g3 h2) fun I4 ρ4 σ4 S4 H4 w v4 _ g4 rb4 t4 h4 => ?_⟩
        obtain ⟨z4, ez4, h5⟩ := post_opt h4
        obtain ⟨a4, ea4, ez4⟩ := Option.bind_eq_some_iff.mp ez4
        obtain ⟨b4, eb4, ez4⟩ := Option.bind_eq_some_iff.mp ez4
        exact ho' F I4 ρ4 S4 H4 σV σ4 v2 v4 a4 b4 z4 Q rb4 (rb4.at ((t2.gr g3).gr g4) ea4) (rb4.at t4 eb4) ez4 fun I' H' v g' rb' r' => h5 I' ρ4 H' v g' rb' (.inr r')
    | _ => exact h2.elim
theorem c_chain {a b c : Expr} {o o' : CmpOp} {pos : Pos} {r r' : R2} {op op' : D → D → Option D} {f g h : DE} (hr : OpR X (compareOp o) r) (hs : OpS X.K r op) (hr' : OpR X (compareOp o') r') (hs' : OpS X.K r' op') (ha : SE X Wx a f) (hb : SE X Wx b g) (hc : SE X Wx c h) (hm : lastMarks [o, o'] [b, c] = false := by with_unfolding_all rfl) :
    SE X Wx (.Compare a [o, o'] [b, c] pos) (dChain op op' f g h) := PE.imp (pe_chain hr hr' ha hb hc hm) fun _ _ _ q => sem_chain hs hs' q
theorem ct_chain {a b c : Expr} {o o' : CmpOp} {pos : Pos} {r r' : R2} {op op' : D → D → Option D} {f g h : DE} (hr : OpR X (compareOp o) r) (hs : OpS X.K r op) (hr' : OpR X (compareOp o') r') (hs' : OpS X.K r' op') (ha : SE X Wx a f) (hb : SE X Wx b g) (hc : SE X Wx c h) (hm : lastMarks [o, o'] [b, c] = false := by with_unfolding_all rfl) :
    ST X Wx (.Compare a [o, o'] [b, c] pos) (tVal (dChain op op' f g h)) := PT.imp (pt_chain hr hr' ha hb hc hm) fun _ _ _ q => sem_chain hs hs' (sem_tval q)

/-! ### text * n, list * n -/
def repS (z : Str) (n : Nat) : Str := ⟨(List.replicate n z.cps.toList).flatten.toArray⟩
theorem foldl_app (l : List (Array Nat)) : ∀ a : Array Nat, (l.foldl (· ++ ·) a).toList = a.toList ++ (l.map (·.toList)).flatten := by
  induction l with
  | nil => intro a; simp
  | cons x r ih => intro a; rw [List.foldl_cons, ih]; simp
theorem mul_rep (z : Str) (n : Int) (h : 0 ≤ n) : Txt.mul z n = repS z n.toNat := by
  unfold Txt.mul repS
  split
  · rename_i h1
    have : n = 0 := by omega
    subst this
    rfl
  · split
    · rename_i h1 h2
      rcases Bool.or_eq_true_iff.mp h2 with h3 | h3
      · have : n = 1 := eq_of_beq h3
        subst this
        simp
      · have : z.length = 0 := eq_of_beq h3
        obtain ⟨⟨l⟩⟩ := z
        have : l = [] := List.eq_nil_of_length_eq_zero this
        subst this
        simp
    · congr 1
      apply Array.toList_inj.mp
      rw [foldl_app]
      simp
def opMul' : D → D → Option D
  | .int i, .int j => if mulOk i j then some (.int (i * j)) else none
  | .str z, .int j => if 0 ≤ j ∧ j ≤ 1000000 ∧ z.length * j.toNat ≤ most then some (.str (repS z j.toNat)) else none
  | .lst xs, .int j => if 0 ≤ j ∧ j ≤ 1000000 ∧ xs.length * j.toNat ≤ most then some (.lst (List.replicate j.toNat xs).flatten) else none
  | _, _ => none
def rMulA : R2 := fun x y H Q => rI CMulW (fun i j => .int (i * j)) x y H Q ∨ ((∃ z j, x = .str z ∧ y = .int j ∧ MulOk z j ∧ Q (.str (Txt.mul z j)) H) ∨ rRep x y H Q)
theorem op_mul_str : OpR X (binaryOp .Mult) (fun x y H Q => ∃ z j, x = .str z ∧ y = .int j ∧ MulOk z j ∧ Q (.str (Txt.mul z j)) H) := by
  intro pins s σ H x y v u Q I rx ry h
  obtain ⟨z, j, rfl, rfl, hok, q⟩ := h
  obtain ⟨t, rfl⟩ := rx
  obtain ⟨t', rfl⟩ := ry
  exact SB.mul hok fun t' k => ⟨.str _, H, I.tok _, ⟨_, rfl⟩, q⟩
theorem op_mulA : OpR X (binaryOp .Mult) rMulA := op_mulW.or (op_mul_str.or op_rep)
theorem Reps.rep {ρ : List Addr} {I : Hp} {vs : List V} {ws : List D} (r : Reps K ρ I vs ws) : ∀ n : Nat, Reps K ρ I (List.replicate n vs).flatten (List.replicate n ws).flatten
  | 0 => .nil
  | n + 1 => by
    rw [List.replicate_succ, List.replicate_succ, List.flatten_cons, List.flatten_cons]
    exact r.append (Reps.rep r n)
theorem os_mul' : OpS K rMulA opMul' := by
  intro F I ρ S H σV σ v1 v2 a b z Q rb h1 h2 ez q
  unfold opMul' at ez
  split at ez
  · cases h1; cases h2
    split at ez
    · rename_i h
      cases ez
      exact .inl ⟨_, _, rfl, rfl, h, q I H _ Gr.refl rb .int⟩
    · cases ez
  · cases h1; cases h2
    split at ez
    · rename_i z j h
      cases ez
      refine .inr (.inl ⟨z, j, rfl, rfl, ⟨?_, fun h1 h2 => ?_, fun h1 h2 => ?_⟩, ?_⟩)
      · rw [Bool.or_eq_false_iff]
        exact ⟨decide_eq_false (by omega), decide_eq_false (by omega)⟩
      · have e2 : (z.length : Int) * j ≤ 2 ^ 63 - 1 := by
          have e3 : (z.length : Int) * j = ((z.length * j.toNat : Nat) : Int) := by
            rw [Int.natCast_mul, Int.toNat_of_nonneg h.1]
          have := h.2.2
          unfold most at this
          rw [e3]
          omega
        have := Int.le_ediv_of_mul_le (by omega) e2
        omega
      · have := h.2.2
        rw [most_eq] at this
        exact decide_eq_false (by omega)
      · rw [mul_rep z j h.1]
        exact q I H _ Gr.refl rb .str
    · cases ez
  · cases h2
    obtain ⟨a, vs, rfl, ha, ra⟩ := h1
    split at ez
    · rename_i xs j h
      cases ez
      refine .inr (.inr ⟨a, j, vs, rfl, rfl, ha, by omega, by omega, by rw [ra.length, ← most_eq]; exact h.2.2, fun p hp => ?_⟩)
      obtain ⟨g, rb2⟩ := rb.new (o := .lst (List.replicate j.toNat vs).flatten) hp
      exact q _ _ _ g rb2 (.lst upd_same ((ra.rep _).gr g))
    · cases ez
  · cases ez

/-! ### sep.join(xs), text.split(sep) -/
def strsD : List D → Option (List Str)
  | [] => some []
  | .str x :: r => (strsD r).map fun ys => x :: ys
  | _ => none
theorem Reps.strs {ρ : List Addr} {I : Hp} : ∀ {vs : List V} {ws : List D} {ys : List Str}, Reps K ρ I vs ws → strsD ws = some ys → vs = ys.map V.str
  | _, _, _, .nil, e => by cases e; rfl
  | _, _, _, .cons h r, e => by
    unfold strsD at e
    split at e
    · rename_i h1; cases h1
    · rename_i b rest h1
      cases h1
      obtain ⟨bs, e1, rfl⟩ := Option.map_eq_some_iff.mp e
      cases h
      rw [Reps.strs r e1]
      rfl
    · cases e
def opJoin : D → D → Option D
  | .str a, .lst xs => (strsD xs).bind fun ys => if (ys.map (·.length)).sum + ys.length * a.length ≤ most then some (.str (Txt.join a ys)) else none
  | _, _ => none
def opSplit : D → D → Option D
  | .str a, .str b => if (b.length == 0) = false ∧ a.length + 2 ≤ most then some (.lst ((Txt.split a b).map D.str)) else none
  | _, _ => none
/-- a method of a text with one argument -/
def dS1 (op : D → D → Option D) (f g : DE) : DE := fun σ S => (f σ S).bind fun x σ S => match x with
  | .str a => (g σ S).bind fun y σ S => ofOpt ((deref σ S y).bind fun b => op (.str a) b) σ S
  | _ => .fail
def MS1 (K : PySem.W.Frag) (r : V → List V → Hp → VK → Prop) (op : D → D → Option D) : Prop := ∀ (F I : Hp) (ρ : List Addr) (S : Sto) (H : Hp) (σV : L2.St) (σ : Sl) (x : Str) (v : V) (a z : D) (Q : VK), RB K F I ρ S H σV σ → At K ρ I H v a → op (.str x) a = some z →
  (∀ I' H' v, Gr ρ I ρ I' → RB K F I' ρ S H' σV σ → ((∃ a, v = .ref a ∧ Fresh K F I' ρ H' σV σ a z) ∨ (scalar z = true ∧ Rep K ρ I' v z)) → Q v H') → r (.str x) [v] H Q
theorem cf_s1 {o e : Expr} {id : String} {name : Str} {apos pos : Pos} {f g : DE} {op : D → D → Option D} {r : V → List V → Hp → VK → Prop} (slot : PySem.Slot "str" name id) (ty : typeOf (.builtin id) = pure (.type "method_descriptor")) (rule : MtR X id r) (hs : MS1 X.K r op) (ho : SE X Wx o f) (he : SE X Wx e g)
    (hst : starEach [e] X.env = [(false, eval e X.env)] := by rfl) (hbase : attributeBase o name X.env (eval o X.env) = eval o X.env := by rfl) (hline : (apos.endLine == pos.line) = true := by rfl) : SF X Wx (.Call (.Attribute o name apos) [e] [] pos) (dS1 op f g) := by
  refine PE.imp (pe_m1 slot ty rule ho he hst hbase hline) fun σV H Q h => ?_
  obtain ⟨F, I, ρ, σ, S, rb, h⟩ := h
  refine ⟨F, I, ρ, σ, S, rb, postF_bind h fun I1 ρ1 σ1 S1 H1 x v1 _ g1 rb1 t1 h1 => ?_⟩
  rcases t1 with ⟨i, rfl, _⟩ | t1
  · exact h1.elim
  · cases t1 with
    | @str a =>
      refine ⟨⟨a, rfl⟩, F, I1, ρ1, σ1, S1, rb1, postF_bind h1 fun I2 ρ2 σ2 S2 H2 y v2 _ g2 rb2 t2 h2 => ?_⟩
      cases ez : (deref σ2 S2 y).bind fun b => op (.str a) b with
      | none => rw [ez] at h2; exact h2.elim
      | some z =>
        rw [ez] at h2
        obtain ⟨b, eb, ez⟩ := Option.bind_eq_some_iff.mp ez
        exact hs F I2 ρ2 S2 H2 σV σ2 a v2 b z Q rb2 (rb2.at t2 eb) ez fun I' H' v g' rb' r' => h2 I' ρ2 H' v g' rb' r'
    | _ => exact h1.elim
theorem m_join : MS1 K (fun x xs H Q => ∃ a p, ∃ ys : List Str, x = .str a ∧ xs = [.ref p] ∧ (SqL K H p (ys.map V.str) ∨ SqT K H p (ys.map V.str)) ∧ (ys.map (·.length)).sum + ys.length * a.length ≤ 16777216 ∧ Q (.str (Txt.join a ys)) H) opJoin := by
  intro F I ρ S H σV σ x v a z Q rb h ez q
  unfold opJoin at ez
  split at ez
  · rename_i a0 xs e1
    cases e1
    obtain ⟨p, vs, rfl, hp, r⟩ := h
    obtain ⟨ys, e2, ez⟩ := Option.bind_eq_some_iff.mp ez
    have := r.strs e2
    subst this
    split at ez
    · rename_i hl
      cases ez
      exact ⟨_, p, ys, rfl, rfl, .inl (SqL_at hp), hl, q I H _ Gr.refl rb (.inr ⟨rfl, .str⟩)⟩
    · cases ez
  · cases ez
theorem Reps.ofStrs {ρ : List Addr} {I : Hp} : ∀ ys : List Str, Reps K ρ I (ys.map V.str) (ys.map D.str)
  | [] => .nil
  | _ :: r => .cons .str (Reps.ofStrs r)
theorem m_split : MS1 K (fun x xs H Q => ∃ a b, x = .str a ∧ xs = [.str b] ∧ (b.length == 0) = false ∧ a.length + 2 ≤ sizeLine ∧ rNewStrs (Txt.split a b) H Q) opSplit := by
  intro F I ρ S H σV σ x v a z Q rb h ez q
  unfold opSplit at ez
  split at ez
  · rename_i a0 b e1
    cases e1
    cases h
    split at ez
    · rename_i hl
      cases ez
      refine ⟨_, b, rfl, rfl, hl.1, by rw [← most_eq]; exact hl.2, fun p hp => ?_⟩
      obtain ⟨rb4, nf, ni, nr, no⟩ := rb.newO (o := .lst ((Txt.split x b).map V.str)) hp
      exact q _ _ _ Gr.refl rb4 (.inl ⟨p, rfl, nf, ni, nr, no, _, upd_same, Reps.ofStrs _⟩)
    · cases ez
  · cases ez
theorem cf_join {o e : Expr} {apos pos : Pos} {f g : DE} (ho : SE X Wx o f) (he : SE X Wx e g) (hst : starEach [e] X.env = [(false, eval e X.env)] := by rfl) (hbase : attributeBase o "join" X.env (eval o X.env) = eval o X.env := by rfl) (hline : (apos.endLine == pos.line) = true := by rfl) : SF X Wx (.Call (.Attribute o "join" apos) [e] [] pos) (dS1 opJoin f g) :=
  cf_s1 PySem.F.slot_str_join PySem.F.type_str_join mt_join m_join ho he hst hbase hline
theorem cf_split {o e : Expr} {apos pos : Pos} {f g : DE} (ho : SE X Wx o f) (he : SE X Wx e g) (hst : starEach [e] X.env = [(false, eval e X.env)] := by rfl) (hbase : attributeBase o "split" X.env (eval o X.env) = eval o X.env := by rfl) (hline : (apos.endLine == pos.line) = true := by rfl) : SF X Wx (.Call (.Attribute o "split" apos) [e] [] pos) (dS1 opSplit f g) :=
  cf_s1 PySem.F.slot_str_split PySem.F.type_str_split mt_split m_split ho he hst hbase hline
end
end MR

set_option Elab.async false
set_option linter.all false
set_option maxRecDepth 100000
/-! MR10: short words for the printed ties; the end of a law. -/
namespace MR
open PySem PySem.Spec PyProof.Rows L2

section
variable {X : Cx} {Wx : WX}
theorem op_eqA {k : Nat} (hr : Room k X.A) : OpR X (compareOp .Eq) (rEqA X.K) := op_eq.or (op_eqD hr.units)
theorem op_neA {k : Nat} (hr : Room k X.A) : OpR X (compareOp .NotEq) (rNeA X.K) := op_ne.or (op_neD hr.units)
/-- a constant of the module -/
theorem c_gstr {x z : Str} {pos : Pos} (h : ∃ t, X.mg x = some (.str z t)) (hg : Gl X x := by rfl) (hd : (x == ("__debug__" : Str)) = false := by decide) : SE X Wx (.Name x pos) (dC (.str z)) := by
  obtain ⟨t, h⟩ := h
  exact c_glob (v := .str z) h ⟨t, rfl⟩ (fun _ _ => .str) hg hd
theorem c_gint {x : Str} {z : Int} {pos : Pos} (h : ∃ t, X.mg x = some (.int z t)) (hg : Gl X x := by rfl) (hd : (x == ("__debug__" : Str)) = false := by decide) : SE X Wx (.Name x pos) (dC (.int z)) := by
  obtain ⟨t, h⟩ := h
  exact c_glob (v := .int z) h ⟨t, rfl⟩ (fun _ _ => .int) hg hd
/-- a tuple of the module: what it holds, whatever the heap -/
def GTup (K : PySem.W.Frag) (mg : Str → Option Value) (x : Str) (ws : List D) : Prop := ∃ a vs, mg x = some (.ref a) ∧ (∀ H, SqT K H a vs) ∧ ∀ ρ I, Reps K ρ I vs ws
theorem c_gtup {x : Str} {ws : List D} {pos : Pos} (h : GTup X.K X.mg x ws) (hg : Gl X x := by rfl) (hd : (x == ("__debug__" : Str)) = false := by decide) : SE X Wx (.Name x pos) (dC (.tup ws)) := by
  obtain ⟨a, vs, h, h1, h2⟩ := h
  exact c_glob h (v := .ref a) rfl (fun ρ I => .tup (h1 I) (h2 ρ I)) hg hd
def dNeg (f : DE) : DE := fun σ S => (f σ S).bind fun x σ S => match x with
  | .int i => .ok (.int (-i)) σ S
  | _ => .fail
theorem c_neg {a : Expr} {pos : Pos} {f : DE} (h : SE X Wx a f) : SE X Wx (.UnaryOp .USub a pos) (dNeg f) := by
  refine PE.imp (pe_un un_neg h) fun σV H Q h => ?_
  obtain ⟨F, I, ρ, σ, S, rb, h⟩ := h
  refine ⟨F, I, ρ, σ, S, rb, post_bind h fun I1 ρ1 σ1 S1 H1 x v1 _ g1 rb1 t1 h1 => ?_⟩
  rcases t1 with ⟨i, rfl, _⟩ | t1
  · exact h1.elim
  · cases t1 with
    | int => exact ⟨_, rfl, h1 I1 ρ1 H1 _ Gr.refl rb1 (.inr .int)⟩
    | _ => exact h1.elim
theorem la_nil : ∀ (σ : Sl) (S : Sto) (ws : List D) (σ' : Sl) (S' : Sto), aNil σ S = .ok ws σ' S' → ws.length = 0 := fun σ S ws σ' S' h => by cases h; rfl
theorem la_cons {f : DE} {r : DA} {n : Nat} (k : ∀ (σ : Sl) (S : Sto) (ws : List D) (σ' : Sl) (S' : Sto), r σ S = .ok ws σ' S' → ws.length = n) : ∀ (σ : Sl) (S : Sto) (ws : List D) (σ' : Sl) (S' : Sto), aCons f r σ S = .ok ws σ' S' → ws.length = n + 1 := fun σ S ws σ' S' h => by
  unfold aCons at h
  cases e : dV f σ S with
  | exc a _ _ => rw [e] at h; cases h
  | fail => rw [e] at h; cases h
  | ok w σ1 S1 =>
    rw [e] at h
    dsimp only [Res.bind] at h
    cases e2 : r σ1 S1 with
    | exc a _ _ => rw [e2] at h; cases h
    | fail => rw [e2] at h; cases h
    | ok w2 σ2 S2 =>
      rw [e2] at h
      cases h
      rw [List.length_cons, k _ _ _ _ _ e2]
/-- x += e at a slot, ints -/
def sAug (i : Nat) (op : Int → Int → Int) (f : DE) : DS := fun σ S => match σ[i]? with
  | some (.val (.int a)) => (f σ S).bind fun y σ S => (match y with
    | .int b => .ok .next (σ.set i (.val (.int (op a b)))) S
    | _ => .fail)
  | _ => .fail
theorem cs_aug {fr : Bool} {i : Nat} {x : Str} {e : Expr} {op : Operator} {g : Int → Int → Int} {f : DE} {pos pos' : Pos} (ho : PIp X op (ipI g)) (hN : X.N.Nodup) (h : SE X Wx e f) (hi : X.N[i]? = some x := by rfl) (hx : Loc X.env.scope x := by first | exact Or.inl rfl | exact Or.inr rfl)
    (hf : X.fn x = true ∨ X.env.scope.names.lookup x = some .local := by first | exact .inl rfl | exact .inr rfl | assumption) : SS fr X Wx (.AugAssign (.Name x pos') op e pos) (sAug i g f) := by
  refine PS.imp (ps_aug hN hi hx h ho hf) fun D σV H h => ?_
  obtain ⟨F, I, ρ, σ, S, rb, h⟩ := h
  unfold sAug at h
  split at h
  · rename_i a hw
    obtain ⟨v, hv, r⟩ := rb.slot i _ hw
    refine ⟨v, hv, F, I, ρ, σ, S, rb, postS_bind h fun I1 ρ1 σ1 S1 H1 y v1 _ g1 rb1 t1 h1 => ?_⟩
    split at h1
    · cases r
      rcases t1 with ⟨i, q, _⟩ | t1
      · cases q
      · cases t1
        exact ⟨_, _, rfl, rfl, h1 I1 ρ1 H1 _ Gr.refl (rb1.setV .int)⟩
    · exact h1.elim
  · exact h.elim
end

/-- a def of the module, from what the head tells of it -/
theorem fn_mk {fr : Bool} {P : Program} {w : World} {K : PySem.W.Frag} {mg : Str → Option Value} {base : Heap} {x : Str} {params : Arguments} {body : List Stmt} {scope : Scope} {f : Addr} {fd : FuncData} {N ps : List Str} {k n m : Nat} {d : DS}
    (FD : FunD K x x params body scope [] [] f fd) (hm : mg x = some (.ref f)) (S : FnScope N ps scope) (hn : N.length = n) (hp : ps.length = m)
    (hbind : ∀ (kV doc pm : Value) (an : Option Addr) (cdv ct : Value) (us : List Value), us.length = ps.length → bindArgs (PySem.W.fnOf x x params body scope .none kV doc pm an cdv ct) ⟨us, []⟩ = pure (ps.zip us))
    (hb : ∀ (cdv : Value) (A : Around) (outer : List Env) (s : Shared) (H : Hp) (E : XK), Room k (A.deeper (envOfC x scope s.heap.objs.size f cdv)) →
      SSs fr (cxOf (L2.CX P w) P w K mg base N x scope f cdv A outer s H E) (fun cls d _ H => E cls d H) body d) : Fn fr P w K mg base x (k + 1) m (dDef n d) := by
  subst hp
  exact ⟨f, fd, ps, hm, FD.kp, FD.bindsN hbind, rfl, def_ok FD S hn hb⟩
/-- the law's end -/
theorem law_sp {K : PySem.W.Frag} {d : Den} (h : ∀ ns : List Int, ns.length ≤ 63 → ∃ S', d [.scr ns] [] = .ok (.bl true) S') (H : Hp) (a : Addr) (ns : List Int) (hl : ns.length ≤ 63) (hS : SqL K H a (ns.map V.int)) : spD false K 1 d [.ref a] H (fun v _ => v = .bl true) fun _ _ _ => False := by
  obtain ⟨S', e⟩ := h ns hl
  refine ⟨rfl, fun _ => none, H, [], [], [.scr ns], ⟨fun a o h => (nomatch h), fun a o h => .inl h, fun a o h => (nomatch h), fun r o h => (by simp at h), fun r r' a h => (by simp at h), rfl, rfl, fun i s h => (by simp at h), fun i j c c' v h => (by simp at h)⟩, .cons (.scr hS) .nil, ?_⟩
  rw [e]
  intro I' ρ' H' v g rb r
  cases r
  rfl
theorem fnok_w {P : Program} {w : World} {K : PySem.W.Frag} {mg : Str → Option Value} {base : Heap} {k : Nat} {f : Addr} {fd : FuncData} {ps : List Str} {sp : Sp} (h : FnOk P w K mg base (L2.CX P w) k f fd ps sp) : FnOk P w K mg base (fun a b c d e f => ∃ w, L2.CX P w a b c d e f) k f fd ps sp := by
  refine ⟨h.len, fun A outer s H args us vs Q E hr he hb hv hs => codeAny_mono (h.run A outer s H args us vs Q E hr he hb hv hs) fun r s' q => ?_⟩
  cases r with
  | error e => exact ⟨w, q⟩
  | ok fl => cases fl <;> exact q
theorem cx_no {P : Program} {w : World} {l : List Env} {H : Hp} {s : Shared} {e : Value} {s' : Shared} (h : L2.CX P w l H s (fun _ _ _ => False) e s') : False := by
  obtain ⟨_, _, _, _, _, _, _, _, _, _, _, _, z⟩ := h
  exact z
/-- a def that calls itself: nothing is promised at depth 0 -/
theorem fn_zero {fr : Bool} {P : Program} {w : World} {K : PySem.W.Frag} {mg : Str → Option Value} {base : Heap} {x : Str} {params : Arguments} {body : List Stmt} {scope : Scope} {f : Addr} {fd : FuncData} {ps : List Str} {k m : Nat}
    (FD : FunD K x x params body scope [] [] f fd) (hm : mg x = some (.ref f)) (hp : ps.length = m)
    (hbind : ∀ (kV doc pm : Value) (an : Option Addr) (cdv ct : Value) (us : List Value), us.length = ps.length → bindArgs (PySem.W.fnOf x x params body scope .none kV doc pm an cdv ct) ⟨us, []⟩ = pure (ps.zip us)) : Fn fr P w K mg base x k m (fun _ _ => .fail) := by
  subst hp
  refine ⟨f, fd, ps, hm, FD.kp, FD.bindsN hbind, rfl, fun vs H Q E h => h.1, fun A outer s H args us vs Q E hr he hb hv hs => ?_⟩
  obtain ⟨_, _, _, _, _, _, _, _, z⟩ := hs
  exact z.elim
/-- the most turns of a while -/
def fuel : Nat := 2 ^ 20000
end MR

set_option Elab.async false
set_option linter.all false
set_option maxRecDepth 100000
/-! MR11: list(x), tuple(x); the head's facts with tuples of the module. -/
namespace MR
open PySem PySem.Spec PyProof.Rows L2

section
variable {K : PySem.W.Frag}
def opList : D → Option D
  | .lst xs => some (.lst xs)
  | .tup xs => some (.lst xs)
  | _ => none
theorem bf_list : B1F K (fun xs H Q => ∃ p ys, xs = [.ref p] ∧ (SqL K H p ys ∨ SqT K H p ys) ∧ ∀ l, H l = none → Q (.ref l) (upd H l (.lst ys))) opList := by
  intro F I ρ S H σV σ v a z Q rb h ez q
  unfold opList at ez
  split at ez
  · cases ez
    obtain ⟨a, vs, rfl, ha, r⟩ := h
    refine ⟨a, vs, rfl, .inl (SqL_at ha), fun p hp => ?_⟩
    obtain ⟨rb4, nf, ni, nr, no⟩ := rb.newO (o := .lst vs) hp
    exact q _ _ _ Gr.refl rb4 (.inl ⟨p, rfl, nf, ni, nr, no, _, upd_same, r⟩)
  · cases ez
    obtain ⟨a, vs, rfl, ha, r⟩ := h
    refine ⟨a, vs, rfl, .inr ha, fun p hp => ?_⟩
    obtain ⟨rb4, nf, ni, nr, no⟩ := rb.newO (o := .lst vs) hp
    exact q _ _ _ Gr.refl rb4 (.inl ⟨p, rfl, nf, ni, nr, no, _, upd_same, r⟩)
  · cases ez
def opTuple : D → Option D
  | .lst xs => some (.tup xs)
  | _ => none
theorem b_tuple : B1 K (fun xs H Q => ∃ p ys, xs = [.ref p] ∧ ((SqL K H p ys ∧ ∀ l, H l = none → Q (.ref l) (upd H l (.tup ys))) ∨ (SqT K H p ys ∧ Q (.ref p) H))) opTuple := by
  intro F I ρ S H σV σ v a z Q rb h ez q
  unfold opTuple at ez
  split at ez
  · cases ez
    obtain ⟨a, vs, rfl, ha, r⟩ := h
    refine ⟨a, vs, rfl, .inl ⟨SqL_at ha, fun p hp => ?_⟩⟩
    obtain ⟨g, rb2⟩ := rb.new (o := .tup vs) hp
    exact q _ _ _ g rb2 (.tup (.inl (.inl upd_same)) (r.gr g))
  · cases ez
/-! ### tuples of the module -/
def dvOf : D → He.Dv
  | .bl b => .bl b
  | .int i => .int i
  | .str x => .str x
  | _ => .non
theorem reps_dv {ρ : List Addr} {I : Hp} : ∀ ws : List D, ws.all flatD = true → Reps K ρ I ((ws.map dvOf).map (He.Dv.v K)) ws
  | [], _ => .nil
  | w :: ws, h => by
    rw [List.all_cons, Bool.and_eq_true] at h
    refine .cons ?_ (reps_dv ws h.2)
    cases w with
    | non => exact .non
    | bl b => exact .bl
    | int i => exact .int
    | str x => exact .str
    | _ => cases h.1
theorem gtup_mk {mg : Str → Option Value} {x : Str} {ws : List D} (h : mg x = some (.ref (He.ga K x))) (t : He.tupB K x (ws.map dvOf) = true) (hf : ws.all flatD = true) : GTup K mg x ws :=
  ⟨He.ga K x, _, h, fun H => He.tupB_ok t H, fun ρ I => reps_dv ws hf⟩
end
/-- the head's facts: as HeadHook2's, with tuples -/
abbrev Tups : Type := List (Str × List D)
def tupsOk (tb : Tups) (K : PySem.W.Frag) : Bool := tb.all fun t => He.tupB K t.1 (t.2.map dvOf)
abbrev AlM : Type := He.AlD × Bool
def obsM (n : Nat) (fa : List He.Fa) (fn : List He.DefD) (tb : Tups) (g : Addr → Option Obj) : AlM := (He.obsD fa fn (He.frG g (He.asD g n)), tupsOk tb (He.frG g (He.asD g n)))
structure SaysM (fa : List He.Fa) (fn : List He.DefD) (tb : Tups) (K : PySem.W.Frag) : Prop where
  d : He.SaysD fa fn K
  t : tupsOk tb K = true
def hookM (n : Nat) (fa : List He.Fa) (fn : List He.DefD) (tb : Tups) : PySem.W.Hook where
  α := AlM
  obs := fun s => obsM n fa fn tb s.heap.get?
  val := fun _ => (He.valD fn, true)
  says := fun _ h => ∃ K : PySem.W.Frag, K.In h ∧ SaysM fa fn tb K
  of := fun _ _ e => ⟨_, He.frG_in, congrArg (fun z : AlM => z.1) e, congrArg (fun z : AlM => z.2) e⟩
  keeps := fun _ _ _ ⟨K, hK, c⟩ k => ⟨K, PySem.W.Frag.In.keeps hK k, c⟩
theorem obsM_eq {n : Nat} {fa : List He.Fa} {fn : List He.DefD} {tb : Tups} {g : Addr → Option Obj} {s : Shared} (h : ∀ a, g a = s.heap.get? a) : obsM n fa fn tb g = (hookM n fa fn tb).obs s := by
  have e : g = s.heap.get? := funext h
  rw [e] <;> rfl
theorem SaysM.tup {fa : List He.Fa} {fn : List He.DefD} {tb : Tups} {K : PySem.W.Frag} (c : SaysM fa fn tb K) (i : Nat) {t : Str × List D} (h : tb[i]? = some t := by rfl) : He.tupB K t.1 (t.2.map dvOf) = true := List.all_eq_true.mp c.t t (List.mem_of_getElem? h)
end MR

set_option Elab.async false
set_option linter.all false
set_option maxRecDepth 100000
/-! The denotations of the defs (printed by gen.py). -/
namespace MR
open PySem
def wc_measure_1 : DT := (tVal (d2 opNe' (dVar 1) (dC (.int 0))))
def wb_measure_2 : DS := (sPar 0 1 (aCons (dVar 1) (aCons (d2 opMod (dVar 0) (dVar 1)) aNil)))
def b_measure : DS := (sSeq (sSet 0 (d1 opAbs (dVar 0))) (sSeq (sSet 1 (d1 opAbs (dVar 1))) (sSeq (sWhile wc_measure_1 wb_measure_2 fuel) (sRet (dVar 0)))))
def m_measure : Den := dDef 2 b_measure
def b_part : DS := (sSeq (sIf (tVal (d2 opLt (dVar 1) (dC (.int 0)))) (sSeq (sSet 0 (d2 opSub (dC (.int 0)) (dVar 0))) (sSet 1 (d2 opSub (dC (.int 0)) (dVar 1)))) sNil) (sSeq (sSet 2 (dCall m_measure (aCons (dVar 0) (aCons (dVar 1) aNil)))) (sRet (dTup (aCons (d2 opDiv (dVar 0) (dVar 2)) (aCons (d2 opDiv (dVar 1) (dVar 2)) aNil))))))
def m_part : Den := dDef 3 b_part
def b_scaled : DS := (sRet (dCall m_part (aCons (d2 opMul' (d2 opIx (dVar 0) (dC (.int 0))) (dVar 1)) (aCons (d2 opIx (dVar 0) (dC (.int 1))) aNil))))
def m_scaled : Den := dDef 2 b_scaled
def fb__law_feed_1 : DS := (sIf (tVal (d2 opGt (dVar 5) (dC (.int 0)))) (sSeq (sExpr (dMeth isLst kApp (dVar 2) (aCons (d2 opMod (dVar 5) (dC (.int 1009))) aNil))) (sSet 5 (d2 opDiv (dVar 5) (dC (.int 1009))))) sNil)
def fb__law_feed_2 : DS := (sSeq (sSet 3 (d2 opMod (d2 opAdd (d2 opAdd (d2 opMul' (dVar 3) (dC (.int 69621))) (d2 opMod (dVar 4) (dC (.int 2147483629)))) (dC (.int 11))) (dC (.int 2147483647)))) (sSeq (sSet 5 (d2 opSub (dVar 4) (d2 opPow (dC (.int 10)) (dC (.int 18))))) (sSeq (sIf (tVal (d2 opLt (dVar 5) (dC (.int 0)))) (sExpr (dMeth isLst kApp (dVar 2) (aCons (d2 opMod (dVar 4) (dC (.int 1000003))) aNil))) sNil) (sFor (iRan1 (dC (.int 60))) (gN 6) fb__law_feed_1))))
def fb__law_feed_3 : DS := (sSeq (sSet 3 (d2 opMod (d2 opAdd (d2 opAdd (d2 opAdd (d2 opMul' (d2 opMul' (dVar 3) (dVar 3)) (dVar 3)) (d2 opMul' (dC (.int 48271)) (dVar 3))) (d2 opMul' (dC (.int 13)) (dVar 6))) (dC (.int 5))) (dC (.int 2147483629)))) (sExpr (dMeth isLst kApp (dVar 2) (aCons (d2 opMod (d2 opDiv (dVar 3) (dC (.int 1013))) (dC (.int 1009))) aNil))))
def b__law_feed : DS := (sSeq (sSetO 2 (dLst aNil)) (sSeq (sSet 3 (dC (.int 29))) (sSeq (sFor (iLst (dSl (dVar 0) oNone (oSome (dC (.int 63))))) (gN 4) fb__law_feed_2) (sSeq (sFor (iRan1 (d2 opSub (dVar 1) (d1 opLen (dVar 2)))) (gN 6) fb__law_feed_3) (sRetF (dSl (dVar 2) oNone (oSome (dVar 1))))))))
def m__law_feed : Den := dDef 7 b__law_feed
def le__law_same_1 (r : Den) : DE := (dCall r (aCons (dVar 2) (aCons (dVar 3) aNil)))
def le__law_same_2 (r : Den) : DE := (dCall r (aCons (dVar 2) (aCons (dVar 3) aNil)))
def b__law_same (r : Den) : DS := (sSeq (sIf (tVal (dIsN (dV (dVar 1)))) (sRet (dIsN (dV (dVar 0)))) sNil) (sSeq (sIf (tVal (d1 (opIsi .bool) (dVar 1))) (sRet (vAnd (d1 (opIsi .bool) (dVar 0)) (d2 opEq' (dVar 0) (dVar 1)))) sNil) (sSeq (sIf (tVal (d1 (opIsi .tuple) (dVar 1))) (sSeq (sIf (tOr (tNot (tVal (d1 (opIsi .tuple) (dVar 0)))) (tVal (d2 opNe' (d1 opLen (dVar 0)) (d1 opLen (dVar 1))))) (sRet (dC (.bl false))) sNil) (sRet (d1 opAll (dLc (iZip (dVar 0) (dVar 1)) (gT 2 (gsCons (gN 2) (gsCons (gN 3) gsNil))) tTrue (le__law_same_1 r) [2, 3])))) sNil) (sSeq (sIf (tVal (d1 (opIsi .list) (dVar 1))) (sSeq (sIf (tOr (tNot (tVal (d1 (opIsi .list) (dVar 0)))) (tVal (d2 opNe' (d1 opLen (dVar 0)) (d1 opLen (dVar 1))))) (sRet (dC (.bl false))) sNil) (sRet (d1 opAll (dLc (iZip (dVar 0) (dVar 1)) (gT 2 (gsCons (gN 2) (gsCons (gN 3) gsNil))) tTrue (le__law_same_2 r) [2, 3])))) sNil) (sSeq (sIf (tVal (d1 (opIsi .str) (dVar 1))) (sRet (vAnd (d1 (opIsi .str) (dVar 0)) (d2 opEq' (dVar 0) (dVar 1)))) sNil) (sRet (vAnd (d1 (opIsi .int) (dVar 0)) (vAnd (vNot (d1 (opIsi .bool) (dVar 0))) (d2 opEq' (dVar 0) (dVar 1))))))))))
def r__law_same : Nat → Den
  | 0 => fun _ _ => .fail
  | n + 1 => dDef 4 (b__law_same (r__law_same n))
def m__law_same : Den := r__law_same 8
def wc__law_low_1 : DT := (tVal (d2 opNe' (dVar 3) (dC (.int 0))))
def wb__law_low_2 : DS := (sPar 2 3 (aCons (dVar 3) (aCons (d2 opMod (dVar 2) (dVar 3)) aNil)))
def b__law_low : DS := (sSeq (sSet 2 (d1 opAbs (dVar 0))) (sSeq (sSet 3 (d1 opAbs (dVar 1))) (sSeq (sWhile wc__law_low_1 wb__law_low_2 fuel) (sSeq (sIf (tVal (d2 opLt (dVar 1) (dC (.int 0)))) (sSet 2 (d2 opSub (dC (.int 0)) (dVar 2))) sNil) (sRet (dTup (aCons (d2 opDiv (dVar 0) (dVar 2)) (aCons (d2 opDiv (dVar 1) (dVar 2)) aNil))))))))
def m__law_low : Den := dDef 4 b__law_low
end MR

set_option Elab.async false
set_option linter.all false
set_option maxRecDepth 100000
/-! The denotations of the defs (printed by gen.py). -/
namespace MR
open PySem
def le_is_name_1 : DE := (d2 opIn (dVar 1) (dC (.str "abcdefghijklmnopqrstuvwxyz")))
def b_is_name : DS := (sRet (vAnd (dChain opLe opLe (dC (.int 1)) (d1 opLen (dVar 0)) (dC (.int 8))) (d1 opAll (dLc (iStr (dVar 0)) (gN 1) tTrue le_is_name_1 [1]))))
def m_is_name : Den := dDef 2 b_is_name
end MR

set_option Elab.async false
set_option linter.all false
set_option maxRecDepth 100000
/-! The denotations of the defs (printed by gen.py). -/
namespace MR
open PySem
def b_plus : DS := (sRet (dCall m_part (aCons (d2 opAdd (d2 opMul' (d2 opIx (dVar 0) (dC (.int 0))) (d2 opIx (dVar 1) (dC (.int 1)))) (d2 opMul' (d2 opIx (dVar 1) (dC (.int 0))) (d2 opIx (dVar 0) (dC (.int 1))))) (aCons (d2 opMul' (d2 opIx (dVar 0) (dC (.int 1))) (d2 opIx (dVar 1) (dC (.int 1)))) aNil))))
def m_plus : Den := dDef 2 b_plus
def b_minus : DS := (sRet (dCall m_part (aCons (d2 opSub (d2 opMul' (d2 opIx (dVar 0) (dC (.int 0))) (d2 opIx (dVar 1) (dC (.int 1)))) (d2 opMul' (d2 opIx (dVar 1) (dC (.int 0))) (d2 opIx (dVar 0) (dC (.int 1))))) (aCons (d2 opMul' (d2 opIx (dVar 0) (dC (.int 1))) (d2 opIx (dVar 1) (dC (.int 1)))) aNil))))
def m_minus : Den := dDef 2 b_minus
def fb_total_1 : DS := (sSet 1 (dCall m_plus (aCons (dVar 1) (aCons (dVar 2) aNil))))
def b_total : DS := (sSeq (sSet 1 (dC (.tup [.int 0, .int 1]))) (sSeq (sFor (iLst (dVar 0)) (gN 2) fb_total_1) (sRet (dVar 1))))
def m_total : Den := dDef 3 b_total
def b__law_add : DS := (sRet (dCall m__law_low (aCons (d2 opAdd (d2 opMul' (d2 opIx (dVar 0) (dC (.int 0))) (d2 opIx (dVar 1) (dC (.int 1)))) (d2 opMul' (d2 opIx (dVar 1) (dC (.int 0))) (d2 opIx (dVar 0) (dC (.int 1))))) (aCons (d2 opMul' (d2 opIx (dVar 0) (dC (.int 1))) (d2 opIx (dVar 1) (dC (.int 1)))) aNil))))
def m__law_add : Den := dDef 2 b__law_add
def b__law_big : DS := (sSeq (sSet 1 (d2 opAdd (d2 opMul' (d2 opMod (d2 opIx (dVar 0) (dC (.int 0))) (dC (.int 1000))) (d1 opIntS (d2 opAdd (dC (.str "1")) (d2 opMul' (dC (.str "0")) (d2 opMod (d2 opIx (dVar 0) (dC (.int 1))) (dC (.int 24))))))) (d2 opMod (d2 opIx (dVar 0) (dC (.int 2))) (dC (.int 7))))) (sRet (d2 opIx (dLst (aCons (dVar 1) (aCons (d2 opSub (dC (.int 0)) (dVar 1)) (aCons (d2 opSub (d2 opMod (d2 opIx (dVar 0) (dC (.int 2))) (dC (.int 13))) (dC (.int 6))) aNil)))) (d2 opMod (d2 opDiv (d2 opIx (dVar 0) (dC (.int 1))) (dC (.int 24))) (dC (.int 3))))))
def m__law_big : Den := dDef 2 b__law_big
def b__law_parts_same : DS := (sRet (vAnd (dCall m__law_same (aCons (dVar 0) (aCons (dVar 1) aNil))) (d2 opGt (d2 opIx (dVar 0) (dC (.int 1))) (dC (.int 0)))))
def m__law_parts_same : Den := dDef 2 b__law_parts_same
end MR

set_option Elab.async false
set_option linter.all false
set_option maxRecDepth 100000
/-! MR12: dicts; objects: fields, methods, making; a fresh container put into the store. -/
namespace MR
open PySem PySem.Spec PyProof.Rows L2

theorem ofString_inj {a b : String} (h : Str.ofString a = Str.ofString b) : a = b := by
  rw [Str.ofString_eq_toList, Str.ofString_eq_toList] at h
  injection h with h
  have h := congrArg Array.toList h
  simp only at h
  have : a.toList = b.toList := List.map_inj_right (fun x y hxy => Char.ext (UInt32.toNat_inj.mp hxy)) |>.mp h
  rw [← String.ofList_toList (s := a), ← String.ofList_toList (s := b), this]

/-! ### one of two ways -/
section
variable {X : Cx} {Wx : WX} {fr : Bool}
theorem _root_.L2.PE.or {e : Expr} {t t1 t2 : TE} (h1 : PE X e t1) (h2 : PE X e t2) (i : ∀ σ H Q, t σ H Q → t1 σ H Q ∨ t2 σ H Q) : PE X e t := ⟨fun pins s σ H Q I q => (i σ H Q q).elim (h1.run pins s σ H Q I) (h2.run pins s σ H Q I)⟩
theorem _root_.L2.PS.or {e : Stmt} {t t1 t2 : TS} (h1 : PS X e t1) (h2 : PS X e t2) (i : ∀ D σ H, t D σ H → t1 D σ H ∨ t2 D σ H) : PS X e t := ⟨fun pins s σ H D I q => (i D σ H q).elim (h1.run pins s σ H D I) (h2.run pins s σ H D I)⟩
theorem c_or2 {e : Expr} {f f1 f2 : DE} (h1 : SE X Wx e f1) (h2 : SE X Wx e f2) (i : ∀ σ S, f σ S = f1 σ S ∨ f σ S = f2 σ S) : SE X Wx e f := by
  refine PE.or h1 h2 fun σV H Q ⟨F, I, ρ, σ, S, rb, h⟩ => ?_
  rcases i σ S with e | e
  · exact .inl ⟨F, I, ρ, σ, S, rb, e ▸ h⟩
  · exact .inr ⟨F, I, ρ, σ, S, rb, e ▸ h⟩
theorem cf_or2 {e : Expr} {f f1 f2 : DE} (h1 : SF X Wx e f1) (h2 : SF X Wx e f2) (i : ∀ σ S, f σ S = f1 σ S ∨ f σ S = f2 σ S) : SF X Wx e f := by
  refine PE.or h1 h2 fun σV H Q ⟨F, I, ρ, σ, S, rb, h⟩ => ?_
  rcases i σ S with e | e
  · exact .inl ⟨F, I, ρ, σ, S, rb, e ▸ h⟩
  · exact .inr ⟨F, I, ρ, σ, S, rb, e ▸ h⟩
theorem cs_or2 {e : Stmt} {f f1 f2 : DS} (h1 : SS fr X Wx e f1) (h2 : SS fr X Wx e f2) (i : ∀ σ S, f σ S = f1 σ S ∨ f σ S = f2 σ S) : SS fr X Wx e f := by
  refine PS.or h1 h2 fun D σV H ⟨F, I, ρ, σ, S, rb, h⟩ => ?_
  rcases i σ S with e | e
  · exact .inl ⟨F, I, ρ, σ, S, rb, e ▸ h⟩
  · exact .inr ⟨F, I, ρ, σ, S, rb, e ▸ h⟩
theorem d2_or {op op1 op2 : D → D → Option D} (h : ∀ a b, op a b = op1 a b ∨ op a b = op2 a b) (f g : DE) (σ : Sl) (S : Sto) : d2 op f g σ S = d2 op1 f g σ S ∨ d2 op f g σ S = d2 op2 f g σ S := by
  unfold d2
  cases e : f σ S with
  | fail => exact .inl rfl
  | exc a _ _ => exact .inl rfl
  | ok x σ1 S1 =>
    dsimp only [Res.bind]
    cases e : g σ1 S1 with
    | fail => exact .inl rfl
    | exc a _ _ => exact .inl rfl
    | ok y σ2 S2 =>
      dsimp only [Res.bind]
      cases deref σ2 S2 x with
      | none => exact .inl rfl
      | some a =>
        cases deref σ2 S2 y with
        | none => exact .inl rfl
        | some b =>
          dsimp only [Option.bind]
          rcases h a b with q | q <;> rw [q]
          · exact .inl rfl
          · exact .inr rfl
end

/-! ### pairs of keys and values -/
section
variable {κ : Type} [DecidableEq κ]
def valD (l : List (κ × D)) (k : κ) : Option D := (l.find? fun kv => decide (kv.1 = k)).map (·.2)
def putD (l : List (κ × D)) (k : κ) (w : D) : List (κ × D) := if (l.any fun kv => decide (kv.1 = k)) = true then l.map (fun kv => if kv.1 = k then (kv.1, w) else kv) else l ++ [(k, w)]
def dropD (l : List (κ × D)) (k : κ) : List (κ × D) := l.filter fun kv => decide (kv.1 ≠ k)
variable {K : PySem.W.Frag} {ρ : List Addr} {I : Hp}
/-- the pairs stand for the pairs -/
def KRep (K : PySem.W.Frag) (ρ : List Addr) (I : Hp) (kvs : List (κ × V)) (kws : List (κ × D)) : Prop := kvs.map (·.1) = kws.map (·.1) ∧ Reps K ρ I (kvs.map (·.2)) (kws.map (·.2))
theorem KRep.nil : KRep (κ := κ) K ρ I [] [] := ⟨rfl, .nil⟩
theorem KRep.cons {k : κ} {v : V} {w : D} {kvs : List (κ × V)} {kws : List (κ × D)} (h : Rep K ρ I v w) (r : KRep K ρ I kvs kws) : KRep K ρ I ((k, v) :: kvs) ((k, w) :: kws) := ⟨by simp [r.1], .cons h r.2⟩
theorem KRep.ind {P : List (κ × V) → List (κ × D) → Prop} (h0 : P [] []) (h1 : ∀ k v w kvs kws, Rep K ρ I v w → KRep K ρ I kvs kws → P kvs kws → P ((k, v) :: kvs) ((k, w) :: kws)) : ∀ {kvs : List (κ × V)} {kws : List (κ × D)}, KRep K ρ I kvs kws → P kvs kws
  | [], [], _ => h0
  | [], _ :: _, h => by have := h.1; simp at this
  | _ :: _, [], h => by have := h.1; simp at this
  | (k, v) :: kvs, (k', w) :: kws, h => by
    obtain ⟨h2, h3⟩ := h
    simp only [List.map_cons] at h2 h3
    injection h2 with h4 h5
    subst h4
    cases h3 with
    | cons r1 r2 => exact h1 k v w kvs kws r1 ⟨h5, r2⟩ (KRep.ind h0 h1 ⟨h5, r2⟩)
theorem KRep.len {kvs : List (κ × V)} {kws : List (κ × D)} (h : KRep K ρ I kvs kws) : kvs.length = kws.length := by
  have := congrArg List.length h.1
  rwa [List.length_map, List.length_map] at this
theorem KRep.val {kvs : List (κ × V)} {kws : List (κ × D)} (h : KRep K ρ I kvs kws) (k : κ) : (∃ v w, valV kvs k = some v ∧ valD kws k = some w ∧ Rep K ρ I v w) ∨ (valV kvs k = none ∧ valD kws k = none) := by
  refine KRep.ind (P := fun kvs kws => (∃ v w, valV kvs k = some v ∧ valD kws k = some w ∧ Rep K ρ I v w) ∨ (valV kvs k = none ∧ valD kws k = none)) (.inr ⟨rfl, rfl⟩) (fun k' v w kvs kws r _ ih => ?_) h
  by_cases e : k' = k
  · exact .inl ⟨v, w, by simp [valV, e], by simp [valD, e], r⟩
  · rcases ih with ⟨v', w', h1, h2, h3⟩ | ⟨h1, h2⟩
    · exact .inl ⟨v', w', by rw [← h1]; simp [valV, e], by rw [← h2]; simp [valD, e], h3⟩
    · exact .inr ⟨by rw [← h1]; simp [valV, e], by rw [← h2]; simp [valD, e]⟩
theorem KRep.any {kvs : List (κ × V)} {kws : List (κ × D)} (h : KRep K ρ I kvs kws) (k : κ) : (kvs.any fun kv => decide (kv.1 = k)) = kws.any fun kv => decide (kv.1 = k) := by
  refine KRep.ind (P := fun kvs kws => (kvs.any fun kv => decide (kv.1 = k)) = kws.any fun kv => decide (kv.1 = k)) rfl (fun k' v w kvs kws r _ ih => ?_) h
  simp only [List.any_cons, ih]
theorem KRep.mapPut {kvs : List (κ × V)} {kws : List (κ × D)} (h : KRep K ρ I kvs kws) (k : κ) {v : V} {w : D} (r : Rep K ρ I v w) : KRep K ρ I (kvs.map fun kv => if kv.1 = k then (kv.1, v) else kv) (kws.map fun kv => if kv.1 = k then (kv.1, w) else kv) := by
  refine KRep.ind (P := fun kvs kws => KRep K ρ I (kvs.map fun kv => if kv.1 = k then (kv.1, v) else kv) (kws.map fun kv => if kv.1 = k then (kv.1, w) else kv)) KRep.nil (fun k' v' w' kvs kws r' _ ih => ?_) h
  simp only [List.map_cons]
  by_cases e : k' = k
  · simp only [e, if_true]
    exact ih.cons r
  · simp only [e, if_false]
    exact ih.cons r'
theorem KRep.app {kvs : List (κ × V)} {kws : List (κ × D)} (h : KRep K ρ I kvs kws) {k : κ} {v : V} {w : D} (r : Rep K ρ I v w) : KRep K ρ I (kvs ++ [(k, v)]) (kws ++ [(k, w)]) := by
  refine KRep.ind (P := fun kvs kws => KRep K ρ I (kvs ++ [(k, v)]) (kws ++ [(k, w)])) (KRep.nil.cons r) (fun k' v' w' kvs kws r' _ ih => ih.cons r') h
theorem KRep.put {kvs : List (κ × V)} {kws : List (κ × D)} (h : KRep K ρ I kvs kws) (k : κ) {v : V} {w : D} (r : Rep K ρ I v w) : KRep K ρ I (putK kvs k v) (putD kws k w) := by
  unfold putK putD
  rw [h.any k]
  split
  · exact h.mapPut k r
  · exact h.app r
theorem KRep.drop {kvs : List (κ × V)} {kws : List (κ × D)} (h : KRep K ρ I kvs kws) (k : κ) : KRep K ρ I (dropK kvs k) (dropD kws k) := by
  refine KRep.ind (P := fun kvs kws => KRep K ρ I (dropK kvs k) (dropD kws k)) KRep.nil (fun k' v w kvs kws r _ ih => ?_) h
  unfold dropK dropD at ih ⊢
  by_cases e : k' = k
  · simp only [List.filter_cons, e, ne_eq, not_true, decide_false, Bool.false_eq_true, if_false]
    exact ih
  · simp only [List.filter_cons, ne_eq, e, not_false_eq_true, decide_true, if_true]
    exact ih.cons r
theorem KRep.gr {ρ' : List Addr} {I' : Hp} (g : Gr ρ I ρ' I') {kvs : List (κ × V)} {kws : List (κ × D)} (h : KRep K ρ I kvs kws) : KRep K ρ' I' kvs kws := ⟨h.1, h.2.gr g⟩
end
/-- a key -/
def keyD : D → Option Kk
  | .int i => some (.inl i)
  | .str x => some (.inr x)
  | _ => none
theorem keyD_at {K : PySem.W.Frag} {ρ : List Addr} {I H : Hp} {v : V} {w : D} {k : Kk} (h : At K ρ I H v w) (e : keyD w = some k) : v = kV k := by
  cases w with
  | int i => cases e; cases h; rfl
  | str i => cases e; cases h; rfl
  | _ => cases e

/-! ### d[k], k in d -/
def opDGet : D → D → Option D
  | .dK l, y => (keyD y).bind (valD l)
  | _, _ => none
def opGet : D → D → Option D
  | .dK l, y => opDGet (.dK l) y
  | a, b => opIx a b
theorem opGet_or (a b : D) : opGet a b = opIx a b ∨ opGet a b = opDGet a b := by
  cases a with
  | dK l => exact .inr rfl
  | _ => exact .inl rfl
section
variable {X : Cx} {Wx : WX} {fr : Bool}
theorem rooms {k : Nat} {A : Around} (hr : Room k A) : A.units + 1 < cLine := by have := hr.units; omega
theorem dget_of {K : PySem.W.Frag} {ρ : List Addr} {I H : Hp} {v1 v2 : V} {l : List (Kk × D)} {b : D} {k : Kk} (h1 : At K ρ I H v1 (.dK l)) (h2 : At K ρ I H v2 b) (ek : keyD b = some k) :
    ∃ a, v1 = .ref a ∧ ((∃ v w, DGet H a v2 (some v) ∧ valD l k = some w ∧ Rep K ρ I v w) ∨ (DGet H a v2 none ∧ valD l k = none)) := by
  obtain ⟨a, kvs, rfl, ha, hk⟩ := h1
  have hk : KRep K ρ I kvs l := hk
  cases keyD_at h2 ek
  refine ⟨a, rfl, ?_⟩
  rcases hk.val k with ⟨v, w, e1, e2, r⟩ | ⟨e1, e2⟩
  · exact .inl ⟨v, w, .inl ⟨kvs, k, ha, rfl, e1.symm⟩, e2, r⟩
  · exact .inr ⟨.inl ⟨kvs, k, ha, rfl, e1.symm⟩, e2⟩
theorem c_dget {a b : Expr} {pos : Pos} {f g : DE} {k : Nat} (hr : Room k X.A) (ha : SE X Wx a f) (hb : SE X Wx b g) (hs : NoSl b := by intro _ _; rfl) : SE X Wx (.Subscript a b pos) (d2 opDGet f g) := by
  refine PE.imp (pe_dget (rooms hr) ha hb hs) fun σV H Q h => ?_
  obtain ⟨F, I, ρ, σ, S, rb, h⟩ := h
  refine ⟨F, I, ρ, σ, S, rb, post_bind h fun I1 ρ1 σ1 S1 H1 x v1 _ g1 rb1 t1 h1 => ?_⟩
  refine ⟨F, I1, ρ1, σ1, S1, rb1, post_bind h1 fun I2 ρ2 σ2 S2 H2 y v2 _ g2 rb2 t2 h2 => ?_⟩
  obtain ⟨z, ez, h3⟩ := post_opt h2
  obtain ⟨c, ec, ez⟩ := Option.bind_eq_some_iff.mp ez
  obtain ⟨b, eb, ez⟩ := Option.bind_eq_some_iff.mp ez
  have A1 := rb2.at (t1.gr g2) ec
  have A2 := rb2.at t2 eb
  cases c with
  | dK l =>
    obtain ⟨k, ek, ev⟩ := Option.bind_eq_some_iff.mp (show (keyD b).bind (valD l) = some z from ez)
    obtain ⟨a, rfl, q⟩ := dget_of A1 A2 ek
    rcases q with ⟨v, w, q1, q2, q3⟩ | ⟨_, q2⟩
    · rw [q2] at ev
      cases ev
      exact ⟨a, v, rfl, q1, h3 I2 ρ2 H2 v Gr.refl rb2 (.inr q3)⟩
    · rw [q2] at ev
      cases ev
  | _ => cases ez
theorem c_get {a b : Expr} {pos : Pos} {f g : DE} {k : Nat} (hr : Room k X.A) (ha : SE X Wx a f) (hb : SE X Wx b g) (hs : NoSl b := by intro _ _; rfl) (hs' : PlainIx b := by intro _ _; rfl) : SE X Wx (.Subscript a b pos) (d2 opGet f g) :=
  c_or2 (c_ix ha hb hs') (c_dget hr ha hb hs) fun σ S => d2_or opGet_or f g σ S
/-- in -/
def rDIn : R2 := fun y x H Q => ∃ a o, x = .ref a ∧ DGet H a y o ∧ Q (.bl o.isSome) H
def rDNotIn : R2 := fun y x H Q => ∃ a o, x = .ref a ∧ DGet H a y o ∧ Q (.bl (!o.isSome)) H
theorem op_din {k : Nat} (hr : Room k X.A) : OpR X (compareOp .In) rDIn := by
  intro pins s σ H y x v u Q I ry rx ⟨a, o, e, g, q⟩
  subst e
  obtain rfl : u = Value.ref a := rx
  exact d_in (rooms hr) I g ry fun s3 I3 => ⟨.bl o.isSome, H, I3, rfl, q⟩
theorem op_dnotin {k : Nat} (hr : Room k X.A) : OpR X (compareOp .NotIn) rDNotIn := by
  intro pins s σ H y x v u Q I ry rx ⟨a, o, e, g, q⟩
  subst e
  obtain rfl : u = Value.ref a := rx
  exact d_notIn (rooms hr) I g ry fun s3 I3 => ⟨.bl (!o.isSome), H, I3, rfl, q⟩
def inG : D → D → Option Bool
  | y, .dK l => (keyD y).map fun k => (valD l k).isSome
  | a, b => inA a b
def opInG (a b : D) : Option D := (inG a b).map D.bl
def opNotInG (a b : D) : Option D := (inG a b).map fun x => D.bl (!x)
theorem os_inG {K : PySem.W.Frag} : OpS K (fun x y H Q => rInA K x y H Q ∨ rDIn x y H Q) opInG := by
  intro F I ρ S H σV σ v1 v2 a b z Q rb h1 h2 ez q
  obtain ⟨x, e, rfl⟩ := Option.map_eq_some_iff.mp ez
  cases b with
  | dK l =>
    obtain ⟨k, ek, ex⟩ := Option.map_eq_some_iff.mp (show (keyD a).map _ = some x from e)
    obtain ⟨p, rfl, w⟩ := dget_of h2 h1 ek
    refine .inr ?_
    rcases w with ⟨v, w, q1, q2, q3⟩ | ⟨q1, q2⟩
    · rw [q2] at ex
      exact ⟨p, _, rfl, q1, by have ex : true = x := ex; rw [← ex] at q; exact q I H _ Gr.refl rb .bl⟩
    · rw [q2] at ex
      exact ⟨p, _, rfl, q1, by have ex : false = x := ex; rw [← ex] at q; exact q I H _ Gr.refl rb .bl⟩
  | _ => exact .inl (os_in F I ρ S H σV σ v1 v2 a _ _ Q rb h1 h2 (by unfold opIn; rw [show inA a _ = some x from e]; rfl) q)
theorem os_notInG {K : PySem.W.Frag} : OpS K (fun x y H Q => rNotInA K x y H Q ∨ rDNotIn x y H Q) opNotInG := by
  intro F I ρ S H σV σ v1 v2 a b z Q rb h1 h2 ez q
  obtain ⟨x, e, rfl⟩ := Option.map_eq_some_iff.mp ez
  cases b with
  | dK l =>
    obtain ⟨k, ek, ex⟩ := Option.map_eq_some_iff.mp (show (keyD a).map _ = some x from e)
    obtain ⟨p, rfl, w⟩ := dget_of h2 h1 ek
    refine .inr ?_
    rcases w with ⟨v, w, q1, q2, q3⟩ | ⟨q1, q2⟩
    · rw [q2] at ex
      exact ⟨p, _, rfl, q1, by have ex : true = x := ex; rw [← ex] at q; exact q I H _ Gr.refl rb .bl⟩
    · rw [q2] at ex
      exact ⟨p, _, rfl, q1, by have ex : false = x := ex; rw [← ex] at q; exact q I H _ Gr.refl rb .bl⟩
  | _ => exact .inl (os_notIn F I ρ S H σV σ v1 v2 a _ _ Q rb h1 h2 (by unfold opNotIn; rw [show inA a _ = some x from e]; rfl) q)
theorem op_inG {k : Nat} (hr : Room k X.A) : OpR X (compareOp .In) (fun x y H Q => rInA X.K x y H Q ∨ rDIn x y H Q) := op_inA.or (op_din hr)
theorem op_notInG {k : Nat} (hr : Room k X.A) : OpR X (compareOp .NotIn) (fun x y H Q => rNotInA X.K x y H Q ∨ rDNotIn x y H Q) := op_notInA.or (op_dnotin hr)
end
end MR

set_option Elab.async false
set_option linter.all false
set_option maxRecDepth 100000
/-! MR13: dicts that are changed; fresh containers put into the store; objects: fields, methods, making. -/
namespace MR
open PySem PySem.Spec PyProof.Rows L2

section
variable {X : Cx} {Wx : WX} {fr : Bool}
/-! ### d[k] = v -/
def ofMutS (o : Option (Sl × Sto)) : Res Fl := match o with
  | some (σ, S) => .ok .next σ S
  | none => .fail
def sDPutD (fd fy fv : DE) : DS := fun σ S => (dV fv σ S).bind fun w σ S => (fd σ S).bind fun x σ S => (fy σ S).bind fun y σ S => match deref σ S x, keyD y with
  | some (.dK l), some k => if l.length < most then ofMutS (chg σ S x (.dK (putD l k w))) else .fail
  | _, _ => .fail
theorem TRep.key {K : PySem.W.Frag} {ρ : List Addr} {I : Hp} {σV : L2.St} {v : V} {y : D} {k : Kk} (t : TRep K ρ I σV v y) (e : keyD y = some k) : v = kV k := by
  rcases t with ⟨i, rfl, _⟩ | r
  · cases e
  · cases r with
    | int => cases e; rfl
    | str => cases e; rfl
    | _ => cases e
theorem own_dK {K : PySem.W.Frag} {ρ : List Addr} {I H : Hp} {a : Addr} {l : List (Kk × D)} (h : OwnAt K ρ I H a (.dK l)) : ∃ kvs, H a = some (.dK kvs) ∧ KRep K ρ I kvs l := by
  obtain ⟨kvs, h1, h2, h3⟩ := h
  exact ⟨kvs, h1, h2, h3⟩
theorem dK_own {K : PySem.W.Frag} {ρ : List Addr} {I H : Hp} {a : Addr} {kvs : List (Key × V)} {l : List (Kk × D)} (h1 : H a = some (.dK kvs)) (h2 : KRep K ρ I kvs l) : OwnAt K ρ I H a (.dK l) := ⟨kvs, h1, h2.1, h2.2⟩
theorem cs_dput {o i value : Expr} {pos pos' : Pos} {fd fy fv : DE} {k : Nat} (hr : Room k X.A) (ho : SE X Wx o fd) (hi : SE X Wx i fy) (hv : SE X Wx value fv) (hs : swapsWith value (some (.Subscript o i pos')) pos.line X.env = pure false := by rfl) :
    SS fr X Wx (.Assign [.Subscript o i pos'] value pos) (sDPutD fd fy fv) := by
  refine PS.imp (ps_dput (rooms hr) ho hi (c_v hv) hs) fun D σV H h => ?_
  obtain ⟨F, I, ρ, σ, S, rb, h⟩ := h
  refine ⟨F, I, ρ, σ, S, rb, postS_bind h fun I1 ρ1 σ1 S1 H1 w v _ g1 rb1 t1 h1 => ?_⟩
  refine ⟨F, I1, ρ1, σ1, S1, rb1, postS_bind h1 fun I2 ρ2 σ2 S2 H2 x vx _ g2 rb2 t2 h2 => ?_⟩
  refine ⟨F, I2, ρ2, σ2, S2, rb2, postS_bind h2 fun I3 ρ3 σ3 S3 H3 y vy _ g3 rb3 t3 h3 => ?_⟩
  split at h3
  · rename_i l k e1 e2
    split at h3
    · rename_i hl
      cases em : chg σ3 S3 x (.dK (putD l k w)) with
      | none => rw [em] at h3; exact h3.elim
      | some q =>
        obtain ⟨σ', S'⟩ := q
        rw [em] at h3
        obtain ⟨a, rfl, ho, kk⟩ := rb3.chg (t2.gr g3) e1 em
        obtain ⟨kvs, hk, rk⟩ := own_dK ho
        cases t3.key e2
        refine ⟨a, _, rfl, .k hk (by rw [rk.len, ← most_eq]; exact hl), ?_⟩
        exact h3 I3 ρ3 _ _ Gr.refl (kk _ (dK_own upd_same (rk.put k (t1.gr (g2.trans g3)))))
    · exact h3.elim
  · exact h3.elim
/-! ### {k: v, ..} -/
abbrev DP := Sl → Sto → Res (List (Kk × D))
def pNil : DP := fun σ S => .ok [] σ S
def pCons (f g : DE) (r : DP) : DP := fun σ S => (f σ S).bind fun x σ S => match keyD x with
  | some k => (dV g σ S).bind fun w σ S => (r σ S).bind fun ps σ S => .ok ((k, w) :: ps) σ S
  | none => .fail
def mergeD (l more : List (Kk × D)) : List (Kk × D) := more.foldl (fun acc kv => putD acc kv.1 kv.2) l
def dDisp (r : DP) : DE := fun σ S => (r σ S).bind fun ps σ S => .ok (.dK (mergeD [] ps)) σ S
theorem KRep.merge {K : PySem.W.Frag} {ρ : List Addr} {I : Hp} {ms : List (Key × V)} {mw : List (Kk × D)} (h : KRep K ρ I ms mw) : ∀ {kvs : List (Key × V)} {kws : List (Kk × D)}, KRep K ρ I kvs kws → KRep K ρ I (mergeK kvs ms) (mergeD kws mw) := by
  refine KRep.ind (P := fun ms mw => ∀ {kvs : List (Key × V)} {kws : List (Kk × D)}, KRep K ρ I kvs kws → KRep K ρ I (mergeK kvs ms) (mergeD kws mw)) (fun h => h) (fun k v w ms mw r _ ih kvs kws h => ?_) h
  exact ih (h.put k r)
/-- the pairs, from the left -/
structure SP (X : Cx) (Wx : WX) (pos : Pos) (keys : List (Option Expr)) (values : List Expr) (r : DP) : Prop where
  ex : ∃ trs, PPs X pos keys values trs ∧ ∀ (σV : L2.St) (H : Hp) (Q : List (V × V) → Hp → Prop), semR X.K Wx (fun ρ I _ vs ws => ∃ kvs : List (Key × V), vs = kvs.map (fun kv => (kV kv.1, kv.2)) ∧ kvs.length = keys.length ∧ KRep X.K ρ I kvs ws) r σV H Q → tPairs trs σV H Q
theorem sp_nil {pos : Pos} : SP X Wx pos [] [] pNil := ⟨[], pps_nil, fun σV H Q h => by
  obtain ⟨F, I, ρ, σ, S, rb, h⟩ := h
  exact h I ρ H [] Gr.refl rb ⟨[], rfl, rfl, KRep.nil⟩⟩
theorem sp_cons {pos : Pos} {k v : Expr} {ks : List (Option Expr)} {vs : List Expr} {f g : DE} {r : DP} (hk : SE X Wx k f) (hv : SE X Wx v g) (hr : SP X Wx pos ks vs r) : SP X Wx pos (some k :: ks) (v :: vs) (pCons f g r) := by
  obtain ⟨trs, hp, ht⟩ := hr.ex
  refine ⟨_, pps_cons hk (c_v hv) hp, fun σV H Q h => ?_⟩
  obtain ⟨F, I, ρ, σ, S, rb, h⟩ := h
  refine ⟨F, I, ρ, σ, S, rb, post_bind h fun I1 ρ1 σ1 S1 H1 x v1 _ g1 rb1 t1 h1 => ?_⟩
  split at h1
  · rename_i kk ek
    cases t1.key ek
    refine ⟨F, I1, ρ1, σ1, S1, rb1, post_bind h1 fun I2 ρ2 σ2 S2 H2 w v2 _ g2 rb2 t2 h2 => ?_⟩
    refine ht σV H2 _ ⟨F, I2, ρ2, σ2, S2, rb2, post_bind h2 fun I3 ρ3 σ3 S3 H3 ps vs3 _ g3 rb3 t3 h3 => ?_⟩
    obtain ⟨kvs, rfl, hl, rk⟩ := t3
    exact h3 I3 ρ3 H3 _ Gr.refl rb3 ⟨(kk, v2) :: kvs, rfl, by rw [List.length_cons, List.length_cons, hl], rk.cons (t2.gr g3)⟩
  · exact h1.elim
/-- less is wanted kept -/
theorem RB.less {K : PySem.W.Frag} {F F' I : Hp} {ρ : List Addr} {S : Sto} {H : Hp} {σV : L2.St} {σ : Sl} (rb : RB K F' I ρ S H σV σ) (s : ∀ a o, F a = some o → F' a = some o) (sz : ∀ a ob u, F' a = some (.frz ob u) → F a = some (.frz ob u)) : RB K F I ρ S H σV σ := by
  have n : ∀ {a : Addr}, F' a = none → F a = none := fun {a} h => by
    cases e : F a with
    | none => rfl
    | some o => rw [s a o e] at h; cases h
  refine ⟨fun a o h => rb.fr a o (s a o h), rb.sub, fun a o h => rb.dis a o (s a o h), fun r o h => ?_, rb.nd, rb.rl, rb.len, fun i sl h => ?_, rb.inj⟩
  · obtain ⟨a, ha, hf, hi, hc⟩ := rb.store r o h
    exact ⟨a, ha, hf.mono n (sz a), hi, hc⟩
  · have q := rb.slot i sl h
    cases sl with
    | emp => trivial
    | exn b => first | exact q | exact (List.getElem?_set_ne e).trans q | exact e.trans q
    | val w => exact q
    | own c => obtain ⟨a, ha, hf, hi, hr, ho⟩ := q; exact ⟨a, ha, n hf, hi, hr, ho⟩
/-- a new thing at p that must stay while other things are done -/
theorem RB.hold {K : PySem.W.Frag} {F I : Hp} {ρ : List Addr} {S : Sto} {H : Hp} {σV : L2.St} {σ : Sl} (rb : RB K F I ρ S H σV σ) {p : Addr} {o : HO} (hp : H p = none) : RB K (upd F p o) I ρ S (upd H p o) σV σ := by
  obtain ⟨rb2, nf, ni, nr, no⟩ := rb.newO (o := o) hp
  refine ⟨fun a u h => ?_, rb2.sub, fun a u h => ?_, fun r c h => ?_, rb2.nd, rb2.rl, rb2.len, fun i s h => ?_, rb2.inj⟩
  · by_cases e : a = p
    · subst e; rw [upd_same] at h ⊢; exact h
    · rw [upd_ne e] at h; exact rb2.fr a u h
  · by_cases e : a = p
    · subst e; exact ni
    · rw [upd_ne e] at h; exact rb2.dis a u h
  · obtain ⟨a, ha, hf, hi, hc⟩ := rb2.store r c h
    have ne : a ≠ p := fun e => nr (e ▸ List.mem_of_getElem? ha)
    exact ⟨a, ha, hf.mono (fun z => by rw [upd_ne ne]; exact z) (fun _ _ z => by rw [upd_ne ne]; exact z), hi, hc⟩
  · have q := rb2.slot i s h
    cases s with
    | emp => trivial
    | exn b => first | exact q | exact (List.getElem?_set_ne e).trans q | exact e.trans q
    | val w => exact q
    | own c =>
      obtain ⟨a, ha, hf, hi, hr, ho⟩ := q
      have ne : a ≠ p := fun e => no i c h (e ▸ ha)
      exact ⟨a, ha, by rw [upd_ne ne]; exact hf, hi, hr, ho⟩
theorem post_less {α β : Type} {K : PySem.W.Frag} {F F' I : Hp} {ρ : List Addr} {σV : L2.St} {T : List Addr → Hp → L2.St → β → α → Prop} {r : Res α} {Q : β → Hp → Prop} (s : ∀ a o, F a = some o → F' a = some o) (sz : ∀ a ob u, F' a = some (.frz ob u) → F a = some (.frz ob u)) (h : postR K Wx T F I ρ σV r Q) : postR K Wx T F' I ρ σV r Q := by
  cases r with
  | ok a σ S => exact fun I' ρ' H' b g rb => h I' ρ' H' b g (rb.less s sz)
  | exc e σ S => exact fun I' ρ' H' d g rb => h I' ρ' H' d g (rb.less s sz)
  | fail => exact h
theorem cf_disp {pos : Pos} {keys : List (Option Expr)} {values : List Expr} {r : DP} (h : SP X Wx pos keys values r) (hall : keys.all (·.isSome) = true := by rfl) (hl : keys.length = values.length := by rfl) (h0 : keys ≠ [] := by simp) (h15 : keys.length ≤ 15 := by decide) : SF X Wx (.Dict keys values pos) (dDisp r) := by
  obtain ⟨trs, hp, ht⟩ := h.ex
  refine PE.imp (pe_disp hp hall hl h0 h15) fun σV H Q h => ?_
  obtain ⟨F, I, ρ, σ, S, rb, h⟩ := h
  intro p hp0
  have hb := rb.hold (o := .dK []) hp0
  have nF : F p = none := by
    cases e : F p with
    | none => rfl
    | some u => rw [rb.fr p u e] at hp0; cases hp0
  have sb : ∀ a o, F a = some o → upd F p (.dK []) a = some o := fun a o e => by rw [upd_ne (ne_of_none e nF)]; exact e
  have sz : ∀ a ob u, upd F p (.dK []) a = some (.frz ob u) → F a = some (.frz ob u) := fun a ob u e => by
    by_cases z : a = p
    · subst z; rw [upd_same] at e; cases e
    · rw [upd_ne z] at e; exact e
  refine ht σV _ _ ⟨upd F p (.dK []), I, ρ, σ, S, hb, ?_⟩
  unfold dDisp at h
  cases e : r σ S with
  | fail => rw [e] at h; exact h
  | exc a σ1 S1 => rw [e] at h; exact fun I' ρ' H' d g rb' => h I' ρ' H' d g (rb'.less sb sz)
  | ok ps σ1 S1 =>
    rw [e] at h
    intro I' ρ' H' vs g rb' ⟨kvs, ev, hlen, rk⟩
    have hHp : H' p = some (.dK []) := rb'.fr p _ upd_same
    refine ⟨hHp, kvs, ev, by omega, ?_⟩
    have rb2 := rb'.less sb sz
    have ni : I' p = none := rb'.dis p _ upd_same
    have nr : p ∉ ρ' := fun hm => by
      obtain ⟨j, hj⟩ := List.getElem?_of_mem hm
      have lt : j < S1.length := by rw [← rb'.rl]; exact (List.getElem?_eq_some_iff.mp hj).1
      obtain ⟨b, hb, hfb, _⟩ := rb'.store j _ (List.getElem?_eq_getElem lt)
      rw [hj] at hb
      cases hb
      obtain ⟨ob, u, e⟩ := hfb.not upd_same
      cases e
    have no : NoOwn σV σ1 p := fun i c h1 h2 => by
      obtain ⟨b, hb, hfb, _⟩ := rb'.slot i _ h1
      rw [h2] at hb
      cases hb
      rw [upd_same] at hfb
      cases hfb
    have k : ∀ b u, b ≠ p → H' b = some u → upd H' p (.dK (mergeK [] kvs)) b = some u := fun b u n h => by rw [upd_ne n]; exact h
    have rb3 : RB X.K F I' ρ' S1 (upd H' p (.dK (mergeK [] kvs))) σV σ1 := by
      refine ⟨fun a u h => k a u (ne_of_none h nF) (rb2.fr a u h), fun a u h => ?_, rb2.dis, fun j c h => ?_, rb2.nd, rb2.rl, rb2.len, fun i s h => ?_, rb2.inj⟩
      · have n := ne_of_none h ni
        rcases rb2.sub a u h with q | ⟨d, ob, q⟩
        · exact .inl (k _ _ n q)
        · exact .inr ⟨d, ob, k _ _ n q⟩
      · obtain ⟨a, ha, hf, hi, hc⟩ := rb2.store j c h
        have n : a ≠ p := fun z => nr (z ▸ List.mem_of_getElem? ha)
        exact ⟨a, ha, hf, hi, hc.gr Gr.refl fun u => k a u n⟩
      · have q := rb2.slot i s h
        cases s with
        | emp => trivial
        | exn b => first | exact q | exact (List.getElem?_set_ne e).trans q | exact e.trans q
        | val w => exact q
        | own c =>
          obtain ⟨a, ha, hf, hi, hr, ho⟩ := q
          have n : a ≠ p := fun z => no i c h (z ▸ ha)
          exact ⟨a, ha, hf, hi, hr, ho.gr Gr.refl fun u => k a u n⟩
    exact h I' ρ' _ _ g rb3 (.inl ⟨p, rfl, nF, ni, nr, no, dK_own upd_same (rk.merge KRep.nil)⟩)
theorem cf_dnew {pos : Pos} : SF X Wx (.Dict [] [] pos) (dC (.dK [])) := by
  refine PE.imp pe_dnewK fun σV H Q h => ?_
  obtain ⟨F, I, ρ, σ, S, rb, h⟩ := h
  intro p hp
  obtain ⟨rb2, nf, ni, nr, no⟩ := rb.newO (o := .dK []) hp
  exact h _ ρ _ _ Gr.refl rb2 (.inl ⟨p, rfl, nf, ni, nr, no, [], upd_same, rfl, .nil⟩)

/-! ### a fresh container is put into the store -/
theorem RB.alloc {K : PySem.W.Frag} {F I : Hp} {ρ : List Addr} {S : Sto} {H : Hp} {σV : L2.St} {σ : Sl} (rb : RB K F I ρ S H σV σ) {a : Addr} {ob : Ob} (nf : FOk F a ob) (ni : I a = none) (nr : a ∉ ρ) (no : NoOwn σV σ a) (hc : CellAt K (ρ ++ [a]) I H a ob) :
    Gr ρ I (ρ ++ [a]) I ∧ RB K F I (ρ ++ [a]) (S ++ [ob]) H σV σ := by
  have g : Gr ρ I (ρ ++ [a]) I := ⟨fun _ _ h => h, fun r b h => by
    have lt := (List.getElem?_eq_some_iff.mp h).1
    rw [List.getElem?_append_left lt]; exact h⟩
  refine ⟨g, ⟨rb.fr, rb.sub, rb.dis, fun r o h => ?_, fun r r' b h1 h2 => ?_, by rw [List.length_append, List.length_append, rb.rl]; rfl, rb.len, fun i s h => ?_, rb.inj⟩⟩
  · by_cases lt : r < S.length
    · rw [List.getElem?_append_left lt] at h
      obtain ⟨b, hb, hf, hi, hcb⟩ := rb.store r o h
      exact ⟨b, g.pre _ _ hb, hf, hi, hcb.gr g fun _ z => z⟩
    · rw [List.getElem?_append_right (by omega)] at h
      have e0 : r - S.length = 0 := by
        have := (List.getElem?_eq_some_iff.mp h).1
        rw [List.length_singleton] at this
        omega
      rw [e0] at h
      cases h
      refine ⟨a, ?_, nf, ni, hc⟩
      rw [List.getElem?_append_right (by rw [rb.rl]; omega), rb.rl, e0]
      rfl
  · have key : ∀ {r : Nat} {b : Addr}, (ρ ++ [a])[r]? = some b → (ρ[r]? = some b) ∨ (r = ρ.length ∧ b = a) := fun {r b} h => by
      by_cases lt : r < ρ.length
      · rw [List.getElem?_append_left lt] at h; exact .inl h
      · rw [List.getElem?_append_right (by omega)] at h
        have e0 : r - ρ.length = 0 := by
          have := (List.getElem?_eq_some_iff.mp h).1
          rw [List.length_singleton] at this
          omega
        rw [e0] at h
        cases h
        exact .inr ⟨by omega, rfl⟩
    rcases key h1 with k1 | ⟨k1, e1⟩ <;> rcases key h2 with k2 | ⟨k2, e2⟩
    · exact rb.nd r r' b k1 k2
    · subst e2; exact absurd (List.mem_of_getElem? k1) nr
    · subst e1; exact absurd (List.mem_of_getElem? k2) nr
    · omega
  · have q := rb.slot i s h
    cases s with
    | emp => trivial
    | exn b => first | exact q | exact (List.getElem?_set_ne e).trans q | exact e.trans q
    | val w => obtain ⟨v, hv, r⟩ := q; exact ⟨v, hv, r.gr g⟩
    | own c =>
      obtain ⟨b, hb, hf, hi, hr, ho⟩ := q
      refine ⟨b, hb, hf, hi, ?_, ho.gr g fun _ z => z⟩
      intro hm
      rcases List.mem_append.mp hm with hm | hm
      · exact hr hm
      · rw [List.mem_singleton] at hm
        exact no i c h (hm ▸ hb)
def dAlloc (f : DE) : DE := fun σ S => (f σ S).bind fun w σ S => if scalar w then .ok w σ S else .ok (.obj S.length) σ (S ++ [.con false w])
theorem ρ_last {ρ : List Addr} {a : Addr} {n : Nat} (h : ρ.length = n) : (ρ ++ [a])[n]? = some a := by
  subst h
  rw [List.getElem?_append_right (Nat.le_refl _), Nat.sub_self]
  rfl
theorem c_alloc {e : Expr} {f : DE} (h : SF X Wx e f) : SE X Wx e (dAlloc f) := by
  refine PE.imp h fun σV H Q h => ?_
  obtain ⟨F, I, ρ, σ, S, rb, h⟩ := h
  refine ⟨F, I, ρ, σ, S, rb, ?_⟩
  unfold dAlloc at h
  cases e : f σ S with
  | fail => rw [e] at h; exact h
  | exc a σ1 S1 => rw [e] at h; exact h
  | ok w σ1 S1 =>
    rw [e] at h
    have h : postR X.K Wx (TRep X.K) F I ρ σV (if scalar w then .ok w σ1 S1 else .ok (.obj S1.length) σ1 (S1 ++ [.con false w])) Q := h
    intro I' ρ' H' v g rb' t
    rcases t with ⟨a, rfl, f⟩ | ⟨hs, r⟩
    · have ns : scalar w = false := by
        have := f.own
        cases w <;> first | rfl | exact this.elim
      rw [ns] at h
      have g0 : Gr ρ' I' (ρ' ++ [a]) I' := ⟨fun _ _ h => h, fun r b h => by
        have lt := (List.getElem?_eq_some_iff.mp h).1
        rw [List.getElem?_append_left lt]; exact h⟩
      obtain ⟨g2, rb2⟩ := rb'.alloc (ob := .con false w) f.nf f.ni f.nr f.no (f.own.gr g0 fun _ z => z)
      exact h I' _ H' _ (g.trans g2) rb2 (.inr (.obj (ρ_last rb'.rl)))
    · rw [hs] at h
      exact h I' ρ' H' v g rb' (.inr r)
end

/-! ### fields -/
def fget (fs : List (String × D)) (f : String) : Option D := (fs.find? fun p => p.1 == f).map (·.2)
def fput (f : String) (w : D) : List (String × D) → List (String × D)
  | [] => [(f, w)]
  | (g, x) :: r => if g = f then (g, w) :: r else (g, x) :: fput f w r
section
variable {K : PySem.W.Frag} {ρ : List Addr} {I : Hp}
def FRep (K : PySem.W.Frag) (ρ : List Addr) (I : Hp) (fsV : List (Str × V)) (fs : List (String × D)) : Prop := fsV.map (·.1) = fs.map (fun p => Str.ofString p.1) ∧ Reps K ρ I (fsV.map (·.2)) (fs.map (·.2))
theorem FRep.ind {P : List (Str × V) → List (String × D) → Prop} (h0 : P [] []) (h1 : ∀ k v w kvs kws, Rep K ρ I v w → FRep K ρ I kvs kws → P kvs kws → P ((Str.ofString k, v) :: kvs) ((k, w) :: kws)) : ∀ {kvs : List (Str × V)} {kws : List (String × D)}, FRep K ρ I kvs kws → P kvs kws
  | [], [], _ => h0
  | [], _ :: _, h => by have := h.1; simp at this
  | _ :: _, [], h => by have := h.1; simp at this
  | (k, v) :: kvs, (k', w) :: kws, h => by
    obtain ⟨h2, h3⟩ := h
    simp only [List.map_cons] at h2 h3
    injection h2 with h4 h5
    subst h4
    cases h3 with
    | cons r1 r2 => exact h1 k' v w kvs kws r1 ⟨h5, r2⟩ (FRep.ind h0 h1 ⟨h5, r2⟩)
theorem FRep.nil : FRep K ρ I [] [] := ⟨rfl, .nil⟩
theorem FRep.cons {k : String} {v : V} {w : D} {kvs : List (Str × V)} {kws : List (String × D)} (h : Rep K ρ I v w) (r : FRep K ρ I kvs kws) : FRep K ρ I ((Str.ofString k, v) :: kvs) ((k, w) :: kws) := ⟨by simp [r.1], .cons h r.2⟩
theorem FRep.get {fsV : List (Str × V)} {fs : List (String × D)} (h : FRep K ρ I fsV fs) (f : String) : (∃ v w, fsV.lookup (Str.ofString f) = some v ∧ fget fs f = some w ∧ Rep K ρ I v w) ∨ (fsV.lookup (Str.ofString f) = none ∧ fget fs f = none) := by
  refine FRep.ind (P := fun fsV fs => (∃ v w, fsV.lookup (Str.ofString f) = some v ∧ fget fs f = some w ∧ Rep K ρ I v w) ∨ (fsV.lookup (Str.ofString f) = none ∧ fget fs f = none)) (.inr ⟨rfl, rfl⟩) (fun k v w kvs kws r _ ih => ?_) h
  by_cases e : k = f
  · subst e
    exact .inl ⟨v, w, by simp [List.lookup], by simp [fget], r⟩
  · have e2 : (Str.ofString f == Str.ofString k) = false := beq_eq_false_iff_ne.mpr fun z => e (ofString_inj z).symm
    have e3 : (k == f) = false := beq_eq_false_iff_ne.mpr e
    have h1 : List.lookup (Str.ofString f) ((Str.ofString k, v) :: kvs) = List.lookup (Str.ofString f) kvs := by simp only [List.lookup, e2]
    have h2 : fget ((k, w) :: kws) f = fget kws f := by
      unfold fget
      rw [List.find?_cons]
      simp only [e3]
    rw [h1, h2]
    exact ih
theorem FRep.put {fsV : List (Str × V)} {fs : List (String × D)} (h : FRep K ρ I fsV fs) (f : String) {v : V} {w : D} (r : Rep K ρ I v w) : FRep K ρ I (putF (Str.ofString f) v fsV) (fput f w fs) := by
  refine FRep.ind (P := fun fsV fs => FRep K ρ I (putF (Str.ofString f) v fsV) (fput f w fs)) (FRep.nil.cons r) (fun k v' w' kvs kws r' h' ih => ?_) h
  unfold putF fput
  by_cases e : k = f
  · subst e
    rw [if_pos rfl, if_pos rfl]
    exact h'.cons r
  · rw [if_neg (fun z => e (ofString_inj z)), if_neg e]
    exact ih.cons r'
theorem FRep.len {fsV : List (Str × V)} {fs : List (String × D)} (h : FRep K ρ I fsV fs) : fsV.length = fs.length := by
  have := congrArg List.length h.1
  rwa [List.length_map, List.length_map] at this
end
/-- the object at r, of one of these classes -/
def objAt (cs : List String) (S : Sto) (x : D) : Option (Nat × String × List (String × D)) := match x with
  | .obj r => (match S[r]? with
    | some (.ins c fs) => if c ∈ cs then some (r, c, fs) else none
    | _ => none)
  | _ => none
section
variable {X : Cx} {Wx : WX} {fr : Bool}
theorem objAt_ok {K : PySem.W.Frag} {F I : Hp} {ρ : List Addr} {S : Sto} {H : Hp} {σV : L2.St} {σ : Sl} {v : V} {x : D} {cs : List String} {r : Nat} {c : String} {fs : List (String × D)} (rb : RB K F I ρ S H σV σ) (t : TRep K ρ I σV v x) (e : objAt cs S x = some (r, c, fs)) :
    x = .obj r ∧ S[r]? = some (.ins c fs) ∧ c ∈ cs ∧ ∃ a dx fsV, v = .ref a ∧ ρ[r]? = some a ∧ H a = some (.ins (ca K c) dx fsV) ∧ FRep K ρ I fsV fs := by
  unfold objAt at e
  split at e
  · rename_i r'
    split at e
    · rename_i c' fs' hs
      split at e
      · rename_i hm
        cases e
        rcases t with ⟨i, q, _⟩ | t
        · cases q
        · cases t with
          | @obj _ a ha =>
            obtain ⟨b, hb, _, _, dx, fsV, h1, h2, h3⟩ := rb.store _ _ hs
            rw [ha] at hb
            cases hb
            exact ⟨rfl, hs, hm, a, dx, fsV, rfl, ha, h1, h2, h3⟩
      · cases e
    · cases e
  · cases e
def dFld (cs : List String) (f : String) (fo : DE) : DE := fun σ S => (fo σ S).bind fun x σ S => ofOpt ((objAt cs S x).bind fun p => fget p.2.2 f) σ S
/-- classes with their fields -/
def ClsF (K : PySem.W.Frag) (cs : List String) (f : String) : Prop := ∀ c ∈ cs, Cls K (ca K c) ∧ NoAttr K (ca K c) (Str.ofString f)
theorem c_fld {e : Expr} {pos : Pos} {cs : List String} {f : String} {fo : DE} (hc : ClsF X.K cs f) (he : SE X Wx e fo) (hb : attributeBase e (Str.ofString f) X.env (eval e X.env) = eval e X.env := by rfl) : SE X Wx (.Attribute e (Str.ofString f) pos) (dFld cs f fo) := by
  refine PE.imp (pe_fld he hb) fun σV H Q h => ?_
  obtain ⟨F, I, ρ, σ, S, rb, h⟩ := h
  refine ⟨F, I, ρ, σ, S, rb, post_bind h fun I1 ρ1 σ1 S1 H1 x v1 _ g1 rb1 t1 h1 => ?_⟩
  obtain ⟨z, ez, h2⟩ := post_opt h1
  obtain ⟨⟨r, c, fs⟩, ep, ez2⟩ := Option.bind_eq_some_iff.mp ez
  clear ez
  obtain ⟨rfl, hs, hm, a, dx, fsV, rfl, ha, hH, rf⟩ := objAt_ok rb1 t1 ep
  obtain ⟨hcl, hno⟩ := hc c hm
  have ez3 : fget fs f = some z := ez2
  rcases rf.get f with ⟨v, w, q1, q2, q3⟩ | ⟨_, q2⟩
  · rw [q2] at ez3
    cases ez3
    exact ⟨a, _, dx, fsV, v, rfl, hH, hcl, hno, q1, h2 I1 ρ1 H1 v Gr.refl rb1 (.inr q3)⟩
  · rw [q2] at ez3
    cases ez3
/-- the object's cell is changed -/
theorem RB.insSet {K : PySem.W.Frag} {F I : Hp} {ρ : List Addr} {S : Sto} {H : Hp} {σV : L2.St} {σ : Sl} (rb : RB K F I ρ S H σV σ) {r : Nat} {c c' : String} {fs fs' : List (String × D)} {a : Addr} {o : HO} (hs : S[r]? = some (.ins c fs)) (ha : ρ[r]? = some a) (new : CellAt K ρ I (upd H a o) a (.ins c' fs')) :
    RB K F I ρ (S.set r (.ins c' fs')) (upd H a o) σV σ := by
  obtain ⟨b, hb, hf, hi, _⟩ := rb.store _ _ hs
  rw [ha] at hb
  cases hb
  have lt : r < S.length := (List.getElem?_eq_some_iff.mp hs).1
  have k : ∀ b u, b ≠ a → H b = some u → upd H a o b = some u := fun b u n h => by rw [upd_ne n]; exact h
  refine ⟨fun b u h => k b u (ne_of_none h hf) (rb.fr b u h), fun b u h => ?_, rb.dis, fun r2 ob h => ?_, rb.nd, by rw [List.length_set]; exact rb.rl, rb.len, fun j s h => ?_, rb.inj⟩
  · have n := ne_of_none h hi
    rcases rb.sub b u h with z | ⟨d, ob, z⟩
    · exact .inl (k _ _ n z)
    · exact .inr ⟨d, ob, k _ _ n z⟩
  · by_cases er : r = r2
    · subst er
      rw [List.getElem?_set_self lt] at h
      cases h
      exact ⟨a, ha, hf, hi, new⟩
    · rw [List.getElem?_set_ne er] at h
      obtain ⟨b, hb, hfb, hib, hcb⟩ := rb.store r2 ob h
      have n : b ≠ a := fun z => er (rb.nd r r2 a ha (z ▸ hb))
      exact ⟨b, hb, hfb, hib, hcb.gr Gr.refl fun u => k b u n⟩
  · have q := rb.slot j s h
    cases s with
    | emp => trivial
    | exn b => first | exact q | exact (List.getElem?_set_ne e).trans q | exact e.trans q
    | val w => exact q
    | own c2 =>
      obtain ⟨b, hb, hfb, hib, hrb, hob⟩ := q
      have n : b ≠ a := fun z => hrb (z ▸ List.mem_of_getElem? ha)
      exact ⟨b, hb, hfb, hib, hrb, hob.gr Gr.refl fun u => k b u n⟩
def sFldD (cs : List String) (f : String) (fo fv : DE) : DS := fun σ S => (dV fv σ S).bind fun w σ S => (fo σ S).bind fun x σ S => match objAt cs S x with
  | some (r, c, fs) => if fs.length < 1000 then .ok .next σ (S.set r (.ins c (fput f w fs))) else .fail
  | none => .fail
theorem cs_fld {o value : Expr} {pos pos' : Pos} {cs : List String} {f : String} {fo fv : DE} (hc : ClsF X.K cs f) (ho : SE X Wx o fo) (hv : SE X Wx value fv) (hs : swapsWith value (some (.Attribute o (Str.ofString f) pos')) pos.line X.env = pure false := by rfl) :
    SS fr X Wx (.Assign [.Attribute o (Str.ofString f) pos'] value pos) (sFldD cs f fo fv) := by
  refine PS.imp (ps_fld ho (c_v hv) hs) fun D σV H h => ?_
  obtain ⟨F, I, ρ, σ, S, rb, h⟩ := h
  refine ⟨F, I, ρ, σ, S, rb, postS_bind h fun I1 ρ1 σ1 S1 H1 w v _ g1 rb1 t1 h1 => ?_⟩
  refine ⟨F, I1, ρ1, σ1, S1, rb1, postS_bind h1 fun I2 ρ2 σ2 S2 H2 x vx _ g2 rb2 t2 h2 => ?_⟩
  split at h2
  · rename_i r c fs ep
    split at h2
    · rename_i hl
      obtain ⟨rfl, hs, hm, a, dx, fsV, rfl, ha, hH, rf⟩ := objAt_ok rb2 t2 ep
      obtain ⟨hcl, hno⟩ := hc c hm
      refine ⟨a, _, dx, fsV, rfl, hH, hcl, hno, by rw [rf.len]; exact hl, ?_⟩
      have rf2 := rf.put f (t1.gr g2)
      exact h2 I2 ρ2 _ _ Gr.refl (rb2.insSet hs ha ⟨dx, _, upd_same, rf2.1, rf2.2⟩)
    · exact h2.elim
  · exact h2.elim
end
end MR

set_option Elab.async false
set_option linter.all false
set_option maxRecDepth 100000
/-! MR14: methods, making, dict methods. -/
namespace MR
open PySem PySem.Spec PyProof.Rows L2

/-! ### the call of a method, what it raises told at the slots -/
section
variable {X : Cx} {CX : CXT} {k : Nat} {f C : Addr} {fd : FuncData} {ps : List Str} {sp : Sp} {E : L2.St → XK} {x m : Str} {p pos apos : Pos} {e o : Expr} {es : List Expr} {ta : TE} {t : TA} {pl : Sem Bool}
def tMet (C : Addr) (m : Str) (sp : Sp) (E : L2.St → XK) (ta : TE) (t : TA) : TE := fun σ H Q => ta σ H fun x H1 =>
  ∃ a dx fs, x = .ref a ∧ H1 a = some (.ins C dx fs) ∧ fs.lookup m = none ∧ t σ H1 fun vs H2 => sp (x :: vs) H2 Q (E σ)
theorem pe_met (he : PE X o ta) (c : Cls X.K C) (hm : Meth X.K C m f) (F : FnOk X.prog X.w X.K X.mg X.base CX k f fd ps sp) (hr : Room k X.A) (hb : Binds X.K fd ps []) (hx : ∀ σ, PassesAt CX X σ (E σ)) (ha : PA X (e :: es) t)
    (hst : starEach (e :: es) X.env = (false, eval e X.env) :: starEach es X.env) (hpl : (backTo pos (starEach es X.env)).any (·.1) = false)
    (ht : eval (.Call (.Attribute o m apos) (e :: es) [] pos) X.env = (eval o X.env >>= fun ov => standAt apos.atName >>= fun _ => holding [ov] (getMethod ov m pl) >>= fun q => callWith pos q.1 q.2 (backTo pos (starEach (e :: es) X.env)) (backToKw pos (keywordEach [] X.env)))) :
    PE X (.Call (.Attribute o m apos) (e :: es) [] pos) (tMet C m sp E ta t) := by
  refine ⟨fun pins s σ H Q I h => ?_⟩
  refine PySem.W.methodCall_KW (pl := pl) (thn (he.run pins s σ H _ I h) fun u s1 ⟨y, H1, I1, ry, a, dx, fs, ey, ea, l, q⟩ => ?_) ht
  subst ey
  obtain rfl : u = Value.ref a := ry
  refine getmeth_ok I1 ea c hm l (PySem.W.callWith_K (first := [.ref a]) (h₀ := X.base) I.ok.mod.kin hm.kp (thn (ha.run pos pins s1 σ H1 _ I1 q) fun us s2 ⟨vs, H2, I2, r, q2⟩ => ⟨I2.kIn, ?_⟩) hst hpl)
  exact run_fnS (us := .ref a :: us) (vs := .ref a :: vs) F hr hb (hx σ) I2 (.cons rfl r) q2
theorem pe_met0 (he : PE X o ta) (c : Cls X.K C) (hm : Meth X.K C m f) (F : FnOk X.prog X.w X.K X.mg X.base CX k f fd ps sp) (hr : Room k X.A) (hb : Binds X.K fd ps []) (hx : ∀ σ, PassesAt CX X σ (E σ))
    (ht : eval (.Call (.Attribute o m apos) [] [] pos) X.env = (eval o X.env >>= fun ov => standAt apos.atName >>= fun _ => holding [ov] (getMethod ov m pl) >>= fun q => callWith pos q.1 q.2 (backTo pos (starEach [] X.env)) (backToKw pos (keywordEach [] X.env)))) :
    PE X (.Call (.Attribute o m apos) [] [] pos) (tMet C m sp E ta tNil) := by
  refine ⟨fun pins s σ H Q I h => ?_⟩
  refine PySem.W.methodCall_KW (pl := pl) (thn (he.run pins s σ H _ I h) fun u s1 ⟨y, H1, I1, ry, a, dx, fs, ey, ea, l, q⟩ => ?_) ht
  subst ey
  obtain rfl : u = Value.ref a := ry
  exact getmeth_ok I1 ea c hm l (PySem.W.callWith_K0 (first := [.ref a]) I1.kIn hm.kp (run_fnS (us := [.ref a]) (vs := [.ref a]) F hr hb (hx σ) I1 (.cons rfl .nil) q))
/-- C(..) -/
def tMk (C : Addr) (sp : Sp) (E : L2.St → XK) (t : TA) : TE := fun σ H Q => t σ H fun vs H1 => ∀ x dx, H1 x = none → H1 dx = none → dx ≠ x →
  sp (.ref x :: vs) (upd (upd H1 dx (.own x)) x (.ins C dx [])) (fun v H2 => v = .non ∧ Q (.ref x) H2) (E σ)
theorem run_mk {pins : List (Addr × Obj)} {σ : L2.St} {H : Hp} {s : Shared} {Q : VK} {us : List Value} {vs : List V} (M : Mk X.K C f) (F : FnOk X.prog X.w X.K X.mg X.base CX k f fd ps sp) (hr : Room (k + 1) X.A) (hb : Binds X.K fd ps [])
    (hx : PassesAt CX X σ (E σ)) (I : Inv X pins σ H s) (r : Vals vs us)
    (h : ∀ x dx, H x = none → H dx = none → dx ≠ x → sp (.ref x :: vs) (upd (upd H dx (.own x)) x (.ins C dx [])) (fun v H2 => v = .non ∧ Q (.ref x) H2) (E σ)) :
    wpAny (model X.prog X.w) X.A (call (.ref C) us) (EP X pins σ Q) X.xe s := by
  have hq := h (s.heap.objs.size + 1) s.heap.objs.size (I.hok.fresh (Nat.le_succ _)) (I.hok.fresh (Nat.le_refl _)) (Nat.ne_of_lt (Nat.lt_succ_self _))
  have I2 := Inv.made (C := C) I
  have r2 : Vals (V.ref (s.heap.objs.size + 1) :: vs) (Value.ref (s.heap.objs.size + 1) :: us) := .cons rfl r
  have hl : (Value.ref (s.heap.objs.size + 1) :: us).length = ps.length := by
    have z := r2.length
    rw [F.len _ _ _ _ hq] at z
    exact z.symm
  have b := hb _ (Value.ref (s.heap.objs.size + 1) :: us) I2.kIn (by rw [List.append_nil]; exact hl)
  rw [List.append_nil] at b
  refine wpAny_call (make_map (f := f) I.kIn M.makes M.init (beq_iff_eq.mp M.fn) (codeAny_mono (F.run _ X.stack _ _ ⟨Value.ref (s.heap.objs.size + 1) :: us, []⟩ (Value.ref (s.heap.objs.size + 1) :: us) _ _ (E σ) (hr.make C us [])
    (I2.env0.make C us []) b r2 hq) fun r s' hq' => ?_))
  cases r with
  | error e => exact hx pins _ _ e s' I2 hq'
  | ok fl =>
    cases fl with
    | ret u =>
      obtain ⟨v, H', I3, rv, ev, q3⟩ := I2.after hq'
      subst ev
      exact ⟨rv, ⟨V.ref (s.heap.objs.size + 1), H', I3, rfl, q3⟩⟩
    | next => exact False.elim hq'
    | brk => exact False.elim hq'
    | cont => exact False.elim hq'
theorem pe_mk (M : Mk X.K C f) (F : FnOk X.prog X.w X.K X.mg X.base CX k f fd ps sp) (hr : Room (k + 1) X.A) (hg : Gl X x) (hm : X.mg x = some (.ref C)) (hb : Binds X.K fd ps []) (hx : ∀ σ, PassesAt CX X σ (E σ)) (ha : PA X (e :: es) t)
    (hdb : (x == ("__debug__" : Str)) = false) (he : starEach (e :: es) X.env = (false, eval e X.env) :: starEach es X.env) (hpl : (backTo pos (starEach es X.env)).any (·.1) = false) : PE X (.Call (.Name x p) (e :: es) [] pos) (tMk C sp E t) := by
  refine ⟨fun pins s σ H Q I h => wpAny_Call_Name_kw (ld_glob I hg hm ?_ hdb)⟩
  refine PySem.W.callWith_K (h₀ := X.base) I.ok.mod.kin M.kp (thn (ha.run pos pins s σ H _ I h) fun us s1 ⟨vs, H1, I1, r, q⟩ => ⟨I1.kIn, ?_⟩) he hpl
  exact run_mk M F hr hb (hx σ) I1 r q
theorem pe_mk0 (M : Mk X.K C f) (F : FnOk X.prog X.w X.K X.mg X.base CX k f fd ps sp) (hr : Room (k + 1) X.A) (hg : Gl X x) (hm : X.mg x = some (.ref C)) (hb : Binds X.K fd ps []) (hx : ∀ σ, PassesAt CX X σ (E σ))
    (hdb : (x == ("__debug__" : Str)) = false) : PE X (.Call (.Name x p) [] [] pos) (tMk C sp E tNil) := by
  refine ⟨fun pins s σ H Q I h => wpAny_Call_Name_kw (ld_glob I hg hm ?_ hdb)⟩
  exact PySem.W.callWith_K0 I.kIn M.kp (run_mk (us := []) M F hr hb (hx σ) I .nil h)
end

/-- a method as callers take it -/
structure Mt (fr : Bool) (P : Program) (w : World) (K : PySem.W.Frag) (mg : Str → Option Value) (base : Heap) (c m : String) (k n : Nat) (d : Den) : Prop where
  ex : ∃ (f : Addr) (fd : FuncData) (ps : List Str), Cls K (ca K c) ∧ Meth K (ca K c) (Str.ofString m) f ∧ Binds K fd ps [] ∧ ps.length = n ∧ FnOk P w K mg base (L2.CX P w) k f fd ps (spD fr K n d)
theorem Mt.mono {fr : Bool} {P : Program} {w : World} {K : PySem.W.Frag} {mg : Str → Option Value} {base : Heap} {c m : String} {k k' n : Nat} {d : Den} (M : Mt fr P w K mg base c m k n d) (h : k ≤ k') : Mt fr P w K mg base c m k' n d := by
  obtain ⟨f, fd, ps, h1, h2, h3, h4, h5⟩ := M.ex
  exact ⟨f, fd, ps, h1, h2, h3, h4, h5.mono h⟩
/-- a class that is made, with its __init__ -/
structure MkD (P : Program) (w : World) (K : PySem.W.Frag) (mg : Str → Option Value) (base : Heap) (c : String) (k n : Nat) (d : Den) : Prop where
  ex : ∃ (f : Addr) (fd : FuncData) (ps : List Str), mg (Str.ofString c) = some (.ref (ca K c)) ∧ Mk K (ca K c) f ∧ Binds K fd ps [] ∧ ps.length = n ∧ FnOk P w K mg base (L2.CX P w) k f fd ps (spD false K n d)

def outR (o : Out) (σ : Sl) : Res D := match o with
  | .ok w S' => .ok w σ S'
  | .exc e S' => .exc e σ S'
  | .fail => .fail
def dMet (m : String) (tbl : List (String × Den)) (fo : DE) (fa : DA) : DE := fun σ S => (fo σ S).bind fun x σ S => match objAt (tbl.map (·.1)) S x with
  | some (_, c, fs) => (match fget fs m with
    | some _ => .fail
    | none => (fa σ S).bind fun ws σ S => match tbl.find? (fun p => p.1 == c) with
      | some p => outR (p.2 (x :: ws) S) σ
      | none => .fail)
  | none => .fail
def dMake (c : String) (d : Den) (fa : DA) : DE := fun σ S => (fa σ S).bind fun ws σ S => match d (.obj S.length :: ws) (S ++ [.ins c []]) with
  | .ok .non S' => .ok (.obj S.length) σ S'
  | .ok _ _ => .fail
  | .exc e S' => .exc e σ S'
  | .fail => .fail
theorem dMet_one {m : String} {tbl : List (String × Den)} (h0 : tbl ≠ []) (fo : DE) (fa : DA) (σ : Sl) (S : Sto) : ∃ p ∈ tbl, dMet m tbl fo fa σ S = dMet m [p] fo fa σ S := by
  obtain ⟨p0, hp0⟩ : ∃ p, p ∈ tbl := by cases tbl with
    | nil => exact absurd rfl h0
    | cons p r => exact ⟨p, List.mem_cons_self ..⟩
  unfold dMet
  cases e : fo σ S with
  | fail => exact ⟨p0, hp0, rfl⟩
  | exc a _ _ => exact ⟨p0, hp0, rfl⟩
  | ok x σ1 S1 =>
    dsimp only [Res.bind]
    cases x with
    | obj r =>
      cases hs : S1[r]? with
      | none =>
        refine ⟨p0, hp0, ?_⟩
        unfold objAt
        simp only [hs]
      | some ob =>
        cases ob with
        | con lk w =>
          refine ⟨p0, hp0, ?_⟩
          unfold objAt
          simp only [hs]
        | ins c fs =>
          cases hf : tbl.find? (fun p => p.1 == c) with
          | some p =>
            have hm := List.mem_of_find?_eq_some hf
            have hc : p.1 = c := by have := List.find?_some hf; exact eq_of_beq this
            have h1 : c ∈ tbl.map (·.1) := List.mem_map.mpr ⟨p, hm, hc⟩
            refine ⟨p, hm, ?_⟩
            have o1 : objAt (tbl.map (·.1)) S1 (.obj r) = some (r, c, fs) := by
              unfold objAt
              simp only [hs]
              rw [if_pos h1]
            have o2 : objAt ([p].map (·.1)) S1 (.obj r) = some (r, c, fs) := by
              unfold objAt
              simp only [hs]
              rw [if_pos (by simp [hc])]
            have f2 : [p].find? (fun p => p.1 == c) = some p := by rw [List.find?_cons, hc, beq_self_eq_true]
            rw [o1, o2]
            dsimp only
            rw [hf, f2]
          | none =>
            have h1 : c ∉ tbl.map (·.1) := fun hm => by
              obtain ⟨p, hp, hc⟩ := List.mem_map.mp hm
              have := List.find?_eq_none.mp hf p hp
              rw [hc, beq_self_eq_true] at this
              exact this rfl
            refine ⟨p0, hp0, ?_⟩
            have o1 : objAt (tbl.map (·.1)) S1 (.obj r) = none := by
              unfold objAt
              simp only [hs]
              rw [if_neg h1]
            have o2 : objAt ([p0].map (·.1)) S1 (.obj r) = none := by
              unfold objAt
              simp only [hs]
              rw [if_neg]
              intro hm
              rw [List.map_singleton, List.mem_singleton] at hm
              exact h1 (hm ▸ List.mem_map.mpr ⟨p0, hp0, rfl⟩)
            rw [o1, o2]
    | _ => exact ⟨p0, hp0, rfl⟩
section
variable {X : Cx} {Wx : WX}
theorem c_orN {ι : Type} {l : List ι} {e : Expr} {f : DE} {g : ι → DE} (h : ∀ p ∈ l, SV X Wx e (g p)) (i : ∀ σ S, ∃ p ∈ l, f σ S = g p σ S) : SV X Wx e f := ⟨fun pins s σV H Q I ⟨F, I', ρ, σ, S, rb, q⟩ => by
  obtain ⟨p, hp, e⟩ := i σ S
  exact (h p hp).run pins s σV H Q I ⟨F, I', ρ, σ, S, rb, e ▸ q⟩⟩
theorem cf_orN {ι : Type} {l : List ι} {e : Expr} {f : DE} {g : ι → DE} (h : ∀ p ∈ l, SF X Wx e (g p)) (i : ∀ σ S, ∃ p ∈ l, f σ S = g p σ S) : SF X Wx e f := ⟨fun pins s σV H Q I ⟨F, I', ρ, σ, S, rb, q⟩ => by
  obtain ⟨p, hp, e⟩ := i σ S
  exact (h p hp).run pins s σV H Q I ⟨F, I', ρ, σ, S, rb, e ▸ q⟩⟩
theorem sem_met {c m : String} {n : Nat} {d : Den} {fo : DE} {fa : DA} (hlen : ∀ σ S ws σ' S', fa σ S = .ok ws σ' S' → ws.length + 1 = n) {σV : L2.St} {H : Hp} {Q : VK} (h : semV X.K Wx (dMet m [(c, d)] fo fa) σV H Q) :
    tMet (ca X.K c) (Str.ofString m) (spD false X.K n d) (WE Wx) (semE X.K Wx fo) (semA X.K Wx fa) σV H Q := by
  obtain ⟨F, I, ρ, σ, S, rb, h⟩ := h
  refine ⟨F, I, ρ, σ, S, rb, post_bind h fun I1 ρ1 σ1 S1 H1 x v1 _ g1 rb1 t1 h1 => ?_⟩
  split at h1
  · rename_i r c' fs ep
    obtain ⟨rfl, hs, hm, a, dx, fsV, rfl, ha, hH, rf⟩ := objAt_ok rb1 t1 ep
    simp only [List.map_cons, List.map_nil, List.mem_singleton] at hm
    subst hm
    split at h1
    · exact h1.elim
    · rename_i hfg
      refine ⟨a, dx, fsV, rfl, hH, ?_, F, I1, ρ1, σ1, S1, rb1, post_bind h1 fun I2 ρ2 σ2 S2 H2 ws vs er g2 rb2 t2 h2 => ?_⟩
      · rcases rf.get m with ⟨v, w, _, q2, _⟩ | ⟨q1, _⟩
        · rw [hfg] at q2; cases q2
        · exact q1
      · rw [List.find?_cons, beq_self_eq_true] at h2
        exact post_call rb2 (.cons (.obj (g2.pre _ _ ha)) t2) (by rw [List.length_cons, t2.length]; exact hlen _ _ _ _ _ er) h2
  · exact h1.elim
theorem sem_metF {c m : String} {n : Nat} {d : Den} {fo : DE} {fa : DA} (hlen : ∀ σ S ws σ' S', fa σ S = .ok ws σ' S' → ws.length + 1 = n) {σV : L2.St} {H : Hp} {Q : VK} (h : semF X.K Wx (dMet m [(c, d)] fo fa) σV H Q) :
    tMet (ca X.K c) (Str.ofString m) (spD true X.K n d) (WE Wx) (semE X.K Wx fo) (semA X.K Wx fa) σV H Q := by
  obtain ⟨F, I, ρ, σ, S, rb, h⟩ := h
  refine ⟨F, I, ρ, σ, S, rb, postF_bind h fun I1 ρ1 σ1 S1 H1 x v1 _ g1 rb1 t1 h1 => ?_⟩
  split at h1
  · rename_i r c' fs ep
    obtain ⟨rfl, hs, hm, a, dx, fsV, rfl, ha, hH, rf⟩ := objAt_ok rb1 t1 ep
    simp only [List.map_cons, List.map_nil, List.mem_singleton] at hm
    subst hm
    split at h1
    · exact h1.elim
    · rename_i hfg
      refine ⟨a, dx, fsV, rfl, hH, ?_, F, I1, ρ1, σ1, S1, rb1, postF_bind h1 fun I2 ρ2 σ2 S2 H2 ws vs er g2 rb2 t2 h2 => ?_⟩
      · rcases rf.get m with ⟨v, w, _, q2, _⟩ | ⟨q1, _⟩
        · rw [hfg] at q2; cases q2
        · exact q1
      · rw [List.find?_cons, beq_self_eq_true] at h2
        exact post_callF rb2 (.cons (.obj (g2.pre _ _ ha)) t2) (by rw [List.length_cons, t2.length]; exact hlen _ _ _ _ _ er) h2
  · exact h1.elim
variable {k n : Nat} {m : String} {tbl : List (String × Den)} {pos apos : Pos} {o e : Expr} {es : List Expr} {fo : DE} {r : DA} {pl : Sem Bool}
/-- o.m(e, ..) -/
theorem c_met (M : ∀ p ∈ tbl, Mt false X.prog X.w X.K X.mg X.base p.1 m k n p.2) (h0 : tbl ≠ []) (tk : Takes X Wx) (hr : Room k X.A) (ho : SE X Wx o fo) (ha : SA X Wx (e :: es) r) (hlen : ∀ σ S ws σ' S', r σ S = .ok ws σ' S' → ws.length + 1 = n)
    (hst : starEach (e :: es) X.env = (false, eval e X.env) :: starEach es X.env) (hpl : (backTo pos (starEach es X.env)).any (·.1) = false)
    (ht : eval (.Call (.Attribute o (Str.ofString m) apos) (e :: es) [] pos) X.env = (eval o X.env >>= fun ov => standAt apos.atName >>= fun _ => holding [ov] (getMethod ov (Str.ofString m) pl) >>= fun q => callWith pos q.1 q.2 (backTo pos (starEach (e :: es) X.env)) (backToKw pos (keywordEach [] X.env)))) :
    SV X Wx (.Call (.Attribute o (Str.ofString m) apos) (e :: es) [] pos) (dMet m tbl fo r) := by
  refine c_orN (g := fun p => dMet m [p] fo r) (fun p hp => ?_) (dMet_one h0 fo r)
  obtain ⟨f, fd, ps, h1, h2, h3, h4, h5⟩ := (M p hp).ex
  exact PE.imp (pe_met (E := WE Wx) ho h1 h2 h5 hr h3 (fun σ => passAt tk σ) ha hst hpl ht) fun σV H Q h => sem_met hlen h
theorem c_met0 (M : ∀ p ∈ tbl, Mt false X.prog X.w X.K X.mg X.base p.1 m k n p.2) (h0 : tbl ≠ []) (tk : Takes X Wx) (hr : Room k X.A) (ho : SE X Wx o fo) (hn : 0 + 1 = n)
    (ht : eval (.Call (.Attribute o (Str.ofString m) apos) [] [] pos) X.env = (eval o X.env >>= fun ov => standAt apos.atName >>= fun _ => holding [ov] (getMethod ov (Str.ofString m) pl) >>= fun q => callWith pos q.1 q.2 (backTo pos (starEach [] X.env)) (backToKw pos (keywordEach [] X.env)))) :
    SV X Wx (.Call (.Attribute o (Str.ofString m) apos) [] [] pos) (dMet m tbl fo aNil) := by
  refine c_orN (g := fun p => dMet m [p] fo aNil) (fun p hp => ?_) (dMet_one h0 fo aNil)
  obtain ⟨f, fd, ps, h1, h2, h3, h4, h5⟩ := (M p hp).ex
  refine PE.imp (pe_met0 (E := WE Wx) ho h1 h2 h5 hr h3 (fun σ => passAt tk σ) ht) fun σV H Q h => ?_
  obtain ⟨F, I, ρ, σ, S, rb, q⟩ := sem_met (n := n) (fun σ S ws σ' S' h => by cases h; exact hn) h
  refine ⟨F, I, ρ, σ, S, rb, ?_⟩
  cases ef : fo σ S with
  | fail => rw [ef] at q; exact q
  | exc a _ _ => rw [ef] at q; exact q
  | ok x σ1 S1 =>
    rw [ef] at q
    intro I' ρ' H' v g rb' t
    obtain ⟨a, dx, fs, h1, h2, h3, F2, I2, ρ2, σ2, S2, rb2, h4⟩ := q I' ρ' H' v g rb' t
    exact ⟨a, dx, fs, h1, h2, h3, h4 I2 ρ2 _ [] Gr.refl rb2 .nil⟩
theorem cf_met (M : ∀ p ∈ tbl, Mt true X.prog X.w X.K X.mg X.base p.1 m k n p.2) (h0 : tbl ≠ []) (tk : Takes X Wx) (hr : Room k X.A) (ho : SE X Wx o fo) (ha : SA X Wx (e :: es) r) (hlen : ∀ σ S ws σ' S', r σ S = .ok ws σ' S' → ws.length + 1 = n)
    (hst : starEach (e :: es) X.env = (false, eval e X.env) :: starEach es X.env) (hpl : (backTo pos (starEach es X.env)).any (·.1) = false)
    (ht : eval (.Call (.Attribute o (Str.ofString m) apos) (e :: es) [] pos) X.env = (eval o X.env >>= fun ov => standAt apos.atName >>= fun _ => holding [ov] (getMethod ov (Str.ofString m) pl) >>= fun q => callWith pos q.1 q.2 (backTo pos (starEach (e :: es) X.env)) (backToKw pos (keywordEach [] X.env)))) :
    SF X Wx (.Call (.Attribute o (Str.ofString m) apos) (e :: es) [] pos) (dMet m tbl fo r) := by
  refine cf_orN (g := fun p => dMet m [p] fo r) (fun p hp => ?_) (dMet_one h0 fo r)
  obtain ⟨f, fd, ps, h1, h2, h3, h4, h5⟩ := (M p hp).ex
  exact PE.imp (pe_met (E := WE Wx) ho h1 h2 h5 hr h3 (fun σ => passAt tk σ) ha hst hpl ht) fun σV H Q h => sem_metF hlen h
theorem cf_met0 (M : ∀ p ∈ tbl, Mt true X.prog X.w X.K X.mg X.base p.1 m k n p.2) (h0 : tbl ≠ []) (tk : Takes X Wx) (hr : Room k X.A) (ho : SE X Wx o fo) (hn : 0 + 1 = n)
    (ht : eval (.Call (.Attribute o (Str.ofString m) apos) [] [] pos) X.env = (eval o X.env >>= fun ov => standAt apos.atName >>= fun _ => holding [ov] (getMethod ov (Str.ofString m) pl) >>= fun q => callWith pos q.1 q.2 (backTo pos (starEach [] X.env)) (backToKw pos (keywordEach [] X.env)))) :
    SF X Wx (.Call (.Attribute o (Str.ofString m) apos) [] [] pos) (dMet m tbl fo aNil) := by
  refine cf_orN (g := fun p => dMet m [p] fo aNil) (fun p hp => ?_) (dMet_one h0 fo aNil)
  obtain ⟨f, fd, ps, h1, h2, h3, h4, h5⟩ := (M p hp).ex
  refine PE.imp (pe_met0 (E := WE Wx) ho h1 h2 h5 hr h3 (fun σ => passAt tk σ) ht) fun σV H Q h => ?_
  obtain ⟨F, I, ρ, σ, S, rb, q⟩ := sem_metF (n := n) (fun σ S ws σ' S' h => by cases h; exact hn) h
  refine ⟨F, I, ρ, σ, S, rb, ?_⟩
  cases ef : fo σ S with
  | fail => rw [ef] at q; exact q
  | exc a _ _ => rw [ef] at q; exact q
  | ok x σ1 S1 =>
    rw [ef] at q
    intro I' ρ' H' v g rb' t
    obtain ⟨a, dx, fs, h1, h2, h3, F2, I2, ρ2, σ2, S2, rb2, h4⟩ := q I' ρ' H' v g rb' t
    exact ⟨a, dx, fs, h1, h2, h3, h4 I2 ρ2 _ [] Gr.refl rb2 .nil⟩
theorem mt_nil {fr : Bool} : ∀ p ∈ ([] : List (String × Den)), Mt fr X.prog X.w X.K X.mg X.base p.1 m k n p.2 := fun p hp => by cases hp
theorem mt_cons {fr : Bool} {c : String} {d : Den} {j : Nat} (M : Mt fr X.prog X.w X.K X.mg X.base c m j n d) (hj : j ≤ k) (R : ∀ p ∈ tbl, Mt fr X.prog X.w X.K X.mg X.base p.1 m k n p.2) : ∀ p ∈ (c, d) :: tbl, Mt fr X.prog X.w X.K X.mg X.base p.1 m k n p.2 := fun p hp => by
  rcases List.mem_cons.mp hp with rfl | hp
  · exact M.mono hj
  · exact R p hp
/-! ### making -/
theorem post_make {F I : Hp} {ρ : List Addr} {S : Sto} {H : Hp} {σV : L2.St} {σ : Sl} {vs : List V} {ws : List D} {c : String} {d : Den} {n : Nat} {Q : VK} (rb : RB X.K F I ρ S H σV σ) (r : Reps X.K ρ I vs ws) (hn : vs.length + 1 = n)
    (h : postR X.K Wx (fun ρ I _ v w => Rep X.K ρ I v w) F I ρ σV (match d (.obj S.length :: ws) (S ++ [.ins c []]) with
      | .ok .non S' => .ok (.obj S.length) σ S'
      | .ok _ _ => .fail
      | .exc e S' => .exc e σ S'
      | .fail => .fail) Q) (x dx : Addr) (hx : H x = none) (hdx : H dx = none) (ne : dx ≠ x) :
    spD false X.K n d (.ref x :: vs) (upd (upd H dx (.own x)) x (.ins (ca X.K c) dx [])) (fun v H2 => v = .non ∧ Q (.ref x) H2) (WE Wx σV) := by
  obtain ⟨rb2, _⟩ := rb.newO (o := .own x) hdx
  have hx2 : upd H dx (.own x) x = none := by rw [upd_ne ne.symm]; exact hx
  obtain ⟨rb3, nf, ni, nr, no⟩ := rb2.newO (o := .ins (ca X.K c) dx []) hx2
  obtain ⟨g4, rb4⟩ := rb3.alloc (ob := .ins c []) nf ni nr no ⟨dx, [], upd_same, rfl, .nil⟩
  have hlast := ρ_last (a := x) rb.rl
  refine post_call rb4 (.cons (.obj hlast) (r.gr g4)) (by rw [List.length_cons]; exact hn) ?_
  cases e : d (.obj S.length :: ws) (S ++ [.ins c []]) with
  | fail => rw [e] at h; exact h
  | exc a S' => rw [e] at h; exact fun I' ρ' H' dd g rb' he => h I' ρ' H' dd (g4.trans g) rb' he
  | ok w S' =>
    rw [e] at h
    cases w with
    | non =>
      intro I' ρ' H' v g rb' t
      cases t
      exact ⟨rfl, h I' ρ' H' _ (g4.trans g) rb' (.obj (g.pre _ _ hlast))⟩
    | _ => exact h.elim
variable {c : String} {d : Den} {p : Pos} {j : Nat}
theorem c_make (M : MkD X.prog X.w X.K X.mg X.base c k n d) (tk : Takes X Wx) (hr : Room j X.A) (hkj : k + 1 ≤ j) (ha : SA X Wx (e :: es) r) (hlen : ∀ σ S ws σ' S', r σ S = .ok ws σ' S' → ws.length + 1 = n) (hg : Gl X (Str.ofString c))
    (hdb : (Str.ofString c == ("__debug__" : Str)) = false) (he : starEach (e :: es) X.env = (false, eval e X.env) :: starEach es X.env) (hpl : (backTo pos (starEach es X.env)).any (·.1) = false) :
    SV X Wx (.Call (.Name (Str.ofString c) p) (e :: es) [] pos) (dMake c d r) := by
  obtain ⟨f, fd, ps, h1, h2, h3, h4, h5⟩ := M.ex
  refine PE.imp (pe_mk (E := WE Wx) h2 h5 (hr.mono hkj) hg h1 h3 (fun σ => passAt tk σ) ha hdb he hpl) fun σV H Q h => ?_
  obtain ⟨F, I, ρ, σ, S, rb, h⟩ := h
  refine ⟨F, I, ρ, σ, S, rb, post_bind h fun I1 ρ1 σ1 S1 H1 ws vs er g1 rb1 t1 h1 => ?_⟩
  exact fun x dx hx hdx ne => post_make rb1 t1 (by rw [t1.length]; exact hlen _ _ _ _ _ er) h1 x dx hx hdx ne
theorem c_make0 (M : MkD X.prog X.w X.K X.mg X.base c k n d) (tk : Takes X Wx) (hr : Room j X.A) (hkj : k + 1 ≤ j) (hn : 0 + 1 = n) (hg : Gl X (Str.ofString c)) (hdb : (Str.ofString c == ("__debug__" : Str)) = false) :
    SV X Wx (.Call (.Name (Str.ofString c) p) [] [] pos) (dMake c d aNil) := by
  obtain ⟨f, fd, ps, h1, h2, h3, h4, h5⟩ := M.ex
  refine PE.imp (pe_mk0 (E := WE Wx) h2 h5 (hr.mono hkj) hg h1 h3 (fun σ => passAt tk σ) hdb) fun σV H Q h => ?_
  obtain ⟨F, I, ρ, σ, S, rb, h⟩ := h
  exact fun x dx hx hdx ne => post_make (vs := []) (ws := []) rb .nil hn h x dx hx hdx ne
end
end MR

set_option Elab.async false
set_option linter.all false
set_option maxRecDepth 100000
/-! MR15: dict methods; a class's defs. -/
namespace MR
open PySem PySem.Spec PyProof.Rows L2

def isDct : D → Bool
  | .dK _ => true
  | _ => false
section
variable {X : Cx} {Wx : WX} {fr : Bool} {o e f : Expr} {apos cpos : Pos} {fo fe ff : DE} {k : Nat}
theorem isD_of {K : PySem.W.Frag} {ρ : List Addr} {I H : Hp} {v : V} {c : D} (h : At K ρ I H v c) (e : isDct c = true) : ∃ a, v = .ref a ∧ IsD H a := by
  cases c with
  | dK l => obtain ⟨a, kvs, rfl, hk, _⟩ := h; exact ⟨a, rfl, .inl ⟨kvs, hk⟩⟩
  | _ => cases e
/-- d.get(k), d.get(k, x) -/
def kGet : D → D → List D → Sl → Sto → Res D := fun _ c ws σ S => match c, ws with
  | .dK l, [y] => (match keyD y with
    | some k => .ok ((valD l k).getD .non) σ S
    | none => .fail)
  | .dK l, [y, z] => (match keyD y with
    | some k => .ok ((valD l k).getD z) σ S
    | none => .fail)
  | _, _ => .fail
theorem rep_key {K : PySem.W.Frag} {ρ : List Addr} {I : Hp} {v : V} {y : D} {k : Kk} (t : Rep K ρ I v y) (e : keyD y = some k) : v = kV k := by
  cases t with
  | int => cases e; rfl
  | str => cases e; rfl
  | _ => cases e
theorem c_dget1 (hr : Room k X.A) (ho : SE X Wx o fo) (he : SE X Wx e fe) (m : M1 X o "get" apos e cpos) : SE X Wx (.Call (.Attribute o "get" apos) [e] [] cpos) (dMeth isDct kGet fo (aCons fe aNil)) := by
  refine PE.imp (pe_dget1 (rooms hr) ho (c_v he) m) fun σV H Q h => ?_
  obtain ⟨F, I, ρ, σ, S, rb, h⟩ := h
  refine ⟨F, I, ρ, σ, S, rb, post_bind h fun I1 ρ1 σ1 S1 H1 x v1 _ g1 rb1 t1 h1 => ?_⟩
  split at h1
  · rename_i hi
    obtain ⟨c, hc, hic⟩ := Option.map_eq_some_iff.mp hi
    obtain ⟨a, rfl, hd⟩ := isD_of (rb1.at t1 hc) hic
    unfold aCons aNil at h1
    have h1' : postR X.K Wx (TRep X.K) F I1 ρ1 σV ((dV fe σ1 S1).bind fun y σ S => match deref σ S x with
      | some c => kGet x c [y] σ S
      | none => .fail) Q := by
      cases e : dV fe σ1 S1 with
      | ok y σ2 S2 => rw [e] at h1; exact h1
      | exc a _ _ => rw [e] at h1; exact h1
      | fail => rw [e] at h1; exact h1
    refine ⟨a, rfl, hd, F, I1, ρ1, σ1, S1, rb1, post_bind h1' fun I2 ρ2 σ2 S2 H2 y vy _ g2 rb2 t2 h2 => ?_⟩
    split at h2
    · rename_i c2 hc2
      unfold kGet at h2
      split at h2
      · rename_i l y0 heq
        cases heq
        split at h2
        · rename_i k hk
          obtain ⟨a', ea, q⟩ := dget_of (rb2.at (t1.gr g2) hc2) (Rep.at rb2.sub t2) hk
          cases ea
          rcases q with ⟨v, w, q1, q2, q3⟩ | ⟨q1, q2⟩
          · exact ⟨_, q1, by rw [q2] at h2; exact h2 I2 ρ2 H2 v Gr.refl rb2 (.inr q3)⟩
          · exact ⟨_, q1, by rw [q2] at h2; exact h2 I2 ρ2 H2 _ Gr.refl rb2 (.inr .non)⟩
        · exact h2.elim
      · rename_i heq; cases heq
      · exact h2.elim
    · exact h2.elim
  · exact h1.elim
theorem c_dget2 (hr : Room k X.A) (ho : SE X Wx o fo) (he : SE X Wx e fe) (hf : SE X Wx f ff) (m : M2 X o "get" apos e f cpos) : SE X Wx (.Call (.Attribute o "get" apos) [e, f] [] cpos) (dMeth isDct kGet fo (aCons fe (aCons ff aNil))) := by
  refine PE.imp (pe_dget2 (rooms hr) ho (c_v he) (c_v hf) m) fun σV H Q h => ?_
  obtain ⟨F, I, ρ, σ, S, rb, h⟩ := h
  refine ⟨F, I, ρ, σ, S, rb, post_bind h fun I1 ρ1 σ1 S1 H1 x v1 _ g1 rb1 t1 h1 => ?_⟩
  split at h1
  · rename_i hi
    obtain ⟨c, hc, hic⟩ := Option.map_eq_some_iff.mp hi
    obtain ⟨a, rfl, hd⟩ := isD_of (rb1.at t1 hc) hic
    unfold aCons at h1
    have h1' : postR X.K Wx (TRep X.K) F I1 ρ1 σV ((dV fe σ1 S1).bind fun y σ S => (dV ff σ S).bind fun z σ S => match deref σ S x with
      | some c => kGet x c [y, z] σ S
      | none => .fail) Q := by
      cases e : dV fe σ1 S1 with
      | exc a _ _ => rw [e] at h1; exact h1
      | fail => rw [e] at h1; exact h1
      | ok y σ2 S2 =>
        rw [e] at h1
        dsimp only [Res.bind] at h1 ⊢
        cases e2 : dV ff σ2 S2 with
        | exc a _ _ => rw [e2] at h1; exact h1
        | fail => rw [e2] at h1; exact h1
        | ok z σ3 S3 => rw [e2] at h1; exact h1
    refine ⟨a, rfl, hd, F, I1, ρ1, σ1, S1, rb1, post_bind h1' fun I2 ρ2 σ2 S2 H2 y vy _ g2 rb2 t2 h2 => ?_⟩
    refine ⟨F, I2, ρ2, σ2, S2, rb2, post_bind h2 fun I3 ρ3 σ3 S3 H3 z vz _ g3 rb3 t3 h3 => ?_⟩
    split at h3
    · rename_i c2 hc2
      unfold kGet at h3
      split at h3
      · rename_i heq; cases heq
      · rename_i l y0 z0 heq
        cases heq
        split at h3
        · rename_i k hk
          obtain ⟨a', ea, q⟩ := dget_of (rb3.at ((t1.gr g2).gr g3) hc2) (Rep.at rb3.sub (t2.gr g3)) hk
          cases ea
          rcases q with ⟨v, w, q1, q2, q3⟩ | ⟨q1, q2⟩
          · exact ⟨_, q1, by rw [q2] at h3; exact h3 I3 ρ3 H3 v Gr.refl rb3 (.inr q3)⟩
          · exact ⟨_, q1, by rw [q2] at h3; exact h3 I3 ρ3 H3 _ Gr.refl rb3 (.inr t3)⟩
        · exact h3.elim
      · exact h3.elim
    · exact h3.elim
  · exact h1.elim
/-- d.pop(k) -/
def kPop : D → D → List D → Sl → Sto → Res D := fun x c ws σ S => match c, ws with
  | .dK l, [y] => (match keyD y with
    | some k => (match valD l k with
      | some w => ofMut w (chg σ S x (.dK (dropD l k)))
      | none => .fail)
    | none => .fail)
  | _, _ => .fail
theorem c_dpop1 (ho : SE X Wx o fo) (he : SE X Wx e fe) (m : M1 X o "pop" apos e cpos) : SE X Wx (.Call (.Attribute o "pop" apos) [e] [] cpos) (dMeth isDct kPop fo (aCons fe aNil)) := by
  refine PE.imp (pe_dpop1 ho (c_v he) m) fun σV H Q h => ?_
  obtain ⟨F, I, ρ, σ, S, rb, h⟩ := h
  refine ⟨F, I, ρ, σ, S, rb, post_bind h fun I1 ρ1 σ1 S1 H1 x v1 _ g1 rb1 t1 h1 => ?_⟩
  split at h1
  · rename_i hi
    obtain ⟨c, hc, hic⟩ := Option.map_eq_some_iff.mp hi
    obtain ⟨a, rfl, hd⟩ := isD_of (rb1.at t1 hc) hic
    unfold aCons aNil at h1
    have h1' : postR X.K Wx (TRep X.K) F I1 ρ1 σV ((dV fe σ1 S1).bind fun y σ S => match deref σ S x with
      | some c => kPop x c [y] σ S
      | none => .fail) Q := by
      cases e : dV fe σ1 S1 with
      | ok y σ2 S2 => rw [e] at h1; exact h1
      | exc a _ _ => rw [e] at h1; exact h1
      | fail => rw [e] at h1; exact h1
    refine ⟨a, rfl, hd, F, I1, ρ1, σ1, S1, rb1, post_bind h1' fun I2 ρ2 σ2 S2 H2 y vy _ g2 rb2 t2 h2 => ?_⟩
    split at h2
    · rename_i c2 hc2
      unfold kPop at h2
      split at h2
      · rename_i l y0 heq
        cases heq
        split at h2
        · rename_i k hk
          split at h2
          · rename_i w hw
            cases rep_key t2 hk
            cases em : chg σ2 S2 x (.dK (dropD l k)) with
            | none => rw [em] at h2; exact h2.elim
            | some q =>
              obtain ⟨σ', S'⟩ := q
              rw [em] at h2
              obtain ⟨a', ea, hown, kk⟩ := rb2.chg (t1.gr g2) hc2 em
              cases ea
              obtain ⟨kvs, hkv, rk⟩ := own_dK hown
              rcases rk.val k with ⟨v, w', e1, e2, r⟩ | ⟨_, e2⟩
              · rw [hw] at e2
                cases e2
                exact ⟨kvs, k, v, hkv, rfl, e1, h2 I2 ρ2 _ v Gr.refl (kk _ (dK_own upd_same (rk.drop k))) (.inr r)⟩
              · rw [hw] at e2
                cases e2
          · exact h2.elim
        · exact h2.elim
      · exact h2.elim
    · exact h2.elim
  · exact h1.elim
/-- del d[k] -/
def sDDelD (fd fy : DE) : DS := fun σ S => (fd σ S).bind fun x σ S => (fy σ S).bind fun y σ S => match deref σ S x, keyD y with
  | some (.dK l), some k => (match valD l k with
    | some _ => ofMutS (chg σ S x (.dK (dropD l k)))
    | none => .fail)
  | _, _ => .fail
theorem cs_ddel {i : Expr} {tpos pos : Pos} {fd fy : DE} (ho : SE X Wx o fd) (hi : SE X Wx i fy) : SS fr X Wx (.Delete [.Subscript o i tpos] pos) (sDDelD fd fy) := by
  refine PS.imp (ps_ddel ho hi) fun D σV H h => ?_
  obtain ⟨F, I, ρ, σ, S, rb, h⟩ := h
  refine ⟨F, I, ρ, σ, S, rb, postS_bind h fun I1 ρ1 σ1 S1 H1 x v1 _ g1 rb1 t1 h1 => ?_⟩
  refine ⟨F, I1, ρ1, σ1, S1, rb1, postS_bind h1 fun I2 ρ2 σ2 S2 H2 y vy _ g2 rb2 t2 h2 => ?_⟩
  split at h2
  · rename_i l k e1 e2
    split at h2
    · rename_i w hw
      cases em : chg σ2 S2 x (.dK (dropD l k)) with
      | none => rw [em] at h2; exact h2.elim
      | some q =>
        obtain ⟨σ', S'⟩ := q
        rw [em] at h2
        obtain ⟨a, rfl, hown, kk⟩ := rb2.chg (t1.gr g2) e1 em
        obtain ⟨kvs, hkv, rk⟩ := own_dK hown
        cases t2.key e2
        rcases rk.val k with ⟨v, w', f1, f2, r⟩ | ⟨_, f2⟩
        · exact ⟨a, kvs, k, rfl, hkv, rfl, by rw [f1]; rfl, h2 I2 ρ2 _ _ Gr.refl (kk _ (dK_own upd_same (rk.drop k)))⟩
        · rw [hw] at f2
          cases f2
    · exact h2.elim
  · exact h2.elim
end
theorem la_met {r : DA} {n : Nat} (k : ∀ (σ : Sl) (S : Sto) (ws : List D) (σ' : Sl) (S' : Sto), r σ S = .ok ws σ' S' → ws.length = n) : ∀ (σ : Sl) (S : Sto) (ws : List D) (σ' : Sl) (S' : Sto), r σ S = .ok ws σ' S' → ws.length + 1 = n + 1 := fun σ S ws σ' S' h => by rw [k σ S ws σ' S' h]
theorem clsF_nil {K : PySem.W.Frag} {f : String} : ClsF K [] f := fun c hc => by cases hc
theorem clsF_cons {K : PySem.W.Frag} {f c : String} {cs : List String} (h1 : Cls K (ca K c)) (h2 : NoAttr K (ca K c) (Str.ofString f)) (r : ClsF K cs f) : ClsF K (c :: cs) f := fun x hx => by
  rcases List.mem_cons.mp hx with rfl | hx
  · exact ⟨h1, h2⟩
  · exact r x hx
/-! ### a class's defs -/
section
variable {P : Program} {w : World} {K : PySem.W.Frag} {mg : Str → Option Value} {base : Heap} {x qual : Str} {params : Arguments} {body : List Stmt} {scope : Scope} {f : Addr} {fd : FuncData} {N ps : List Str} {k n j : Nat} {d : DS}
theorem mt_mk {fr : Bool} {c m : String} (FD : FunD K x qual params body scope [] [] f fd) (hc : Cls K (ca K c)) (hm : Meth K (ca K c) (Str.ofString m) f) (S : FnScope N ps scope) (hn : N.length = n) (hp : ps.length = j)
    (hbind : ∀ (kV doc pm : Value) (an : Option Addr) (cdv ct : Value) (us : List Value), us.length = ps.length → bindArgs (PySem.W.fnOf x qual params body scope .none kV doc pm an cdv ct) ⟨us, []⟩ = pure (ps.zip us))
    (hb : ∀ (cdv : Value) (A : Around) (outer : List Env) (s : Shared) (H : Hp) (E : XK), Room k (A.deeper (envOfC qual scope s.heap.objs.size f cdv)) →
      SSs fr (cxOf (L2.CX P w) P w K mg base N qual scope f cdv A outer s H E) (fun cls d _ H => E cls d H) body d) : Mt fr P w K mg base c m (k + 1) j (dDef n d) := by
  subst hp
  exact ⟨f, fd, ps, hc, hm, FD.bindsN hbind, rfl, def_ok FD S hn hb⟩
theorem mk_mk {c : String} (FD : FunD K x qual params body scope [] [] f fd) (hg : mg (Str.ofString c) = some (.ref (ca K c))) (hM : Mk K (ca K c) f) (S : FnScope N ps scope) (hn : N.length = n) (hp : ps.length = j)
    (hbind : ∀ (kV doc pm : Value) (an : Option Addr) (cdv ct : Value) (us : List Value), us.length = ps.length → bindArgs (PySem.W.fnOf x qual params body scope .none kV doc pm an cdv ct) ⟨us, []⟩ = pure (ps.zip us))
    (hb : ∀ (cdv : Value) (A : Around) (outer : List Env) (s : Shared) (H : Hp) (E : XK), Room k (A.deeper (envOfC qual scope s.heap.objs.size f cdv)) →
      SSs false (cxOf (L2.CX P w) P w K mg base N qual scope f cdv A outer s H E) (fun cls d _ H => E cls d H) body d) : MkD P w K mg base c (k + 1) j (dDef n d) := by
  subst hp
  exact ⟨f, fd, ps, hg, hM, FD.bindsN hbind, rfl, def_ok FD S hn hb⟩
end
end MR

set_option Elab.async false
set_option linter.all false
set_option maxRecDepth 100000
/-! The denotations of the defs (printed by gen.py). -/
namespace MR
open PySem
def b_Kin___init__ : DS := (sSeq (sFldD ["Kin"] "heirs" (dVar 0) (dAlloc (dC (.dK [])))) (sFldD ["Kin"] "gone" (dVar 0) (dAlloc (dC (.dK [])))))
def m_Kin___init__ : Den := dDef 1 b_Kin___init__
def b_Kin_name_heir : DS := (sDPutD (dFld ["Kin"] "heirs" (dVar 0)) (dVar 1) (dVar 2))
def m_Kin_name_heir : Den := dDef 3 b_Kin_name_heir
def b_Kin_die : DS := (sDPutD (dFld ["Kin"] "gone" (dVar 0)) (dVar 1) (dC (.bl true)))
def m_Kin_die : Den := dDef 2 b_Kin_die
def b_Kin_is_dead : DS := (sRet (d2 opInG (dVar 1) (dFld ["Kin"] "gone" (dVar 0))))
def m_Kin_is_dead : Den := dDef 2 b_Kin_is_dead
def wc_Kin_taker_1 : DT := (tVal (dNotN (dV (dVar 3))))
def wb_Kin_taker_2 : DS := (sSeq (sIf (tVal (d2 opInG (dVar 3) (dVar 2))) (sRet (dC .non)) sNil) (sSeq (sIf (tVal (d2 opNotInG (dVar 3) (dFld ["Kin"] "gone" (dVar 0)))) (sRet (dVar 3)) sNil) (sSeq (sDPutD (dVar 2) (dVar 3) (dC (.bl true))) (sSet 3 (dMeth isDct kGet (dFld ["Kin"] "heirs" (dVar 0)) (aCons (dVar 3) aNil))))))
def b_Kin_taker : DS := (sSeq (sSetO 2 (dDisp (pCons (dVar 1) (dC (.bl true)) pNil))) (sSeq (sSet 3 (dMeth isDct kGet (dFld ["Kin"] "heirs" (dVar 0)) (aCons (dVar 1) aNil))) (sSeq (sWhile wc_Kin_taker_1 wb_Kin_taker_2 fuel) (sRet (dC .non)))))
def m_Kin_taker : Den := dDef 4 b_Kin_taker
def le__law_names_1 : DE := (d2 opIx (dVar 2) (d2 opMod (d2 opAdd (d2 opIx (dVar 0) (dC (.int 0))) (d2 opMul' (d2 opAdd (dVar 6) (dC (.int 1))) (d2 opDiv (d2 opIx (dVar 0) (dC (.int 1))) (dC (.int 8))))) (dC (.int 26))))
def fb__law_names_2 : DS := (sSeq (sSet 7 (d2 opIx (dVar 2) (d2 opMod (d2 opAdd (d2 opIx (dVar 0) (dC (.int 3))) (d2 opMul' (dC (.int 7)) (dVar 6))) (dC (.int 26))))) (sSeq (sSet 8 (d2 opAdd (d2 opAdd (dSl (dVar 3) oNone (oSome (dVar 4))) (dVar 7)) (dSl (dVar 3) (oSome (dVar 4)) oNone))) (sSeq (sIf (tVal (d2 opEq' (d2 opMod (d2 opDiv (d2 opIx (dVar 0) (dC (.int 2))) (dC (.int 8))) (dC (.int 2))) (dC (.int 1)))) (sSet 8 (d2 opMul' (dVar 7) (d2 opAdd (dC (.int 1)) (d2 opMod (d2 opAdd (d2 opIx (dVar 0) (dC (.int 0))) (d2 opMul' (dC (.int 3)) (dVar 6))) (dC (.int 8)))))) sNil) (sExpr (dMeth isLst kApp (dVar 5) (aCons (dVar 8) aNil))))))
def b__law_names : DS := (sSeq (sSet 2 (dC (.str "abcdefghijklmnopqrstuvwxyz"))) (sSeq (sSet 3 (dS1 opJoin (dC (.str "")) (dLc (iRan1 (d2 opMod (d2 opIx (dVar 0) (dC (.int 1))) (dC (.int 8)))) (gN 6) tTrue le__law_names_1 [6]))) (sSeq (sSet 4 (d2 opMod (d2 opIx (dVar 0) (dC (.int 2))) (d2 opAdd (d1 opLen (dVar 3)) (dC (.int 1))))) (sSeq (sSetO 5 (dLst aNil)) (sSeq (sFor (iRan1 (dVar 1)) (gN 6) fb__law_names_2) (sRetO 5))))))
def m__law_names : Den := dDef 9 b__law_names
def b__law_book : DS := (sRetF (dDisp (pCons (dC (.str "lords")) (dAlloc (dDisp (pCons (dC (.str "")) (dC .non) pNil))) (pCons (dC (.str "holders")) (dAlloc (dDisp (pCons (dC (.str "")) (dC (.str "")) pNil))) (pCons (dC (.str "own")) (dAlloc (dDisp (pCons (dC (.str "")) (dVar 0) pNil))) (pCons (dC (.str "due")) (dAlloc (dDisp (pCons (dC (.str "")) (dTup (aCons (dC (.int 0)) (aCons (dC (.int 1)) aNil))) pNil))) (pCons (dC (.str "known")) (dLst aNil) (pCons (dC (.str "heirs")) (dAlloc (dC (.dK []))) (pCons (dC (.str "dead")) (dLst aNil) (pCons (dC (.str "lieges")) (dAlloc (dC (.dK []))) pNil))))))))))
def m__law_book : Den := dDef 1 b__law_book
def wc__law_taker_1 : DT := (tVal (d2 opInG (d2 opIx (dVar 2) (dNeg (dC (.int 1)))) (d2 opGet (dVar 0) (dC (.str "heirs")))))
def wb__law_taker_2 : DS := (sSeq (sSet 3 (d2 opGet (d2 opGet (dVar 0) (dC (.str "heirs"))) (d2 opIx (dVar 2) (dNeg (dC (.int 1)))))) (sSeq (sIf (tVal (d2 opInG (dVar 3) (dVar 2))) (sRet (dC .non)) sNil) (sSeq (sIf (tVal (d2 opNotInG (dVar 3) (d2 opGet (dVar 0) (dC (.str "dead"))))) (sRet (dVar 3)) sNil) (sExpr (dMeth isLst kApp (dVar 2) (aCons (dVar 3) aNil))))))
def b__law_taker : DS := (sSeq (sSetO 2 (dLst (aCons (dVar 1) aNil))) (sSeq (sWhile wc__law_taker_1 wb__law_taker_2 fuel) (sRet (dC .non))))
def m__law_taker : Den := dDef 4 b__law_taker
end MR

set_option Elab.async false
set_option linter.all false
set_option maxRecDepth 100000
/-! MR16: dicts that are walked (locked meanwhile). -/
namespace MR
open PySem PySem.Spec PyProof.Rows L2

section
variable {K : PySem.W.Frag} {F I : Hp} {ρ : List Addr} {S : Sto} {H : Hp} {σV : L2.St} {σ : Sl}
/-- the cell's dict is locked -/
theorem RB.lock (rb : RB K F I ρ S H σV σ) {r : Nat} {a : Addr} {l : List (Kk × D)} {kvs : List (Key × V)} (od : Obj) (hs : S[r]? = some (.con false (.dK l))) (ha : ρ[r]? = some a) (hk : H a = some (.dK kvs)) (rk : KRep K ρ I kvs l) :
    RB K (upd F a (.frz od (.dK kvs))) I ρ (S.set r (.con true (.dK l))) (upd H a (.frz od (.dK kvs))) σV σ := by
  obtain ⟨b, hb, hf, hi, _⟩ := rb.store _ _ hs
  rw [ha] at hb
  cases hb
  have lt : r < S.length := (List.getElem?_eq_some_iff.mp hs).1
  have k : ∀ b u, b ≠ a → H b = some u → upd H a (.frz od (.dK kvs)) b = some u := fun b u n h => by rw [upd_ne n]; exact h
  refine ⟨fun b u h => ?_, fun b u h => ?_, fun b u h => ?_, fun r2 ob h => ?_, rb.nd, by rw [List.length_set]; exact rb.rl, rb.len, fun j s h => ?_, rb.inj⟩
  · by_cases e : b = a
    · subst e; rw [upd_same] at h ⊢; exact h
    · rw [upd_ne e] at h; exact k b u e (rb.fr b u h)
  · have n := ne_of_none h hi
    rcases rb.sub b u h with z | ⟨d, ob, z⟩
    · exact .inl (k _ _ n z)
    · exact .inr ⟨d, ob, k _ _ n z⟩
  · by_cases e : b = a
    · subst e; exact hi
    · rw [upd_ne e] at h; exact rb.dis b u h
  · by_cases er : r = r2
    · subst er
      rw [List.getElem?_set_self lt] at h
      cases h
      exact ⟨a, ha, ⟨od, _, upd_same⟩, hi, od, kvs, upd_same, rk.1, rk.2⟩
    · rw [List.getElem?_set_ne er] at h
      obtain ⟨b, hb, hfb, hib, hcb⟩ := rb.store r2 ob h
      have n : b ≠ a := fun z => er (rb.nd r r2 a ha (z ▸ hb))
      exact ⟨b, hb, hfb.mono (fun z => by rw [upd_ne n]; exact z) (fun _ _ z => by rw [upd_ne n]; exact z), hib, hcb.gr Gr.refl fun u => k b u n⟩
  · have q := rb.slot j s h
    cases s with
    | emp => trivial
    | exn b => first | exact q | exact (List.getElem?_set_ne e).trans q | exact e.trans q
    | val w => exact q
    | own c2 =>
      obtain ⟨b, hb, hfb, hib, hrb, hob⟩ := q
      have n : b ≠ a := fun z => hrb (z ▸ List.mem_of_getElem? ha)
      exact ⟨b, hb, by rw [upd_ne n]; exact hfb, hib, hrb, hob.gr Gr.refl fun u => k b u n⟩
/-- .. and unlocked -/
theorem RB.unlock {r : Nat} {a : Addr} {od : Obj} {l : List (Kk × D)} {kvs : List (Key × V)} (rb : RB K (upd F a (.frz od (.dK kvs))) I ρ S H σV σ) (hF : F a = none) (hs : S[r]? = some (.con true (.dK l))) (ha : ρ[r]? = some a) :
    H a = some (.frz od (.dK kvs)) ∧ RB K F I ρ (S.set r (.con false (.dK l))) (upd H a (.dK kvs)) σV σ := by
  have hH : H a = some (.frz od (.dK kvs)) := rb.fr a _ upd_same
  obtain ⟨b, hb, hf, hi, hl⟩ := rb.store _ _ hs
  rw [ha] at hb
  cases hb
  obtain ⟨ob, kvs', h1, h2, h3⟩ := hl
  rw [hH] at h1
  cases h1
  have lt : r < S.length := (List.getElem?_eq_some_iff.mp hs).1
  have k : ∀ b u, b ≠ a → H b = some u → upd H a (.dK kvs) b = some u := fun b u n h => by rw [upd_ne n]; exact h
  have kf : ∀ b u, F b = some u → b ≠ a ∧ upd F a (.frz od (.dK kvs)) b = some u := fun b u h => by
    have n := ne_of_none h hF
    exact ⟨n, by rw [upd_ne n]; exact h⟩
  refine ⟨hH, fun b u h => k b u (kf b u h).1 (rb.fr b u (kf b u h).2), fun b u h => ?_, fun b u h => rb.dis b u (kf b u h).2, fun r2 ob h => ?_, rb.nd, by rw [List.length_set]; exact rb.rl, rb.len, fun j s h => ?_, rb.inj⟩
  · have n := ne_of_none h hi
    rcases rb.sub b u h with z | ⟨d, ob, z⟩
    · exact .inl (k _ _ n z)
    · exact .inr ⟨d, ob, k _ _ n z⟩
  · by_cases er : r = r2
    · subst er
      rw [List.getElem?_set_self lt] at h
      cases h
      exact ⟨a, ha, hF, hi, kvs, upd_same, h2, h3⟩
    · rw [List.getElem?_set_ne er] at h
      obtain ⟨b, hb, hfb, hib, hcb⟩ := rb.store r2 ob h
      have n : b ≠ a := fun z => er (rb.nd r r2 a ha (z ▸ hb))
      exact ⟨b, hb, hfb.mono (fun z => by rw [upd_ne n] at z; exact z) (fun _ _ z => by rw [upd_ne n] at z; exact z), hib, hcb.gr Gr.refl fun u => k b u n⟩
  · have q := rb.slot j s h
    cases s with
    | emp => trivial
    | exn b => first | exact q | exact (List.getElem?_set_ne e).trans q | exact e.trans q
    | val w => exact q
    | own c2 =>
      obtain ⟨b, hb, hfb, hib, hrb, hob⟩ := q
      have n : b ≠ a := fun z => hrb (z ▸ List.mem_of_getElem? ha)
      exact ⟨b, hb, by rw [upd_ne n] at hfb; exact hfb, hib, hrb, hob.gr Gr.refl fun u => k b u n⟩
end
/-- the store's dict that an expression names -/
def pick (fe : DE) (σ : Sl) (S : Sto) : Option (Nat × List (Kk × D)) := match fe σ S with
  | .ok (.obj r) _ _ => (match S[r]? with
    | some (.con false (.dK l)) => some (r, l)
    | _ => none)
  | _ => none
def openAt (r : Nat) (S : Sto) : Option Sto := match S[r]? with
  | some (.con true (.dK l)) => some (S.set r (.con false (.dK l)))
  | _ => none
def unlk {α : Type} (r : Nat) : Res α → Res α
  | .ok a σ S => (match openAt r S with
    | some S' => .ok a σ S'
    | none => .fail)
  | _ => .fail
/-- while an expression runs the dict is locked -/
def dLock (fe : DE) (f : DE) : DE := fun σ S => match pick fe σ S with
  | some (r, l) => unlk r (f σ (S.set r (.con true (.dK l))))
  | none => .fail
def sLock (fe : DE) (f : DS) : DS := fun σ S => match pick fe σ S with
  | some (r, l) => unlk r (f σ (S.set r (.con true (.dK l))))
  | none => .fail
def tLockE' (t : TE) : TE := fun σ H Q => ∃ d u, H d = some u ∧ Mut (some u) ∧ ∀ od, t σ (upd H d (.frz od u)) fun v H' => H' d = some (.frz od u) ∧ Q v (upd H' d u)
theorem pick_some {fe : DE} {σ : Sl} {S : Sto} {r : Nat} {l : List (Kk × D)} (h : pick fe σ S = some (r, l)) : S[r]? = some (.con false (.dK l)) := by
  unfold pick at h
  split at h
  · split at h
    · rename_i e; cases h; exact e
    · cases h
  · cases h
theorem openAt_some {r : Nat} {S S' : Sto} (h : openAt r S = some S') : ∃ l, S[r]? = some (.con true (.dK l)) ∧ S' = S.set r (.con false (.dK l)) := by
  unfold openAt at h
  split at h
  · rename_i l e; cases h; exact ⟨l, e, rfl⟩
  · cases h
section
variable {X : Cx} {Wx : WX} {fr : Bool}
theorem RB.lockAll {K : PySem.W.Frag} {F I : Hp} {ρ : List Addr} {S : Sto} {H : Hp} {σV : L2.St} {σ : Sl} (rb : RB K F I ρ S H σV σ) {r : Nat} {l : List (Kk × D)} (hs : S[r]? = some (.con false (.dK l))) :
    ∃ a kvs, ρ[r]? = some a ∧ F a = none ∧ H a = some (.dK kvs) ∧ ∀ od, RB K (upd F a (.frz od (.dK kvs))) I ρ (S.set r (.con true (.dK l))) (upd H a (.frz od (.dK kvs))) σV σ := by
  obtain ⟨a, ha, hf, hi, hc⟩ := rb.store _ _ hs
  obtain ⟨kvs, h1, h2, h3⟩ := hc
  exact ⟨a, kvs, ha, hf, h1, fun od => rb.lock od hs ha h1 ⟨h2, h3⟩⟩
theorem cf_lock {e : Expr} {fe f : DE} (h : SF X Wx e f) : SF X Wx e (dLock fe f) := by
  refine PE.imp (pe_lock h) fun σV H Q h => ?_
  obtain ⟨F, I, ρ, σ, S, rb, h⟩ := h
  unfold dLock at h
  split at h
  · rename_i r l ep
    obtain ⟨a, kvs, ha, hF, hk, lk⟩ := rb.lockAll (pick_some ep)
    refine ⟨a, .dK kvs, hk, trivial, fun od => ⟨_, I, ρ, σ, _, lk od, ?_⟩⟩
    cases er : f σ (S.set r (.con true (.dK l))) with
    | fail => rw [er] at h; exact h.elim
    | exc x σ' S' => rw [er] at h; exact h.elim
    | ok w σ' S' =>
      rw [er] at h
      dsimp only [unlk] at h
      cases eo : openAt r S' with
      | none => rw [eo] at h; exact h.elim
      | some S2 =>
        rw [eo] at h
        obtain ⟨l', hl', rfl⟩ := openAt_some eo
        intro I' ρ' H' v g rb' t
        obtain ⟨hH, rb2⟩ := rb'.unlock hF hl' (g.pre _ _ ha)
        refine ⟨hH, h I' ρ' _ v g rb2 ?_⟩
        rcases t with ⟨b, rfl, fr⟩ | ⟨hs, rr⟩
        · have n : b ≠ a := fun z => fr.nr (z ▸ List.mem_of_getElem? (g.pre _ _ ha))
          exact .inl ⟨b, rfl, by have := fr.nf; rw [upd_ne n] at this; exact this, fr.ni, fr.nr, fr.no, fr.own.gr Gr.refl fun u hu => by rw [upd_ne n]; exact hu⟩
        · exact .inr ⟨hs, rr⟩
  · exact h.elim
theorem cs_lock {st : Stmt} {fe : DE} {f : DS} (h : SS fr X Wx st f) : SS fr X Wx st (sLock fe f) := by
  refine PS.imp (ps_lock h) fun D σV H h => ?_
  obtain ⟨F, I, ρ, σ, S, rb, h⟩ := h
  unfold sLock at h
  split at h
  · rename_i r l ep
    obtain ⟨a, kvs, ha, hF, hk, lk⟩ := rb.lockAll (pick_some ep)
    refine ⟨a, .dK kvs, hk, trivial, fun od => ⟨_, I, ρ, σ, _, lk od, ?_⟩⟩
    cases er : f σ (S.set r (.con true (.dK l))) with
    | fail => rw [er] at h; exact h.elim
    | exc x σ' S' => rw [er] at h; exact h.elim
    | ok w σ' S' =>
      rw [er] at h
      dsimp only [unlk] at h
      cases eo : openAt r S' with
      | none => rw [eo] at h; exact h.elim
      | some S2 =>
        rw [eo] at h
        obtain ⟨l', hl', rfl⟩ := openAt_some eo
        cases w with
        | next =>
          intro I' ρ' H' v g rb'
          obtain ⟨hH, rb2⟩ := rb'.unlock hF hl' (g.pre _ _ ha)
          exact ⟨hH, h I' ρ' _ v g rb2⟩
        | brk =>
          intro I' ρ' H' v g rb'
          obtain ⟨hH, rb2⟩ := rb'.unlock hF hl' (g.pre _ _ ha)
          exact ⟨hH, h I' ρ' _ v g rb2⟩
        | cnt =>
          intro I' ρ' H' v g rb'
          obtain ⟨hH, rb2⟩ := rb'.unlock hF hl' (g.pre _ _ ha)
          exact ⟨hH, h I' ρ' _ v g rb2⟩
        | ret w =>
          intro I' ρ' H' v g rb' t
          obtain ⟨hH, rb2⟩ := rb'.unlock hF hl' (g.pre _ _ ha)
          refine ⟨hH, h I' ρ' _ v g rb2 ?_⟩
          cases fr with
          | false => exact t
          | true =>
            rcases t with ⟨b, rfl, nf, ni, nr, own⟩ | t
            · have n : b ≠ a := fun z => nr (z ▸ List.mem_of_getElem? (g.pre _ _ ha))
              exact .inl ⟨b, rfl, by rw [upd_ne n] at nf; exact nf, ni, nr, own.gr Gr.refl fun u hu => by rw [upd_ne n]; exact hu⟩
            · exact .inr t
  · exact h.elim

/-! ### for k in d, d.values(), d.items() -/
def kD : Kk → D
  | .inl i => .int i
  | .inr x => .str x
theorem rep_kD {K : PySem.W.Frag} {ρ : List Addr} {I : Hp} (k : Kk) : Rep K ρ I (kV k) (kD k) := by
  cases k with
  | inl i => exact .int
  | inr x => exact .str
def lockd (σ : Sl) (S : Sto) (x : D) : Option (List (Kk × D)) := match x with
  | .obj r => (match S[r]? with
    | some (.con true (.dK l)) => some l
    | _ => none)
  | _ => none
theorem lockd_at {K : PySem.W.Frag} {F I : Hp} {ρ : List Addr} {S : Sto} {H : Hp} {σV : L2.St} {σ : Sl} {v : V} {x : D} {l : List (Kk × D)} (rb : RB K F I ρ S H σV σ) (t : TRep K ρ I σV v x) (e : lockd σ S x = some l) :
    ∃ a o kvs, v = .ref a ∧ F a = some (.frz o (.dK kvs)) ∧ KRep K ρ I kvs l := by
  unfold lockd at e
  split at e
  · rename_i r
    split at e
    · rename_i l' hs
      cases e
      rcases t with ⟨i, z, _⟩ | t
      · cases z
      · cases t with
        | @obj _ a h =>
          obtain ⟨b, hb, hf, hi, hc⟩ := rb.store _ _ hs
          rw [h] at hb
          cases hb
          obtain ⟨ob, u, hF⟩ := hf
          obtain ⟨ob', kvs, h1, h2, h3⟩ := hc
          have hH := rb.fr _ _ hF
          rw [h1] at hH
          cases hH
          exact ⟨a, _, kvs, rfl, hF, h2, h3⟩
    · cases e
  · cases e
def iWalk (sel : List (Kk × D) → List D) (f : DE) : DI := fun σ S => (f σ S).bind fun x σ S => match lockd σ S x with
  | some l => .ok (sel l) σ S
  | none => .fail
theorem KRep.get {K : PySem.W.Frag} {ρ : List Addr} {I : Hp} {kvs : List (Key × V)} {l : List (Kk × D)} (h : KRep K ρ I kvs l) {i : Nat} {k : Kk} {w : D} (e : l[i]? = some (k, w)) : ∃ v, kvs[i]? = some (k, v) ∧ Rep K ρ I v w := by
  obtain ⟨h1, h2⟩ := h
  have e2 : (l.map (·.2))[i]? = some w := by rw [List.getElem?_map, e]; rfl
  obtain ⟨v, hv, r⟩ := h2.get e2
  rw [List.getElem?_map] at hv
  obtain ⟨⟨k', v'⟩, hk, e3⟩ := Option.map_eq_some_iff.mp hv
  have e3 : v' = v := e3
  subst e3
  have e4 : (l.map (·.1))[i]? = some k := by rw [List.getElem?_map, e]; rfl
  have e4 : (kvs.map (·.1))[i]? = some k := by rw [h1]; exact e4
  rw [List.getElem?_map, hk] at e4
  have e4 : some k' = some k := e4
  cases e4
  exact ⟨_, hk, r⟩
theorem sem_walk {sel : List (Kk × D) → List D} {f : DE} {σV : L2.St} {H : Hp} {R : It → Hp → Prop} {J : Addr → Obj → List (Key × V) → It}
    (hJ : ∀ (F I : Hp) (ρ : List Addr) (a : Addr) (o : Obj) (kvs : List (Key × V)) (l : List (Kk × D)), F a = some (.frz o (.dK kvs)) → KRep X.K ρ I kvs l → Walks X.K F I ρ (J a o kvs) (sel l))
    (h : semI X.K Wx (iWalk sel f) σV H R) : semE X.K Wx f σV H fun x H1 => ∃ d o kvs, x = .ref d ∧ H1 d = some (.frz o (.dK kvs)) ∧ R (J d o kvs) H1 := by
  obtain ⟨F, I, ρ, σ, S, rb, h⟩ := h
  refine ⟨F, I, ρ, σ, S, rb, postI_bind h fun I1 ρ1 σ1 S1 H1 x v1 _ g1 rb1 t1 h1 => ?_⟩
  split at h1
  · rename_i l e
    obtain ⟨a, o, kvs, rfl, hF, rk⟩ := lockd_at rb1 t1 e
    exact ⟨a, o, kvs, rfl, rb1.fr _ _ hF, h1 I1 ρ1 H1 _ Gr.refl rb1 fun F' s => hJ F' I1 ρ1 a o kvs l (s _ _ hF) rk⟩
  · exact h1.elim
theorem walk_k {K : PySem.W.Frag} (F I : Hp) (ρ : List Addr) (a : Addr) (o : Obj) (kvs : List (Key × V)) (l : List (Kk × D)) (hF : F a = some (.frz o (.dK kvs))) (rk : KRep K ρ I kvs l) : Walks K F I ρ (Itk a o kvs) (l.map fun p => kD p.1) := by
  intro I2 ρ2 S2 H2 σV2 σ2 g rb
  have hH := rb.fr _ _ hF
  refine ⟨fun i d hd => ?_, hH, by rw [List.length_map, rk.len]; exact Nat.le_refl _⟩
  rw [List.getElem?_map] at hd
  obtain ⟨⟨k, w⟩, hk, rfl⟩ := Option.map_eq_some_iff.mp hd
  obtain ⟨v, hv, r⟩ := rk.get hk
  refine ⟨⟨hH, (List.getElem?_eq_some_iff.mp hv).1⟩, fun x H3 y => ?_⟩
  obtain ⟨rfl, k', v', e1, rfl⟩ := y
  rw [hv] at e1
  cases e1
  exact ⟨I2, Gr.refl, rb, rep_kD k⟩
theorem walk_v {K : PySem.W.Frag} (F I : Hp) (ρ : List Addr) (a : Addr) (o : Obj) (kvs : List (Key × V)) (l : List (Kk × D)) (hF : F a = some (.frz o (.dK kvs))) (rk : KRep K ρ I kvs l) : Walks K F I ρ (Itd a o kvs) (l.map fun p => p.2) := by
  intro I2 ρ2 S2 H2 σV2 σ2 g rb
  have hH := rb.fr _ _ hF
  refine ⟨fun i d hd => ?_, hH, by rw [List.length_map, rk.len]; exact Nat.le_refl _⟩
  rw [List.getElem?_map] at hd
  obtain ⟨⟨k, w⟩, hk, rfl⟩ := Option.map_eq_some_iff.mp hd
  obtain ⟨v, hv, r⟩ := rk.get hk
  refine ⟨⟨hH, (List.getElem?_eq_some_iff.mp hv).1⟩, fun x H3 y => ?_⟩
  obtain ⟨rfl, k', e1⟩ := y
  rw [hv] at e1
  cases e1
  exact ⟨I2, Gr.refl, rb, r.gr g⟩
theorem walk_i {K : PySem.W.Frag} (F I : Hp) (ρ : List Addr) (a : Addr) (o : Obj) (kvs : List (Key × V)) (l : List (Kk × D)) (hF : F a = some (.frz o (.dK kvs))) (rk : KRep K ρ I kvs l) : Walks K F I ρ (Iti a o kvs) (l.map fun p => D.tup [kD p.1, p.2]) := by
  intro I2 ρ2 S2 H2 σV2 σ2 g rb
  have hH := rb.fr _ _ hF
  refine ⟨fun i d hd => ?_, hH, by rw [List.length_map, rk.len]; exact Nat.le_refl _⟩
  rw [List.getElem?_map] at hd
  obtain ⟨⟨k, w⟩, hk, rfl⟩ := Option.map_eq_some_iff.mp hd
  obtain ⟨v, hv, r⟩ := rk.get hk
  refine ⟨⟨hH, (List.getElem?_eq_some_iff.mp hv).1⟩, fun x H3 y => ?_⟩
  obtain ⟨T, k', v', e1, rfl, hT, rfl⟩ := y
  rw [hv] at e1
  cases e1
  obtain ⟨g3, rb3⟩ := rb.new (o := .tup [kV k, v]) hT
  exact ⟨_, g3, rb3, .tup (.inl (.inl upd_same)) (.cons (rep_kD k) (.cons ((r.gr g).gr g3) .nil))⟩
abbrev iKeysD (f : DE) : DI := iWalk (fun l => l.map fun p => kD p.1) f
abbrev iValsD (f : DE) : DI := iWalk (fun l => l.map fun p => p.2) f
abbrev iItemsD (f : DE) : DI := iWalk (fun l => l.map fun p => D.tup [kD p.1, p.2]) f
theorem sem_mono {α β : Type} {K : PySem.W.Frag} {T : List Addr → Hp → L2.St → β → α → Prop} {f : Sl → Sto → Res α} {σV : L2.St} {H : Hp} {Q Q' : β → Hp → Prop} (i : ∀ v H, Q v H → Q' v H) (h : semR K Wx T f σV H Q) : semR K Wx T f σV H Q' := by
  obtain ⟨F, I, ρ, σ, S, rb, h⟩ := h
  refine ⟨F, I, ρ, σ, S, rb, ?_⟩
  cases e : f σ S with
  | ok a σ' S' => rw [e] at h; exact fun I' ρ' H' b g rb t => i _ _ (h I' ρ' H' b g rb t)
  | exc a σ' S' => rw [e] at h; exact h
  | fail => rw [e] at h; exact h
theorem ci_vals {tg e : Expr} {apos cpos : Pos} {f : DE} (h : SE X Wx e f) (hbase : attributeBase e "values" X.env (eval e X.env) = eval e X.env := by rfl) (hline : (apos.endLine == cpos.line) = true := by rfl) : SI X Wx tg (.Call (.Attribute e "values" apos) [] [] cpos) (iValsD f) :=
  PI.imp (pi_values h hbase hline) fun σV H R q => sem_walk walk_v q
theorem ci_items {elts : List Expr} {kk : Nat} {tpos : Pos} {e : Expr} {apos cpos : Pos} {f : DE} (h : SE X Wx e f) (hbase : attributeBase e "items" X.env (eval e X.env) = eval e X.env := by rfl) (hline : (apos.endLine == cpos.line) = true := by rfl) : SI X Wx (.Tuple elts kk tpos) (.Call (.Attribute e "items" apos) [] [] cpos) (iItemsD f) :=
  PI.imp (pi_items h hbase hline) fun σV H R q => sem_walk walk_i q
theorem ci_keys {tg e : Expr} {f : DE} (h : SE X Wx e f) : SI X Wx tg e (iKeysD f) :=
  PI.imp (pi_keys h) fun σV H R q => sem_mono (fun x H1 ⟨d, o, kvs, e1, e2, r⟩ => ⟨d, o, e1, .inl ⟨kvs, e2, r⟩⟩) (sem_walk walk_k q)
end
end MR

set_option Elab.async false
set_option linter.all false
set_option maxRecDepth 100000
/-! MR17: d[k] op= e; methods of lists; sum, max, min; dict(d), list(d); a if t else b. -/
namespace MR
open PySem PySem.Spec PyProof.Rows L2

section
variable {X : Cx} {Wx : WX} {fr : Bool}
/-! ### d[k] op= e, ints -/
def sDAugD (op : Int → Int → Int) (fd fy fv : DE) : DS := fun σ S => (fd σ S).bind fun x σ S => (fy σ S).bind fun y σ S => match deref σ S x, keyD y with
  | some (.dK l), some k => (match valD l k with
    | some (.int i) => (fv σ S).bind fun z σ S => (match z, deref σ S x with
      | .int j, some (.dK l') => if l'.length < most then ofMutS (chg σ S x (.dK (putD l' k (.int (op i j))))) else .fail
      | _, _ => .fail)
    | _ => .fail)
  | _, _ => .fail
theorem cs_daug {op : Operator} {g : Int → Int → Int} {o i value : Expr} {tpos pos : Pos} {fd fy fv : DE} {k : Nat} (hop : InOp X op fun x y H Q => ∃ i j, x = .int i ∧ y = .int j ∧ Q (.int (g i j)) H) (hr : Room k X.A) (ho : SE X Wx o fd) (hi : SE X Wx i fy) (hv : SE X Wx value fv)
    (ha : ∀ ov iv new, augStore i ov iv new = (do holding [new, ov, iv] (setItem ov iv new); release [new, ov, iv] []; pure .next) := by intro _ _ _; rfl) : SS fr X Wx (.AugAssign (.Subscript o i tpos) op value pos) (sDAugD g fd fy fv) := by
  refine PS.imp (ps_daug (rooms hr) ho hi hv hop ha) fun D σV H h => ?_
  obtain ⟨F, I, ρ, σ, S, rb, h⟩ := h
  refine ⟨F, I, ρ, σ, S, rb, postS_bind h fun I1 ρ1 σ1 S1 H1 x vx _ g1 rb1 t1 h1 => ?_⟩
  refine ⟨F, I1, ρ1, σ1, S1, rb1, postS_bind h1 fun I2 ρ2 σ2 S2 H2 y vy _ g2 rb2 t2 h2 => ?_⟩
  split at h2
  · rename_i l k e1 e2
    split at h2
    · rename_i i ev
      obtain ⟨a, rfl, q⟩ := dget_of (rb2.at (t1.gr g2) e1) (rb2.at t2 (show deref σ2 S2 y = some y by cases y <;> first | rfl | cases e2)) e2
      rcases q with ⟨v, w, q1, q2, q3⟩ | ⟨_, q2⟩
      · rw [ev] at q2
        cases q2
        cases q3
        refine ⟨a, _, rfl, q1, F, I2, ρ2, σ2, S2, rb2, postS_bind h2 fun I3 ρ3 σ3 S3 H3 z vz _ g3 rb3 t3 h3 => ?_⟩
        split at h3
        · rename_i j l' e3 _
          rcases t3 with ⟨i, z, _⟩ | t3
          · cases z
          · cases t3
            split at h3
            · rename_i hl
              refine ⟨_, _, rfl, rfl, ?_⟩
              cases em : chg σ3 S3 x (.dK (putD l' k (.int (g i j)))) with
              | none => rw [em] at h3; exact h3.elim
              | some q =>
                obtain ⟨σ', S'⟩ := q
                rw [em] at h3
                obtain ⟨b, eb, ho, kk⟩ := rb3.chg ((t1.gr g2).gr g3) e3 em
                cases eb
                obtain ⟨kvs, hk, rk⟩ := own_dK ho
                cases t2.key e2
                exact ⟨_, .k hk (by rw [rk.len, ← most_eq]; exact hl), h3 I3 ρ3 _ _ Gr.refl (kk _ (dK_own upd_same (rk.put k .int)))⟩
            · exact h3.elim
        · exact h3.elim
      · rw [ev] at q2
        cases q2
    · exact h2.elim
  · exact h2.elim

/-! ### methods of lists -/
theorem post_mut2 {K : PySem.W.Frag} {F I : Hp} {ρ : List Addr} {S : Sto} {H : Hp} {σV : L2.St} {σ : Sl} {v : V} {x c c' z : D} {Q : VK} (rb : RB K F I ρ S H σV σ) (t : TRep K ρ I σV v x) (e : deref σ S x = some c)
    (h : postR K Wx (TRep K) F I ρ σV (ofMut z (chg σ S x c')) Q) : ∃ a, v = .ref a ∧ OwnAt K ρ I H a c ∧ ∀ o y, Rep K ρ I y z → OwnAt K ρ I (upd H a o) a c' → Q y (upd H a o) := by
  cases em : chg σ S x c' with
  | none => rw [em] at h; exact h.elim
  | some q =>
    obtain ⟨σ', S'⟩ := q
    rw [em] at h
    obtain ⟨a, rfl, ho, k⟩ := rb.chg t e em
    exact ⟨a, rfl, ho, fun o y ry new => h I ρ _ y Gr.refl (k o new) (.inr ry)⟩
theorem sem_meth0 {T : String} {is : D → Bool} {r : V → List V → Hp → VK → Prop} {k : D → D → List D → Sl → Sto → Res D} {fo : DE} (ht : TyS X.K T is) (hs : MtS X.K r k) {σV : L2.St} {H : Hp} {Q : VK} (h : semE X.K Wx (dMeth is k fo aNil) σV H Q) :
    tBM0 X.K T r (semE X.K Wx fo) σV H Q := by
  obtain ⟨F, I, ρ, σ, S, rb, h⟩ := h
  refine ⟨F, I, ρ, σ, S, rb, post_bind h fun I1 ρ1 σ1 S1 H1 x v1 _ g1 rb1 t1 h1 => ?_⟩
  split at h1
  · rename_i hi
    obtain ⟨c, hc, hic⟩ := Option.map_eq_some_iff.mp hi
    refine ⟨ht ρ1 I1 H1 v1 c (rb1.at t1 hc) hic, ?_⟩
    have h2 : postR X.K Wx (TRep X.K) F I1 ρ1 σV (match deref σ1 S1 x with
      | some c => k x c [] σ1 S1
      | none => .fail) Q := h1
    rw [hc] at h2
    exact hs Wx F I1 ρ1 S1 H1 σV σ1 v1 [] x c [] Q rb1 t1 hc .nil h2
  · exact h1.elim
def kLPop : D → D → List D → Sl → Sto → Res D := fun x c ws σ S => match c, ws with
  | .lst xs, [] => (match xs[xs.length - 1]? with
    | some y => ofMut y (chg σ S x (.lst xs.dropLast))
    | none => .fail)
  | _, _ => .fail
theorem Reps.dropLast {K : PySem.W.Frag} {ρ : List Addr} {I : Hp} {vs : List V} {ws : List D} (r : Reps K ρ I vs ws) : Reps K ρ I vs.dropLast ws.dropLast := by
  rw [List.dropLast_eq_take, List.dropLast_eq_take, r.length]
  exact r.take _
theorem ms_lpop {K : PySem.W.Frag} : MtS K rPop kLPop := by
  intro Wx F I ρ S H σV σ v vs x c ws Q rb t e r h
  unfold kLPop at h
  split at h
  · rename_i xs
    cases r
    split at h
    · rename_i y hy
      obtain ⟨a, rfl, ⟨vs0, hv, rv⟩, k⟩ := post_mut2 rb t e h
      obtain ⟨u, hu, ru⟩ := rv.get hy
      rw [← rv.length] at hu
      exact ⟨a, vs0, u, rfl, rfl, hv, hu, k _ _ ru ⟨_, upd_same, rv.dropLast⟩⟩
    · exact h.elim
  · exact h.elim
theorem c_lpop {o : Expr} {apos cpos : Pos} {fo : DE} (ho : SE X Wx o fo) (hbase : attributeBase o "pop" X.env (eval o X.env) = eval o X.env := by rfl) (hline : (apos.endLine == cpos.line) = true := by rfl) : SE X Wx (.Call (.Attribute o "pop" apos) [] [] cpos) (dMeth isLst kLPop fo aNil) :=
  PE.imp (pe_bm0 PySem.F.plainAttrs_list PySem.F.slot_list_pop PySem.F.type_list_pop mt_pop ho hbase hline) fun _ _ _ h => sem_meth0 ty_list ms_lpop h
def kClear : D → D → List D → Sl → Sto → Res D := fun x c ws σ S => match c, ws with
  | .lst _, [] => ofMut .non (chg σ S x (.lst []))
  | _, _ => .fail
theorem ms_clear {K : PySem.W.Frag} : MtS K rClear kClear := by
  intro Wx F I ρ S H σV σ v vs x c ws Q rb t e r h
  unfold kClear at h
  split at h
  · rename_i xs
    cases r
    obtain ⟨a, rfl, ⟨vs0, hv, rv⟩, k⟩ := post_mut2 rb t e h
    exact ⟨a, vs0, rfl, rfl, hv, k _ _ .non ⟨_, upd_same, .nil⟩⟩
  · exact h.elim
theorem c_clear {o : Expr} {apos cpos : Pos} {fo : DE} (ho : SE X Wx o fo) (hbase : attributeBase o "clear" X.env (eval o X.env) = eval o X.env := by rfl) (hline : (apos.endLine == cpos.line) = true := by rfl) : SE X Wx (.Call (.Attribute o "clear" apos) [] [] cpos) (dMeth isLst kClear fo aNil) :=
  PE.imp (pe_bm0 PySem.F.plainAttrs_list PySem.F.slot_list_clear PySem.F.type_list_clear mt_clear ho hbase hline) fun _ _ _ h => sem_meth0 ty_list ms_clear h
/-- the premises of a built-in's method with arguments -/
structure MA (X : Cx) (o : Expr) (m : Str) (apos : Pos) (e : Expr) (es : List Expr) (cpos : Pos) : Prop where
  base : attributeBase o m X.env (eval o X.env) = eval o X.env
  few : ((backTo cpos (starEach (e :: es) X.env)).all (fun x => !x.1) && (backToKw cpos (keywordEach [] X.env)).all (fun x => x.1.isSome) && decide ((e :: es).length + ([] : List Keyword).length + (if ([] : List Keyword).isEmpty then 0 else 1) < 30)) = true
  line : (apos.endLine == cpos.line) = true
  star : starEach (e :: es) X.env = (false, eval e X.env) :: starEach es X.env
def kLPopAt : D → D → List D → Sl → Sto → Res D := fun x c ws σ S => match c, ws with
  | .lst xs, [.int i] => if 0 ≤ i ∧ i < 2 ^ 62 then (match xs[i.toNat]? with
    | some y => ofMut y (chg σ S x (.lst (xs.eraseIdx i.toNat)))
    | none => .fail) else .fail
  | _, _ => .fail
theorem Reps.eraseIdx {K : PySem.W.Frag} {ρ : List Addr} {I : Hp} {vs : List V} {ws : List D} (r : Reps K ρ I vs ws) (n : Nat) : Reps K ρ I (vs.eraseIdx n) (ws.eraseIdx n) := by
  rw [List.eraseIdx_eq_take_drop_succ, List.eraseIdx_eq_take_drop_succ]
  exact (r.take _).append (r.drop _)
theorem seqIx_nat {i : Int} {n : Nat} (h0 : 0 ≤ i) (h1 : i.toNat < n) : seqIndex? i n = some i.toNat := by
  unfold seqIndex?
  have e : ¬ i < 0 := by omega
  simp only [e, if_false]
  have e2 : (decide (0 ≤ i) && decide (i < (n : Int))) = true := by simp; omega
  rw [if_pos e2]
theorem ms_lpopAt {K : PySem.W.Frag} : MtS K rPopAt kLPopAt := by
  intro Wx F I ρ S H σV σ v vs x c ws Q rb t e r h
  unfold kLPopAt at h
  split at h
  · rename_i xs i
    split at h
    · rename_i hi
      split at h
      · rename_i y hy
        obtain ⟨a, rfl, ⟨vs0, hv, rv⟩, k⟩ := post_mut2 rb t e h
        obtain ⟨u, hu, ru⟩ := rv.get hy
        cases r with
        | cons r1 r2 =>
          cases r2
          cases r1
          have lt := (List.getElem?_eq_some_iff.mp hu).1
          exact ⟨a, vs0, i, i.toNat, u, rfl, rfl, hv, by omega, by omega, seqIx_nat hi.1 lt, hu, k _ _ ru ⟨_, upd_same, rv.eraseIdx _⟩⟩
      · exact h.elim
    · exact h.elim
  · exact h.elim
theorem c_lpopAt {o e : Expr} {apos cpos : Pos} {fo fe : DE} (ho : SE X Wx o fo) (he : SE X Wx e fe) (m : MA X o "pop" apos e [] cpos) : SE X Wx (.Call (.Attribute o "pop" apos) [e] [] cpos) (dMeth isLst kLPopAt fo (aCons fe aNil)) :=
  PE.imp (pe_bm PySem.F.plainAttrs_list PySem.F.slot_list_pop PySem.F.type_list_pop mt_popAt ho (ca_cons he ca_nil m.star) m.base m.few m.line m.star) fun _ _ _ h => sem_meth ty_list ms_lpopAt h
def kExt : D → D → List D → Sl → Sto → Res D := fun x c ws σ S => match c, ws with
  | .lst xs, [.lst ys] => if xs.length + ys.length ≤ most then ofMut .non (chg σ S x (.lst (xs ++ ys))) else .fail
  | _, _ => .fail
theorem ms_ext {K : PySem.W.Frag} : MtS K rExtend kExt := by
  intro Wx F I ρ S H σV σ v vs x c ws Q rb t e r h
  unfold kExt at h
  split at h
  · rename_i xs ys
    split at h
    · rename_i hl
      obtain ⟨a, rfl, ⟨vs0, hv, rv⟩, k⟩ := post_mut2 rb t e h
      cases r with
      | cons r1 r2 =>
        cases r2
        cases r1 with
        | @lst b us _ hb rb' =>
          have hb2 : H b = some (.lst us) := by
            rcases rb.sub _ _ hb with z | ⟨d, _⟩
            · exact z
            · exact d.elim
          exact ⟨a, b, vs0, us, rfl, rfl, hv, hb2, by rw [rv.length, rb'.length, ← most_eq]; exact hl, k _ _ .non ⟨_, upd_same, rv.append rb'⟩⟩
    · exact h.elim
  · exact h.elim
theorem c_ext {o e : Expr} {apos cpos : Pos} {fo fe : DE} (ho : SE X Wx o fo) (he : SE X Wx e fe) (m : MA X o "extend" apos e [] cpos) : SE X Wx (.Call (.Attribute o "extend" apos) [e] [] cpos) (dMeth isLst kExt fo (aCons fe aNil)) :=
  PE.imp (pe_bm PySem.F.plainAttrs_list PySem.F.slot_list_extend PySem.F.type_list_extend mt_extend ho (ca_cons he ca_nil m.star) m.base m.few m.line m.star) fun _ _ _ h => sem_meth ty_list ms_ext h
def kIns : D → D → List D → Sl → Sto → Res D := fun x c ws σ S => match c, ws with
  | .lst xs, [.int i, w] => if xs.length < most ∧ 0 ≤ i ∧ i < 2 ^ 62 then ofMut .non (chg σ S x (.lst (xs.take i.toNat ++ [w] ++ xs.drop i.toNat))) else .fail
  | _, _ => .fail
theorem ms_ins {K : PySem.W.Frag} : MtS K (fun x vs H Q => ∃ (l : Addr) (xs : List V) (i : Int) (y : V), x = .ref l ∧ vs = [.int i, y] ∧ H l = some (.lst xs) ∧ xs.length < sizeLine ∧ 0 ≤ i ∧ i < 2 ^ 63 ∧ Q .non (upd H l (.lst (xs.take i.toNat ++ [y] ++ xs.drop i.toNat)))) kIns := by
  intro Wx F I ρ S H σV σ v vs x c ws Q rb t e r h
  unfold kIns at h
  split at h
  · rename_i xs i w
    split at h
    · rename_i hl
      obtain ⟨a, rfl, ⟨vs0, hv, rv⟩, k⟩ := post_mut2 rb t e h
      cases r with
      | cons r1 r2 =>
        cases r1
        cases r2 with
        | cons r2 r3 =>
          cases r3
          exact ⟨a, vs0, i, _, rfl, rfl, hv, by rw [rv.length, ← most_eq]; exact hl.1, hl.2.1, by omega, k _ _ .non ⟨_, upd_same, ((rv.take _).append (.cons r2 .nil)).append (rv.drop _)⟩⟩
    · exact h.elim
  · exact h.elim
theorem c_ins {o e e2 : Expr} {apos cpos : Pos} {fo fe fe2 : DE} (ho : SE X Wx o fo) (he : SE X Wx e fe) (he2 : SE X Wx e2 fe2) (m : MA X o "insert" apos e [e2] cpos) (hst2 : starEach [e2] X.env = (false, eval e2 X.env) :: starEach [] X.env := by rfl) (hpl : (backTo cpos (starEach [e2] X.env)).any (·.1) = false := by rfl) : SE X Wx (.Call (.Attribute o "insert" apos) [e, e2] [] cpos) (dMeth isLst kIns fo (aCons fe (aCons fe2 aNil))) :=
  PE.imp (pe_bm PySem.F.plainAttrs_list PySem.F.slot_list_insert PySem.F.type_list_insert mt_insert ho (ca_cons he (ca_cons he2 ca_nil hst2) m.star) m.base m.few m.line m.star hpl) fun _ _ _ h => sem_meth ty_list ms_ins h

/-! ### xs.index(x), texts -/
def idxOf (z : Str) (ys : List Str) : Nat := ys.findIdx (· == z)
def kLIdx : D → D → List D → Sl → Sto → Res D := fun x c ws σ S => match c, ws with
  | .lst xs, [.str z] => (match strsD xs with
    | some ys => if z ∈ ys then .ok (.int (idxOf z ys : Nat)) σ S else .fail
    | none => .fail)
  | _, _ => .fail
theorem Reps.strs_of {K : PySem.W.Frag} {ρ : List Addr} {I : Hp} {vs : List V} {ws : List D} {ys : List Str} (r : Reps K ρ I vs ws) (h : strsD ws = some ys) : vs = ys.map V.str := r.strs h
theorem ms_lidx {K : PySem.W.Frag} : MtS K (rIndex K) kLIdx := by
  intro Wx F I ρ S H σV σ v vs x c ws Q rb t e r h
  unfold kLIdx at h
  split at h
  · rename_i xs z
    split at h
    · rename_i ys hys
      split at h
      · rename_i hz
        obtain ⟨a, vs0, rfl, hv, rv⟩ := rb.at t e
        have e0 := rv.strs_of hys
        subst e0
        cases r with
        | cons r1 r2 =>
          cases r2
          cases r1
          have lt : ys.findIdx (· == z) < ys.length := List.findIdx_lt_length_of_exists ⟨z, hz, by simp⟩
          have hat : ys[ys.findIdx (· == z)]? = some z := by
            rw [List.getElem?_eq_getElem lt]
            have := List.findIdx_getElem (xs := ys) (p := (· == z)) (w := lt)
            rw [eq_of_beq this]
          refine ⟨a, ys.map V.str, .str z, ys.findIdx (· == z), .str z, rfl, rfl, SqL_at hv, rfl, by simp [List.all_eq_true, flatV], by rw [List.getElem?_map, hat]; rfl, by simp [eqV], fun m z' hm hz' => ?_, h I ρ H _ Gr.refl rb (.inr .int)⟩
          rw [List.getElem?_map] at hz'
          obtain ⟨y, hy, rfl⟩ := Option.map_eq_some_iff.mp hz'
          have lt2 : m < ys.length := by omega
          have := List.not_of_lt_findIdx (xs := ys) (p := (· == z)) hm
          rw [List.getElem?_eq_getElem lt2] at hy
          cases hy
          simpa [eqV] using this
      · exact h.elim
    · exact h.elim
  · exact h.elim
theorem c_lidx {o e : Expr} {apos cpos : Pos} {fo fe : DE} (ho : SE X Wx o fo) (he : SE X Wx e fe) (m : MA X o "index" apos e [] cpos) : SE X Wx (.Call (.Attribute o "index" apos) [e] [] cpos) (dMeth isLst kLIdx fo (aCons fe aNil)) :=
  PE.imp (pe_bm PySem.F.plainAttrs_list PySem.F.slot_list_index PySem.F.type_list_index mt_index ho (ca_cons he ca_nil m.star) m.base m.few m.line m.star) fun _ _ _ h => sem_meth ty_list ms_lidx h

/-! ### sum, max, min of a list of ints -/
def intsD : List D → Option (List Int)
  | [] => some []
  | .int i :: l => (intsD l).map (i :: ·)
  | _ => none
theorem Reps.intsOf {K : PySem.W.Frag} {ρ : List Addr} {I : Hp} : ∀ {vs : List V} {ws : List D} {ns : List Int}, Reps K ρ I vs ws → intsD ws = some ns → vs = ns.map V.int
  | _, _, _, .nil, h => by cases h; rfl
  | _, _, _, .cons r rs, h => by
    cases r with
    | int =>
      obtain ⟨ns, h1, rfl⟩ := Option.map_eq_some_iff.mp (show (intsD _).map _ = _ from h)
      rw [Reps.intsOf rs h1]
      rfl
    | _ => cases h
def opSum : D → Option D
  | .lst ws => (intsD ws).map fun ns => .int ns.sum
  | _ => none
theorem b_sum {K : PySem.W.Frag} : B1 K (rSum K) opSum := by
  intro F I ρ S H σV σ v a z Q rb h ez q
  cases a with
  | lst ws =>
    obtain ⟨b, vs, rfl, hv, r⟩ := h
    obtain ⟨ns, hn, rfl⟩ := Option.map_eq_some_iff.mp (show (intsD ws).map _ = some z from ez)
    have e := r.intsOf hn
    subst e
    exact ⟨b, ns, rfl, SqL_at hv, q I H _ Gr.refl rb .int⟩
  | _ => cases ez
def maxI : List Int → Option Int
  | [] => none
  | i :: l => some (l.foldl max i)
def minI : List Int → Option Int
  | [] => none
  | i :: l => some (l.foldl min i)
theorem foldmax_le (l : List Int) : ∀ i : Int, i ≤ l.foldl max i ∧ (∀ y ∈ l, y ≤ l.foldl max i) ∧ (l.foldl max i = i ∨ l.foldl max i ∈ l) := by
  induction l with
  | nil => intro i; exact ⟨Int.le_refl _, fun y hy => (by cases hy), .inl rfl⟩
  | cons x l ih =>
    intro i
    obtain ⟨h1, h2, h3⟩ := ih (max i x)
    refine ⟨by show i ≤ l.foldl max (max i x); omega, fun y hy => ?_, ?_⟩
    · rcases List.mem_cons.mp hy with rfl | hy
      · show y ≤ l.foldl max (max i y); omega
      · exact h2 y hy
    · show l.foldl max (max i x) = i ∨ l.foldl max (max i x) ∈ x :: l
      rcases h3 with h3 | h3
      · by_cases hx : i ≤ x
        · exact .inr (by rw [h3, Int.max_eq_right hx]; exact List.mem_cons_self)
        · exact .inl (by rw [h3, Int.max_eq_left (by omega)])
      · exact .inr (List.mem_cons_of_mem _ h3)
theorem foldmin_le (l : List Int) : ∀ i : Int, l.foldl min i ≤ i ∧ (∀ y ∈ l, l.foldl min i ≤ y) ∧ (l.foldl min i = i ∨ l.foldl min i ∈ l) := by
  induction l with
  | nil => intro i; exact ⟨Int.le_refl _, fun y hy => (by cases hy), .inl rfl⟩
  | cons x l ih =>
    intro i
    obtain ⟨h1, h2, h3⟩ := ih (min i x)
    refine ⟨by show l.foldl min (min i x) ≤ i; omega, fun y hy => ?_, ?_⟩
    · rcases List.mem_cons.mp hy with rfl | hy
      · show l.foldl min (min i y) ≤ y; omega
      · exact h2 y hy
    · show l.foldl min (min i x) = i ∨ l.foldl min (min i x) ∈ x :: l
      rcases h3 with h3 | h3
      · by_cases hx : i ≤ x
        · exact .inl (by rw [h3, Int.min_eq_left hx])
        · exact .inr (by rw [h3, Int.min_eq_right (by omega)]; exact List.mem_cons_self)
      · exact .inr (List.mem_cons_of_mem _ h3)
def opMaxL : D → Option D
  | .lst ws => (intsD ws).bind fun ns => (maxI ns).map D.int
  | _ => none
def opMinL : D → Option D
  | .lst ws => (intsD ws).bind fun ns => (minI ns).map D.int
  | _ => none
theorem b_maxL {K : PySem.W.Frag} : B1 K (rMax K) opMaxL := by
  intro F I ρ S H σV σ v a z Q rb h ez q
  cases a with
  | lst ws =>
    obtain ⟨b, vs, rfl, hv, r⟩ := h
    obtain ⟨ns, hn, ez⟩ := Option.bind_eq_some_iff.mp (show (intsD ws).bind _ = some z from ez)
    obtain ⟨m, hm, rfl⟩ := Option.map_eq_some_iff.mp ez
    have e := r.intsOf hn
    subst e
    cases ns with
    | nil => cases hm
    | cons i l =>
      cases hm
      obtain ⟨h1, h2, h3⟩ := foldmax_le l i
      refine ⟨b, i :: l, rfl, SqL_at hv, Nat.succ_pos _, fun m hm hle => ?_⟩
      have e : m = l.foldl max i := by
        have a1 : l.foldl max i ≤ m := hle _ (by rcases h3 with h3 | h3; · rw [h3]; exact List.mem_cons_self
                                                 · exact List.mem_cons_of_mem _ h3)
        have a2 : m ≤ l.foldl max i := by
          rcases List.mem_cons.mp hm with rfl | hm
          · exact h1
          · exact h2 _ hm
        omega
      subst e
      exact q I H _ Gr.refl rb .int
  | _ => cases ez
theorem b_minL {K : PySem.W.Frag} : B1 K (rMin K) opMinL := by
  intro F I ρ S H σV σ v a z Q rb h ez q
  cases a with
  | lst ws =>
    obtain ⟨b, vs, rfl, hv, r⟩ := h
    obtain ⟨ns, hn, ez⟩ := Option.bind_eq_some_iff.mp (show (intsD ws).bind _ = some z from ez)
    obtain ⟨m, hm, rfl⟩ := Option.map_eq_some_iff.mp ez
    have e := r.intsOf hn
    subst e
    cases ns with
    | nil => cases hm
    | cons i l =>
      cases hm
      obtain ⟨h1, h2, h3⟩ := foldmin_le l i
      refine ⟨b, i :: l, rfl, SqL_at hv, Nat.succ_pos _, fun m hm hle => ?_⟩
      have e : m = l.foldl min i := by
        have a1 : m ≤ l.foldl min i := hle _ (by rcases h3 with h3 | h3; · rw [h3]; exact List.mem_cons_self
                                                 · exact List.mem_cons_of_mem _ h3)
        have a2 : l.foldl min i ≤ m := by
          rcases List.mem_cons.mp hm with rfl | hm
          · exact h1
          · exact h2 _ hm
        omega
      subst e
      exact q I H _ Gr.refl rb .int
  | _ => cases ez

/-! ### dict(d), list(d) -/
def opDict : D → Option D
  | .dK l => some (.dK l)
  | _ => none
theorem bf_dict {K : PySem.W.Frag} : B1F K (fun xs H Q => ∃ (a : Addr) (kvs : List (Key × V)), xs = [.ref a] ∧ Rd H a (.dK kvs) ∧ ∀ p, H p = none → Q (.ref p) (upd H p (.dK kvs))) opDict := by
  intro F I ρ S H σV σ v a z Q rb h ez q
  cases a with
  | dK l =>
    cases ez
    obtain ⟨b, kvs, rfl, hv, r⟩ := h
    refine ⟨b, kvs, rfl, hv, fun p hp => ?_⟩
    obtain ⟨rb2, nf, ni, nr, no⟩ := rb.newO (o := .dK kvs) hp
    exact q I _ _ Gr.refl rb2 (.inl ⟨p, rfl, nf, ni, nr, no, kvs, upd_same, r⟩)
  | _ => cases ez
def opListD : D → Option D
  | .dK l => some (.lst (l.map fun p => kD p.1))
  | _ => none
theorem Reps.keys {K : PySem.W.Frag} {ρ : List Addr} {I : Hp} {kvs : List (Key × V)} {l : List (Kk × D)} (h : KRep K ρ I kvs l) : Reps K ρ I (kvs.map fun kv => kV kv.1) (l.map fun p => kD p.1) := by
  refine KRep.ind (κ := Kk) (P := fun kvs l => Reps K ρ I (kvs.map fun kv => kV kv.1) (l.map fun p => kD p.1)) .nil ?_ h
  intro k v w kvs kws r _ ih
  exact .cons (rep_kD k) ih
theorem bf_listD {K : PySem.W.Frag} : B1F K (fun xs H Q => ∃ (a : Addr) (kvs : List (Key × V)), xs = [.ref a] ∧ Rd H a (.dK kvs) ∧ ∀ p, H p = none → Q (.ref p) (upd H p (.lst (kvs.map fun kv => kV kv.1)))) opListD := by
  intro F I ρ S H σV σ v a z Q rb h ez q
  cases a with
  | dK l =>
    cases ez
    obtain ⟨b, kvs, rfl, hv, r⟩ := h
    refine ⟨b, kvs, rfl, hv, fun p hp => ?_⟩
    obtain ⟨rb2, nf, ni, nr, no⟩ := rb.newO (o := .lst (kvs.map fun kv => kV kv.1)) hp
    exact q I _ _ Gr.refl rb2 (.inl ⟨p, rfl, nf, ni, nr, no, _, upd_same, Reps.keys r⟩)
  | _ => cases ez

/-! ### a if t else b -/
def dIf (t : DT) (f g : DE) : DE := fun σ S => (t σ S).bind fun b σ S => if b = true then f σ S else g σ S
theorem c_if {c a b : Expr} {pos : Pos} {t : DT} {f g : DE} (hc : ST X Wx c t) (ha : SE X Wx a f) (hb : SE X Wx b g) : SE X Wx (.IfExp c a b pos) (dIf t f g) := by
  refine PE.imp (pe_ifExp hc ha hb) fun σV H Q h => ?_
  obtain ⟨F, I, ρ, σ, S, rb, h⟩ := h
  refine ⟨F, I, ρ, σ, S, rb, post_bind h fun I1 ρ1 σ1 S1 H1 x v1 _ g1 rb1 t1 h1 => ?_⟩
  subst t1
  cases v1 with
  | true => exact ⟨F, I1, ρ1, σ1, S1, rb1, h1⟩
  | false => exact ⟨F, I1, ρ1, σ1, S1, rb1, h1⟩
end
end MR

set_option Elab.async false
set_option linter.all false
set_option maxRecDepth 100000
/-! MR18: sorted of texts; slices with a step. -/
namespace MR
open PySem PySem.Spec PyProof.Rows L2

/-! ### the order of texts -/
abbrev sLt (x y : Str) : Bool := decide (x.cps.toList < y.cps.toList)
theorem Str.ext' {x y : Str} (h : x.cps.toList = y.cps.toList) : x = y := by
  cases x; cases y
  congr 1
  exact Array.toList_inj.mp h
theorem sLt_irr (x : Str) : sLt x x = false := decide_eq_false (List.lt_irrefl _)
theorem sLt_asym {x y : Str} (h : sLt x y = true) : sLt y x = false := decide_eq_false (List.lt_asymm (of_decide_eq_true h))
theorem sLt_tri {x y : Str} (h1 : sLt x y = false) (h2 : sLt y x = false) : x = y := by
  apply Str.ext'
  exact List.le_antisymm (fun h => absurd (decide_eq_true h) (by rw [show decide _ = sLt y x from rfl, h2]; decide)) (fun h => absurd (decide_eq_true h) (by rw [show decide _ = sLt x y from rfl, h1]; decide))
theorem sLt_trans {x y z : Str} (h1 : sLt x y = true) (h2 : sLt y z = true) : sLt x z = true := decide_eq_true (List.lt_trans (of_decide_eq_true h1) (of_decide_eq_true h2))
theorem sLt_ntr {x y z : Str} (h1 : sLt y x = false) (h2 : sLt z y = false) : sLt z x = false := by
  cases h : sLt z x with
  | false => rfl
  | true =>
    cases hxy : sLt x y with
    | true => rw [sLt_trans h hxy] at h2; cases h2
    | false =>
      have := sLt_tri hxy h1
      subst this
      rw [h] at h2
      cases h2
def insS (x : Str) : List Str → List Str
  | [] => [x]
  | y :: l => if sLt y x then y :: insS x l else x :: y :: l
def srtS : List Str → List Str
  | [] => []
  | x :: l => insS x (srtS l)
abbrev SrtdS (l : List Str) : Prop := l.Pairwise fun x y => sLt y x = false
theorem insS_perm (x : Str) (l : List Str) : (insS x l).Perm (x :: l) := by
  induction l with
  | nil => exact List.Perm.refl _
  | cons y l ih =>
    unfold insS
    split
    · exact (List.Perm.cons y ih).trans (List.Perm.swap ..)
    · exact List.Perm.refl _
theorem insS_srtd (x : Str) (l : List Str) (h : SrtdS l) : SrtdS (insS x l) := by
  induction l with
  | nil => exact List.pairwise_singleton _ _
  | cons y l ih =>
    have h1 := List.pairwise_cons.mp h
    unfold insS
    split
    · rename_i hy
      refine List.pairwise_cons.mpr ⟨fun z hz => ?_, ih h1.2⟩
      rcases List.mem_cons.mp ((insS_perm x l).mem_iff.mp hz) with rfl | hz
      · exact sLt_asym hy
      · exact h1.1 z hz
    · rename_i hy
      have hy : sLt y x = false := by cases e : sLt y x with
        | true => exact absurd e hy
        | false => rfl
      refine List.pairwise_cons.mpr ⟨fun z hz => ?_, h⟩
      rcases List.mem_cons.mp hz with rfl | hz
      · exact hy
      · exact sLt_ntr hy (h1.1 z hz)
theorem srtS_perm (l : List Str) : (srtS l).Perm l := by
  induction l with
  | nil => exact List.Perm.refl _
  | cons x l ih => exact (insS_perm x _).trans (List.Perm.cons x ih)
theorem srtS_srtd (l : List Str) : SrtdS (srtS l) := by
  induction l with
  | nil => exact List.Pairwise.nil
  | cons x l ih => exact insS_srtd x _ ih
theorem srtd_uniq : ∀ {l m : List Str}, SrtdS l → SrtdS m → l.Perm m → l = m
  | [], m, _, _, p => (List.Perm.eq_nil p.symm).symm
  | x :: l, [], _, _, p => absurd p.length_eq (by simp)
  | x :: l, y :: m, hl, hm, p => by
    have h1 := List.pairwise_cons.mp hl
    have h2 := List.pairwise_cons.mp hm
    have e : x = y := by
      rcases List.mem_cons.mp (p.mem_iff.mp (List.mem_cons_self (a := x) (l := l))) with e | hx
      · exact e
      · rcases List.mem_cons.mp (p.mem_iff.mpr (List.mem_cons_self (a := y) (l := m))) with e | hy
        · exact e.symm
        · exact sLt_tri (h2.1 x hx) (h1.1 y hy)
    subst e
    rw [srtd_uniq h1.2 h2.2 p.cons_inv]
theorem rising_pw : ∀ (p : Str) (l : List Str), risingS p l = true → SrtdS (p :: l)
  | p, [], _ => List.pairwise_singleton _ _
  | p, x :: r, h => by
    have h : (!ltCps x.cps.toList p.cps.toList && risingS x r) = true := h
    rw [Bool.and_eq_true] at h
    have hx : sLt x p = false := by
      have h0 : ltCps x.cps.toList p.cps.toList = false := by simpa using h.1
      rw [ltCps_eq] at h0
      exact h0
    have ih := rising_pw x r h.2
    refine List.pairwise_cons.mpr ⟨fun z hz => ?_, ih⟩
    rcases List.mem_cons.mp hz with rfl | hz
    · exact hx
    · exact sLt_ntr hx ((List.pairwise_cons.mp ih).1 z hz)
theorem sortedS_pw {l : List Str} (h : sortedS l = true) : SrtdS l := by
  cases l with
  | nil => exact List.Pairwise.nil
  | cons x r => exact rising_pw x r h
theorem sorted_is {ys xs : List Str} (p : ys.Perm xs) (h : sortedS ys = true) : ys = srtS xs := srtd_uniq (sortedS_pw h) (srtS_srtd xs) (p.trans (srtS_perm xs).symm)

section
variable {X : Cx} {Wx : WX} {fr : Bool} {K : PySem.W.Frag}
def opSortS : D → Option D
  | .lst ws => (strsD ws).bind fun ys => if ys.length < 64 then some (.lst ((srtS ys).map D.str)) else none
  | _ => none
theorem bf_sortS : B1F K (rSortedS K) opSortS := by
  intro F I ρ S H σV σ v a z Q rb h ez q
  cases a with
  | lst ws =>
    obtain ⟨b, vs, rfl, hv, r⟩ := h
    obtain ⟨ys, hy, ez⟩ := Option.bind_eq_some_iff.mp (show (strsD ws).bind _ = some z from ez)
    split at ez
    · rename_i hl
      cases ez
      have e := r.strs hy
      subst e
      refine ⟨b, ys, rfl, SqL_at hv, hl, fun zs p pm hs hp => ?_⟩
      have e := sorted_is pm hs
      subst e
      obtain ⟨rb2, nf, ni, nr, no⟩ := rb.newO (o := .lst ((srtS ys).map V.str)) hp
      exact q I _ _ Gr.refl rb2 (.inl ⟨p, rfl, nf, ni, nr, no, _, upd_same, Reps.ofStrs _⟩)
    · cases ez
  | _ => cases ez

/-! ### xs[a:b:c] -/
def pickL {α : Type} (ws : List α) (lo hi st : Option Int) : List α := (sliceRange (sliceBounds lo hi st ws.length).1 (sliceBounds lo hi st ws.length).2.1 (sliceBounds lo hi st ws.length).2.2).filterMap (ws[·]?)
def tSl3 (K : PySem.W.Frag) (te : TE) (tl tu ts : TO) : TE := fun σ H Q => te σ H fun x H1 => tl σ H1 fun l H2 => tu σ H2 fun u H3 => ts σ H3 fun c H4 => ∃ a xs, x = .ref a ∧ SqL K H4 a xs ∧ c ≠ some 0 ∧ (pickL xs l u c).length ≤ sizeLine ∧ ∀ p, H4 p = none → Q (.ref p) (upd H4 p (.lst (pickL xs l u c)))
theorem vals_pick {idx : List Nat} : ∀ {xs : List V} {us : List Value}, Vals xs us → Vals (idx.filterMap (xs[·]?)) (idx.filterMap (us[·]?)) := by
  intro xs us r
  induction idx with
  | nil => exact .nil
  | cons i idx ih =>
    rw [List.filterMap_cons, List.filterMap_cons]
    have hl := r.length
    cases e : xs[i]? with
    | none =>
      have e2 : us[i]? = none := by
        rw [List.getElem?_eq_none_iff] at e ⊢
        omega
      rw [e2]
      exact ih
    | some v =>
      obtain ⟨u, hu, ru⟩ := r.get e
      rw [hu]
      exact .cons ru ih
theorem pe_slice3 {e st : Expr} {lo hi : Option Expr} {te : TE} {tl tu ts : TO} {p2 pos : Pos} (he : PE X e te) (hl : PO X lo tl) (hu : PO X hi tu) (hst : PO X (some st) ts) : PE X (.Subscript e (.Slice lo hi (some st) p2) pos) (tSl3 X.K te tl tu ts) := by
  refine ⟨fun pins s σ H Q I h => ?_⟩
  refine Subscript_ (thn (he.run pins s σ H _ I h) fun v s1 ⟨x, H1, I1, r1, q1⟩ => ?_)
  refine wpAny_Slice (thn (hl.run pins s1 σ H1 _ I1 q1) fun vl s2 ⟨l, H2, I2, pl, q2⟩ => ?_)
  refine thn (hu.run pins s2 σ H2 _ I2 q2) fun vu s3 ⟨u, H3, I3, pu, q3⟩ => ?_
  refine thn (hst.run pins s3 σ H3 _ I3 q3) fun vs s4 ⟨c, H4, I4, ps, q4⟩ => ?_
  obtain ⟨a, xs, ex, hx, hc, hsz, q⟩ := q4
  subst ex
  cases r1
  have I5 : Inv X pins σ H4 { s4 with heap := s4.heap.push { cls := .type "slice", data := .fields #[vl, vu, vs] } } := I4.kept (t' := s4.toks) fun b ob q => Heap.get?_push_of_some _ q
  obtain ⟨its, r, ht, hz⟩ := I5.list hx
  have hlen := r.length
  show wpAny (model X.prog X.w) X.A (subscriptTail e (.Slice lo hi (some st) p2) (.ref a) (.ref s4.heap.objs.size)) (EP X pins σ Q) X.xe { s4 with heap := s4.heap.push { cls := .type "slice", data := .fields #[vl, vu, vs] } }
  refine tail_any (ops := [.ref a, .ref s4.heap.objs.size]) ht.isList.typeIs (PySem.slot_list_getitem.lookup) ?_ (by with_unfolding_all rfl)
  refine wpAny_getItem_list_slice ht.isList (Heap.IsSliceOf.new _ vl vu vs) pl pu ps hc ?_ (by rw [List.size_toArray]; omega)
  refine ⟨.ref _, _, I5.laid (t' := s4.toks) (o := .lst (pickL xs l u c)) (fun b ob q => Heap.get?_push_of_some _ q) (Nat.le_refl _) ?_, rfl, q _ (I5.hok.fresh (Nat.le_refl _))⟩
  have rr : Vals (pickL xs l u c) (pickL its l u c) := by
    unfold pickL
    rw [hlen]
    exact vals_pick r
  refine ⟨hsz, _, 0, rr, ?_⟩
  have e1 : slicePick its.toArray l u c = (pickL its l u c).toArray := by
    unfold slicePick pickL
    simp
  rw [e1]
  exact Heap.get?_push_size _ rfl
def opPick : D → Option Int → Option Int → Option Int → Option D
  | .lst ws, l, u, c => if c ≠ some 0 ∧ (pickL ws l u c).length ≤ most then some (.lst (pickL ws l u c)) else none
  | _, _, _, _ => none
def dSl3 (f : DE) (lo hi st : DO) : DE := fun σ S => (f σ S).bind fun x σ S => (lo σ S).bind fun l σ S => (hi σ S).bind fun u σ S => (st σ S).bind fun c σ S => ofOpt ((deref σ S x).bind fun a => opPick a l u c) σ S
theorem Reps.pick {ρ : List Addr} {I : Hp} {idx : List Nat} {vs : List V} {ws : List D} (r : Reps K ρ I vs ws) : Reps K ρ I (idx.filterMap (vs[·]?)) (idx.filterMap (ws[·]?)) := by
  induction idx with
  | nil => exact .nil
  | cons i idx ih =>
    rw [List.filterMap_cons, List.filterMap_cons]
    cases e : ws[i]? with
    | none =>
      have e2 : vs[i]? = none := by
        rw [List.getElem?_eq_none_iff] at e ⊢
        rw [r.length]
        exact e
      rw [e2]
      exact ih
    | some v =>
      obtain ⟨u, hu, ru⟩ := r.get e
      rw [hu]
      exact .cons ru ih
theorem cf_sl3 {e st : Expr} {lo hi : Option Expr} {p2 pos : Pos} {f : DE} {l u c : DO} (h : SE X Wx e f) (hl : SO X Wx lo l) (hu : SO X Wx hi u) (hst : SO X Wx (some st) c) : SF X Wx (.Subscript e (.Slice lo hi (some st) p2) pos) (dSl3 f l u c) := by
  refine PE.imp (pe_slice3 h hl hu hst) fun σV H Q h => ?_
  obtain ⟨F, I, ρ, σ, S, rb, h⟩ := h
  refine ⟨F, I, ρ, σ, S, rb, postF_bind h fun I1 ρ1 σ1 S1 H1 x v1 _ g1 rb1 t1 h1 => ?_⟩
  refine ⟨F, I1, ρ1, σ1, S1, rb1, postF_bind h1 fun I2 ρ2 σ2 S2 H2 li li' _ g2 rb2 t2 h2 => ?_⟩
  refine ⟨F, I2, ρ2, σ2, S2, rb2, postF_bind h2 fun I3 ρ3 σ3 S3 H3 ui ui' _ g3 rb3 t3 h3 => ?_⟩
  refine ⟨F, I3, ρ3, σ3, S3, rb3, postF_bind h3 fun I4 ρ4 σ4 S4 H4 ci ci' _ g4 rb4 t4 h4 => ?_⟩
  subst t2 t3 t4
  cases ez : (deref σ4 S4 x).bind fun a => opPick a li' ui' ci' with
  | none => rw [ez] at h4; exact h4.elim
  | some z =>
    rw [ez] at h4
    obtain ⟨a, ea, ez⟩ := Option.bind_eq_some_iff.mp ez
    have A1 := rb4.at (((t1.gr g2).gr g3).gr g4) ea
    cases a with
    | lst ws =>
      unfold opPick at ez
      dsimp only at ez
      split at ez
      · rename_i hc
        cases ez
        obtain ⟨b, vs, rfl, hv, r⟩ := A1
        have rr : Reps X.K ρ4 I4 (pickL vs li' ui' ci') (pickL ws li' ui' ci') := by
          unfold pickL
          rw [r.length]
          exact r.pick
        refine ⟨b, vs, rfl, SqL_at hv, hc.1, by rw [rr.length, ← most_eq]; exact hc.2, fun p hp => ?_⟩
        obtain ⟨rb5, nf, ni, nr, no⟩ := rb4.newO (o := .lst (pickL vs li' ui' ci')) hp
        exact h4 _ ρ4 _ _ Gr.refl rb5 (.inl ⟨p, rfl, nf, ni, nr, no, _, upd_same, rr⟩)
      · cases ez
    | _ => cases ez
end
end MR

set_option Elab.async false
set_option linter.all false
set_option maxRecDepth 100000
/-! MR19: raise. -/
namespace MR
open PySem PySem.Spec PyProof.Rows L2
/-- an own class over ValueError without an __init__ of its own -/
structure ExF (K : PySem.W.Frag) (mg : Str → Option Value) (c : String) : Prop where
  g : mg (Str.ofString c) = some (.ref (ca K c))
  x : PySem.W.excIn K (ca K c) He.veBase "ValueError.__new__" = true ∧ PySem.W.keepIn K (.ref (ca K c)) = true ∧ PySem.W.subIn K (.ref (ca K c)) (.type "BaseException") = some true ∧ PySem.W.typeIn K (.ref (ca K c)) = some (.type "type")
section
variable {X : Cx} {Wx : WX} {fr : Bool}
def sRaise (c : String) : DS := fun σ S => .exc ⟨c, none⟩ σ S
theorem cs_raise {c : String} {m : Str} {j : Nat} {p p2 pos pos' : Pos} (f : ExF X.K X.mg c) (tk : Takes X Wx) (hc : X.calm = true := by rfl) (hg : Gl X (Str.ofString c) := by rfl) (hdb : (Str.ofString c == ("__debug__" : Str)) = false := by decide) :
    SS fr X Wx (.Raise (some (.Call (.Name (Str.ofString c) p) [.Constant (.str m) j p2] [] pos)) none pos') (sRaise c) := by
  obtain ⟨x1, x2, x3, x4⟩ := f.x
  refine PS.imp (ps_raise hc tk (pmk_own PySem.F.excBase_ValueError x1 f.g x2 (raises_own x3 x4) hg hdb)) fun D σV H h => ?_
  obtain ⟨F, I, ρ, σ, S, rb, h⟩ := h
  exact h I ρ H none σV Gr.refl rb rfl
end
end MR

set_option Elab.async false
set_option linter.all false
set_option maxRecDepth 100000
set_option maxHeartbeats 3200000
/-! MR20: set(xs): the loop and the call over any state of the set; sets of texts. -/
namespace MR
open PySem PySem.Spec PyProof.Rows L2

section
variable {P : Program} {w : World} {A : Around} {E : Value → Shared → Prop} {s : Shared}
/-- set.update's loop: J i is what the set at S holds behind i items -/
theorem set_walk {I : Addr} {fp wr : List Addr} {G : Array GenState → Array GenState → Prop} {n : Nat} {Pv : Nat → Value → Prop} {St : Nat → Shared → Prop} {R : Result → Shared → Prop} (W : WalksS P w A.in1 I fp wr G n Pv St) (S : Addr) (hS : S ∉ fp) (J : Nat → Heap → Prop) (g : Heap)
    (gS : g.get? S = none) (gw : ∀ b ∈ wr, g.get? b = none)
    (keep : ∀ i h h', (∀ o, h.get? S = some o → h'.get? S = some o) → (∀ b o, g.get? b = some o → h'.get? b = some o) → J i h → J i h')
    (add : ∀ (i : Nat) (v : Value) (s : Shared) (E : Value → Shared → Prop) (Q : Bool → Shared → Prop), i < n → Pv i v → (∀ b o, g.get? b = some o → s.heap.get? b = some o) → J i s.heap →
      (∀ b h' tk, Heap.SameBut S s.heap h' → J (i + 1) h' → s.toks ≤ tk → Q b { s with heap := h', toks := tk }) → wpAny (model P w) A.in1 (setAdd S v) Q E s) :
    ∀ (k i : Nat) (s : Shared), n - i = k → i ≤ n → St i s → (∀ b o, g.get? b = some o → s.heap.get? b = some o) → J i s.heap →
      (∀ s', Moved (S :: wr) G s s' → J n s'.heap → (∀ b o, g.get? b = some o → s'.heap.get? b = some o) → R (.ok (.ret .none)) s') → codeAny (model P w) A (.builtin "set.update.loop" ⟨[.ref S, .ref I], []⟩) R s := by
  have nw : S ∉ wr := fun z => hS (W.sub _ z)
  have up : ∀ b ∈ wr, b ∈ S :: wr := fun _ z => List.mem_cons_of_mem _ z
  have gk : ∀ {s s' : Shared}, Moved wr G s s' → (∀ b o, g.get? b = some o → s.heap.get? b = some o) → ∀ b o, g.get? b = some o → s'.heap.get? b = some o := fun m q b o e => m.heap b o (fun z => by rw [gw b z] at e; cases e) (q b o e)
  intro k
  induction k with
  | zero =>
    intro i s hk hi st kp j fin
    obtain rfl : i = n := by omega
    refine codeAny_builtin F.entry_set_update_loop ?_
    rw [Around.under_plainId F.plain_set_update_loop _]
    show wpAny _ A.in1 (pyNext (.ref I) >>= _) _ _ s
    refine wpAny_bind (W.done s _ _ st fun s' m => ?_)
    have kp' := gk m kp
    exact wpAny_pure (fin s' (m.mono up) (keep i _ _ (fun o e => m.heap S o nw e) kp' j) kp')
  | succ k ih =>
    intro i s hk hi st kp j fin
    have lt : i < n := by omega
    refine codeAny_builtin F.entry_set_update_loop ?_
    rw [Around.under_plainId F.plain_set_update_loop _]
    show wpAny _ A.in1 (pyNext (.ref I) >>= _) _ _ s
    refine wpAny_bind (W.item i s _ _ lt st fun v s' pv st' m => ?_)
    have kp' := gk m kp
    have j' := keep i _ _ (fun o e => m.heap S o nw e) kp' j
    show wpAny _ A.in1 (holding [v] (setAdd S v) >>= _) _ _ s'
    refine wpAny_bind (wpAny_holding (add i v s' _ _ lt pv kp' j' fun b h' tk sb j2 htk => ?_))
    have kp2 : ∀ b o, g.get? b = some o → h'.get? b = some o := fun b o e => (sb.2 b (fun z => by rw [z, gS] at e; cases e)).trans (kp' b o e)
    refine wpAny_pure ⟨plainId_quiet F.plain_set_update_loop _, ih (i + 1) _ (by omega) lt (W.frame _ s' _ _ st' htk fun b hb o e => ?_) kp2 j2 fun s2 m2 j3 kp3 => ?_⟩
    · exact (sb.2 b (fun z : b = S => hS (z ▸ hb))).trans e
    · refine fin s2 (Moved.trans W.gtrans ((m.mono up).then_heap htk fun b o hb e => ?_) m2) j3 kp3
      exact (sb.2 b (fun z : b = S => hb (by rw [z]; exact List.mem_cons_self))).trans e
abbrev newSet (w : World) : Obj := { cls := .type "set", dict := none, data := .set #[] 0 (.fresh 0 0 (!w.params.followText "set-order")) }
/-- set(xs), xs a list -/
theorem set_call {l : Addr} {items : Array Value} {Q : Value → Shared → Prop} (J : Nat → Heap → Prop) (hh : A.handled = none) (hl : s.heap.IsList l items)
    (new : ∀ h : Heap, h.get? s.heap.objs.size = some (newSet w) → (∀ b o, s.heap.get? b = some o → h.get? b = some o) → J 0 h)
    (keep : ∀ i h h', (∀ o, h.get? s.heap.objs.size = some o → h'.get? s.heap.objs.size = some o) → (∀ b o, s.heap.get? b = some o → h'.get? b = some o) → J i h → J i h')
    (add : ∀ (A' : Around) (i : Nat) (v : Value) (t : Shared) (E : Value → Shared → Prop) (Q : Bool → Shared → Prop), A'.units ≤ A.units + 4 → items[i]? = some v → (∀ b o, s.heap.get? b = some o → t.heap.get? b = some o) → J i t.heap →
      (∀ b h' tk, Heap.SameBut s.heap.objs.size t.heap h' → J (i + 1) h' → t.toks ≤ tk → Q b { t with heap := h', toks := tk }) → wpAny (model P w) A' (setAdd s.heap.objs.size v) Q E t)
    (fin : ∀ (h' : Heap) (tk : Nat), J items.size h' → (∀ b o, s.heap.get? b = some o → h'.get? b = some o) → Q (.ref s.heap.objs.size) { s with heap := h', toks := tk }) :
    wpAny (model P w) A (call (.type "set") [.ref l]) Q E s := by
  obtain ⟨c, tl, hmro⟩ := F.called_set.mro
  have hmade := F.called_set.made
  have hsub := F.called_set.sub
  refine wpAny_call (codeAny_of_tree ?_)
  show wpAny _ _ (callAny (.type "set") _) _ _ _
  refine wpAny_pure ⟨Code.quiet_builtin _ (by decide +kernel), codeAny_builtin F.entry_type_call ?_⟩
  rw [Around.under_plain (weight_type_call_type "set" [.ref l] []) rfl]
  have z1 := F.called_set.notType
  have z2 := F.called_set.canCreate
  have z3 := F.typeCall_set_1 (.ref l)
  repeat (any_goals (first | assumption | wp_step))
  refine codeAny_mono (code_set_led1 (.ref l) (E := E) (Q₁ := fun obj s₁ => obj = .ref s.heap.objs.size ∧ s₁ = { s with heap := s.heap.push (newSet w) }) ⟨rfl, rfl⟩) fun r s₁ hr => ?_
  cases r with
  | error e => exact hr
  | ok fl =>
    cases fl with
    | ret obj =>
      obtain ⟨rfl, rfl⟩ := hr
      have at0 : (s.heap.push (newSet w)).get? s.heap.objs.size = some (newSet w) := Heap.get?_push_size _ rfl
      have ty0 : Shared.TypeIs { s with heap := s.heap.push (newSet w) } (.ref s.heap.objs.size) "set" := ⟨_, at0, rfl⟩
      have z4 := F.called_set.init.lookup
      have z5 := F.called_set.init.bind (.ref s.heap.objs.size)
      repeat (any_goals (first | assumption | wp_step))
      refine codeAny_mono (codeAny_call_builtin (R := wants (fun r s₂ => r = .none ∧ ∃ h' tk, s₂ = { s with heap := h', toks := tk } ∧ J items.size h' ∧ (∀ b o, s.heap.get? b = some o → h'.get? b = some o)) E) F.called_set.init.plain F.entry_set_init (check_set_init_1 ty0 ?_)) fun r₂ s₂ hr₂ => ?_
      · obtain ⟨ol, hol, hcl, nl, hdl⟩ := hl
        obtain ⟨ocls, odict, odata, oslots⟩ := ol
        simp only at hcl hdl
        subst hcl; subst hdl
        have hol' : (s.heap.push (newSet w)).get? l = some { cls := .type "list", dict := odict, data := .seq items nl, slots := oslots } := Heap.get?_push_of_some _ hol
        have z6 := F.sub_list_set
        have z7 := F.sub_list_frozenset
        have z8 : (Value.type "list" == Value.type "dict") = false := by decide
        have hl1 : (s.heap.push (newSet w)).IsList l items := ⟨_, hol', rfl, nl, rfl⟩
        unfold Builtin.«set.__init__» noKeywords Builtin.Frozenset.updateFrom
        generalize hPI : pyIter = PI
        wp_walk
        subst hPI
        refine wpAny_pyIter_list hl1 ?_
        refine wpAny_bind (wpAny_runValue ?_)
        have lS : l < s.heap.objs.size := Heap.lt_size hol
        have hh3 : A.in1.in1.in1.handled = none := by simp [hh]
        have sz : (s.heap.push (newSet w)).objs.size = s.heap.objs.size + 1 := by rw [Heap.size_push]
        have nI : l ≠ (s.heap.push (newSet w)).objs.size := Nat.ne_of_lt (by rw [sz]; exact Nat.lt_succ_of_lt lS)
        have nS : s.heap.objs.size ∉ [(s.heap.push (newSet w)).objs.size, l] := by
          rw [sz]
          simp only [List.mem_cons, List.not_mem_nil, or_false, not_or]
          exact ⟨Nat.ne_of_lt (Nat.lt_succ_self _), Nat.ne_of_gt lS⟩
        have kp0 : ∀ b o, s.heap.get? b = some o → ((s.heap.push (newSet w)).push { cls := .type "list_iterator", data := .fields #[.ref l, .int 0 0] }).get? b = some o := fun b o e => Heap.get?_push_of_some _ (Heap.get?_push_of_some _ e)
        refine set_walk (A := A.in1.in1) ((PySem.Walks.list hh3 _ l nI items).toS) s.heap.objs.size nS J s.heap ?_ ?_ keep (fun i v t E Q lt pv kp j q => ?_) (items.size - 0) 0 _ (by omega) (Nat.zero_le _)
          ⟨⟨_, Heap.get?_push_size _ rfl, rfl, rfl⟩, (hl1.push _)⟩ kp0 (new _ (Heap.get?_push_of_some _ at0) kp0) fun s' m j kp => ?_
        · cases e : s.heap.get? s.heap.objs.size with
          | none => rfl
          | some o => exact absurd (Heap.lt_size e) (Nat.lt_irrefl _)
        · intro b hb
          cases e : s.heap.get? b with
          | none => rfl
          | some o =>
            have lt := Heap.lt_size e
            have hb := List.mem_singleton.mp hb
            exact absurd lt (by rw [hb, sz]; exact Nat.not_lt_of_le (Nat.le_succ _))
        · exact add _ i v t E Q (by simp) pv kp j q
        · obtain ⟨h', g', d', tk', os'⟩ := s'
          have eg : g' = s.gens := m.gens
          have ed : d' = s.drawn := m.drawn
          have eo : os' = s.os := m.os
          subst eg; subst ed; subst eo
          show wpAny _ _ _ _ _ _
          refine wpAny_pure ?_
          show wpAny _ _ (ret Value.none) _ _ _
          exact wpAny_pure ⟨rfl, h', tk', rfl, j, kp⟩
      · cases r₂ with
        | error e => exact hr₂
        | ok fl₂ =>
          cases fl₂ with
          | ret r =>
            obtain ⟨rfl, h', tk, rfl, j, kp⟩ := hr₂
            repeat (any_goals (first | assumption | wp_step))
            exact fin _ _ j kp
          | _ => exact hr₂.elim
    | _ => exact hr.elim
end
end MR

set_option Elab.async false
set_option linter.all false
set_option maxRecDepth 100000
set_option maxHeartbeats 3200000
/-! MR21: sets of texts: made of a list, sorted, their number. -/
namespace MR
open PySem PySem.Spec PyProof.Rows L2
section
variable {P : Program} {w : World} {A : Around} {E : Value → Shared → Prop} {s : Shared} {a : Addr}
/-- the set of texts at a: its members by the places of its table -/
structure TxS (P : Program) (w : World) (h : Heap) (a : Addr) (L : List Str) (o : Obj) (es : Array (Int × Value)) (ep : Nat) (t : SetTable) : Prop where
  ob : h.get? a = some o
  ex : o.ExactSet
  da : o.data = .set es ep t
  el : ElemsOf (PySem.strKind P w) es.toList
  ls : es.toList.map (fun e => strOf e.2) = L
  nd : L.Nodup
  fw : es.size < scanBound
  fi : t.fits es.size = true
  ri : Ris t.place.toList
  le : w.params.followText "set-order" = true ∨ t.led = true
def TxR (P : Program) (w : World) (h : Heap) (a : Addr) (L : List Str) : Prop := ∃ o es ep t, TxS P w h a L o es ep t
theorem TxR.keep {h h' : Heap} {L : List Str} (R : TxR P w h a L) (k : ∀ o, h.get? a = some o → h'.get? a = some o) : TxR P w h' a L := by
  obtain ⟨o, es, ep, t, R⟩ := R
  exact ⟨o, es, ep, t, k o R.ob, R.ex, R.da, R.el, R.ls, R.nd, R.fw, R.fi, R.ri, R.le⟩
theorem elem_str {es : List (Int × Value)} (el : ElemsOf (PySem.strKind P w) es) {e : Int × Value} (he : e ∈ es) : ∃ x t, e.2 = .str x t ∧ e.1 = (PySem.strKind P w).hash x := by
  obtain ⟨⟨k, hk, hh⟩, _⟩ := el e he
  obtain ⟨t, et⟩ := Value.isStrOf_shape hk
  exact ⟨k, t, et, hh⟩
theorem is_str {x y : Str} {t : Tok} : (PySem.strKind P w).is x (.str y t) = true ↔ y = x := by
  constructor
  · intro h
    obtain ⟨t', e⟩ := Value.isStrOf_shape (show Value.isStrOf x (.str y t) = true from h)
    injection e with e
  · rintro rfl
    exact strKind_is _ _ _ _
theorem mem_tx {es : List (Int × Value)} (el : ElemsOf (PySem.strKind P w) es) {x : Str} : x ∈ es.map (fun e => strOf e.2) ↔ ∃ e ∈ es, (PySem.strKind P w).is x e.2 = true := by
  rw [List.mem_map]
  constructor
  · rintro ⟨e, he, q⟩
    obtain ⟨y, t, e1, _⟩ := elem_str el he
    rw [e1] at q
    have q : y = x := q
    subst q
    exact ⟨e, he, by rw [e1]; exact is_str.mpr rfl⟩
  · rintro ⟨e, he, q⟩
    obtain ⟨y, t, e1, _⟩ := elem_str el he
    rw [e1] at q
    have q := is_str.mp q
    subst q
    exact ⟨e, he, by rw [e1]; rfl⟩
theorem tx_laid {h : Heap} {a : Addr} {o : Obj} {es es' : Array (Int × Value)} {ep : Nat} {t t' : SetTable} (ho : h.get? a = some o) (hd : o.data = .set es ep t) :
    (h.update a (Obj.putSet es' t')).get? a = some { o with data := .set es' (ep + 1) t' } := by
  have q := Heap.get?_update_self (Obj.putSet es' t') ho (by rw [putSet_of es' t' hd]; rfl)
  rwa [putSet_of es' t' hd] at q
theorem tx_tail {g : Bool → Sem Unit} (hg : ∀ (b : Bool) (s₁ : Shared) (Q' : Unit → Shared → Prop), Q' () s₁ → wpAny (model P w) A (g b) Q' E s₁) {o : Obj} {es es1 : Array (Int × Value)} {ep : Nat} {t t2 : SetTable} {L1 : List Str}
    (ho : s.heap.get? a = some o) (hex : o.ExactSet) (hd : o.data = .set es ep t) (el : ElemsOf (PySem.strKind P w) es1.toList) (ls : es1.toList.map (fun e => strOf e.2) = L1) (nd : L1.Nodup) (fw : es1.size < scanBound) (fi : t2.fits es1.size = true)
    (ri : Ris t2.place.toList) (le : w.params.followText "set-order" = true ∨ t2.led = true) {wd : Bool} {R : Option Bool → Shared → Prop} (hR : ∀ h' L', Heap.SameBut a s.heap h' → L'.Perm L1 → TxR P w h' a L' → R (some true) { s with heap := h' }) :
    wpAny (model P w) A (do
        storeSet a es1 t2
        if (!wd && t2.tooFull) = true then do
            g (relayAll t2 es1 (SetTable.grown es1.size)).2.2
            storeSet a (relayAll t2 es1 (SetTable.grown es1.size)).1 (relayAll t2 es1 (SetTable.grown es1.size)).2.1
            pure (some true)
          else pure (some true)) R E s := by
  refine wpAny_bind (wpAny_storeSet_of ho hd ?_ (fits_of_scanBound fw))
  have ho1 := tx_laid (es' := es1) (t' := t2) ho hd
  have sb1 := Heap.SameBut.update s.heap a (Obj.putSet es1 t2)
  split
  · have pm := relayAll_perm t2 es1 (SetTable.grown es1.size)
    have fi3 := relayAll_fits t2 es1 (SetTable.grown es1.size)
    have ri3 := relayAll_ris t2 es1 (SetTable.grown es1.size)
    have le3 := relayAll_led t2 es1 (SetTable.grown es1.size)
    generalize relayAll t2 es1 (SetTable.grown es1.size) = Z at pm fi3 ri3 le3 ⊢
    obtain ⟨es2, t3, gave⟩ := Z
    dsimp only at pm fi3 ri3 le3 ⊢
    have sz : es2.size = es1.size := by rw [← Array.length_toList, pm.length_eq, Array.length_toList]
    have pL : (es2.toList.map (fun e => strOf e.2)).Perm L1 := by rw [← ls]; exact pm.map _
    refine wpAny_bind (hg _ _ _ ?_)
    refine wpAny_bind (wpAny_storeSet_of ho1 rfl ?_ (fits_of_scanBound (by rw [sz]; exact fw)))
    refine wpAny_pure (hR _ _ (sb1.trans (Heap.SameBut.update _ a _)) pL ⟨_, es2, _, t3, tx_laid (es' := es2) (t' := t3) ho1 rfl, hex, rfl, fun e he => el e (pm.mem_iff.mp he), rfl, pL.nodup_iff.mpr nd, by rw [sz]; exact fw, fi3, ri3, le.imp id fun z => by rw [le3]; exact z⟩)
  · exact wpAny_pure (hR _ _ sb1 (List.Perm.refl _) ⟨_, es1, _, t2, ho1, hex, rfl, el, ls, nd, fw, fi, ri, le⟩)
theorem tx_add {L : List Str} {x : Str} {tk : Tok} {Q : Bool → Shared → Prop} (R : TxR P w s.heap a L) (room : L.length + 1 < scanBound)
    (hQ : ∀ b h' L', Heap.SameBut a s.heap h' → TxR P w h' a L' → (x ∈ L → L' = L) → (x ∉ L → L'.Perm (x :: L)) → Q b { s with heap := h', toks := s.toks + 1 }) : wpAny (model P w) A (setAdd a (.str x tk)) Q E s := by
  obtain ⟨o, es, ep, t, R⟩ := R
  unfold setAdd
  refine wpAny_holding (wpAny_bind ((PySem.strKind P w).pyHash (k := x) (strKind_is _ _ _ _) ?_))
  have hkey : (PySem.strKind P w).is x (.str x tk) = true := strKind_is _ _ _ _
  have hsc : (Value.str x tk).scannable = true := rfl
  unfold setAddHashed setAddHashedIn
  refine wpAny_holding (wpAny_bind (wpAny_setState_of R.ob R.da R.fi ?_))
  dsimp only
  rw [byScan_of hsc R.fw R.el]
  simp only [↓reduceIte]
  unfold setAddByScan
  refine wpAny_bind ?_
  refine wpAny_bind (wpAny_rule ?_)
  refine wpAny_bind (wpAny_setScan_of (s := { s with toks := s.toks + 1 }) hkey R.ob R.da R.fi R.el ?_)
  cases hfi : List.findIdx? (fun e => (PySem.strKind P w).is x e.2) es.toList with
  | some j =>
    dsimp only
    obtain ⟨hj, pj, _⟩ := List.findIdx?_eq_some_iff_getElem.mp hfi
    have hx : x ∈ L := by rw [← R.ls]; exact (mem_tx R.el).mpr ⟨es.toList[j], List.getElem_mem hj, pj⟩
    exact wpAny_pure (wpAny_pure (hQ _ s.heap L (Heap.SameBut.refl a s.heap) ⟨o, es, ep, t, R⟩ (fun _ => rfl) fun z => absurd hx z))
  | none =>
    dsimp only
    have hx : x ∉ L := fun z => by
      rw [← R.ls] at z
      obtain ⟨e, he, q⟩ := (mem_tx R.el).mp z
      have c := List.findIdx?_eq_none_iff.mp hfi e he
      rw [q] at c
      cases c
    have pm := layNew_perm t es ((PySem.strKind P w).hash x) (.str x tk)
    have fi1 := layNew_fits t es ((PySem.strKind P w).hash x) (.str x tk)
    have ri1 := layNew_ris t es ((PySem.strKind P w).hash x) (.str x tk) R.ri
    have le1 := layNew_led t es ((PySem.strKind P w).hash x) (.str x tk)
    generalize layNew t es ((PySem.strKind P w).hash x) (.str x tk) = Z at pm fi1 ri1 le1 ⊢
    obtain ⟨es1, t1, wd, gave⟩ := Z
    dsimp only at pm fi1 ri1 le1 ⊢
    rw [Array.toList_push] at pm
    have pc : es1.toList.Perm (((PySem.strKind P w).hash x, Value.str x tk) :: es.toList) := pm.trans (List.perm_append_singleton _ _)
    have pL : (es1.toList.map (fun e => strOf e.2)).Perm (x :: L) := by
      have q := pc.map (fun e => strOf e.2)
      rw [List.map_cons, R.ls] at q
      exact q
    have el1 : ElemsOf (PySem.strKind P w) es1.toList := fun e he => by
      rcases List.mem_cons.mp (pc.mem_iff.mp he) with z | z
      · rw [z]; exact ⟨⟨x, hkey, rfl⟩, hsc⟩
      · exact R.el e z
    have nd1 : (es1.toList.map (fun e => strOf e.2)).Nodup := pL.nodup_iff.mpr (List.nodup_cons.mpr ⟨hx, R.nd⟩)
    have hl : es.toList.length = L.length := by rw [← R.ls, List.length_map]
    have sz : es1.size = L.length + 1 := by rw [← Array.length_toList, pc.length_eq, List.length_cons, hl]
    have fw1 : es1.size < scanBound := by rw [sz]; exact room
    have led1 : w.params.followText "set-order" = true ∨ t1.led = true := R.le.imp id fun z => by rw [le1]; exact z
    have fin : ∀ h' L', Heap.SameBut a s.heap h' → L'.Perm (es1.toList.map (fun e => strOf e.2)) → TxR P w h' a L' → Q true { s with heap := h', toks := s.toks + 1 } := fun h' L' sb pp r => hQ _ h' L' sb r (fun z => absurd z hx) fun _ => pp.trans pL
    have gw : ∀ (b : Bool) {s₁ : Shared} {Q' : Unit → Shared → Prop}, Q' () s₁ → wpAny (model P w) A (match b with | true => rule "set.scan.the-table-gave-way" | false => pure ()) Q' E s₁ := by
      intro b s₁ Q' q
      cases b
      · exact wpAny_pure q
      · exact wpAny_rule q
    refine wpAny_bind (gw _ ?_)
    all_goals
      split
      · refine wpAny_bind ?_
        rw [hashByValue_scannable 8 hsc]
        refine wpAny_pure ?_
        refine tx_tail (s := { s with toks := s.toks + 1 }) ?_ R.ob R.ex R.da el1 rfl nd1 fw1 ?_ ?_ ?_ ?_
        · intro b s₁ Q' q; cases b <;> first | exact wpAny_pure q | exact wpAny_rule q
        · first | (split <;> first | exact fi1 | exact SetTable.fits_plain_off fi1) | exact fi1
        · first | (split <;> exact ri1) | exact ri1
        · first | (split <;> exact led1) | exact led1
        · intro h' L' sb pp r; dsimp only; exact wpAny_pure (fin h' L' sb pp r)
      · refine wpAny_bind (wpAny_pure ?_)
        simp only [↓reduceIte]
        refine tx_tail (s := { s with toks := s.toks + 1 }) ?_ R.ob R.ex R.da el1 rfl nd1 fw1 fi1 ri1 led1 ?_
        · intro b s₁ Q' q; cases b <;> first | exact wpAny_pure q | exact wpAny_rule q
        · intro h' L' sb pp r; dsimp only; exact wpAny_pure (fin h' L' sb pp r)
end
end MR

set_option Elab.async false
set_option linter.all false
set_option maxRecDepth 100000
set_option maxHeartbeats 3200000
/-! MR22: sorted(set(xs)), len(set(xs)), list(d.values()). -/
namespace MR
open PySem PySem.Spec PyProof.Rows L2
def TxO (P : Program) (w : World) (a : Addr) (L : List Str) : HO := .ext fun h => TxR P w h a L
theorem txO_new {P : Program} {w : World} {H : Hp} {h : Heap} {a : Addr} {L : List Str} (R : TxR P w h a L) : ObjOk P w H h a (TxO P w a L) := by
  obtain ⟨o, es, ep, t, r⟩ := R
  exact ⟨⟨o, es, ep, t, r⟩, ⟨o, r.ob⟩, fun h1 h2 p k => TxR.keep p k⟩
section
variable {X : Cx} {Wx : WX}
/-- a list with the same texts, none twice -/
def Uniq (L ys : List Str) : Prop := L.Nodup ∧ ∀ x, x ∈ L ↔ x ∈ ys
def rSetS (K : PySem.W.Frag) (P : Program) (w : World) : List V → Hp → VK → Prop := fun xs H Q => ∃ (l : Addr) (ys : List Str), xs = [V.ref l] ∧ SqL K H l (ys.map V.str) ∧ ys.length < 1000 ∧ ∀ p L, H p = none → Uniq L ys → Q (.ref p) (upd H p (TxO P w p L))
theorem uniq_step {L L' ys : List Str} {i : Nat} {x : Str} (u : Uniq L (ys.take i)) (hx : ys[i]? = some x) (h1 : x ∈ L → L' = L) (h2 : x ∉ L → L'.Perm (x :: L)) : Uniq L' (ys.take (i + 1)) := by
  have et : ys.take (i + 1) = ys.take i ++ [x] := by
    rw [List.take_succ, hx]
    rfl
  by_cases hm : x ∈ L
  · rw [h1 hm, et]
    refine ⟨u.1, fun z => ?_⟩
    rw [List.mem_append, List.mem_singleton, u.2 z]
    exact ⟨.inl, fun q => q.elim id fun e => by rw [e]; exact (u.2 x).mp hm⟩
  · have p := h2 hm
    refine ⟨p.nodup_iff.mpr (List.nodup_cons.mpr ⟨hm, u.1⟩), fun z => ?_⟩
    rw [p.mem_iff, et, List.mem_cons, List.mem_append, List.mem_singleton, u.2 z]
    exact Or.comm
theorem nodup_le {α : Type} [DecidableEq α] : ∀ {L ys : List α}, L.Nodup → (∀ x ∈ L, x ∈ ys) → L.length ≤ ys.length
  | [], ys, _, _ => Nat.zero_le _
  | x :: L, ys, h, s => by
    have h1 := List.nodup_cons.mp h
    have hx : x ∈ ys := s x List.mem_cons_self
    have ih := nodup_le (L := L) (ys := ys.erase x) h1.2 fun z hz => (List.mem_erase_of_ne (fun e : z = x => h1.1 (e ▸ hz))).mpr (s z (List.mem_cons_of_mem _ hz))
    rw [List.length_erase_of_mem hx] at ih
    have := List.length_pos_of_mem hx
    rw [List.length_cons]
    omega
theorem uniq_len {L ys : List Str} (u : Uniq L ys) : L.length ≤ ys.length := nodup_le u.1 fun x hx => (u.2 x).mp hx
theorem cr_setS (hc : X.calm = true) : CallR X (.type "set") (rSetS X.K X.prog X.w) := by
  intro pins s σ H xs us Q I r h
  obtain ⟨l, ys, rfl, hl, hn, q⟩ := h
  rw [Vals.ref1 r]
  obtain ⟨its, rv, pl, hz⟩ := I.list hl
  have hS := rv.strs
  refine set_call (P := X.prog) (w := X.w) (J := fun i h => ∃ L, TxR X.prog X.w h s.heap.objs.size L ∧ Uniq L (ys.take i)) (I.ok.hd hc) pl.isList ?_ ?_ ?_ ?_
  · intro h ho _
    refine ⟨[], ⟨_, #[], 0, _, ho, ⟨rfl, rfl, rfl⟩, rfl, fun e he => by simp at he, rfl, List.nodup_nil, by decide, rfl, List.Pairwise.nil, ?_⟩, List.nodup_nil, fun x => by simp⟩
    show _ ∨ (!X.w.params.followText "set-order") = true
    cases X.w.params.followText "set-order"
    · exact .inr rfl
    · exact .inl rfl
  · rintro i h h' k _ ⟨L, R, u⟩
    exact ⟨L, R.keep k, u⟩
  · rintro A' i v t E Q2 _ hv _ ⟨L, R, u⟩ q2
    have hv2 : its[i]? = some v := by
      have e : its.toArray[i]? = some v := hv
      rw [List.getElem?_toArray] at e
      exact e
    have len := StrsAre.length hS
    have lti : i < its.length := (List.getElem?_eq_some_iff.mp hv2).1
    obtain ⟨x, tk, rfl⟩ := hS.all v (List.mem_of_getElem? hv2)
    have hx : ys[i]? = some x := by
      have e := hS.strs
      rw [← e, List.getElem?_map, hv2]
      rfl
    have lL := uniq_len u
    rw [List.length_take] at lL
    exact tx_add R (by unfold scanBound; omega) fun b h' L' sb R' h1 h2 => q2 b h' _ sb ⟨L', R', uniq_step u hx h1 h2⟩ (Nat.le_succ _)
  · rintro h' tk ⟨L, R, u⟩ k
    have len := StrsAre.length hS
    have u2 : Uniq L ys := by
      have e : ys.take its.toArray.size = ys := List.take_of_length_le (by rw [List.size_toArray]; omega)
      rw [e] at u
      exact u
    exact ⟨.ref s.heap.objs.size, upd H s.heap.objs.size (TxO X.prog X.w s.heap.objs.size L), I.laid (t' := tk) k (Nat.le_refl _) (txO_new R), rfl, q _ L (I.hok.fresh (Nat.le_refl _)) u2⟩
def rSortedTx (P : Program) (w : World) : List V → Hp → VK → Prop := fun vs H Q => ∃ (a : Addr) (L : List Str), vs = [V.ref a] ∧ H a = some (TxO P w a L) ∧ ∀ ys p, ys.Perm L → sortedS ys = true → H p = none → Q (.ref p) (upd H p (.lst (ys.map V.str)))
theorem cr_sortedTx (hc : X.calm = true) : CallR X (.builtin "sorted") (rSortedTx X.prog X.w) := by
  intro pins s σ H vs us Q I r h
  obtain ⟨a, L, rfl, ha, q⟩ := h
  rw [Vals.ref1 r]
  obtain ⟨o, es, ep, t, R⟩ : TxR X.prog X.w s.heap a L := (I.hok a _ ha).1
  refine Calls.call_function_entry kind_sorted plain_sorted entry_sorted (args_sorted1 _) ?_
  unfold Builtin.«sorted»
  refine wpAny_bind (m := checkCount "sorted" 1 1 _) (wpAny_pure ?_)
  refine wpAny_bind (collect_set (A := X.A.in1) (by simpa using I.ok.hd hc) ⟨o, R.ob, R.ex.1, R.da⟩ R.fi R.fw R.ri R.le fun s1 out k1 hz g1 o1 pm => ?_)
  have hlen : out.length = L.length := by rw [pm.length_eq, List.length_map, ← R.ls, List.length_map]
  have hL : L.length < scanBound := by rw [← R.ls, List.length_map, Array.length_toList]; exact R.fw
  have hfit : out.length ≤ sizeLine := by rw [hlen]; exact fits_of_scanBound hL
  have hS : StrsAre out (out.map strOf) := strsAre_map out fun v hv => by
    obtain ⟨e, he, rfl⟩ := List.mem_map.mp (pm.mem_iff.mp hv)
    obtain ⟨x, t, e1, _⟩ := elem_str R.el he
    exact ⟨x, t, e1⟩
  have pL : (out.map strOf).Perm L := by
    have z := pm.map strOf
    rw [List.map_map] at z
    rw [← R.ls]
    exact z
  refine wpAny_bind (wpAny_newList ?_ hfit)
  have hoL : (s1.heap.push (seqObj "list" out.toArray 0)).get? s1.heap.objs.size = some (seqObj "list" out.toArray 0) := Heap.get?_push_size _ rfl
  refine wpAny_bind (wpAny_holding (wpAny_call_entry slot_list_sort ⟨_, hoL, rfl⟩ entry_list_sort (list_sort_treeKAny strKind_oneLt hoL hS.keysOf (fun v₁ v₂ rest e => keyKind_strs (by rw [← e]; exact hS)) hfit fun st' a1 a2 => ⟨_, rfl, ?_⟩) (args_list_sort _)))
  obtain ⟨ys, b1, b2, b3⟩ := sorted_out_str hS a1 a2
  obtain ⟨c, hcc⟩ := sortedHeap_at (vs := out) (out := (arrOf st').map (·.2)) hoL
  have keep : ∀ b u, s.heap.get? b = some u → (sortedHeap (s1.heap.push (seqObj "list" out.toArray 0)) s1.heap.objs.size out ((arrOf st').map (·.2))).get? b = some u := fun b u e => by
    have z := k1 b u e
    have lt := Heap.lt_size z
    rw [sortedHeap_old (Nat.ne_of_lt lt) (by rw [size_push']; exact Nat.lt_succ_of_lt lt)]
    exact Heap.get?_push_of_some _ z
  have hn : H s1.heap.objs.size = none := I.hok.fresh hz
  have hlen2 : (ys.map V.str).length ≤ sizeLine := by rw [List.length_map, b2.length_eq, List.length_map]; exact hfit
  have J : Inv X pins σ (upd H s1.heap.objs.size (.lst (ys.map V.str))) { s with heap := sortedHeap (s1.heap.push (seqObj "list" out.toArray 0)) s1.heap.objs.size out ((arrOf st').map (·.2)), gens := s1.gens, drawn := s1.drawn, toks := s1.toks } :=
    I.call (ch := []) (Un.laid keep hz hn) (I.hok.laid keep hz ⟨hlen2, _, c, vals_of_strs b1, hcc⟩) (by rw [g1]; exact I.bare) (fun _ z => nomatch z)
  have e : s1 = { s with heap := s1.heap, gens := s1.gens, drawn := s1.drawn, toks := s1.toks } := by
    cases s1
    cases s
    cases o1
    rfl
  refine wpAny_pure ⟨_, rfl, ?_⟩
  rw [e]
  exact ⟨.ref _, _, J, rfl, q ys _ (b2.trans pL) b3 hn⟩
end
end MR

set_option Elab.async false
set_option linter.all false
set_option maxRecDepth 100000
set_option maxHeartbeats 3200000
/-! MR23: sorted(set(xs)), len(set(xs)), list(d.values()) as denotations. -/
namespace MR
open PySem PySem.Spec PyProof.Rows L2
def nub : List Str → List Str
  | [] => []
  | x :: l => if x ∈ l then nub l else x :: nub l
theorem mem_nub {x : Str} : ∀ {l : List Str}, x ∈ nub l ↔ x ∈ l
  | [] => Iff.rfl
  | y :: l => by
    unfold nub
    split
    · rename_i h
      rw [mem_nub, List.mem_cons]
      exact ⟨.inr, fun z => z.elim (fun e => by rw [e]; exact h) id⟩
    · rw [List.mem_cons, List.mem_cons, mem_nub]
theorem nodup_nub : ∀ l : List Str, (nub l).Nodup
  | [] => List.nodup_nil
  | y :: l => by
    unfold nub
    split
    · exact nodup_nub l
    · rename_i h
      exact List.nodup_cons.mpr ⟨fun z => h (mem_nub.mp z), nodup_nub l⟩
theorem perm_of_mem {L M : List Str} (h1 : L.Nodup) (h2 : M.Nodup) (h : ∀ x, x ∈ L ↔ x ∈ M) : L.Perm M := by
  rw [List.perm_iff_count]
  intro a
  rw [h1.count, h2.count]
  simp only [h a]
theorem uniq_nub {L ys : List Str} (u : Uniq L ys) : L.Perm (nub ys) := perm_of_mem u.1 (nodup_nub ys) fun x => (u.2 x).trans mem_nub.symm
section
variable {X : Cx} {Wx : WX}
def opSortSet : D → Option D
  | .lst ws => (strsD ws).bind fun ys => if ys.length < 1000 then some (.lst ((srtS (nub ys)).map D.str)) else none
  | _ => none
def opLenSet : D → Option D
  | .lst ws => (strsD ws).bind fun ys => if ys.length < 1000 then some (.int ((nub ys).length : Nat)) else none
  | _ => none
theorem bf_sortSet {K : PySem.W.Frag} {P : Program} {w : World} : B1F K (fun xs H Q => rSetS K P w xs H fun v H1 => rSortedTx P w [v] H1 Q) opSortSet := by
  intro F I ρ S H σV σ v a z Q rb h ez q
  cases a with
  | lst ws =>
    obtain ⟨b, vs, rfl, hv, r⟩ := h
    obtain ⟨ys, hy, ez⟩ := Option.bind_eq_some_iff.mp (show (strsD ws).bind _ = some z from ez)
    split at ez
    · rename_i hl
      cases ez
      have e := r.strs hy
      subst e
      refine ⟨b, ys, rfl, SqL_at hv, hl, fun p L hp u => ⟨p, L, rfl, upd_same, fun zs p2 pm hs hp2 => ?_⟩⟩
      have e : zs = srtS (nub ys) := sorted_is (pm.trans (uniq_nub u)) hs
      subst e
      obtain ⟨rb1, _⟩ := rb.newO (o := TxO P w p L) hp
      obtain ⟨rb2, nf, ni, nr, no⟩ := rb1.newO (o := .lst ((srtS (nub ys)).map V.str)) hp2
      exact q I _ _ Gr.refl rb2 (.inl ⟨p2, rfl, nf, ni, nr, no, _, upd_same, Reps.ofStrs _⟩)
    · cases ez
  | _ => cases ez
theorem cf_sortSet {e : Expr} {p p2 pos pos2 : Pos} {f : DE} (hm : X.mg "sorted" = none) (hm2 : X.mg "set" = none) (h : SE X Wx e f) (hc : X.calm = true := by rfl) (hg : Gl X "sorted" := by rfl) (hg2 : Gl X "set" := by rfl)
    (he2 : starEach [e] X.env = (false, eval e X.env) :: starEach [] X.env := by rfl) (he : starEach [.Call (.Name "set" p2) [e] [] pos2] X.env = (false, eval (.Call (.Name "set" p2) [e] [] pos2) X.env) :: starEach [] X.env := by rfl) :
    SF X Wx (.Call (.Name "sorted" p) [.Call (.Name "set" p2) [e] [] pos2] [] pos) (d1 opSortSet f) := by
  refine PE.imp (pe_callB (cr_sortedTx hc) hg hm (by decide +kernel) (pa_cons (pe_callTy (cr_setS hc) hg2 hm2 (by decide +kernel) (pa_cons h pa_nil he2) (by decide) (by decide) he2 rfl) pa_nil he) (by decide) (by decide) he rfl) fun σV H Q h => ?_
  have h2 := sem_b1F (X := X) (Wx := Wx) (bf_sortSet (K := X.K) (P := X.prog) (w := X.w)) h
  exact h2
/-! ### len of a set of texts -/
def rLenTx (P : Program) (w : World) : List V → Hp → VK → Prop := fun vs H Q => ∃ (a : Addr) (L : List Str), vs = [V.ref a] ∧ H a = some (TxO P w a L) ∧ Q (.int (L.length : Nat)) H
theorem cr_lenTx : CallR X (.builtin "len") (rLenTx X.prog X.w) := by
  intro pins s σ H vs us Q I r h
  obtain ⟨a, L, rfl, ha, q⟩ := h
  rw [Vals.ref1 r]
  obtain ⟨o, es, ep, t, R⟩ : TxR X.prog X.w s.heap a L := (I.hok a _ ha).1
  have hl : es.size = L.length := by rw [← R.ls, List.length_map, Array.length_toList]
  refine call_len_set R.ob R.ex R.da R.fi (by have := R.fw; unfold scanBound at this; omega) ?_
  rw [hl]
  have J : Inv X pins σ H { s with toks := s.toks + 1 + 1 } := I.tok (s.toks + 1 + 1)
  exact ⟨.int (L.length : Nat), H, J, ⟨_, rfl⟩, q⟩
theorem b_lenSet {K : PySem.W.Frag} {P : Program} {w : World} : B1 K (fun xs H Q => rSetS K P w xs H fun v H1 => rLenTx P w [v] H1 Q) opLenSet := by
  intro F I ρ S H σV σ v a z Q rb h ez q
  cases a with
  | lst ws =>
    obtain ⟨b, vs, rfl, hv, r⟩ := h
    obtain ⟨ys, hy, ez⟩ := Option.bind_eq_some_iff.mp (show (strsD ws).bind _ = some z from ez)
    split at ez
    · rename_i hl
      cases ez
      have e := r.strs hy
      subst e
      refine ⟨b, ys, rfl, SqL_at hv, hl, fun p L hp u => ⟨p, L, rfl, upd_same, ?_⟩⟩
      rw [(uniq_nub u).length_eq]
      obtain ⟨rb1, _⟩ := rb.newO (o := TxO P w p L) hp
      exact q I _ _ Gr.refl rb1 .int
    · cases ez
  | _ => cases ez
theorem c_lenSet {e : Expr} {p p2 pos pos2 : Pos} {f : DE} (hm : X.mg "len" = none) (hm2 : X.mg "set" = none) (h : SE X Wx e f) (hc : X.calm = true := by rfl) (hg : Gl X "len" := by rfl) (hg2 : Gl X "set" := by rfl)
    (he2 : starEach [e] X.env = (false, eval e X.env) :: starEach [] X.env := by rfl) (he : starEach [.Call (.Name "set" p2) [e] [] pos2] X.env = (false, eval (.Call (.Name "set" p2) [e] [] pos2) X.env) :: starEach [] X.env := by rfl) :
    SE X Wx (.Call (.Name "len" p) [.Call (.Name "set" p2) [e] [] pos2] [] pos) (d1 opLenSet f) := by
  refine PE.imp (pe_callB cr_lenTx hg hm (by decide +kernel) (pa_cons (pe_callTy (cr_setS hc) hg2 hm2 (by decide +kernel) (pa_cons h pa_nil he2) (by decide) (by decide) he2 rfl) pa_nil he) (by decide) (by decide) he rfl) fun σV H Q h => ?_
  have h2 := sem_b1 (X := X) (Wx := Wx) (b_lenSet (K := X.K) (P := X.prog) (w := X.w)) h
  exact h2
/-! ### list(d.values()) -/
def tListVals (te : TE) : TE := fun σ H Q => te σ H fun x H1 => ∃ (a : Addr) (kvs : List (Key × V)), x = .ref a ∧ Rd H1 a (.dK kvs) ∧ ∀ p, H1 p = none → Q (.ref p) (upd H1 p (.lst (kvs.map (·.2))))
theorem vals_snd {K : Type} : ∀ {kvs : List (Key × V)} {vs : List (Key × Value)}, KV kvs vs → Vals (kvs.map (·.2)) (vs.map (·.2))
  | _, _, .nil => .nil
  | _, _, .cons h t => .cons h.2 (vals_snd (K := K) t)
theorem pe_listVals {e : Expr} {te : TE} {p apos cpos pos : Pos} (hc : X.calm = true) (he : PE X e te) (hg : Gl X "list") (hm : X.mg "list" = none) (hbase : attributeBase e "values" X.env (eval e X.env) = eval e X.env) (hline : (apos.endLine == cpos.line) = true)
    (hs : starEach [.Call (.Attribute e "values" apos) [] [] cpos] X.env = (false, eval (.Call (.Attribute e "values" apos) [] [] cpos) X.env) :: starEach [] X.env) :
    PE X (.Call (.Name "list" p) [.Call (.Attribute e "values" apos) [] [] cpos] [] pos) (tListVals te) := by
  refine ⟨fun pins s σ H Q I hq => ?_⟩
  refine wpAny_Call_Name_kw (ld_blt I hg hm (u := .type "list") (by decide +kernel) ?_ (by decide) (by decide))
  refine PyProof.Rows.callWith_type1 ?_ hs rfl
  rw [hs]
  show wpAny _ _ (spliced ((false, eval (.Call (.Attribute e "values" apos) [] [] cpos) X.env) :: backTo pos (starEach [] X.env))) _ _ s
  refine Calls.spliced_cons ?_
  refine wpAny_Call_method (T := "dict") (id := "dict.values") hbase rfl hline F.plainAttrs_dict F.slot_dict_values F.type_dict_values (thn (he.run pins s σ H _ I hq) fun u s1 ⟨x, H1, I1, rx, d, kvs, ex, hd, q⟩ => ?_)
  subst ex
  obtain rfl : u = Value.ref d := rx
  obtain ⟨hz, hs0, vs, kv, hdo⟩ := dk_rd I1.hok hd
  obtain ⟨ep, hat⟩ := hdo.dictAt
  have lk : kvs.length = vs.length := Paired.length kv
  have I2 : Inv X pins σ H1 { s1 with heap := s1.heap.push { cls := .type "dict_values", data := .fields #[.ref d] } } := I1.kept (t' := s1.toks) fun b ob q => Heap.get?_push_of_some _ q
  refine ⟨hdo.typeIs, hdo.mapOf.noDict, ?_⟩
  show wpAny _ _ (callWith cpos (.builtin "dict.values") [.ref d] [] []) _ X.xe s1
  refine method_meetsIn F.slot_dict_values F.entry_dict_values rfl (PySem.evalArgs_none ⟨rfl, hdo.typeIs, F.args_dict_values_1 _, _, meets_dict_values (mixKind X.prog X.w) d hs0, ⟨vs, hdo⟩, ?_⟩)
  refine Calls.spliced_nil ?_
  refine PySem.W.kdl_call (PySem.W.kdl_values (knd := mixKind X.prog X.w) (r := s1.heap.objs.size) (d := d) (kvs := vs) (ep := ep)) (I1.ok.hd hc) ⟨⟨_, Heap.get?_push_size _ rfl, rfl, rfl⟩, hat.push _⟩ (by rw [← lk]; exact hz) fun h' tk acc c' hk hD hacc => ?_
  have ev : acc.toList = vs.map (·.2) := PySem.W.kdl_vals_eq acc.toList (by rw [Array.length_toList]; exact hacc.1) fun j v e => hacc.2 j v (by rw [← Array.getElem?_toList]; exact e)
  refine ⟨.ref _, upd H1 _ (.lst (kvs.map (·.2))), I2.laid (t' := tk) hk (Nat.le_refl _) ⟨by rw [List.length_map]; exact hz, acc.toList, c', by rw [ev]; exact vals_snd (K := Key) kv, by rw [Array.toArray_toList]; exact hD⟩, rfl, q _ (I2.hok.fresh (Nat.le_refl _))⟩
def opVals : D → Option D
  | .dK l => some (.lst (l.map (·.2)))
  | _ => none
theorem cf_listVals {e : Expr} {p apos cpos pos : Pos} {f : DE} (hm : X.mg "list" = none) (h : SE X Wx e f) (hc : X.calm = true := by rfl) (hg : Gl X "list" := by rfl) (hbase : attributeBase e "values" X.env (eval e X.env) = eval e X.env := by rfl) (hline : (apos.endLine == cpos.line) = true := by rfl)
    (hs : starEach [.Call (.Attribute e "values" apos) [] [] cpos] X.env = (false, eval (.Call (.Attribute e "values" apos) [] [] cpos) X.env) :: starEach [] X.env := by rfl) :
    SF X Wx (.Call (.Name "list" p) [.Call (.Attribute e "values" apos) [] [] cpos] [] pos) (d1 opVals f) := by
  refine PE.imp (pe_listVals hc h hg hm hbase hline hs) fun σV H Q h => ?_
  obtain ⟨F, I, ρ, σ, S, rb, h⟩ := h
  refine ⟨F, I, ρ, σ, S, rb, postF_bind h fun I1 ρ1 σ1 S1 H1 x v1 _ g1 rb1 t1 h1 => ?_⟩
  cases ez : (deref σ1 S1 x).bind opVals with
  | none => rw [ez] at h1; exact h1.elim
  | some z =>
    rw [ez] at h1
    obtain ⟨a, ea, ez⟩ := Option.bind_eq_some_iff.mp ez
    have A1 := rb1.at t1 ea
    cases a with
    | dK l =>
      cases ez
      obtain ⟨b, kvs, rfl, hv, r⟩ := A1
      refine ⟨b, kvs, rfl, hv, fun p hp => ?_⟩
      obtain ⟨rb2, nf, ni, nr, no⟩ := rb1.newO (o := .lst (kvs.map (·.2))) hp
      exact h1 _ ρ1 _ _ Gr.refl rb2 (.inl ⟨p, rfl, nf, ni, nr, no, _, upd_same, r.2⟩)
    | _ => cases ez
end
end MR

set_option Elab.async false
set_option linter.all false
set_option maxRecDepth 100000
/-! MR24: unions: list(x), x.pop(e). -/
namespace MR
open PySem PySem.Spec PyProof.Rows L2
section
variable {X : Cx} {Wx : WX} {K : PySem.W.Frag}
def opListA : D → Option D
  | .dK l => opListD (.dK l)
  | a => opList a
theorem bf_or {r r' : List V → Hp → VK → Prop} {op op1 op2 : D → Option D} (h : B1F K r op1) (h' : B1F K r' op2) (i : ∀ a, op a = op1 a ∨ op a = op2 a) : B1F K (fun xs H Q => r xs H Q ∨ r' xs H Q) op := by
  intro F I ρ S H σV σ v a z Q rb ha ez q
  rcases i a with e | e
  · exact .inl (h F I ρ S H σV σ v a z Q rb ha (e ▸ ez) q)
  · exact .inr (h' F I ρ S H σV σ v a z Q rb ha (e ▸ ez) q)
theorem listA_or (a : D) : opListA a = opList a ∨ opListA a = opListD a := by
  cases a with
  | dK l => exact .inr rfl
  | _ => exact .inl rfl
abbrev opSorted : D → Option D := opSortS
theorem call_sortedA : CallR X (.builtin "sorted") (rSortedS X.K) := cr_sortedS
theorem bf_sorted : B1F K (rSortedS K) opSorted := bf_sortS
/-- x.pop(e), x a list or a dict -/
def lstAt : Res D → Bool
  | .ok x σ S => (match deref σ S x with
    | some (.lst _) => true
    | _ => false)
  | _ => false
def dPopA (fo : DE) (fa : DA) : DE := fun σ S => if lstAt (fo σ S) = true then dMeth isLst kLPopAt fo fa σ S else dMeth isDct kPop fo fa σ S
theorem c_popA {o e : Expr} {apos cpos : Pos} {fo fe : DE} (h1 : SE X Wx (.Call (.Attribute o "pop" apos) [e] [] cpos) (dMeth isLst kLPopAt fo (aCons fe aNil))) (h2 : SE X Wx (.Call (.Attribute o "pop" apos) [e] [] cpos) (dMeth isDct kPop fo (aCons fe aNil))) :
    SE X Wx (.Call (.Attribute o "pop" apos) [e] [] cpos) (dPopA fo (aCons fe aNil)) := by
  refine c_or2 h1 h2 fun σ S => ?_
  unfold dPopA
  split
  · exact .inl rfl
  · exact .inr rfl
end
end MR

set_option Elab.async false
set_option linter.all false
set_option maxRecDepth 100000
/-! The denotations of the defs (printed by gen.py). -/
namespace MR
open PySem
def b_Land___init__ : DS := (sSeq (sIf (tNot (tVal (dChain opLe opLe (dC (.int 1)) (dVar 1) (dC (.int 9999))))) (sRaise "NoLand") sNil) (sSeq (sFldD ["Land"] "lords" (dVar 0) (dAlloc (dDisp (pCons (dC (.str "")) (dC .non) pNil)))) (sSeq (sFldD ["Land"] "holders" (dVar 0) (dAlloc (dDisp (pCons (dC (.str "")) (dC (.str "")) pNil)))) (sSeq (sFldD ["Land"] "acres_of" (dVar 0) (dAlloc (dDisp (pCons (dC (.str "")) (dVar 1) pNil)))) (sFldD ["Land"] "services" (dVar 0) (dAlloc (dDisp (pCons (dC (.str "")) (dC (.tup [.int 0, .int 1])) pNil))))))))
def m_Land___init__ : Den := dDef 2 b_Land___init__
def b_Land_there : DS := (sRet (d2 opInG (dVar 1) (dFld ["Land"] "lords" (dVar 0))))
def m_Land_there : Den := dDef 2 b_Land_there
def b_Land_look_at : DS := (sIf (tVal (d2 opNotInG (dVar 1) (dFld ["Land"] "lords" (dVar 0)))) (sRaise "NoEstate") sNil)
def m_Land_look_at : Den := dDef 2 b_Land_look_at
def lt_Land_estates_1 : DT := (tVal (d2 opNe' (dVar 1) (dC (.str ""))))
def le_Land_estates_2 : DE := (dVar 1)
def b_Land_estates : DS := (sRetF (d1 opSorted (dLock (dFld ["Land"] "lords" (dVar 0)) (dLc (iKeysD (dFld ["Land"] "lords" (dVar 0))) (gN 1) lt_Land_estates_1 le_Land_estates_2 [1]))))
def m_Land_estates : Den := dDef 2 b_Land_estates
def b_Land_holder : DS := (sSeq (sExpr (dMet "look_at" [("Land", m_Land_look_at)] (dVar 0) (aCons (dVar 1) aNil))) (sRet (d2 opGet (dFld ["Land"] "holders" (dVar 0)) (dVar 1))))
def m_Land_holder : Den := dDef 2 b_Land_holder
def b_Land_lord : DS := (sSeq (sExpr (dMet "look_at" [("Land", m_Land_look_at)] (dVar 0) (aCons (dVar 1) aNil))) (sRet (d2 opGet (dFld ["Land"] "lords" (dVar 0)) (dVar 1))))
def m_Land_lord : Den := dDef 2 b_Land_lord
def b_Land_own : DS := (sSeq (sExpr (dMet "look_at" [("Land", m_Land_look_at)] (dVar 0) (aCons (dVar 1) aNil))) (sRet (d2 opGet (dFld ["Land"] "acres_of" (dVar 0)) (dVar 1))))
def m_Land_own : Den := dDef 2 b_Land_own
def b_Land_service : DS := (sSeq (sExpr (dMet "look_at" [("Land", m_Land_look_at)] (dVar 0) (aCons (dVar 1) aNil))) (sRet (d2 opGet (dFld ["Land"] "services" (dVar 0)) (dVar 1))))
def m_Land_service : Den := dDef 2 b_Land_service
def lt_Land_under_1 : DT := (tVal (d2 opEq' (d2 opGet (dFld ["Land"] "lords" (dVar 0)) (dVar 2)) (dVar 1)))
def le_Land_under_2 : DE := (dVar 2)
def b_Land_under : DS := (sSeq (sExpr (dMet "look_at" [("Land", m_Land_look_at)] (dVar 0) (aCons (dVar 1) aNil))) (sRetF (d1 opSorted (dLock (dFld ["Land"] "lords" (dVar 0)) (dLc (iKeysD (dFld ["Land"] "lords" (dVar 0))) (gN 2) lt_Land_under_1 le_Land_under_2 [2])))))
def m_Land_under : Den := dDef 3 b_Land_under
def wc_Land_breadth_1 : DT := (tVal (d2 opNe' (dVar 3) (dLst aNil)))
def wb_Land_breadth_2 : DS := (sSeq (sSet 4 (dMeth isLst kLPop (dVar 3) aNil)) (sSeq (sAug 2 (fun i j => i + j) (d2 opGet (dFld ["Land"] "acres_of" (dVar 0)) (dVar 4))) (sExpr (dMeth isLst kExt (dVar 3) (aCons (dMet "under" [("Land", m_Land_under)] (dVar 0) (aCons (dVar 4) aNil)) aNil)))))
def b_Land_breadth : DS := (sSeq (sExpr (dMet "look_at" [("Land", m_Land_look_at)] (dVar 0) (aCons (dVar 1) aNil))) (sSeq (sSet 2 (dC (.int 0))) (sSeq (sSetO 3 (dLst (aCons (dVar 1) aNil))) (sSeq (sWhile wc_Land_breadth_1 wb_Land_breadth_2 fuel) (sRet (dVar 2))))))
def m_Land_breadth : Den := dDef 5 b_Land_breadth
def wc_Land_chain_1 : DT := (tVal (dNotN (dV (d2 opGet (dFld ["Land"] "lords" (dVar 0)) (d2 opIx (dVar 2) (dNeg (dC (.int 1))))))))
def wb_Land_chain_2 : DS := (sExpr (dMeth isLst kApp (dVar 2) (aCons (d2 opGet (dFld ["Land"] "lords" (dVar 0)) (d2 opIx (dVar 2) (dNeg (dC (.int 1))))) aNil)))
def b_Land_chain : DS := (sSeq (sExpr (dMet "look_at" [("Land", m_Land_look_at)] (dVar 0) (aCons (dVar 1) aNil))) (sSeq (sSetO 2 (dLst (aCons (dVar 1) aNil))) (sSeq (sWhile wc_Land_chain_1 wb_Land_chain_2 fuel) (sRetO 2))))
def m_Land_chain : Den := dDef 3 b_Land_chain
def lt_Land_held_1 : DT := (tVal (d2 opEq' (d2 opGet (dFld ["Land"] "holders" (dVar 0)) (dVar 2)) (dVar 1)))
def le_Land_held_2 : DE := (dVar 2)
def b_Land_held : DS := (sRetF (d1 opSorted (dLock (dFld ["Land"] "holders" (dVar 0)) (dLc (iKeysD (dFld ["Land"] "holders" (dVar 0))) (gN 2) lt_Land_held_1 le_Land_held_2 [2]))))
def m_Land_held : Den := dDef 3 b_Land_held
def b_Land_folk : DS := (sRetF (d1 opSortSet (d1 opVals (dFld ["Land"] "holders" (dVar 0)))))
def m_Land_folk : Den := dDef 1 b_Land_folk
def b_Land_grant : DS := (sSeq (sDPutD (dFld ["Land"] "lords" (dVar 0)) (dVar 2) (dVar 1)) (sSeq (sDPutD (dFld ["Land"] "holders" (dVar 0)) (dVar 2) (dVar 3)) (sSeq (sDPutD (dFld ["Land"] "acres_of" (dVar 0)) (dVar 2) (dVar 4)) (sSeq (sDPutD (dFld ["Land"] "services" (dVar 0)) (dVar 2) (dTup (aCons (dVar 5) (aCons (dC (.int 1)) aNil)))) (sDAugD (fun i j => i - j) (dFld ["Land"] "acres_of" (dVar 0)) (dVar 1) (dVar 4))))))
def m_Land_grant : Den := dDef 6 b_Land_grant
def b_Land_part_off : DS := (sSeq (sSet 5 (d2 opGet (dFld ["Land"] "services" (dVar 0)) (dVar 1))) (sSeq (sSet 6 (dCall m_part (aCons (d2 opMul' (d2 opIx (dVar 5) (dC (.int 0))) (dVar 4)) (aCons (d2 opMul' (d2 opIx (dVar 5) (dC (.int 1))) (dMet "breadth" [("Land", m_Land_breadth)] (dVar 0) (aCons (dVar 1) aNil))) aNil)))) (sSeq (sDPutD (dFld ["Land"] "lords" (dVar 0)) (dVar 2) (d2 opGet (dFld ["Land"] "lords" (dVar 0)) (dVar 1))) (sSeq (sDPutD (dFld ["Land"] "holders" (dVar 0)) (dVar 2) (dVar 3)) (sSeq (sDPutD (dFld ["Land"] "acres_of" (dVar 0)) (dVar 2) (dVar 4)) (sSeq (sDPutD (dFld ["Land"] "services" (dVar 0)) (dVar 2) (dVar 6)) (sSeq (sDPutD (dFld ["Land"] "services" (dVar 0)) (dVar 1) (dCall m_minus (aCons (dVar 5) (aCons (dVar 6) aNil)))) (sDAugD (fun i j => i - j) (dFld ["Land"] "acres_of" (dVar 0)) (dVar 1) (dVar 4)))))))))
def m_Land_part_off : Den := dDef 7 b_Land_part_off
def b_Land_convey : DS := (sDPutD (dFld ["Land"] "holders" (dVar 0)) (dVar 1) (dVar 2))
def m_Land_convey : Den := dDef 3 b_Land_convey
def fb_Land_fall_back_1 : DS := (sDPutD (dFld ["Land"] "lords" (dVar 0)) (dVar 3) (dVar 2))
def b_Land_fall_back : DS := (sSeq (sSet 2 (d2 opGet (dFld ["Land"] "lords" (dVar 0)) (dVar 1))) (sSeq (sFor (iLst (dMet "under" [("Land", m_Land_under)] (dVar 0) (aCons (dVar 1) aNil))) (gN 3) fb_Land_fall_back_1) (sSeq (sDAugD (fun i j => i + j) (dFld ["Land"] "acres_of" (dVar 0)) (dVar 2) (dMeth isDct kPop (dFld ["Land"] "acres_of" (dVar 0)) (aCons (dVar 1) aNil))) (sSeq (sExpr (dMeth isDct kPop (dFld ["Land"] "lords" (dVar 0)) (aCons (dVar 1) aNil))) (sSeq (sExpr (dMeth isDct kPop (dFld ["Land"] "holders" (dVar 0)) (aCons (dVar 1) aNil))) (sExpr (dMeth isDct kPop (dFld ["Land"] "services" (dVar 0)) (aCons (dVar 1) aNil))))))))
def m_Land_fall_back : Den := dDef 4 b_Land_fall_back
end MR

set_option Elab.async false
set_option linter.all false
set_option maxRecDepth 100000
/-! The denotations of the defs (printed by gen.py). -/
namespace MR
open PySem
def b__law_book_v2 : DS := (sRetF (dDisp (pCons (dC (.str "lords")) (dAlloc (dDisp (pCons (dC (.str "")) (dC .non) pNil))) (pCons (dC (.str "holders")) (dAlloc (dDisp (pCons (dC (.str "")) (dC (.str "")) pNil))) (pCons (dC (.str "own")) (dAlloc (dDisp (pCons (dC (.str "")) (dVar 0) pNil))) (pCons (dC (.str "due")) (dAlloc (dDisp (pCons (dC (.str "")) (dTup (aCons (dC (.int 0)) (aCons (dC (.int 1)) aNil))) pNil))) (pCons (dC (.str "known")) (dAlloc (dLst aNil)) (pCons (dC (.str "heirs")) (dAlloc (dC (.dK []))) (pCons (dC (.str "dead")) (dAlloc (dLst aNil)) (pCons (dC (.str "lieges")) (dAlloc (dC (.dK []))) pNil))))))))))
def m__law_book_v2 : Den := dDef 1 b__law_book_v2
def lt__law_under_1 : DT := (tVal (d2 opEq' (d2 opGet (d2 opGet (dVar 0) (dC (.str "lords"))) (dVar 2)) (dVar 1)))
def le__law_under_2 : DE := (dVar 2)
def b__law_under : DS := (sRetF (d1 opSorted (dLock (d2 opGet (dVar 0) (dC (.str "lords"))) (dLc (iKeysD (d2 opGet (dVar 0) (dC (.str "lords")))) (gN 2) lt__law_under_1 le__law_under_2 [2]))))
def m__law_under : Den := dDef 3 b__law_under
def lt__law_held_1 : DT := (tVal (d2 opEq' (d2 opGet (d2 opGet (dVar 0) (dC (.str "holders"))) (dVar 2)) (dVar 1)))
def le__law_held_2 : DE := (dVar 2)
def b__law_held : DS := (sRetF (d1 opSorted (dLock (d2 opGet (dVar 0) (dC (.str "holders"))) (dLc (iKeysD (d2 opGet (dVar 0) (dC (.str "holders")))) (gN 2) lt__law_held_1 le__law_held_2 [2]))))
def m__law_held : Den := dDef 3 b__law_held
def lt__law_bound_to_1 : DT := (tVal (d2 opNe' (dVar 2) (dC (.str ""))))
def le__law_bound_to_2 : DE := (d2 opGet (d2 opGet (dVar 0) (dC (.str "holders"))) (d2 opGet (d2 opGet (dVar 0) (dC (.str "lords"))) (dVar 2)))
def b__law_bound_to : DS := (sRetF (dLc (iLst (dCall m__law_held (aCons (dVar 0) (aCons (dVar 1) aNil)))) (gN 2) lt__law_bound_to_1 le__law_bound_to_2 [2]))
def m__law_bound_to : Den := dDef 3 b__law_bound_to
def b__law_why : DS := (sSeq (sSet 2 (d2 opIx (dVar 1) (dC (.int 0)))) (sSeq (sIf (tAnd (tVal (d2 opInG (dVar 2) (dTup (aCons (dC (.str "grant")) (aCons (dC (.str "part")) (aCons (dC (.str "convey")) (aCons (dC (.str "surrender")) aNil))))))) (tVal (d2 opNotInG (d2 opIx (dVar 1) (dC (.int 2))) (d2 opGet (dVar 0) (dC (.str "lords")))))) (sRet (dC (.str "nowhere"))) sNil) (sSeq (sIf (tAnd (tVal (d2 opInG (dVar 2) (dTup (aCons (dC (.str "grant")) (aCons (dC (.str "part")) aNil))))) (tVal (d2 opInG (d2 opIx (dVar 1) (dC (.int 3))) (d2 opGet (dVar 0) (dC (.str "known")))))) (sRet (dC (.str "taken"))) sNil) (sSeq (sSet 3 (d2 opIx (dVar 1) (dC (.int 2)))) (sSeq (sIf (tVal (d2 opInG (dVar 2) (dTup (aCons (dC (.str "grant")) (aCons (dC (.str "part")) aNil))))) (sSet 3 (d2 opIx (dVar 1) (dC (.int 4)))) sNil) (sSeq (sIf (tVal (d2 opEq' (dVar 2) (dC (.str "convey")))) (sSet 3 (d2 opIx (dVar 1) (dC (.int 3)))) sNil) (sSeq (sIf (tAnd (tVal (d2 opNe' (dVar 2) (dC (.str "surrender")))) (tVal (d2 opInG (dVar 3) (d2 opGet (dVar 0) (dC (.str "dead")))))) (sRet (dC (.str "dead"))) sNil) (sSeq (sIf (tAnd (tVal (d2 opInG (dVar 2) (dTup (aCons (dC (.str "grant")) (aCons (dC (.str "part")) aNil))))) (tVal (d2 opGt (d2 opIx (dVar 1) (dC (.int 5))) (d2 opGet (d2 opGet (dVar 0) (dC (.str "own"))) (d2 opIx (dVar 1) (dC (.int 2))))))) (sRet (dC (.str "acres"))) sNil) (sSeq (sIf (tAnd (tVal (d2 opEq' (dVar 2) (dC (.str "liege")))) (tVal (d2 opNotInG (d2 opIx (dVar 1) (dC (.int 3))) (dCall m__law_bound_to (aCons (dVar 0) (aCons (dVar 3) aNil)))))) (sRet (dC (.str "nobond"))) sNil) (sRet (dC (.str "stands"))))))))))))
def m__law_why : Den := dDef 4 b__law_why
def fb__law_fall_1 : DS := (sDPutD (d2 opGet (dVar 0) (dC (.str "lords"))) (dVar 3) (dVar 2))
def b__law_fall : DS := (sSeq (sSet 2 (dMeth isDct kPop (d2 opGet (dVar 0) (dC (.str "lords"))) (aCons (dVar 1) aNil))) (sSeq (sDAugD (fun i j => i + j) (d2 opGet (dVar 0) (dC (.str "own"))) (dVar 2) (dMeth isDct kPop (d2 opGet (dVar 0) (dC (.str "own"))) (aCons (dVar 1) aNil))) (sSeq (sExpr (dMeth isDct kPop (d2 opGet (dVar 0) (dC (.str "holders"))) (aCons (dVar 1) aNil))) (sSeq (sExpr (dMeth isDct kPop (d2 opGet (dVar 0) (dC (.str "due"))) (aCons (dVar 1) aNil))) (sFor (iLst (dCall m__law_under (aCons (dVar 0) (aCons (dVar 1) aNil)))) (gN 3) fb__law_fall_1)))))
def m__law_fall : Den := dDef 4 b__law_fall
def b__law_new : DS := (sSeq (sDPutD (d2 opGet (dVar 0) (dC (.str "lords"))) (d2 opIx (dVar 1) (dC (.int 3))) (dVar 2)) (sSeq (sDPutD (d2 opGet (dVar 0) (dC (.str "holders"))) (d2 opIx (dVar 1) (dC (.int 3))) (d2 opIx (dVar 1) (dC (.int 4)))) (sSeq (sDPutD (d2 opGet (dVar 0) (dC (.str "own"))) (d2 opIx (dVar 1) (dC (.int 3))) (d2 opIx (dVar 1) (dC (.int 5)))) (sSeq (sDPutD (d2 opGet (dVar 0) (dC (.str "due"))) (d2 opIx (dVar 1) (dC (.int 3))) (dVar 3)) (sSeq (sDAugD (fun i j => i - j) (d2 opGet (dVar 0) (dC (.str "own"))) (d2 opIx (dVar 1) (dC (.int 2))) (d2 opIx (dVar 1) (dC (.int 5)))) (sExpr (dMeth isLst kApp (d2 opGet (dVar 0) (dC (.str "known"))) (aCons (d2 opIx (dVar 1) (dC (.int 3))) aNil))))))))
def m__law_new : Den := dDef 4 b__law_new
def b__law_pools : DS := (sSeq (sSet 1 (d2 opIx (dLst (aCons (d2 opAdd (dC (.int 7)) (d2 opMod (d2 opIx (dVar 0) (dC (.int 12))) (dC (.int 200)))) (aCons (d2 opAdd (dC (.int 1)) (d2 opMod (d2 opIx (dVar 0) (dC (.int 12))) (dC (.int 9)))) (aCons (d2 opSub (dC (.int 9999)) (d2 opMod (d2 opIx (dVar 0) (dC (.int 12))) (dC (.int 50)))) (aCons (dC (.int 40)) aNil))))) (d2 opMod (d2 opIx (dVar 0) (dC (.int 13))) (dC (.int 4))))) (sSeq (sSet 2 (dCall m__law_names (aCons (dSl (dVar 0) (oSome (dC (.int 8))) (oSome (dC (.int 12)))) (aCons (dC (.int 9)) aNil)))) (sSeq (sIf (tVal (d2 opEq' (d2 opMod (d2 opDiv (d2 opIx (dVar 0) (dC (.int 13))) (dC (.int 4))) (dC (.int 4))) (dC (.int 3)))) (sRet (dTup (aCons (dSl3 (dVar 2) (oSome (dC (.int 8))) (oSome (dC (.int 2))) (oSome (dNeg (dC (.int 1))))) (aCons (dVar 2) (aCons (dVar 1) aNil))))) sNil) (sRet (dTup (aCons (dCall m__law_names (aCons (dSl (dVar 0) (oSome (dC (.int 4))) (oSome (dC (.int 8)))) (aCons (dC (.int 6)) aNil))) (aCons (dVar 2) (aCons (dVar 1) aNil))))))))
def m__law_pools : Den := dDef 3 b__law_pools
def lt__law_lord_for_1 : DT := (tVal (d2 opNe' (dVar 5) (dVar 2)))
def le__law_lord_for_2 : DE := (dVar 5)
def b__law_lord_for : DS := (sSeq (sSet 4 (dLc (iLst (d2 opAdd (d2 opAdd (d2 opMul' (dCall m__law_bound_to (aCons (dVar 0) (aCons (dVar 2) aNil))) (dC (.int 3))) (dVar 1)) (dLst (aCons (dC (.str "")) aNil)))) (gN 5) lt__law_lord_for_1 le__law_lord_for_2 [5])) (sRet (d2 opIx (dVar 4) (d2 opMod (dVar 3) (d1 opLen (dVar 4))))))
def m__law_lord_for : Den := dDef 6 b__law_lord_for
def lt__law_row_1 : DT := (tVal (d2 opNotInG (dVar 15) (d2 opGet (dVar 0) (dC (.str "known")))))
def le__law_row_2 : DE := (dVar 15)
def lt__law_row_3 : DT := (tVal (d2 opNe' (dVar 15) (dVar 8)))
def le__law_row_4 : DE := (dVar 15)
def b__law_row : DS := (sSeq (sSet 4 (d2 opIx (dVar 1) (dC (.int 0)))) (sSeq (sSet 5 (d2 opIx (dVar 1) (dC (.int 1)))) (sSeq (sSet 6 (d1 opSorted (d1 opListA (d2 opGet (dVar 0) (dC (.str "lords")))))) (sSeq (sSet 7 (d2 opIx (dVar 6) (d2 opMod (d2 opIx (dVar 2) (dC (.int 1))) (d1 opLen (dVar 6))))) (sSeq (sSet 8 (d2 opIx (dVar 4) (d2 opMod (d2 opIx (dVar 2) (dC (.int 2))) (d1 opLen (dVar 4))))) (sSeq (sSet 9 (dLc (iLst (dVar 5)) (gN 15) lt__law_row_1 le__law_row_2 [15])) (sSeq (sSet 10 (d2 opIx (d2 opAdd (dVar 9) (dVar 5)) (d2 opMod (d2 opIx (dVar 2) (dC (.int 3))) (d2 opMax (dC (.int 1)) (d1 opLen (dVar 9)))))) (sSeq (sIf (tVal (d2 opGt (d2 opMod (d2 opIx (dVar 2) (dC (.int 7))) (dC (.int 12))) (dC (.int 9)))) (sSeq (sSet 10 (d2 opIx (dVar 5) (d2 opMod (d2 opIx (dVar 2) (dC (.int 3))) (d1 opLen (dVar 5))))) (sSet 7 (d2 opIx (d2 opAdd (dLst (aCons (dC (.str "")) aNil)) (dVar 5)) (d2 opMod (d2 opIx (dVar 2) (dC (.int 1))) (dC (.int 10)))))) sNil) (sSeq (sSet 11 (dMeth isDct kGet (d2 opGet (dVar 0) (dC (.str "own"))) (aCons (dVar 7) (aCons (dC (.int 0)) aNil)))) (sSeq (sSet 12 (d2 opAdd (dC (.int 1)) (d2 opMod (d2 opIx (dVar 2) (dC (.int 4))) (d2 opMax (dC (.int 1)) (dVar 11))))) (sSeq (sIf (tVal (d2 opEq' (d2 opMod (d2 opIx (dVar 2) (dC (.int 7))) (dC (.int 12))) (dC (.int 9)))) (sSet 12 (d2 opMin (dC (.int 9999)) (d2 opAdd (d2 opAdd (dVar 11) (dC (.int 1))) (d2 opMod (d2 opIx (dVar 2) (dC (.int 4))) (dC (.int 2)))))) sNil) (sSeq (sSet 13 (d2 opMod (d2 opIx (dVar 2) (dC (.int 0))) (dC (.int 13)))) (sSeq (sIf (tOr (tVal (d2 opLt (dVar 13) (dC (.int 4)))) (tAnd (tVal (d2 opEq' (dVar 7) (dC (.str "")))) (tVal (d2 opInG (dVar 13) (dTup (aCons (dC (.int 4)) (aCons (dC (.int 5)) (aCons (dC (.int 6)) (aCons (dC (.int 9)) (aCons (dC (.int 12)) aNil)))))))))) (sRet (dTup (aCons (dC (.str "grant")) (aCons (dVar 3) (aCons (dVar 7) (aCons (dVar 10) (aCons (dVar 8) (aCons (dVar 12) (aCons (d2 opIx (dLst (aCons (dC (.int 0)) (aCons (dC (.int 1)) (aCons (d2 opMod (d2 opIx (dVar 2) (dC (.int 5))) (dC (.int 30))) (aCons (d2 opSub (dC (.int 9999)) (d2 opMod (d2 opIx (dVar 2) (dC (.int 5))) (dC (.int 9)))) aNil))))) (d2 opMod (d2 opIx (dVar 2) (dC (.int 6))) (dC (.int 4)))) aNil))))))))) sNil) (sSeq (sIf (tOr (tVal (d2 opEq' (dVar 13) (dC (.int 4)))) (tVal (d2 opEq' (dVar 13) (dC (.int 12))))) (sRet (dTup (aCons (dC (.str "part")) (aCons (dVar 3) (aCons (dVar 7) (aCons (dVar 10) (aCons (dVar 8) (aCons (dVar 12) aNil)))))))) sNil) (sSeq (sIf (tVal (d2 opLt (dVar 13) (dC (.int 7)))) (sRet (dTup (aCons (dC (.str "convey")) (aCons (dVar 3) (aCons (dVar 7) (aCons (dVar 8) aNil)))))) sNil) (sSeq (sIf (tOr (tVal (d2 opEq' (dVar 13) (dC (.int 7)))) (tVal (d2 opEq' (dVar 13) (dC (.int 11))))) (sSeq (sSet 14 (dLc (iLst (dVar 4)) (gN 15) lt__law_row_3 le__law_row_4 [15])) (sRet (dTup (aCons (dC (.str "heir")) (aCons (dVar 3) (aCons (dVar 8) (aCons (d2 opIx (dVar 14) (d2 opMod (d2 opIx (dVar 2) (dC (.int 3))) (d1 opLen (dVar 14)))) aNil))))))) sNil) (sSeq (sIf (tVal (d2 opEq' (dVar 13) (dC (.int 8)))) (sRet (dTup (aCons (dC (.str "liege")) (aCons (dVar 3) (aCons (dVar 8) (aCons (dCall m__law_lord_for (aCons (dVar 0) (aCons (dVar 4) (aCons (dVar 8) (aCons (d2 opIx (dVar 2) (dC (.int 3))) aNil))))) aNil)))))) sNil) (sSeq (sIf (tVal (d2 opEq' (dVar 13) (dC (.int 9)))) (sRet (dTup (aCons (dC (.str "surrender")) (aCons (dVar 3) (aCons (dVar 7) aNil))))) sNil) (sRet (dTup (aCons (dC (.str "death")) (aCons (dVar 3) (aCons (dVar 8) aNil)))))))))))))))))))))))
def m__law_row : Den := dDef 16 b__law_row
end MR

set_option Elab.async false
set_option linter.all false
set_option maxRecDepth 100000
/-! The denotations of the defs (printed by gen.py). -/
namespace MR
open PySem
def wc__law_breadth_1 : DT := (tVal (d2 opNe' (dVar 3) (dLst aNil)))
def wb__law_breadth_2 : DS := (sSeq (sSet 2 (d2 opAdd (dVar 2) (d2 opGet (d2 opGet (dVar 0) (dC (.str "own"))) (d2 opIx (dVar 3) (dC (.int 0)))))) (sSet 3 (d2 opAdd (dSl (dVar 3) (oSome (dC (.int 1))) oNone) (dCall m__law_under (aCons (dVar 0) (aCons (d2 opIx (dVar 3) (dC (.int 0))) aNil))))))
def b__law_breadth : DS := (sSeq (sSet 2 (d2 opGet (d2 opGet (dVar 0) (dC (.str "own"))) (dVar 1))) (sSeq (sSet 3 (dCall m__law_under (aCons (dVar 0) (aCons (dVar 1) aNil)))) (sSeq (sWhile wc__law_breadth_1 wb__law_breadth_2 fuel) (sRet (dVar 2)))))
def m__law_breadth : Den := dDef 4 b__law_breadth
def fb__law_do_1 : DS := (sIf (tVal (dIsN (dV (dVar 4)))) (sExpr (dCall m__law_fall (aCons (dVar 0) (aCons (dVar 5) aNil)))) (sDPutD (d2 opGet (dVar 0) (dC (.str "holders"))) (dVar 5) (dVar 4)))
def b__law_do : DS := (sSeq (sIf (tVal (d2 opEq' (d2 opIx (dVar 1) (dC (.int 0))) (dC (.str "grant")))) (sExpr (dCall m__law_new (aCons (dVar 0) (aCons (dVar 1) (aCons (d2 opIx (dVar 1) (dC (.int 2))) (aCons (dTup (aCons (d2 opIx (dVar 1) (dC (.int 6))) (aCons (dC (.int 1)) aNil))) aNil)))))) sNil) (sSeq (sIf (tVal (d2 opEq' (d2 opIx (dVar 1) (dC (.int 0))) (dC (.str "part")))) (sSeq (sSet 2 (d2 opGet (d2 opGet (dVar 0) (dC (.str "due"))) (d2 opIx (dVar 1) (dC (.int 2))))) (sSeq (sSet 3 (dCall m__law_breadth (aCons (dVar 0) (aCons (d2 opIx (dVar 1) (dC (.int 2))) aNil)))) (sSeq (sExpr (dCall m__law_new (aCons (dVar 0) (aCons (dVar 1) (aCons (d2 opGet (d2 opGet (dVar 0) (dC (.str "lords"))) (d2 opIx (dVar 1) (dC (.int 2)))) (aCons (dCall m__law_low (aCons (d2 opMul' (d2 opIx (dVar 2) (dC (.int 0))) (d2 opIx (dVar 1) (dC (.int 5)))) (aCons (d2 opMul' (d2 opIx (dVar 2) (dC (.int 1))) (dVar 3)) aNil))) aNil)))))) (sDPutD (d2 opGet (dVar 0) (dC (.str "due"))) (d2 opIx (dVar 1) (dC (.int 2))) (dCall m__law_low (aCons (d2 opMul' (d2 opIx (dVar 2) (dC (.int 0))) (d2 opSub (dVar 3) (d2 opIx (dVar 1) (dC (.int 5))))) (aCons (d2 opMul' (d2 opIx (dVar 2) (dC (.int 1))) (dVar 3)) aNil))))))) sNil) (sSeq (sIf (tVal (d2 opEq' (d2 opIx (dVar 1) (dC (.int 0))) (dC (.str "convey")))) (sDPutD (d2 opGet (dVar 0) (dC (.str "holders"))) (d2 opIx (dVar 1) (dC (.int 2))) (d2 opIx (dVar 1) (dC (.int 3)))) sNil) (sSeq (sIf (tVal (d2 opEq' (d2 opIx (dVar 1) (dC (.int 0))) (dC (.str "surrender")))) (sExpr (dCall m__law_fall (aCons (dVar 0) (aCons (d2 opIx (dVar 1) (dC (.int 2))) aNil)))) sNil) (sSeq (sIf (tVal (d2 opEq' (d2 opIx (dVar 1) (dC (.int 0))) (dC (.str "heir")))) (sDPutD (d2 opGet (dVar 0) (dC (.str "heirs"))) (d2 opIx (dVar 1) (dC (.int 2))) (d2 opIx (dVar 1) (dC (.int 3)))) sNil) (sSeq (sIf (tVal (d2 opEq' (d2 opIx (dVar 1) (dC (.int 0))) (dC (.str "liege")))) (sDPutD (d2 opGet (dVar 0) (dC (.str "lieges"))) (d2 opIx (dVar 1) (dC (.int 2))) (d2 opIx (dVar 1) (dC (.int 3)))) sNil) (sIf (tVal (d2 opEq' (d2 opIx (dVar 1) (dC (.int 0))) (dC (.str "death")))) (sSeq (sExpr (dMeth isLst kApp (d2 opGet (dVar 0) (dC (.str "dead"))) (aCons (d2 opIx (dVar 1) (dC (.int 2))) aNil))) (sSeq (sSet 4 (dCall m__law_taker (aCons (dVar 0) (aCons (d2 opIx (dVar 1) (dC (.int 2))) aNil)))) (sFor (iLst (dCall m__law_held (aCons (dVar 0) (aCons (d2 opIx (dVar 1) (dC (.int 2))) aNil)))) (gN 5) fb__law_do_1))) sNil)))))))
def m__law_do : Den := dDef 6 b__law_do
def wc__law_chain_1 : DT := (tVal (d2 opNe' (d2 opIx (dVar 2) (dNeg (dC (.int 1)))) (dC (.str ""))))
def wb__law_chain_2 : DS := (sExpr (dMeth isLst kApp (dVar 2) (aCons (d2 opGet (d2 opGet (dVar 0) (dC (.str "lords"))) (d2 opIx (dVar 2) (dNeg (dC (.int 1))))) aNil)))
def b__law_chain : DS := (sSeq (sSetO 2 (dLst (aCons (dVar 1) aNil))) (sSeq (sWhile wc__law_chain_1 wb__law_chain_2 fuel) (sRetO 2)))
def m__law_chain : Den := dDef 3 b__law_chain
def b__law_estate_is : DS := (sSeq (sSet 3 (dTup (aCons (dMet "holder" [("Land", m_Land_holder)] (dVar 0) (aCons (dVar 2) aNil)) (aCons (dMet "lord" [("Land", m_Land_lord)] (dVar 0) (aCons (dVar 2) aNil)) (aCons (dMet "own" [("Land", m_Land_own)] (dVar 0) (aCons (dVar 2) aNil)) (aCons (dMet "breadth" [("Land", m_Land_breadth)] (dVar 0) (aCons (dVar 2) aNil)) (aCons (dMet "service" [("Land", m_Land_service)] (dVar 0) (aCons (dVar 2) aNil)) aNil))))))) (sSeq (sSet 4 (dTup (aCons (d2 opGet (d2 opGet (dVar 1) (dC (.str "holders"))) (dVar 2)) (aCons (d2 opGet (d2 opGet (dVar 1) (dC (.str "lords"))) (dVar 2)) (aCons (d2 opGet (d2 opGet (dVar 1) (dC (.str "own"))) (dVar 2)) (aCons (dCall m__law_breadth (aCons (dVar 1) (aCons (dVar 2) aNil))) aNil)))))) (sSeq (sIf (tNot (tVal (dCall m__law_same (aCons (dVar 3) (aCons (d2 opAdd (dVar 4) (dTup (aCons (d2 opGet (d2 opGet (dVar 1) (dC (.str "due"))) (dVar 2)) aNil))) aNil))))) (sRet (dC (.bl false))) sNil) (sSeq (sIf (tOr (tNot (tVal (dCall m__law_same (aCons (dMet "chain" [("Land", m_Land_chain)] (dVar 0) (aCons (dVar 2) aNil)) (aCons (dCall m__law_chain (aCons (dVar 1) (aCons (dVar 2) aNil))) aNil))))) (tNot (tVal (dCall m__law_same (aCons (dMet "there" [("Land", m_Land_there)] (dVar 0) (aCons (dVar 2) aNil)) (aCons (dC (.bl true)) aNil)))))) (sRet (dC (.bl false))) sNil) (sRet (dCall m__law_same (aCons (dMet "under" [("Land", m_Land_under)] (dVar 0) (aCons (dVar 2) aNil)) (aCons (dCall m__law_under (aCons (dVar 1) (aCons (dVar 2) aNil))) aNil))))))))
def m__law_estate_is : Den := dDef 5 b__law_estate_is
def lt__law_land_is_1 : DT := (tVal (d2 opNe' (dVar 4) (dC (.str ""))))
def le__law_land_is_2 : DE := (dVar 4)
def le__law_land_is_3 : DE := (dCall m__law_same (aCons (dMet "held" [("Land", m_Land_held)] (dVar 0) (aCons (dVar 5) aNil)) (aCons (dCall m__law_held (aCons (dVar 1) (aCons (dVar 5) aNil))) aNil)))
def le__law_land_is_4 : DE := (dCall m__law_estate_is (aCons (dVar 0) (aCons (dVar 1) (aCons (dVar 6) aNil))))
def b__law_land_is : DS := (sSeq (sSet 2 (d1 opSorted (dLock (d2 opGet (dVar 1) (dC (.str "lords"))) (dLc (iKeysD (d2 opGet (dVar 1) (dC (.str "lords")))) (gN 4) lt__law_land_is_1 le__law_land_is_2 [4])))) (sSeq (sSet 3 (d1 opSortSet (d1 opVals (d2 opGet (dVar 1) (dC (.str "holders")))))) (sSeq (sIf (tOr (tNot (tVal (dCall m__law_same (aCons (dMet "estates" [("Land", m_Land_estates)] (dVar 0) aNil) (aCons (dVar 2) aNil))))) (tNot (tVal (dCall m__law_same (aCons (dMet "folk" [("Land", m_Land_folk)] (dVar 0) aNil) (aCons (dVar 3) aNil)))))) (sRet (dC (.bl false))) sNil) (sSeq (sIf (tNot (tVal (d1 opAll (dLc (iLst (dVar 3)) (gN 5) tTrue le__law_land_is_3 [5])))) (sRet (dC (.bl false))) sNil) (sRet (d1 opAll (dLc (iLst (d2 opAdd (dLst (aCons (dC (.str "")) aNil)) (dVar 2))) (gN 6) tTrue le__law_land_is_4 [6])))))))
def m__law_land_is : Den := dDef 7 b__law_land_is
def b__law_land_do : DS := (sSeq (sIf (tVal (d2 opEq' (d2 opIx (dVar 1) (dC (.int 0))) (dC (.str "grant")))) (sRet (dMet "grant" [("Land", m_Land_grant)] (dVar 0) (aCons (d2 opIx (dVar 1) (dC (.int 2))) (aCons (d2 opIx (dVar 1) (dC (.int 3))) (aCons (d2 opIx (dVar 1) (dC (.int 4))) (aCons (d2 opIx (dVar 1) (dC (.int 5))) (aCons (d2 opIx (dVar 1) (dC (.int 6))) aNil))))))) sNil) (sSeq (sIf (tVal (d2 opEq' (d2 opIx (dVar 1) (dC (.int 0))) (dC (.str "part")))) (sRet (dMet "part_off" [("Land", m_Land_part_off)] (dVar 0) (aCons (d2 opIx (dVar 1) (dC (.int 2))) (aCons (d2 opIx (dVar 1) (dC (.int 3))) (aCons (d2 opIx (dVar 1) (dC (.int 4))) (aCons (d2 opIx (dVar 1) (dC (.int 5))) aNil)))))) sNil) (sSeq (sIf (tVal (d2 opEq' (d2 opIx (dVar 1) (dC (.int 0))) (dC (.str "convey")))) (sRet (dMet "convey" [("Land", m_Land_convey)] (dVar 0) (aCons (d2 opIx (dVar 1) (dC (.int 2))) (aCons (d2 opIx (dVar 1) (dC (.int 3))) aNil)))) sNil) (sSeq (sIf (tVal (d2 opEq' (d2 opIx (dVar 1) (dC (.int 0))) (dC (.str "surrender")))) (sRet (dMet "fall_back" [("Land", m_Land_fall_back)] (dVar 0) (aCons (d2 opIx (dVar 1) (dC (.int 2))) aNil))) sNil) (sRet (dC .non))))))
def m__law_land_do : Den := dDef 2 b__law_land_do
def lt__law_some_deed_1 : DT := (tVal (d2 opNotInG (dVar 5) (d2 opGet (dVar 0) (dC (.str "known")))))
def le__law_some_deed_2 : DE := (dVar 5)
def b__law_some_deed : DS := (sSeq (sSet 3 (dCall m__law_row (aCons (dVar 0) (aCons (dVar 1) (aCons (dVar 2) (aCons (dC (.int 0)) aNil)))))) (sSeq (sIf (tVal (d2 opInG (d2 opIx (dVar 3) (dC (.int 0))) (dTup (aCons (dC (.str "heir")) (aCons (dC (.str "liege")) (aCons (dC (.str "death")) aNil)))))) (sSeq (sSet 3 (dTup (aCons (dC (.str "grant")) (aCons (dC (.int 0)) (aCons (d2 opIx (d1 opSorted (d1 opListA (d2 opGet (dVar 0) (dC (.str "lords"))))) (d2 opMod (d2 opIx (dVar 2) (dC (.int 1))) (d1 opLen (d2 opGet (dVar 0) (dC (.str "lords")))))) (aCons (d2 opIx (dVar 3) (dC (.int 2))) (aCons (d2 opIx (d2 opIx (dVar 1) (dC (.int 0))) (d2 opMod (d2 opIx (dVar 2) (dC (.int 2))) (dC (.int 6)))) (aCons (dC (.int 1)) (aCons (dC (.int 2)) aNil))))))))) (sSeq (sSet 4 (dLc (iLst (d2 opIx (dVar 1) (dC (.int 1)))) (gN 5) lt__law_some_deed_1 le__law_some_deed_2 [5])) (sSet 3 (d2 opAdd (d2 opAdd (dSl (dVar 3) oNone (oSome (dC (.int 3)))) (dTup (aCons (d2 opIx (d2 opAdd (dVar 4) (d2 opIx (dVar 1) (dC (.int 1)))) (dC (.int 0))) aNil))) (dSl (dVar 3) (oSome (dC (.int 4))) oNone))))) sNil) (sRet (dVar 3))))
def m__law_some_deed : Den := dDef 6 b__law_some_deed
def lt__law_steered_1 : DT := (tVal (d2 opNotInG (dVar 9) (d2 opGet (dVar 0) (dC (.str "known")))))
def le__law_steered_2 : DE := (dVar 9)
def lt__law_steered_3 : DT := (tVal (d2 opNe' (dVar 9) (dC (.str ""))))
def le__law_steered_4 : DE := (dVar 9)
def b__law_steered : DS := (sSeq (sSet 4 (dLc (iLst (d2 opIx (dVar 1) (dC (.int 1)))) (gN 9) lt__law_steered_1 le__law_steered_2 [9])) (sSeq (sLock (d2 opGet (dVar 0) (dC (.str "lords"))) (sSet 5 (dLc (iKeysD (d2 opGet (dVar 0) (dC (.str "lords")))) (gN 9) lt__law_steered_3 le__law_steered_4 [9]))) (sSeq (sSet 6 (dCall m__law_some_deed (aCons (dVar 0) (aCons (dVar 1) (aCons (dVar 2) aNil))))) (sSeq (sIf (tOr (tVal (d2 opInG (d2 opIx (dVar 6) (dC (.int 0))) (dVar 3))) (tVal (d2 opEq' (dVar 5) (dLst aNil)))) (sRet (dVar 6)) sNil) (sSeq (sSet 7 (d2 opIx (dVar 5) (d2 opMod (d2 opIx (dVar 2) (dC (.int 1))) (d1 opLen (dVar 5))))) (sSeq (sSet 8 (d2 opIx (d2 opIx (dVar 1) (dC (.int 0))) (d2 opMod (d2 opIx (dVar 2) (dC (.int 2))) (dC (.int 6))))) (sSeq (sIf (tAnd (tVal (d2 opEq' (d2 opIx (dVar 3) (d2 opMod (d2 opIx (dVar 2) (dC (.int 0))) (d1 opLen (dVar 3)))) (dC (.str "part")))) (tVal (d2 opNe' (dVar 4) (dLst aNil)))) (sRet (dTup (aCons (dC (.str "part")) (aCons (dC (.int 0)) (aCons (dVar 7) (aCons (d2 opIx (dVar 4) (dC (.int 0))) (aCons (dVar 8) (aCons (d2 opAdd (dC (.int 1)) (d2 opMod (d2 opIx (dVar 2) (dC (.int 4))) (d2 opMax (dC (.int 1)) (d2 opGet (d2 opGet (dVar 0) (dC (.str "own"))) (dVar 7))))) aNil)))))))) sNil) (sSeq (sIf (tVal (d2 opEq' (d2 opIx (dVar 3) (d2 opMod (d2 opIx (dVar 2) (dC (.int 0))) (d1 opLen (dVar 3)))) (dC (.str "convey")))) (sRet (dTup (aCons (dC (.str "convey")) (aCons (dC (.int 0)) (aCons (dVar 7) (aCons (dVar 8) aNil)))))) sNil) (sSeq (sIf (tVal (d2 opEq' (d2 opIx (dVar 3) (d2 opMod (d2 opIx (dVar 2) (dC (.int 0))) (d1 opLen (dVar 3)))) (dC (.str "surrender")))) (sRet (dTup (aCons (dC (.str "surrender")) (aCons (dC (.int 0)) (aCons (dVar 7) aNil))))) sNil) (sRet (dVar 6)))))))))))
def m__law_steered : Den := dDef 10 b__law_steered
def b__law_let_by : DS := (sRet (vAnd (d2 opInG (d2 opIx (dVar 1) (dC (.int 0))) (dTup (aCons (dC (.str "grant")) (aCons (dC (.str "part")) (aCons (dC (.str "convey")) (aCons (dC (.str "surrender")) aNil)))))) (d2 opEq' (dCall m__law_why (aCons (dVar 0) (aCons (dVar 1) aNil))) (dC (.str "stands")))))
def m__law_let_by : Den := dDef 2 b__law_let_by
def fb__law_played_1 : DS := (sSeq (sSet 8 (dCall m__law_steered (aCons (dVar 1) (aCons (dVar 2) (aCons (dSl (dVar 3) (oSome (d2 opAdd (dVar 4) (d2 opMul' (dC (.int 8)) (dVar 7)))) (oSome (d2 opAdd (d2 opAdd (dVar 4) (d2 opMul' (dC (.int 8)) (dVar 7))) (dC (.int 8))))) (aCons (dVar 6) aNil)))))) (sIf (tVal (dCall m__law_let_by (aCons (dVar 1) (aCons (dVar 8) aNil)))) (sSeq (sIf (tVal (dNotN (dV (dCall m__law_land_do (aCons (dVar 0) (aCons (dVar 8) aNil)))))) (sRet (dC (.bl false))) sNil) (sExpr (dCall m__law_do (aCons (dVar 1) (aCons (dVar 8) aNil))))) sNil))
def b__law_played : DS := (sSeq (sFor (iRan1 (dVar 5)) (gN 7) fb__law_played_1) (sRet (dC (.bl true))))
def m__law_played : Den := dDef 9 b__law_played
end MR

set_option Elab.async false
set_option linter.all false
set_option maxRecDepth 100000
/-! MR25: try .. except C as e, isinstance(e, D). -/
namespace MR
open PySem PySem.Spec PyProof.Rows L2
/-- the tree of the refusals: all are LandErrors, and so ValueErrors -/
def excSub (a b : String) : Bool := a == b || (b == "LandError" || b == "ValueError")
open Classical in
/-- rs: the classes that the body can raise; the suite's answer is the same at every address of the exception -/
noncomputable def sTry (rs : List String) (fb : DS) (c : String) (i : Nat) (fs : Addr → Exn → DS) : DS := fun σ S => match fb σ S with
  | .ok f σ1 S1 => .ok f σ1 S1
  | .exc e σ1 S1 => if e.c ∈ rs ∧ e.x = none then
      if excSub e.c c = true then
        if ∃ f σ2 S2, ∀ a, ∃ σ3, fs a e (σ1.set i (.exn a)) S1 = .ok f σ3 S2 ∧ σ3.set i .emp = σ2 then
          match fs 0 e (σ1.set i (.exn 0)) S1 with
          | .ok .next σ3 S2 => .ok .next (σ3.set i .emp) S2
          | .ok (.ret w) σ3 S2 => .ok (.ret w) (σ3.set i .emp) S2
          | _ => .fail
        else .fail
      else .exc e σ1 S1
    else .fail
  | .fail => .fail
section
variable {X : Cx} {Wx : WX} {fr : Bool}
theorem RB.setX {K : PySem.W.Frag} {F I : Hp} {ρ : List Addr} {S : Sto} {H : Hp} {σV : L2.St} {σ : Sl} (rb : RB K F I ρ S H σV σ) {i : Nat} {x : Option V} {sl : Slot} (hs : sl = .emp ∨ ∃ a, sl = .exn a ∧ x = some (.ref a)) : RB K F I ρ S H (σV.set i x) (σ.set i sl) := by
  have no : ∀ {j : Nat} {c : D}, (σ.set i sl)[j]? = some (.own c) → i ≠ j := fun {j c} h e => by
    subst e
    have lt : i < (σ.set i sl).length := (List.getElem?_eq_some_iff.mp h).1
    rw [List.length_set] at lt
    rw [List.getElem?_set_self lt] at h
    cases h
    rcases hs with z | ⟨a, z, _⟩ <;> cases z
  refine ⟨rb.fr, rb.sub, rb.dis, rb.store, rb.nd, rb.rl, by rw [List.length_set, List.length_set]; exact rb.len, fun j s h => ?_, fun j k c c' u h1 h2 h3 h4 => ?_⟩
  · by_cases e : i = j
    · subst e
      have lt : i < (σ.set i sl).length := (List.getElem?_eq_some_iff.mp h).1
      rw [List.length_set] at lt
      rw [List.getElem?_set_self lt] at h
      cases h
      rcases hs with rfl | ⟨a, rfl, rfl⟩
      · trivial
      · exact List.getElem?_set_self (by rw [← rb.len]; exact lt)
    · rw [List.getElem?_set_ne e] at h
      have q := rb.slot j s h
      cases s with
      | emp => trivial
      | exn b => exact (List.getElem?_set_ne e).trans q
      | val w => obtain ⟨v, hv, r⟩ := q; exact ⟨v, by rw [List.getElem?_set_ne e]; exact hv, r⟩
      | own c => obtain ⟨a, ha, q⟩ := q; exact ⟨a, by rw [List.getElem?_set_ne e]; exact ha, q⟩
  · have n1 := no h1
    have n2 := no h2
    rw [List.getElem?_set_ne n1] at h1 h3
    rw [List.getElem?_set_ne n2] at h2 h4
    exact rb.inj j k c c' u h1 h2 h3 h4
theorem cs_try {rs : List String} {c : String} {cv : Value} {i : Nat} {n : Str} {body suite : List Stmt} {b₀ : Stmt} {np pos pos' : Pos} {fb : DS} {fs : Addr → Exn → DS} (hs : X.stack = X.env :: X.outer) (hf : X.env.frame = some X.env.locals) (hN : X.N.Nodup) (hi : X.N[i]? = some n) (hln : X.env.kindOf n = some .local)
    (hc : Names X (Str.ofString c) cv) (tk : Takes X Wx) (hx : ∀ r ∈ rs, PySem.W.exmOne X.K (.ref (ca X.K r)) cv = some (excSub r c))
    (hb : ∀ (W : WX) (pn : List (Addr × Obj)) (xe : Value → Shared → Prop), Takes (X.tr pn xe) W → PassesOwn (model X.prog X.w) X.A X.env xe → SSs fr (X.tr pn xe) W body fb)
    (hsu : ∀ (a : Addr) (oe : Obj) (r : String) (pn : List (Addr × Obj)), r ∈ rs → Zc (.ref (ca X.K r)) none oe → (∃ vs, oe.data = .fields vs) → SSs fr (X.suite a ((a, oe) :: pn)) W0 (b₀ :: suite) (fs a ⟨r, none⟩)) :
    SS fr X Wx (.Try body [.ExceptHandler (some (.Name (Str.ofString c) np)) (some n) (b₀ :: suite) pos'] [] [] pos) (sTry rs fb c i fs) := by
  refine PS.imp (ps_try_as (tb := fun W => semS fr X.K W fb) (ts := fun a cls d D σ H => ∃ r, r ∈ rs ∧ cls = .ref (ca X.K r) ∧ d = none ∧ semS fr X.K W0 (fs a ⟨r, none⟩) D σ H) hs hf hN hi hln hc tk hb (fun a oe cls d pn hz hv => ⟨fun pins s σ H D I h => by
    obtain ⟨r, hr, rfl, rfl, h⟩ := h
    exact (hsu a oe r pn hr hz hv).run pins s σ H D I h⟩)) fun D σV H h => ?_
  obtain ⟨F, I, ρ, σ, S, rb, h⟩ := h
  refine ⟨F, I, ρ, σ, S, rb, ?_⟩
  unfold sTry at h
  cases hfb : fb σ S with
  | ok f σ1 S1 =>
    rw [hfb] at h
    cases f <;> exact h
  | fail => rw [hfb] at h; exact h
  | exc e σ1 S1 =>
    rw [hfb] at h
    dsimp only at h
    by_cases h1 : e.c ∈ rs ∧ e.x = none
    · rw [if_pos h1] at h
      obtain ⟨hr, hxn⟩ := h1
      obtain ⟨ec, ex⟩ := e
      have hxn : ex = none := hxn
      subst hxn
      have hr : ec ∈ rs := hr
      intro I' ρ' H' d σV' g rb' hd
      have hd : d = none := hd
      subst hd
      refine ⟨excSub ec c, hx ec hr, fun hb1 a na => ?_, fun hb1 => ?_⟩
      · rw [if_pos (show excSub (Exn.mk ec none).c c = true from hb1)] at h
        by_cases h2 : ∃ f σ2 S2, ∀ a, ∃ σ3, fs a ⟨ec, none⟩ (σ1.set i (.exn a)) S1 = .ok f σ3 S2 ∧ σ3.set i .emp = σ2
        · rw [if_pos h2] at h
          obtain ⟨f, σ2, S2, hall⟩ := h2
          obtain ⟨σ3, e3, q3⟩ := hall 0
          obtain ⟨σ4, e4, q4⟩ := hall a
          rw [e3] at h
          refine ⟨ec, hr, rfl, rfl, F, I', ρ', σ1.set i (.exn a), S1, rb'.setX (.inr ⟨a, rfl, rfl⟩), ?_⟩
          rw [e4]
          cases f with
          | next =>
            intro I2 ρ2 H2 σV2 g2 rb2
            refine h I2 ρ2 H2 (σV2.set i none) (g.trans g2) ?_
            rw [q3, ← q4]
            exact rb2.setX (.inl rfl)
          | ret w =>
            intro I2 ρ2 H2 v g2 rb2 t
            exact h I2 ρ2 H2 v (g.trans g2) rb2 t
          | brk => exact h.elim
          | cnt => exact h.elim
        · rw [if_neg h2] at h
          exact h.elim
      · rw [if_neg (show ¬ excSub (Exn.mk ec none).c c = true by rw [hb1]; decide)] at h
        exact h I' ρ' H' none σV' g rb' rfl
    · rw [if_neg h1] at h
      exact h.elim
end
end MR

set_option Elab.async false
set_option linter.all false
set_option maxRecDepth 100000
/-! MR26: isinstance(e, C) of a caught exception. -/
namespace MR
open PySem PySem.Spec PyProof.Rows L2
def dIsE (a : Addr) (i : Nat) (r c : String) : DE := fun σ S => match σ[i]? with
  | some (.exn b) => if b = a then .ok (.bl (excSub r c)) σ S else .fail
  | _ => .fail
section
variable {X : Cx} {Wx : WX}
theorem sem_isE {a : Addr} {i : Nat} {r c : String} {cl : V} {cv : Value} {σV : L2.St} {H : Hp} {Q : VK} (hcv : ∀ u, RelV cl u → u = cv) (hk : PySem.W.kitOne X.K (.ref (ca X.K r)) cv = some (excSub r c)) (h : semE X.K Wx (dIsE a i r c) σV H Q) :
    tCB (rIsE X.K (ca X.K r) a) (tCons (tVar i) (tCons (tC cl) tNil)) σV H Q := by
  obtain ⟨F, I, ρ, σ, S, rb, h⟩ := h
  unfold dIsE at h
  split at h
  · rename_i b hb
    by_cases e : b = a
    · subst e
      rw [if_pos rfl] at h
      have hv : σV[i]? = some (some (.ref b)) := rb.slot i _ hb
      exact ⟨_, hv, cl, cv, excSub r c, rfl, hcv, hk, h I ρ H _ Gr.refl rb (.inr .bl)⟩
    · rw [if_neg e] at h; exact h.elim
  · exact h.elim
/-- an own class -/
theorem c_isE {a : Addr} {oe : Obj} {pn : List (Addr × Obj)} {i : Nat} {n : Str} {r c : String} {p q q2 pos : Pos} (C : ExcC X.K (ca X.K r)) (hz : Zc (.ref (ca X.K r)) none oe) (hf : ∃ vs, oe.data = .fields vs) (hk : PySem.W.kitOne X.K (.ref (ca X.K r)) (.ref (ca X.K c)) = some (excSub r c))
    (hm : X.mg "isinstance" = none) (hc : X.mg (Str.ofString c) = some (.ref (ca X.K c))) (hN : X.N[i]? = some n := by rfl) (hv : Vis X.env.scope n := by first | exact Or.inl rfl | exact Or.inr (Or.inl rfl) | exact Or.inr (Or.inr rfl)) (hd : (n == ("__debug__" : Str)) = false := by decide) (hcd : (n == ("__classdict__" : Str)) = false := by decide)
    (hg : Gl X "isinstance" := by rfl) (hg2 : Gl X (Str.ofString c) := by rfl) (hdb : (Str.ofString c == ("__debug__" : Str)) = false := by decide)
    (he : starEach [.Name n q, .Name (Str.ofString c) q2] X.env = (false, eval (.Name n q) X.env) :: starEach [.Name (Str.ofString c) q2] X.env := by rfl) (hpl : (backTo pos (starEach [.Name (Str.ofString c) q2] X.env)).any (·.1) = false := by rfl) :
    SE (X.suite a ((a, oe) :: pn)) Wx (.Call (.Name "isinstance" p) [.Name n q, .Name (Str.ofString c) q2] [] pos) (dIsE a i r c) :=
  PE.imp (pe_callB (call_isE C hz hf) hg hm (by decide +kernel) (pa_cons (pe_var hN hv hd hcd) (pa_cons (pe_glob (v := .ref (ca X.K c)) hg2 hc rfl hdb) pa_nil) he) (by decide) (by decide) he hpl) fun _ _ _ h => sem_isE (X := X) (cv := .ref (ca X.K c)) (fun u ru => by cases ru; rfl) hk h
/-- a built-in class -/
theorem c_isEb {a : Addr} {oe : Obj} {pn : List (Addr × Obj)} {i : Nat} {n : Str} {r c : String} {p q q2 pos : Pos} (C : ExcC X.K (ca X.K r)) (hz : Zc (.ref (ca X.K r)) none oe) (hf : ∃ vs, oe.data = .fields vs) (hk : PySem.W.kitOne X.K (.ref (ca X.K r)) (.type c) = some (excSub r c))
    (hm : X.mg "isinstance" = none) (hc : X.mg (Str.ofString c) = none) (hb : bootBuiltins (Str.ofString c) = some (.type c) := by decide +kernel) (hN : X.N[i]? = some n := by rfl) (hv : Vis X.env.scope n := by first | exact Or.inl rfl | exact Or.inr (Or.inl rfl) | exact Or.inr (Or.inr rfl)) (hd : (n == ("__debug__" : Str)) = false := by decide) (hcd : (n == ("__classdict__" : Str)) = false := by decide)
    (hg : Gl X "isinstance" := by rfl) (hg2 : Gl X (Str.ofString c) := by rfl) (hn : (Str.ofString c) ≠ "__name__" := by decide) (hdb : (Str.ofString c == ("__debug__" : Str)) = false := by decide)
    (he : starEach [.Name n q, .Name (Str.ofString c) q2] X.env = (false, eval (.Name n q) X.env) :: starEach [.Name (Str.ofString c) q2] X.env := by rfl) (hpl : (backTo pos (starEach [.Name (Str.ofString c) q2] X.env)).any (·.1) = false := by rfl) :
    SE (X.suite a ((a, oe) :: pn)) Wx (.Call (.Name "isinstance" p) [.Name n q, .Name (Str.ofString c) q2] [] pos) (dIsE a i r c) :=
  PE.imp (pe_callB (call_isE C hz hf) hg hm (by decide +kernel) (pa_cons (pe_var hN hv hd hcd) (pa_cons (pe_bltn (v := .ty c) hg2 hc hb rfl hn hdb) pa_nil) he) (by decide) (by decide) he hpl) fun _ _ _ h => sem_isE (X := X) (cv := .type c) (fun u ru => by cases ru; rfl) hk h
end
end MR

set_option Elab.async false
set_option linter.all false
set_option maxRecDepth 100000
/-! MR27: the head's facts of exceptions: what isinstance asks of their classes. -/
namespace MR
open PySem PySem.Spec PyProof.Rows L2
theorem al_nil (P : String → Prop) : ∀ y ∈ ([] : List String), P y := fun y h => by cases h
theorem al_cons (P : String → Prop) {x : String} {l : List String} (h : P x) (t : ∀ y ∈ l, P y) : ∀ y ∈ x :: l, P y := fun y hy => by
  rcases List.mem_cons.mp hy with e | hy
  · rw [e]; exact h
  · exact t y hy
theorem ex_b {α : Type} {o : Option α} {b b' : α} (h : b' = b) (e : o = some b) : o = some b' := by rw [h, e]
inductive Xf where
  | exq (r : String)
  | kit (r c : String) (b : Bool)
  | kitb (r c : String) (b : Bool)
def Xf.ok (K : PySem.W.Frag) : Xf → Bool
  | .exq r => He.eqO (PySem.W.findIn K (.ref (ca K r)) "__getattribute__") (some (some (.builtin "BaseException.__getattribute__"))) && (He.eqO (PySem.W.findIn K (.ref (ca K r)) "__getattr__") (some none) &&
      (decide (PySem.W.subIn K (.ref (ca K r)) (.type "BaseException") = some true) && (PySem.W.hasDictIn K (ca K r) && (He.eqO (PySem.W.findIn K (.ref (ca K r)) "__class__") (some (some (.builtin "object.__class__"))) &&
      (He.eqO (PySem.W.specialIn K (.builtin "object.__class__") "__get__") (some (some (.builtin "getset_descriptor.__get__"))) && (decide (PySem.W.takesIn K (.builtin "object.__class__") = some true) && decide (PySem.W.mroIn K (ca K r) (.type "object") = some true)))))))
  | .kit r c b => decide (PySem.W.kitOne K (.ref (ca K r)) (.ref (ca K c)) = some b)
  | .kitb r c b => decide (PySem.W.kitOne K (.ref (ca K r)) (.type c) = some b)
theorem exq_ok {K : PySem.W.Frag} {r : String} (h : (Xf.exq r).ok K = true) : ExcC K (ca K r) := by
  obtain ⟨h1, h⟩ := He.ba h
  obtain ⟨h2, h⟩ := He.ba h
  obtain ⟨h3, h⟩ := He.ba h
  obtain ⟨h4, h⟩ := He.ba h
  obtain ⟨h5, h⟩ := He.ba h
  obtain ⟨h6, h⟩ := He.ba h
  obtain ⟨h7, h8⟩ := He.ba h
  exact ⟨He.eqO_ok h1, He.eqO_ok h2, of_decide_eq_true h3, h4, He.eqO_ok h5, He.eqO_ok h6, of_decide_eq_true h7, of_decide_eq_true h8⟩
theorem kit_ok {K : PySem.W.Frag} {r c : String} {b : Bool} (h : (Xf.kit r c b).ok K = true) : PySem.W.kitOne K (.ref (ca K r)) (.ref (ca K c)) = some b := of_decide_eq_true h
theorem kitb_ok {K : PySem.W.Frag} {r c : String} {b : Bool} (h : (Xf.kitb r c b).ok K = true) : PySem.W.kitOne K (.ref (ca K r)) (.type c) = some b := of_decide_eq_true h
def obsX (n : Nat) (fa : List He.Fa) (fn : List He.DefD) (tb : Tups) (xs : List Xf) (g : Addr → Option Obj) : AlM := (He.obsD fa fn (He.frG g (He.asD g n)), tupsOk tb (He.frG g (He.asD g n)) && xs.all (Xf.ok (He.frG g (He.asD g n))))
structure SaysX (fa : List He.Fa) (fn : List He.DefD) (tb : Tups) (xs : List Xf) (K : PySem.W.Frag) : Prop where
  d : He.SaysD fa fn K
  t : (tupsOk tb K && xs.all (Xf.ok K)) = true
def hookX (n : Nat) (fa : List He.Fa) (fn : List He.DefD) (tb : Tups) (xs : List Xf) : PySem.W.Hook where
  α := AlM
  obs := fun s => obsX n fa fn tb xs s.heap.get?
  val := fun _ => (He.valD fn, true)
  says := fun _ h => ∃ K : PySem.W.Frag, K.In h ∧ SaysX fa fn tb xs K
  of := fun _ _ e => ⟨_, He.frG_in, congrArg (fun z : AlM => z.1) e, congrArg (fun z : AlM => z.2) e⟩
  keeps := fun _ _ _ ⟨K, hK, c⟩ k => ⟨K, PySem.W.Frag.In.keeps hK k, c⟩
theorem obsX_eq {n : Nat} {fa : List He.Fa} {fn : List He.DefD} {tb : Tups} {xs : List Xf} {g : Addr → Option Obj} {s : Shared} (h : ∀ a, g a = s.heap.get? a) : obsX n fa fn tb xs g = (hookX n fa fn tb xs).obs s := by
  have e : g = s.heap.get? := funext h
  rw [e] <;> rfl
section
variable {fa : List He.Fa} {fn : List He.DefD} {tb : Tups} {xs : List Xf} {K : PySem.W.Frag}
theorem SaysX.m (c : SaysX fa fn tb xs K) : SaysM fa fn tb K := ⟨c.d, (He.ba c.t).1⟩
theorem SaysX.x (c : SaysX fa fn tb xs K) (i : Nat) {f : Xf} (h : xs[i]? = some f := by rfl) : f.ok K = true := List.all_eq_true.mp (He.ba c.t).2 f (List.mem_of_getElem? h)
end
end MR

set_option Elab.async false
set_option linter.all false
set_option maxRecDepth 100000
/-! The denotations of the defs (printed by gen.py). -/
namespace MR
open PySem
noncomputable section
def lt__law_stranger_1 : DT := (tVal (d2 opNotInG (dVar 1) (dVar 0)))
def le__law_stranger_2 : DE := (dVar 1)
def b__law_stranger : DS := (sRet (d2 opIx (dLc (iStr (dC (.str "abcdefghijklmnopqrstuvwxyz"))) (gN 1) lt__law_stranger_1 le__law_stranger_2 [1]) (dC (.int 0))))
def m__law_stranger : Den := dDef 2 b__law_stranger
def b__law_question : DS := (sSeq (sIf (tVal (d2 opEq' (dVar 1) (dC (.int 0)))) (sRet (dMet "holder" [("Land", m_Land_holder)] (dVar 0) (aCons (dVar 2) aNil))) sNil) (sSeq (sIf (tVal (d2 opEq' (dVar 1) (dC (.int 1)))) (sRet (dMet "lord" [("Land", m_Land_lord)] (dVar 0) (aCons (dVar 2) aNil))) sNil) (sSeq (sIf (tVal (d2 opEq' (dVar 1) (dC (.int 2)))) (sRet (dMet "own" [("Land", m_Land_own)] (dVar 0) (aCons (dVar 2) aNil))) sNil) (sSeq (sIf (tVal (d2 opEq' (dVar 1) (dC (.int 3)))) (sRet (dMet "breadth" [("Land", m_Land_breadth)] (dVar 0) (aCons (dVar 2) aNil))) sNil) (sSeq (sIf (tVal (d2 opEq' (dVar 1) (dC (.int 4)))) (sRet (dMet "service" [("Land", m_Land_service)] (dVar 0) (aCons (dVar 2) aNil))) sNil) (sSeq (sIf (tVal (d2 opEq' (dVar 1) (dC (.int 5)))) (sRet (dMet "chain" [("Land", m_Land_chain)] (dVar 0) (aCons (dVar 2) aNil))) sNil) (sRet (dMet "under" [("Land", m_Land_under)] (dVar 0) (aCons (dVar 2) aNil)))))))))
def m__law_question : Den := dDef 3 b__law_question
def tb__law_why_asked_1 : DS := (sExpr (dCall m__law_question (aCons (dVar 0) (aCons (dVar 1) (aCons (dVar 2) aNil)))))
def th__law_why_asked_2 : Addr → Exn → DS := (fun xa ex => (sSet 3 (dLst (aCons (dIsE xa 4 ex.c "ValueError") (aCons (dIsE xa 4 ex.c "NoEstate") (aCons (dIsE xa 4 ex.c "NoMan") (aCons (dIsE xa 4 ex.c "NoLand") aNil)))))))
def b__law_why_asked : DS := (sSeq (sSet 3 (dLst aNil)) (sSeq (sTry ["NoEstate"] tb__law_why_asked_1 "LandError" 4 th__law_why_asked_2) (sRet (dVar 3))))
def m__law_why_asked : Den := dDef 5 b__law_why_asked
def tb__law_why_land_1 : DS := (sExpr (dMake "Land" m_Land___init__ (aCons (dVar 0) aNil)))
def th__law_why_land_2 : Addr → Exn → DS := (fun xa ex => (sSet 1 (dLst (aCons (dIsE xa 2 ex.c "NoLand") (aCons (dIsE xa 2 ex.c "NoEstate") (aCons (dIsE xa 2 ex.c "NoForm") aNil))))))
def b__law_why_land : DS := (sSeq (sSet 1 (dLst aNil)) (sSeq (sTry ["NoLand"] tb__law_why_land_1 "LandError" 2 th__law_why_land_2) (sRet (dVar 1))))
def m__law_why_land : Den := dDef 3 b__law_why_land
def fb_law_1 : DS := (sIf (tVal (d2 opNe' (dCall m__law_why_asked (aCons (dVar 3) (aCons (dVar 7) (aCons (dVar 5) aNil)))) (d2 opGet (dLst (aCons (dLst (aCons (dC (.bl true)) (aCons (dC (.bl true)) (aCons (dC (.bl false)) (aCons (dC (.bl false)) aNil))))) (aCons (dLst aNil) aNil))) (d1 opIntS (dVar 6))))) (sRet (dC (.bl false))) sNil)
def fb_law_2 : DS := (sSeq (sSet 6 (d2 opInG (dVar 5) (d2 opGet (dVar 4) (dC (.str "lords"))))) (sSeq (sIf (tNot (tVal (dCall m__law_same (aCons (dMet "there" [("Land", m_Land_there)] (dVar 3) (aCons (dVar 5) aNil)) (aCons (dVar 6) aNil))))) (sRet (dC (.bl false))) sNil) (sFor (iRan1 (dC (.int 7))) (gN 7) fb_law_1)))
def fb_law_3 : DS := (sIf (tVal (d2 opNe' (dCall m__law_why_land (aCons (dVar 8) aNil)) (d2 opGet (dLst (aCons (dLst (aCons (dC (.bl true)) (aCons (dC (.bl false)) (aCons (dC (.bl false)) aNil)))) (aCons (dLst aNil) aNil))) (d1 opIntS (dChain opLe opLe (dC (.int 1)) (dVar 8) (dC (.int 9999))))))) (sRet (dC (.bl false))) sNil)
def b_law : DS := (sSeq (sSet 1 (dCall m__law_feed (aCons (dVar 0) (aCons (dC (.int 120)) aNil)))) (sSeq (sSet 2 (dCall m__law_pools (aCons (dVar 1) aNil))) (sSeq (sSet 3 (dMake "Land" m_Land___init__ (aCons (d2 opIx (dVar 2) (dC (.int 2))) aNil))) (sSeq (sSet 4 (dAlloc (dCall m__law_book_v2 (aCons (d2 opIx (dVar 2) (dC (.int 2))) aNil)))) (sSeq (sIf (tNot (tVal (dCall m__law_played (aCons (dVar 3) (aCons (dVar 4) (aCons (dVar 2) (aCons (dVar 1) (aCons (dC (.int 20)) (aCons (d2 opMod (d2 opIx (dVar 1) (dC (.int 0))) (dC (.int 11))) (aCons (dLst (aCons (dC (.str "surrender")) (aCons (dC (.str "grant")) aNil))) aNil)))))))))) (sRet (dC (.bl false))) sNil) (sSeq (sFor (iLst (d2 opAdd (d2 opAdd (dLst (aCons (dC (.str "")) aNil)) (d2 opIx (dVar 2) (dC (.int 1)))) (dLst (aCons (dCall m__law_stranger (aCons (d2 opIx (dVar 2) (dC (.int 1))) aNil)) aNil)))) (gN 5) fb_law_2) (sSeq (sFor (iLst (dLst (aCons (dNeg (dC (.int 1))) (aCons (dC (.int 0)) (aCons (dC (.int 1)) (aCons (dC (.int 9999)) (aCons (dC (.int 10000)) (aCons (d2 opSub (d2 opMod (d2 opIx (dVar 1) (dC (.int 1))) (dC (.int 30000))) (dC (.int 10000))) (aCons (d2 opSub (dC (.int 0)) (d2 opPow (dC (.int 10)) (dC (.int 20)))) (aCons (d2 opPow (dC (.int 10)) (dC (.int 20))) aNil)))))))))) (gN 8) fb_law_3) (sRet (vAnd (dCall m__law_same (aCons (dMet "held" [("Land", m_Land_held)] (dVar 3) (aCons (dCall m__law_stranger (aCons (d2 opIx (dVar 2) (dC (.int 0))) aNil)) aNil)) (aCons (dLst aNil) aNil))) (dCall m__law_land_is (aCons (dVar 3) (aCons (dVar 4) aNil))))))))))))
def m_law : Den := dDef 9 b_law
end
end MR

set_option Elab.async false
set_option linter.all false
set_option maxRecDepth 100000
/-! PL: rules for running denotations by simp. -/
namespace MR
open PySem

section
variable {σ : Sl} {S : Sto} {i j : Int} {x y : Str} {a b w : D}
@[simp] theorem dVar_val {n : Nat} (h : σ[n]? = some (.val w)) : dVar n σ S = .ok w σ S := by unfold dVar; rw [h]
@[simp] theorem dVar_own {n : Nat} (h : σ[n]? = some (.own w)) : dVar n σ S = .ok (.loc n) σ S := by unfold dVar; rw [h]
@[simp] theorem dC_ok : dC w σ S = .ok w σ S := rfl
@[simp] theorem deref_non : deref σ S .non = some .non := rfl
@[simp] theorem deref_bl {b : Bool} : deref σ S (.bl b) = some (.bl b) := rfl
@[simp] theorem deref_int : deref σ S (.int i) = some (.int i) := rfl
@[simp] theorem deref_str : deref σ S (.str x) = some (.str x) := rfl
@[simp] theorem deref_tup {l : List D} : deref σ S (.tup l) = some (.tup l) := rfl
@[simp] theorem deref_lst {l : List D} : deref σ S (.lst l) = some (.lst l) := rfl
@[simp] theorem deref_dK {l : List (Kk × D)} : deref σ S (.dK l) = some (.dK l) := rfl
@[simp] theorem deref_dT {l : List (List Kk × D)} : deref σ S (.dT l) = some (.dT l) := rfl
@[simp] theorem deref_scr {l : List Int} : deref σ S (.scr l) = some (.scr l) := rfl
@[simp] theorem deref_loc {n : Nat} (h : σ[n]? = some (.own w)) : deref σ S (.loc n) = some w := by unfold deref; simp only; rw [h]
@[simp] theorem frz_non : frz .non σ S = .ok .non σ S := rfl
@[simp] theorem frz_bl {b : Bool} : frz (.bl b) σ S = .ok (.bl b) σ S := rfl
@[simp] theorem frz_int : frz (.int i) σ S = .ok (.int i) σ S := rfl
@[simp] theorem frz_str : frz (.str x) σ S = .ok (.str x) σ S := rfl
@[simp] theorem frz_tup {l : List D} : frz (.tup l) σ S = .ok (.tup l) σ S := rfl
@[simp] theorem frz_lst {l : List D} : frz (.lst l) σ S = .ok (.lst l) σ S := rfl
@[simp] theorem frz_dK {l : List (Kk × D)} : frz (.dK l) σ S = .ok (.dK l) σ S := rfl
@[simp] theorem frz_dT {l : List (List Kk × D)} : frz (.dT l) σ S = .ok (.dT l) σ S := rfl
@[simp] theorem frz_scr {l : List Int} : frz (.scr l) σ S = .ok (.scr l) σ S := rfl
@[simp] theorem frz_obj {r : Nat} : frz (.obj r) σ S = .ok (.obj r) σ S := rfl
@[simp] theorem frz_loc {n : Nat} (h : σ[n]? = some (.own w)) : frz (.loc n) σ S = .ok w (σ.set n (.val w)) S := by unfold frz; simp only; rw [h]
@[simp] theorem ofOpt_some {α : Type} {c : α} : ofOpt (some c) σ S = .ok c σ S := rfl
@[simp] theorem opAdd_int : opAdd (.int i) (.int j) = some (.int (i + j)) := rfl
@[simp] theorem opAdd_str (h : x.length + y.length ≤ most) : opAdd (.str x) (.str y) = some (.str (x ++ y)) := if_pos h
@[simp] theorem opAdd_lst {l m : List D} (h : l.length + m.length ≤ most) : opAdd (.lst l) (.lst m) = some (.lst (l ++ m)) := if_pos h
@[simp] theorem opAdd_tup {l m : List D} (h : l.length ≠ 0 ∧ m.length ≠ 0 ∧ l.length + m.length ≤ most) : opAdd (.tup l) (.tup m) = some (.tup (l ++ m)) := if_pos h
@[simp] theorem opSub_int : opSub (.int i) (.int j) = some (.int (i - j)) := rfl
@[simp] theorem opMul_int (h : mulOk i j) : opMul' (.int i) (.int j) = some (.int (i * j)) := if_pos h
@[simp] theorem opMod_int (h : 0 < j) : opMod (.int i) (.int j) = some (.int (i % j)) := if_pos h
@[simp] theorem opDiv_int (h : divOk j) : opDiv (.int i) (.int j) = some (.int (i.fdiv j)) := if_pos h
@[simp] theorem opLt_int : opLt (.int i) (.int j) = some (.bl (decide (i < j))) := rfl
@[simp] theorem opLe_int : opLe (.int i) (.int j) = some (.bl (decide (i ≤ j))) := rfl
@[simp] theorem opGt_int : opGt (.int i) (.int j) = some (.bl (decide (j < i))) := rfl
@[simp] theorem opGe_int : opGe (.int i) (.int j) = some (.bl (decide (j ≤ i))) := rfl
@[simp] theorem opEq_int : opEq' (.int i) (.int j) = some (.bl (decide (i = j))) := rfl
@[simp] theorem opEq_str : opEq' (.str x) (.str y) = some (.bl (decide (x = y))) := rfl
@[simp] theorem opEq_bl {b c : Bool} : opEq' (.bl b) (.bl c) = some (.bl (decide (b = c))) := rfl
@[simp] theorem opEq_non_str : opEq' .non (.str y) = some (.bl false) := rfl
@[simp] theorem opEq_str_non : opEq' (.str y) .non = some (.bl false) := rfl
@[simp] theorem opEq_non : opEq' .non .non = some (.bl true) := rfl
@[simp] theorem opNe_int : opNe' (.int i) (.int j) = some (.bl (!decide (i = j))) := rfl
@[simp] theorem opNe_str : opNe' (.str x) (.str y) = some (.bl (!decide (x = y))) := rfl
@[simp] theorem opAbs_int : opAbs (.int i) = some (.int (i.natAbs : Int)) := by
  have e : (if i < 0 then -i else i) = (i.natAbs : Int) := by split <;> omega
  show some (D.int (if i < 0 then -i else i)) = _
  rw [e]
@[simp] theorem opLen_lst {l : List D} : opLen (.lst l) = some (.int l.length) := rfl
@[simp] theorem opLen_tup {l : List D} : opLen (.tup l) = some (.int l.length) := rfl
@[simp] theorem opLen_str (h : x.length ≤ most) : opLen (.str x) = some (.int x.length) := if_pos h
@[simp] theorem opMin_int : opMin (.int i) (.int j) = some (.int (if j < i then j else i)) := rfl
@[simp] theorem opMax_int : opMax (.int i) (.int j) = some (.int (if j > i then j else i)) := rfl
@[simp] theorem opIx_lst {l : List D} : opIx (.lst l) (.int i) = L2.atI l i := rfl
@[simp] theorem opIx_tup {l : List D} : opIx (.tup l) (.int i) = L2.atI l i := rfl
@[simp] theorem d1_def {op : D → Option D} {f : DE} : d1 op f σ S = (f σ S).bind fun x σ S => ofOpt ((deref σ S x).bind op) σ S := rfl
@[simp] theorem d2_def {op : D → D → Option D} {f g : DE} : d2 op f g σ S = (f σ S).bind fun x σ S => (g σ S).bind fun y σ S => ofOpt ((deref σ S x).bind fun a => (deref σ S y).bind fun b => op a b) σ S := rfl
@[simp] theorem dV_def {f : DE} : dV f σ S = (f σ S).bind frz := rfl
@[simp] theorem tVal_def {f : DE} : tVal f σ S = (f σ S).bind fun x σ S => match x with
  | .bl b => .ok b σ S
  | _ => .fail := rfl
@[simp] theorem tAnd_def {f g : DT} : tAnd f g σ S = (f σ S).bind fun b σ S => if b = true then g σ S else .ok false σ S := rfl
@[simp] theorem tOr_def {f g : DT} : tOr f g σ S = (f σ S).bind fun b σ S => if b = true then .ok true σ S else g σ S := rfl
@[simp] theorem tNot_def {f : DT} : tNot f σ S = (f σ S).bind fun b σ S => .ok (!b) σ S := rfl
@[simp] theorem vAnd_def {f g : DE} : vAnd f g σ S = (tVal f σ S).bind fun b σ S => (if b = true then g else dC (.bl false)) σ S := rfl
@[simp] theorem vOr_def {f g : DE} : vOr f g σ S = (tVal f σ S).bind fun b σ S => (if b = true then dC (.bl true) else g) σ S := rfl
@[simp] theorem vNot_def {f : DE} : vNot f σ S = (tVal f σ S).bind fun b σ S => (dC (.bl (!b))) σ S := rfl
@[simp] theorem aNil_def : aNil σ S = .ok [] σ S := rfl
@[simp] theorem aCons_def {f : DE} {r : DA} : aCons f r σ S = (dV f σ S).bind fun x σ S => (r σ S).bind fun xs σ S => .ok (x :: xs) σ S := rfl
@[simp] theorem dTup_def {r : DA} : dTup r σ S = (r σ S).bind fun xs σ S => if xs.length ≤ most then .ok (.tup xs) σ S else .fail := rfl
@[simp] theorem dLst_def {r : DA} : dLst r σ S = (r σ S).bind fun xs σ S => if xs.length ≤ most then .ok (.lst xs) σ S else .fail := rfl
@[simp] theorem dCall_def {d : Den} {r : DA} : dCall d r σ S = (r σ S).bind fun xs σ S => match d xs S with
  | .ok w S' => .ok w σ S'
  | .exc e S' => .exc e σ S'
  | .fail => .fail := rfl
@[simp] theorem sNil_def : sNil σ S = .ok .next σ S := rfl
@[simp] theorem sSeq_def {f g : DS} : sSeq f g σ S = (f σ S).bind fun x σ S => match x with
  | .next => g σ S
  | x => .ok x σ S := rfl
@[simp] theorem sSet_def {n : Nat} {f : DE} : sSet n f σ S = (dV f σ S).bind fun w σ S => .ok .next (σ.set n (.val w)) S := rfl
@[simp] theorem sSetO_def {n : Nat} {f : DE} : sSetO n f σ S = (f σ S).bind fun w σ S => .ok .next (σ.set n (if scalar w then .val w else .own w)) S := rfl
@[simp] theorem sRet_def {f : DE} : sRet f σ S = (dV f σ S).bind fun w σ S => .ok (.ret w) σ S := rfl
@[simp] theorem sRetF_def {f : DE} : sRetF f σ S = (f σ S).bind fun w σ S => .ok (.ret w) σ S := rfl
@[simp] theorem sIf_def {c : DT} {f g : DS} : sIf c f g σ S = (c σ S).bind fun b σ S => if b = true then f σ S else g σ S := rfl
@[simp] theorem sExpr_def {f : DE} : sExpr f σ S = (f σ S).bind fun _ σ S => .ok .next σ S := rfl
@[simp] theorem sPar_def {n m : Nat} {r : DA} : sPar n m r σ S = (r σ S).bind fun xs σ S => match xs with
  | [v, w] => .ok .next ((σ.set n (.val v)).set m (.val w)) S
  | _ => .fail := rfl
@[simp] theorem dIsN_def {f : DE} : dIsN f σ S = (f σ S).bind fun x σ S => .ok (.bl (isN x)) σ S := rfl
@[simp] theorem dNotN_def {f : DE} : dNotN f σ S = (f σ S).bind fun x σ S => .ok (.bl (!isN x)) σ S := rfl
@[simp] theorem dNeg_def {f : DE} : dNeg f σ S = (f σ S).bind fun x σ S => match x with
  | .int i => .ok (.int (-i)) σ S
  | _ => .fail := rfl
@[simp] theorem oNone_def : oNone σ S = .ok none σ S := rfl
@[simp] theorem oSome_def {f : DE} : oSome f σ S = (f σ S).bind fun x σ S => match x with
  | .int i => .ok (some i) σ S
  | _ => .fail := rfl
@[simp] theorem dSl_def {f : DE} {lo hi : DO} : dSl f lo hi σ S = (f σ S).bind fun x σ S => (lo σ S).bind fun l σ S => (hi σ S).bind fun u σ S => ofOpt ((deref σ S x).bind fun a => opSl a l u) σ S := rfl
@[simp] theorem opSl_lst {l : List D} {lo hi : Option Int} : opSl (.lst l) lo hi = some (.lst (cutL l lo hi)) := rfl
@[simp] theorem opSl_scr {l : List Int} {lo hi : Option Int} : opSl (.scr l) lo hi = some (.lst ((cutL l lo hi).map D.int)) := rfl
@[simp] theorem opSl_str {lo hi : Option Int} (h : x.length ≤ most) : opSl (.str x) lo hi = some (.str (L2.cutS x lo hi)) := if_pos h
@[simp] theorem iLst_def {f : DE} : iLst f σ S = (dV f σ S).bind fun x σ S => match x with
  | .lst ws => .ok ws σ S
  | _ => .fail := rfl
@[simp] theorem iTup_def {f : DE} : iTup f σ S = (dV f σ S).bind fun x σ S => match x with
  | .tup ws => .ok ws σ S
  | _ => .fail := rfl
@[simp] theorem iStr_def {f : DE} : iStr f σ S = (dV f σ S).bind fun x σ S => match x with
  | .str z => .ok (signs z) σ S
  | _ => .fail := rfl
@[simp] theorem iRan1_def {f : DE} : iRan1 f σ S = (f σ S).bind fun x σ S => match x with
  | .int j => if small j then .ok (ran 0 j) σ S else .fail
  | _ => .fail := rfl
@[simp] theorem iZip_def {f g : DE} : iZip f g σ S = (dV f σ S).bind fun x σ S => (dV g σ S).bind fun y σ S => match x, y with
  | .lst xs, .lst ys => .ok (pairs xs ys) σ S
  | .tup xs, .tup ys => .ok (pairs xs ys) σ S
  | _, _ => .fail := rfl
@[simp] theorem iEnum_def {f : DE} : iEnum f σ S = (dV f σ S).bind fun x σ S => match x with
  | .lst xs => .ok (enum 0 xs) σ S
  | _ => .fail := rfl
@[simp] theorem sFor_def {it : DI} {g : DG} {f : DS} : sFor it g f σ S = (it σ S).bind fun ds σ S => forL g f ds σ S := rfl
@[simp] theorem gN_def {n : Nat} : gN n w σ = some (σ.set n (.val w)) := rfl
@[simp] theorem tTrue_def : tTrue σ S = .ok true σ S := rfl
@[simp] theorem dMeth_def {is : D → Bool} {k : D → D → List D → Sl → Sto → Res D} {fo : DE} {fa : DA} : dMeth is k fo fa σ S = (fo σ S).bind fun x σ S => if ((deref σ S x).map is) = some true then (fa σ S).bind fun ws σ S => (match deref σ S x with
  | some c => k x c ws σ S
  | none => .fail) else .fail := rfl
@[simp] theorem kApp_lst {l : List D} (h : l.length < most) : kApp a (.lst l) [w] σ S = ofMut .non (chg σ S a (.lst (l ++ [w]))) := if_pos h
@[simp] theorem isLst_lst {l : List D} : isLst (.lst l) = true := rfl
@[simp] theorem chg_loc {n : Nat} {c : D} (h : σ[n]? = some (.own c)) : chg σ S (.loc n) w = some (σ.set n (.own w), S) := by unfold chg; simp only; rw [h]
@[simp] theorem ofMut_some {α : Type} {c : α} : ofMut c (some (σ, S)) = .ok c σ S := rfl
@[simp] theorem scalar_non : scalar .non = true := rfl
@[simp] theorem scalar_int : scalar (.int i) = true := rfl
@[simp] theorem scalar_bl {b : Bool} : scalar (.bl b) = true := rfl
@[simp] theorem scalar_str : scalar (.str x) = true := rfl
@[simp] theorem scalar_tup {l : List D} : scalar (.tup l) = true := rfl
@[simp] theorem scalar_lst {l : List D} : scalar (.lst l) = false := rfl
@[simp] theorem sRetO_own {n : Nat} (h : σ[n]? = some (.own w)) : sRetO n σ S = .ok (.ret w) σ S := by unfold sRetO; rw [h]
@[simp] theorem sRetS_def {f : DE} : sRetS f σ S = (f σ S).bind fun w σ S => if scalar w then .ok (.ret w) σ S else .fail := rfl
@[simp] theorem isN_non : isN .non = true := rfl
@[simp] theorem isN_int : isN (.int i) = false := rfl
@[simp] theorem isN_bl {b : Bool} : isN (.bl b) = false := rfl
@[simp] theorem isN_str : isN (.str x) = false := rfl
@[simp] theorem isN_tup {l : List D} : isN (.tup l) = false := rfl
@[simp] theorem isN_lst {l : List D} : isN (.lst l) = false := rfl
end
/-- the body's run gives the def's answer -/
theorem dDef_ret {n : Nat} {f : DS} {ws : List D} {S S' : Sto} {w : D} {σ' : Sl} (h : f (ws.map Slot.val ++ List.replicate (n - ws.length) .emp) S = .ok (.ret w) σ' S') : dDef n f ws S = .ok w S' := by
  unfold dDef
  rw [h]
theorem dDef_next {n : Nat} {f : DS} {ws : List D} {S S' : Sto} {σ' : Sl} (h : f (ws.map Slot.val ++ List.replicate (n - ws.length) .emp) S = .ok .next σ' S') : dDef n f ws S = .ok .non S' := by
  unfold dDef
  rw [h]
theorem sSeq_next {f g : DS} {σ σ1 : Sl} {S S1 : Sto} (h : f σ S = .ok .next σ1 S1) : sSeq f g σ S = g σ1 S1 := by
  rw [sSeq_def, h]
  rfl
theorem dDef_ex {n : Nat} {f : DS} {ws : List D} {S S' : Sto} {w : D} (h : ∃ σ', f (ws.map Slot.val ++ List.replicate (n - ws.length) .emp) S = .ok (.ret w) σ' S') : dDef n f ws S = .ok w S' := by
  obtain ⟨σ', h⟩ := h
  exact dDef_ret h
/-! ### loops -/
@[simp] theorem forL_nil {g : DG} {f : DS} {σ : Sl} {S : Sto} : forL g f [] σ S = .ok .next σ S := rfl
theorem forL_cons {g : DG} {f : DS} {σ σ1 σ2 : Sl} {S S2 : Sto} {d : D} {ds : List D} (h : g d σ = some σ1) (h2 : f σ1 S = .ok .next σ2 S2) : forL g f (d :: ds) σ S = forL g f ds σ2 S2 := by
  rw [forL]
  dsimp only
  rw [h]
  dsimp only
  rw [h2]
  rfl
theorem forL_inv {g : DG} {f : DS} (P : Nat → Sl → Sto → Prop) : ∀ (items : List D) (k : Nat) (σ : Sl) (S : Sto), P k σ S →
    (∀ (i : Nat) (d : D) (σ : Sl) (S : Sto), items[i]? = some d → P (k + i) σ S → ∃ σ1, g d σ = some σ1 ∧ ∃ σ2 S2, f σ1 S = .ok .next σ2 S2 ∧ P (k + i + 1) σ2 S2) →
    ∃ σ' S', forL g f items σ S = .ok .next σ' S' ∧ P (k + items.length) σ' S'
  | [], k, σ, S, h, _ => ⟨σ, S, rfl, h⟩
  | d :: ds, k, σ, S, h, st => by
    obtain ⟨σ1, e1, σ2, S2, e2, h2⟩ := st 0 d σ S rfl h
    obtain ⟨σ3, S3, e3, h3⟩ := forL_inv P ds (k + 1) σ2 S2 h2 fun i d' σ S hi hp => by
      have := st (i + 1) d' σ S hi (by rw [show k + (i + 1) = k + 1 + i by omega]; exact hp)
      rw [show k + (i + 1) + 1 = k + 1 + i + 1 by omega] at this
      exact this
    refine ⟨σ3, S3, ?_, by rw [List.length_cons, show k + (ds.length + 1) = k + 1 + ds.length by omega]; exact h3⟩
    unfold forL
    rw [e1]
    dsimp only
    rw [e2]
    exact e3
/-- a loop over data with an invariant that doesn't count -/
theorem forL_all {g : DG} {f : DS} (P : Sl → Sto → Prop) {items : List D} {σ : Sl} {S : Sto} (h : P σ S) (st : ∀ (d : D), d ∈ items → ∀ (σ : Sl) (S : Sto), P σ S → ∃ σ1, g d σ = some σ1 ∧ ∃ σ2 S2, f σ1 S = .ok .next σ2 S2 ∧ P σ2 S2) :
    ∃ σ' S', forL g f items σ S = .ok .next σ' S' ∧ P σ' S' := by
  obtain ⟨σ', S', e, p⟩ := forL_inv (fun _ => P) items 0 σ S h fun i d σ S hi hp => st d (List.mem_of_getElem? hi) σ S hp
  exact ⟨σ', S', e, p⟩
theorem sWhile_step {c : DT} {f : DS} {n : Nat} {σ : Sl} {S : Sto} : sWhile c f (n + 1) σ S = (c σ S).bind fun b σ S => if b = true then (f σ S).bind fun x σ S => (match x with
      | .next => sWhile c f n σ S
      | .cnt => sWhile c f n σ S
      | .brk => .ok .next σ S
      | .ret w => .ok (.ret w) σ S) else .ok .next σ S := rfl
/-! ### comprehensions -/
theorem rest_wipe (σ : Sl) (vs : List Nat) : restD σ (wipeD σ vs) vs = σ := by
  apply List.ext_getElem?
  intro j
  rw [restD_get]
  by_cases h : j ∈ vs
  · rw [if_pos h, wipeD_get, if_pos h]
    cases e : σ[j]? with
    | none => rfl
    | some s => rfl
  · rw [if_neg h, wipeD_get, if_neg h]
theorem lcL_gen {g : DG} {c : DT} {e : DE} {vs : List Nat} {σw : Sl} {S : Sto} (a : D → Sl) (p : D → Bool) (h : D → D) : ∀ (items acc : List D), acc.length + items.length ≤ most →
    (∀ d ∈ items, g d σw = some (a d) ∧ wipeD (a d) vs = σw ∧ c (a d) S = .ok (p d) (a d) S ∧ (p d = true → dV e (a d) S = .ok (h d) (a d) S)) →
    lcL g c e vs items acc σw S = .ok (acc ++ (items.filter p).map h) σw S
  | [], acc, _, _ => by simp [lcL]
  | d :: ds, acc, hl, st => by
    obtain ⟨h1, h2, h3, h4⟩ := st d (List.mem_cons_self ..)
    rw [List.length_cons] at hl
    have ih := fun acc' (q : acc'.length + ds.length ≤ most) => lcL_gen (g := g) (c := c) (e := e) (vs := vs) (σw := σw) (S := S) a p h ds acc' q fun d' hd => st d' (List.mem_cons_of_mem _ hd)
    rw [lcL, h1]
    dsimp only
    rw [h3]
    dsimp only [Res.bind]
    cases hp : p d with
    | true =>
      rw [if_pos rfl, h4 hp]
      dsimp only [Res.bind]
      rw [if_pos (by omega), h2, ih _ (by rw [List.length_append, List.length_singleton]; omega), List.filter_cons, if_pos hp]
      simp
    | false =>
      rw [if_neg Bool.false_ne_true, h2, ih _ (by omega), List.filter_cons, if_neg (by rw [hp]; exact Bool.false_ne_true)]
theorem dLc_gen {it : DI} {g : DG} {c : DT} {e : DE} {vs : List Nat} {σ σ' : Sl} {S : Sto} {items : List D} (a : D → Sl) (p : D → Bool) (h : D → D) (hi : it σ S = .ok items σ' S) (hno : noOwn σ' vs = true) (hl : items.length ≤ most)
    (st : ∀ d ∈ items, g d (wipeD σ' vs) = some (a d) ∧ wipeD (a d) vs = wipeD σ' vs ∧ c (a d) S = .ok (p d) (a d) S ∧ (p d = true → dV e (a d) S = .ok (h d) (a d) S)) :
    dLc it g c e vs σ S = .ok (.lst ((items.filter p).map h)) σ' S := by
  unfold dLc
  rw [hi]
  dsimp only [Res.bind]
  rw [if_pos hno, lcL_gen a p h items [] (by simpa using hl) st]
  dsimp only [noX, Res.bind]
  rw [rest_wipe, List.nil_append]
theorem filter_true {α : Type} (l : List α) : l.filter (fun _ => true) = l := by simp
/-- without a test -/
theorem dLc_map {it : DI} {g : DG} {e : DE} {vs : List Nat} {σ σ' : Sl} {S : Sto} {items : List D} (a : D → Sl) (h : D → D) (hi : it σ S = .ok items σ' S) (hno : noOwn σ' vs = true) (hl : items.length ≤ most)
    (st : ∀ d ∈ items, g d (wipeD σ' vs) = some (a d) ∧ wipeD (a d) vs = wipeD σ' vs ∧ dV e (a d) S = .ok (h d) (a d) S) : dLc it g tTrue e vs σ S = .ok (.lst (items.map h)) σ' S := by
  have := dLc_gen (c := tTrue) a (fun _ => true) h hi hno hl fun d hd => ⟨(st d hd).1, (st d hd).2.1, rfl, fun _ => (st d hd).2.2⟩
  rw [filter_true] at this
  exact this
/-- bools of a list of tests -/
theorem bools_map {α : Type} (f : α → Bool) : ∀ l : List α, bools (l.map fun x => D.bl (f x)) = some (l.map f)
  | [] => rfl
  | x :: l => by
    show (bools (l.map fun x => D.bl (f x))).map _ = _
    rw [bools_map f l]
    rfl
theorem opAll_map {α : Type} (f : α → Bool) (l : List α) : opAll (.lst (l.map fun x => D.bl (f x))) = some (.bl (l.all f)) := by
  show (bools _).map _ = _
  rw [bools_map]
  simp
theorem opAny_map {α : Type} (f : α → Bool) (l : List α) : opAny (.lst (l.map fun x => D.bl (f x))) = some (.bl (l.any f)) := by
  show (bools _).map _ = _
  rw [bools_map]
  simp
@[simp] theorem dChain_def {op op' : D → D → Option D} {f g h : DE} {σ : Sl} {S : Sto} : dChain op op' f g h σ S = (f σ S).bind fun x σ S => (g σ S).bind fun y σ S => match (deref σ S x).bind fun a => (deref σ S y).bind fun b => op a b with
  | some (.bl true) => (h σ S).bind fun z σ S => ofOpt ((deref σ S y).bind fun a => (deref σ S z).bind fun b => op' a b) σ S
  | some (.bl false) => .ok (.bl false) σ S
  | _ => .fail := rfl
@[simp] theorem dS1_def {op : D → D → Option D} {f g : DE} {σ : Sl} {S : Sto} : dS1 op f g σ S = (f σ S).bind fun x σ S => match x with
  | .str a => (g σ S).bind fun y σ S => ofOpt ((deref σ S y).bind fun b => op (.str a) b) σ S
  | _ => .fail := rfl
def hasC (z : Str) (c : Nat) : Bool := decide (c ∈ z.cps.toList)
theorem opIn_sign {c : Nat} {z : Str} : opIn (.str ⟨#[c]⟩) (.str z) = some (.bl (hasC z c)) := rfl
theorem opNotIn_sign {c : Nat} {z : Str} : opNotIn (.str ⟨#[c]⟩) (.str z) = some (.bl (!hasC z c)) := rfl
theorem strsD_map (l : List Str) : strsD (l.map D.str) = some l := by
  induction l with
  | nil => rfl
  | cons x l ih =>
    show (strsD (l.map D.str)).map _ = _
    rw [ih]
    rfl
end MR

set_option Elab.async false
set_option linter.all false
set_option maxRecDepth 100000
set_option exponentiation.threshold 30000
/-! PL2: rules for running denotations with dicts and objects. -/
namespace MR
open PySem

section
variable {σ : Sl} {S : Sto} {i j : Int} {x y : Str} {a b w : D} {r : Nat} {c : String} {cs : List String} {fs : List (String × D)} {l : List (Kk × D)} {k : Kk}
@[simp] theorem deref_obj {lk : Bool} (h : S[r]? = some (.con lk w)) : deref σ S (.obj r) = some w := by unfold deref; simp only; rw [h]
@[simp] theorem chg_obj (h : S[r]? = some (.con false a)) : chg σ S (.obj r) w = some (σ, S.set r (.con false w)) := by unfold chg; simp only; rw [h]
@[simp] theorem objAt_obj (h : S[r]? = some (.ins c fs)) (hc : c ∈ cs) : objAt cs S (.obj r) = some (r, c, fs) := by
  unfold objAt
  simp only [h]
  rw [if_pos hc]
@[simp] theorem fget_cons {f g : String} : fget ((g, w) :: fs) f = if g = f then some w else fget fs f := by
  unfold fget
  rw [List.find?_cons]
  by_cases h : g = f
  · simp [h]
  · have e : (g == f) = false := beq_eq_false_iff_ne.mpr h
    simp only [e, h, if_false]
@[simp] theorem fget_nil {f : String} : fget [] f = none := rfl
@[simp] theorem fput_nil {f : String} : fput f w [] = [(f, w)] := rfl
@[simp] theorem fput_cons {f g : String} : fput f w ((g, a) :: fs) = if g = f then (g, w) :: fs else (g, a) :: fput f w fs := rfl
@[simp] theorem keyD_int : keyD (.int i) = some (.inl i) := rfl
@[simp] theorem keyD_str : keyD (.str x) = some (.inr x) := rfl
@[simp] theorem opLen_dK : opLen (.dK l) = some (.int l.length) := rfl
@[simp] theorem opGet_dK : opGet (.dK l) a = (keyD a).bind (valD l) := rfl
@[simp] theorem opGet_lst {l : List D} : opGet (.lst l) (.int i) = L2.atI l i := rfl
@[simp] theorem opGet_tup {l : List D} : opGet (.tup l) (.int i) = L2.atI l i := rfl
theorem opGet_ix (h : ∀ l, a ≠ .dK l) : opGet a b = opIx a b := by
  cases a with
  | dK l => exact absurd rfl (h l)
  | _ => rfl
@[simp] theorem opInG_dK (h : keyD a = some k) : opInG a (.dK l) = some (.bl (valD l k).isSome) := by
  show ((keyD a).map _).map _ = _
  rw [h]
  rfl
@[simp] theorem opNotInG_dK (h : keyD a = some k) : opNotInG a (.dK l) = some (.bl (!(valD l k).isSome)) := by
  show ((keyD a).map _).map _ = _
  rw [h]
  rfl
@[simp] theorem opInG_lst {l : List D} : opInG a (.lst l) = opIn a (.lst l) := by unfold opInG opIn; cases a <;> rfl
@[simp] theorem opNotInG_lst {l : List D} : opNotInG a (.lst l) = opNotIn a (.lst l) := by unfold opNotInG opNotIn; cases a <;> rfl
@[simp] theorem dFld_def {f : String} {fo : DE} : dFld cs f fo σ S = (fo σ S).bind fun x σ S => ofOpt ((objAt cs S x).bind fun p => fget p.2.2 f) σ S := rfl
@[simp] theorem sFldD_def {f : String} {fo fv : DE} : sFldD cs f fo fv σ S = (dV fv σ S).bind fun w σ S => (fo σ S).bind fun x σ S => match objAt cs S x with
  | some (r, c, fs) => if fs.length < 1000 then .ok .next σ (S.set r (.ins c (fput f w fs))) else .fail
  | none => .fail := rfl
@[simp] theorem dAlloc_def {f : DE} : dAlloc f σ S = (f σ S).bind fun w σ S => if scalar w then .ok w σ S else .ok (.obj S.length) σ (S ++ [.con false w]) := rfl
@[simp] theorem scalar_dK : scalar (.dK l) = false := rfl
@[simp] theorem pNil_def : pNil σ S = .ok [] σ S := rfl
@[simp] theorem pCons_def {f g : DE} {r : DP} : pCons f g r σ S = (f σ S).bind fun x σ S => match keyD x with
  | some k => (dV g σ S).bind fun w σ S => (r σ S).bind fun ps σ S => .ok ((k, w) :: ps) σ S
  | none => .fail := rfl
@[simp] theorem dDisp_def {r : DP} : dDisp r σ S = (r σ S).bind fun ps σ S => .ok (.dK (mergeD [] ps)) σ S := rfl
@[simp] theorem sDPutD_def {fd fy fv : DE} : sDPutD fd fy fv σ S = (dV fv σ S).bind fun w σ S => (fd σ S).bind fun x σ S => (fy σ S).bind fun y σ S => match deref σ S x, keyD y with
  | some (.dK l), some k => if l.length < most then ofMutS (chg σ S x (.dK (putD l k w))) else .fail
  | _, _ => .fail := rfl
@[simp] theorem ofMutS_some : ofMutS (some (σ, S)) = .ok .next σ S := rfl
@[simp] theorem isDct_dK : isDct (.dK l) = true := rfl
@[simp] theorem kGet_1 (h : keyD b = some k) : kGet a (.dK l) [b] σ S = .ok ((valD l k).getD .non) σ S := by unfold kGet; simp only; rw [h]
@[simp] theorem kGet_2 (h : keyD b = some k) : kGet a (.dK l) [b, w] σ S = .ok ((valD l k).getD w) σ S := by unfold kGet; simp only; rw [h]
@[simp] theorem outR_ok : outR (.ok w S) σ = .ok w σ S := rfl
@[simp] theorem outR_exc {e : Exn} : outR (.exc e S) σ = .exc e σ S := rfl
@[simp] theorem dMet_def {m : String} {tbl : List (String × Den)} {fo : DE} {fa : DA} : dMet m tbl fo fa σ S = (fo σ S).bind fun x σ S => match objAt (tbl.map (·.1)) S x with
  | some (_, c, fs) => (match fget fs m with
    | some _ => .fail
    | none => (fa σ S).bind fun ws σ S => match tbl.find? (fun p => p.1 == c) with
      | some p => outR (p.2 (x :: ws) S) σ
      | none => .fail)
  | none => .fail := rfl
@[simp] theorem dMake_def {d : Den} {fa : DA} : dMake c d fa σ S = (fa σ S).bind fun ws σ S => match d (.obj S.length :: ws) (S ++ [.ins c []]) with
  | .ok .non S' => .ok (.obj S.length) σ S'
  | .ok _ _ => .fail
  | .exc e S' => .exc e σ S'
  | .fail => .fail := rfl
@[simp] theorem mergeD_nil : mergeD l [] = l := rfl
@[simp] theorem mergeD_cons {p : Kk × D} {ps : List (Kk × D)} : mergeD l (p :: ps) = mergeD (putD l p.1 p.2) ps := rfl
end
/-! ### dicts -/
section
variable {κ : Type} [DecidableEq κ] {l : List (κ × D)} {k j : κ} {w : D}
@[simp] theorem valD_nil : valD ([] : List (κ × D)) k = none := rfl
theorem valD_cons {p : κ × D} : valD (p :: l) k = if p.1 = k then some p.2 else valD l k := by
  unfold valD
  rw [List.find?_cons]
  by_cases h : p.1 = k
  · simp [h]
  · simp [h]
theorem valD_any : (l.any fun kv => decide (kv.1 = k)) = (valD l k).isSome := by
  induction l with
  | nil => rfl
  | cons p l ih =>
    rw [List.any_cons, valD_cons, ih]
    by_cases h : p.1 = k <;> simp [h]
theorem valD_app : valD (l ++ [(j, w)]) k = if (valD l k).isSome then valD l k else if j = k then some w else none := by
  induction l with
  | nil => rw [List.nil_append, valD_cons]; rfl
  | cons p l ih =>
    rw [List.cons_append, valD_cons, valD_cons, ih]
    by_cases h : p.1 = k <;> simp [h]
theorem valD_map : valD (l.map fun kv => if kv.1 = j then (kv.1, w) else kv) k = if j = k ∧ (valD l k).isSome then some w else valD l k := by
  induction l with
  | nil => simp
  | cons p l ih =>
    rw [List.map_cons, valD_cons, valD_cons, ih]
    by_cases h : p.1 = k
    · by_cases hj : j = k
      · simp [h, hj]
      · have : ¬ k = j := fun e => hj e.symm
        simp [h, hj, this]
    · by_cases hj : p.1 = j
      · by_cases hjk : j = k
        · exact absurd (hj.trans hjk) h
        · simp [h, hj, hjk]
      · simp [h, hj]
theorem valD_put : valD (putD l j w) k = if j = k then some w else valD l k := by
  unfold putD
  rw [valD_any]
  by_cases hs : (valD l j).isSome = true
  · rw [if_pos hs, valD_map]
    by_cases h : j = k
    · subst h; simp [hs]
    · simp [h]
  · rw [if_neg hs, valD_app]
    by_cases h : j = k
    · subst h; simp [hs]
    · simp only [h, if_false]
      cases valD l k <;> simp
theorem putD_len : (putD l k w).length ≤ l.length + 1 := by
  unfold putD
  split
  · rw [List.length_map]; omega
  · rw [List.length_append]; simp
end
/-! ### while -/
theorem sWhile_false {c : DT} {f : DS} {n : Nat} {σ σ1 : Sl} {S S1 : Sto} (h : c σ S = .ok false σ1 S1) : sWhile c f (n + 1) σ S = .ok .next σ1 S1 := by
  rw [sWhile_step, h]
  rfl
theorem sWhile_next {c : DT} {f : DS} {n : Nat} {σ σ1 σ2 : Sl} {S S1 S2 : Sto} (h : c σ S = .ok true σ1 S1) (h2 : f σ1 S1 = .ok .next σ2 S2) : sWhile c f (n + 1) σ S = sWhile c f n σ2 S2 := by
  rw [sWhile_step, h]
  dsimp only [Res.bind]
  rw [if_pos rfl, h2]
theorem sWhile_ret {c : DT} {f : DS} {n : Nat} {σ σ1 σ2 : Sl} {S S1 S2 : Sto} {w : D} (h : c σ S = .ok true σ1 S1) (h2 : f σ1 S1 = .ok (.ret w) σ2 S2) : sWhile c f (n + 1) σ S = .ok (.ret w) σ2 S2 := by
  rw [sWhile_step, h]
  dsimp only [Res.bind]
  rw [if_pos rfl, h2]
/-- more turns are no harm -/
theorem sWhile_more {c : DT} {f : DS} : ∀ {n m : Nat} {σ σ' : Sl} {S S' : Sto} {fl : Fl}, sWhile c f n σ S = .ok fl σ' S' → n ≤ m → sWhile c f m σ S = .ok fl σ' S'
  | 0, _, _, _, _, _, _, h, _ => by cases h
  | n + 1, m, σ, σ', S, S', fl, h, hm => by
    obtain ⟨m, rfl⟩ : ∃ k, m = k + 1 := ⟨m - 1, by omega⟩
    rw [sWhile_step] at h ⊢
    cases e : c σ S with
    | fail => rw [e] at h; cases h
    | exc a _ _ => rw [e] at h; cases h
    | ok b σ1 S1 =>
      rw [e] at h
      dsimp only [Res.bind] at h ⊢
      split
      · rename_i hb
        rw [if_pos hb] at h
        cases e2 : f σ1 S1 with
        | fail => rw [e2] at h; cases h
        | exc a _ _ => rw [e2] at h; cases h
        | ok x σ2 S2 =>
          rw [e2] at h
          cases x with
          | next => exact sWhile_more (n := n) (m := m) h (by omega)
          | cnt => exact sWhile_more (n := n) (m := m) h (by omega)
          | brk => exact h
          | ret w => exact h
      · rename_i hb
        rw [if_neg hb] at h
        exact h
theorem fuel_big : 10000000 ≤ fuel := by
  unfold fuel
  exact Nat.le_trans (by decide : 10000000 ≤ 2 ^ 24) (Nat.pow_le_pow_right (by decide) (by decide))
end MR

set_option Elab.async false
set_option linter.all false
set_option maxRecDepth 100000
/-! P0: what the common defs compute: the feed, the greatest measure, fractions in lowest terms, the comparison of data. -/
namespace MR
open PySem

def Good (l : List Int) : Prop := ∀ v ∈ l, 0 ≤ v ∧ v < 1000003
theorem Good.app {l : List Int} {v : Int} (h : Good l) (h1 : 0 ≤ v) (h2 : v < 1000003) : Good (l ++ [v]) := fun x hx => by
  rcases List.mem_append.mp hx with hx | hx
  · exact h x hx
  · rw [List.mem_singleton.mp hx]; exact ⟨h1, h2⟩
theorem mulOk_of {i j : Int} {a b : Nat} (ha : i.natAbs < 2 ^ a) (hb : j.natAbs < 2 ^ b) (h0 : 0 < a) (h1 : 0 < b) (h : a + b ≤ 1000000) : mulOk i j := L2.wide_mul ha hb h0 h1 h
theorem divOk_of {j : Int} {b : Nat} (h : j ≠ 0) (hb : j.natAbs < 2 ^ b) (h0 : 0 < b) (h9 : b ≤ 9000) : divOk j := ⟨h, Nat.lt_of_lt_of_le (PySem.Flt.log2_lt_of h0 hb) h9⟩
theorem divOk_1009 : divOk 1009 := by decide
theorem divOk_1013 : divOk 1013 := by decide
theorem mulS {i j : Int} (hi : 0 ≤ i ∧ i < 2 ^ 200) (hj : 0 ≤ j ∧ j < 2 ^ 200) : mulOk i j := mulOk_of (a := 200) (b := 200) (by omega) (by omega) (by decide) (by decide) (by decide)

theorem feed_1 {S : Sto} {a0 a1 s3 s4 : Slot} {L : Nat} (hL : L ≤ 10000) {acc : List Int} {r : Int} {s6 : Slot} (hl : acc.length ≤ L) (hg : Good acc) :
    ∃ σ', forL (gN 6) fb__law_feed_1 (ran 0 60) [a0, a1, .own (.lst (acc.map D.int)), s3, s4, .val (.int r), s6] S = .ok .next σ' S ∧
      ∃ acc' r' s6', σ' = [a0, a1, .own (.lst (acc'.map D.int)), s3, s4, .val (.int r'), s6'] ∧ acc'.length ≤ L + 60 ∧ Good acc' := by
  obtain ⟨σ', S', e, ⟨rfl, acc', r', s6', h1, h2, h3⟩⟩ := forL_inv (g := gN 6) (f := fb__law_feed_1) (fun k σ S' => S' = S ∧ ∃ acc' r' s6', σ = [a0, a1, .own (.lst (acc'.map D.int)), s3, s4, .val (.int r'), s6'] ∧ acc'.length ≤ L + k ∧ Good acc') (ran 0 60) 0 _ S ⟨rfl, acc, r, s6, rfl, by omega, hg⟩ (by
    rintro i d σ S' hi ⟨rfl, acc, r, s6, rfl, hl, hg⟩
    have hi60 : i < 60 := by
      have := (List.getElem?_eq_some_iff.mp hi).1
      simp [ran] at this
      omega
    refine ⟨_, rfl, ?_⟩
    by_cases hr : 0 < r
    · have hlt : acc.length < most := by unfold most; omega
      refine ⟨[a0, a1, .own (.lst ((acc ++ [r % 1009]).map D.int)), s3, s4, .val (.int (r.fdiv 1009)), .val d], S', ?_, rfl, acc ++ [r % 1009], _, _, rfl, by rw [List.length_append, List.length_singleton]; omega, hg.app (by omega) (by omega)⟩
      simp [fb__law_feed_1, hr, hlt, divOk_1009]
    · exact ⟨[a0, a1, .own (.lst (acc.map D.int)), s3, s4, .val (.int r), .val d], S', by simp [fb__law_feed_1, hr], rfl, acc, r, _, rfl, by omega, hg⟩)
  refine ⟨σ', e, acc', r', s6', h1, ?_, h3⟩
  simpa [ran] using h2
theorem feed_2 {S : Sto} {a0 a1 : Slot} (items : List Int) (hn : items.length ≤ 63) {s4 s5 s6 : Slot} :
    ∃ σ', forL (gN 4) fb__law_feed_2 (items.map D.int) [a0, a1, .own (.lst []), .val (.int 29), s4, s5, s6] S = .ok .next σ' S ∧
      ∃ (acc : List Int) (salt : Int) (s4 s5 s6 : Slot), σ' = [a0, a1, .own (.lst (acc.map D.int)), .val (.int salt), s4, s5, s6] ∧ acc.length ≤ 4000 ∧ Good acc ∧ 0 ≤ salt ∧ salt < 2147483647 := by
  obtain ⟨σ', S', e, ⟨rfl, acc, salt, s4, s5, s6, h1, h2, h3, h4⟩⟩ := forL_inv (g := gN 4) (f := fb__law_feed_2) (fun k σ S' => S' = S ∧ ∃ (acc : List Int) (salt : Int) (s4 s5 s6 : Slot), σ = [a0, a1, .own (.lst (acc.map D.int)), .val (.int salt), s4, s5, s6] ∧ acc.length ≤ 61 * k ∧ Good acc ∧ 0 ≤ salt ∧ salt < 2147483647) (items.map D.int) 0 _ S ⟨rfl, [], 29, s4, s5, s6, rfl, by simp, fun v hv => by simp at hv, by omega, by omega⟩ (by
    rintro i d σ S' hi ⟨rfl, acc, salt, s4, s5, s6, rfl, hl, hg, hs⟩
    have hi63 : i < 63 := by
      have := (List.getElem?_eq_some_iff.mp hi).1
      rw [List.length_map] at this
      omega
    rw [List.getElem?_map] at hi
    obtain ⟨c, _, rfl⟩ := Option.map_eq_some_iff.mp hi
    refine ⟨_, rfl, ?_⟩
    have hlt : acc.length < most := by unfold most; omega
    have hm : mulOk salt 69621 := mulS (by omega) (by omega)
    by_cases hr : c - 1000000000000000000 < 0
    · obtain ⟨σ', e, acc', r', s6', h1, h2, h3⟩ := feed_1 (S := S') (a0 := a0) (a1 := a1) (s3 := .val (.int ((salt * 69621 + c % 2147483629 + 11) % 2147483647))) (s4 := .val (.int c)) (L := 61 * i + 1) (by omega) (acc := acc ++ [c % 1000003]) (r := c - 1000000000000000000) (s6 := s6) (by rw [List.length_append, List.length_singleton]; omega) (hg.app (by omega) (by omega))
      refine ⟨σ', S', ?_, rfl, acc', _, _, _, s6', h1, by omega, h3, by omega, by omega⟩
      rw [← e]
      simp [fb__law_feed_2, hm, hlt, hr, opPow, small]
    · obtain ⟨σ', e, acc', r', s6', h1, h2, h3⟩ := feed_1 (S := S') (a0 := a0) (a1 := a1) (s3 := .val (.int ((salt * 69621 + c % 2147483629 + 11) % 2147483647))) (s4 := .val (.int c)) (L := 61 * i + 1) (by omega) (acc := acc) (r := c - 1000000000000000000) (s6 := s6) (by omega) hg
      refine ⟨σ', S', ?_, rfl, acc', _, _, _, s6', h1, by omega, h3, by omega, by omega⟩
      rw [← e]
      simp [fb__law_feed_2, hm, hlt, hr, opPow, small])
  refine ⟨σ', e, acc, salt, s4, s5, s6, h1, ?_, h3, h4⟩
  rw [List.length_map] at h2
  omega
theorem feed_3 {S : Sto} {a0 a1 : Slot} (n : Nat) (hn : n ≤ 1000000) {acc : List Int} {salt : Int} {s4 s5 s6 : Slot} (hl : acc.length ≤ 4000) (hg : Good acc) (h0 : 0 ≤ salt) (h1 : salt < 2147483647) :
    ∃ σ', forL (gN 6) fb__law_feed_3 (ran 0 n) [a0, a1, .own (.lst (acc.map D.int)), .val (.int salt), s4, s5, s6] S = .ok .next σ' S ∧
      ∃ (acc' : List Int) (salt : Slot) (s6 : Slot), σ' = [a0, a1, .own (.lst (acc'.map D.int)), salt, s4, s5, s6] ∧ acc'.length = acc.length + n ∧ Good acc' := by
  obtain ⟨σ', S', e, ⟨rfl, acc', salt, s6, h1, h2, h3, h4⟩⟩ := forL_inv (g := gN 6) (f := fb__law_feed_3) (fun k σ S' => S' = S ∧ ∃ (acc' : List Int) (salt : Int) (s6 : Slot), σ = [a0, a1, .own (.lst (acc'.map D.int)), .val (.int salt), s4, s5, s6] ∧ acc'.length = acc.length + k ∧ Good acc' ∧ 0 ≤ salt ∧ salt < 2147483647) (ran 0 n) 0 _ S ⟨rfl, acc, salt, s6, rfl, by simp, hg, h0, h1⟩ (by
    rintro i d σ S' hi ⟨rfl, acc1, salt, s6, rfl, hl1, hg, hs0, hs1⟩
    have hin : i < n := by
      have := (List.getElem?_eq_some_iff.mp hi).1
      simp [ran] at this
      omega
    have hd : d = .int (i : Nat) := by
      unfold ran at hi
      rw [List.getElem?_map] at hi
      obtain ⟨k, hk, rfl⟩ := Option.map_eq_some_iff.mp hi
      rw [List.getElem?_range (by omega)] at hk
      cases hk
      simp
    subst hd
    refine ⟨_, rfl, ?_⟩
    have hlt : acc1.length < most := by unfold most; omega
    have sb : salt * salt < 2 ^ 62 := by
      have : salt * salt ≤ 2147483646 * 2147483646 := Int.mul_le_mul (by omega) (by omega) hs0 (by omega)
      omega
    have sb0 : 0 ≤ salt * salt := Int.mul_nonneg hs0 hs0
    have m1 : mulOk salt salt := mulS ⟨hs0, by omega⟩ ⟨hs0, by omega⟩
    have m2 : mulOk (salt * salt) salt := mulS ⟨sb0, by omega⟩ ⟨hs0, by omega⟩
    have m3 : mulOk 48271 salt := mulS ⟨by omega, by omega⟩ ⟨hs0, by omega⟩
    have m4 : mulOk 13 (i : Nat) := mulS ⟨by omega, by omega⟩ ⟨by omega, by omega⟩
    refine ⟨[a0, a1, .own (.lst ((acc1 ++ [((salt * salt * salt + 48271 * salt + 13 * (i : Nat) + 5) % 2147483629).fdiv 1013 % 1009]).map D.int)), .val (.int ((salt * salt * salt + 48271 * salt + 13 * (i : Nat) + 5) % 2147483629)), s4, s5, .val (.int (i : Nat))], S', ?_, rfl, _, _, _, rfl, by rw [List.length_append, List.length_singleton]; omega, hg.app (by omega) (by omega), by omega, by omega⟩
    simp [fb__law_feed_3, m1, m2, m3, m4, hlt, divOk_1013])
  exact ⟨σ', e, acc', _, s6, h1, by simpa [ran] using h2, h3⟩
theorem cutL_map {α β : Type} (f : α → β) (l : List α) (lo hi : Option Int) : cutL (l.map f) lo hi = (cutL l lo hi).map f := by
  unfold cutL
  rw [List.length_map, List.map_take, List.map_drop]
theorem cutL_to {α : Type} (l : List α) (n : Nat) : cutL l none (some (n : Int)) = l.take n := by
  unfold cutL
  have : HT.sIx l.length l.length (some (n : Int)) = min n l.length := HT.sIx_nat ..
  rw [this]
  show (l.drop 0).take (min n l.length - 0) = l.take n
  rw [List.drop_zero, Nat.sub_zero]
  by_cases h : n ≤ l.length
  · rw [Nat.min_eq_left h]
  · rw [Nat.min_eq_right (by omega), List.take_of_length_le (Nat.le_refl _), List.take_of_length_le (by omega)]
theorem cutL_from {α : Type} (l : List α) (n : Nat) : cutL l (some (n : Int)) none = l.drop n := by
  unfold cutL
  have : HT.sIx l.length 0 (some (n : Int)) = min n l.length := HT.sIx_nat ..
  rw [this]
  show (l.drop (min n l.length)).take (l.length - min n l.length) = l.drop n
  by_cases h : n ≤ l.length
  · rw [Nat.min_eq_left h, List.take_of_length_le (by rw [List.length_drop]; omega)]
  · rw [Nat.min_eq_right (by omega), List.drop_of_length_le (Nat.le_refl _), List.drop_of_length_le (show l.length ≤ n by omega)]
    simp
/-- the feed: so many ints from 0 to 1,000,002 -/
theorem feed_ok (ns : List Int) (many : Nat) (hm : many ≤ 1000000) (S : Sto) : ∃ fs : List Int, fs.length = many ∧ Good fs ∧ m__law_feed [.scr ns, .int many] S = .ok (.lst (fs.map D.int)) S := by
  have hc : (cutL ns none (some 63)).length ≤ 63 := by
    have := cutL_to ns 63
    rw [show ((63 : Nat) : Int) = 63 from rfl] at this
    rw [this, List.length_take]
    omega
  obtain ⟨σ1, e1, acc, salt, s4, s5, s6, rfl, h1, h2, h3, h4⟩ := feed_2 (S := S) (a0 := .val (.scr ns)) (a1 := .val (.int many)) (cutL ns none (some 63)) hc (s4 := .emp) (s5 := .emp) (s6 := .emp)
  have hsm : small ((many : Int) - (acc.length : Int)) := ⟨by omega, by omega⟩
  have e0 : ran 0 ((many : Int) - (acc.length : Int)) = ran 0 ((many - acc.length : Nat) : Int) := by
    unfold ran
    congr 2
    omega
  obtain ⟨σ2, e2, acc', salt', s6', rfl, h5, h6⟩ := feed_3 (S := S) (a0 := .val (.scr ns)) (a1 := .val (.int many)) (many - acc.length) (by omega) (acc := acc) (salt := salt) (s4 := s4) (s5 := s5) (s6 := s6) h1 h2 h3 h4
  refine ⟨acc'.take many, by rw [List.length_take]; omega, fun v hv => h6 v (List.mem_of_mem_take hv), ?_⟩
  refine dDef_ret (σ' := [.val (.scr ns), .val (.int many), .own (.lst (acc'.map D.int)), salt', s4, s5, s6']) ?_
  have ec : cutL (acc'.map D.int) none (some (many : Int)) = (acc'.take many).map D.int := by rw [cutL_map, cutL_to]
  have hmost : (0 : Nat) ≤ most := Nat.zero_le _
  simp [b__law_feed, e1, hsm, e0, e2, ec, hmost]

/-! ### the greatest measure -/
theorem gcd_step (x y : Int) (hx : 0 ≤ x) (hy : 0 < y) : Int.gcd y (x % y) = Int.gcd x y := by
  have e : (x % y).natAbs = x.natAbs % y.natAbs := by
    obtain ⟨a, rfl⟩ := Int.eq_ofNat_of_zero_le hx
    obtain ⟨b, rfl⟩ := Int.eq_ofNat_of_zero_le (Int.le_of_lt hy)
    rfl
  show Nat.gcd y.natAbs (x % y).natAbs = Nat.gcd x.natAbs y.natAbs
  rw [e, Nat.gcd_comm, ← Nat.gcd_rec, Nat.gcd_comm]
theorem loop_measure (S : Sto) : ∀ (n : Nat) (x y : Int), 0 ≤ x → 0 ≤ y → y.toNat < n → sWhile wc_measure_1 wb_measure_2 n [.val (.int x), .val (.int y)] S = .ok .next [.val (.int (Int.gcd x y)), .val (.int 0)] S := by
  intro n
  induction n with
  | zero => intro x y _ _ h; omega
  | succ n ih =>
    intro x y hx hy h
    rw [sWhile_step]
    by_cases h0 : y = 0
    · subst h0
      have : ((x.natAbs : Nat) : Int) = x := by omega
      simp [wc_measure_1, this]
    · have hp : 0 < y := by omega
      simp [wc_measure_1, wb_measure_2, h0, hp]
      have e := ih y (x % y) hy (Int.emod_nonneg _ h0) (by have := Int.emod_lt_of_pos x hp; omega)
      rw [gcd_step x y hx hp] at e
      simpa [wc_measure_1, wb_measure_2] using e
theorem abs_eq (a : Int) : (if a < 0 then -a else a) = (a.natAbs : Int) := by split <;> omega
theorem measure_eq (a b : Int) (S : Sto) (h : b.natAbs < fuel) : m_measure [.int a, .int b] S = .ok (.int (Int.gcd a b)) S := by
  refine dDef_ret (σ' := [.val (.int (Int.gcd a b)), .val (.int 0)]) ?_
  have e := loop_measure S fuel (a.natAbs : Int) (b.natAbs : Int) (by omega) (by omega) (by omega)
  have e2 : Int.gcd (a.natAbs : Int) (b.natAbs : Int) = Int.gcd a b := by simp [Int.gcd]
  rw [e2] at e
  simp [b_measure, e]
theorem loop_low (S : Sto) (a b : Slot) : ∀ (n : Nat) (x y : Int), 0 ≤ x → 0 ≤ y → y.toNat < n → sWhile wc__law_low_1 wb__law_low_2 n [a, b, .val (.int x), .val (.int y)] S = .ok .next [a, b, .val (.int (Int.gcd x y)), .val (.int 0)] S := by
  intro n
  induction n with
  | zero => intro x y _ _ h; omega
  | succ n ih =>
    intro x y hx hy h
    rw [sWhile_step]
    by_cases h0 : y = 0
    · subst h0
      have : ((x.natAbs : Nat) : Int) = x := by omega
      simp [wc__law_low_1, this]
    · have hp : 0 < y := by omega
      simp [wc__law_low_1, wb__law_low_2, h0, hp]
      have e := ih y (x % y) hy (Int.emod_nonneg _ h0) (by have := Int.emod_lt_of_pos x hp; omega)
      rw [gcd_step x y hx hp] at e
      simpa [wc__law_low_1, wb__law_low_2] using e

/-! ### the comparison of data -/
/-- plain data of less than n levels -/
def plain : Nat → D → Bool
  | 0, _ => false
  | _ + 1, .non => true
  | _ + 1, .bl _ => true
  | _ + 1, .int _ => true
  | _ + 1, .str _ => true
  | n + 1, .tup l => l.all (plain n) && decide (l.length ≤ most)
  | n + 1, .lst l => l.all (plain n) && decide (l.length ≤ most)
  | _ + 1, _ => false
theorem bools_rep : ∀ n : Nat, bools (List.replicate n (D.bl true)) = some (List.replicate n true)
  | 0 => rfl
  | n + 1 => by
    rw [List.replicate_succ]
    show (bools (List.replicate n (D.bl true))).map _ = _
    rw [bools_rep n]
    rfl
theorem all_rep (n : Nat) : opAll (.lst (List.replicate n (D.bl true))) = some (.bl true) := by
  show (bools _).map _ = _
  rw [bools_rep]
  simp
theorem same_lc {r : Den} {S : Sto} {a b : Slot} {e : DE} (he : e = dCall r (aCons (dVar 2) (aCons (dVar 3) aNil))) : ∀ (l : List D) (acc : List D), (∀ x ∈ l, r [x, x] S = .ok (.bl true) S ∧ frz x = fun σ S => .ok x σ S) → acc.length + l.length ≤ most →
    lcL (gT 2 (gsCons (gN 2) (gsCons (gN 3) gsNil))) tTrue e [2, 3] (pairs l l) acc [a, b, .emp, .emp] S = .ok (acc ++ List.replicate l.length (D.bl true)) [a, b, .emp, .emp] S
  | [], acc, _, _ => by simp [pairs, lcL]
  | x :: l, acc, h, hl => by
    obtain ⟨h1, h2⟩ := h x (List.mem_cons_self ..)
    have ih := same_lc (a := a) (b := b) (S := S) he l (acc ++ [.bl true]) (fun y hy => h y (List.mem_cons_of_mem _ hy)) (by rw [List.length_append, List.length_singleton]; rw [List.length_cons] at hl; omega)
    have hlt : acc.length < most := by rw [List.length_cons] at hl; omega
    unfold pairs lcL
    simp [gT, gsCons, gsNil, he, h1, h2, hlt]
    simp [wipeD, ← he]
    rw [ih, List.replicate_succ]
    simp
theorem plain_frz : ∀ {n : Nat} {d : D}, plain n d = true → frz d = fun σ S => .ok d σ S
  | 0, d, h => by cases h
  | n + 1, d, h => by cases d <;> first | rfl | cases h
theorem same_refl (S : Sto) : ∀ (n : Nat) (d : D), plain n d = true → r__law_same n [d, d] S = .ok (.bl true) S
  | 0, d, h => by cases h
  | n + 1, d, h => by
    show dDef 4 (b__law_same (r__law_same n)) [d, d] S = _
    cases d with
    | non => exact dDef_ret (σ' := [.val .non, .val .non, .emp, .emp]) (by simp [b__law_same])
    | bl b => exact dDef_ret (σ' := [.val (.bl b), .val (.bl b), .emp, .emp]) (by simp [b__law_same, opIsi, isiD])
    | int i => exact dDef_ret (σ' := [.val (.int i), .val (.int i), .emp, .emp]) (by simp [b__law_same, opIsi, isiD])
    | str x => exact dDef_ret (σ' := [.val (.str x), .val (.str x), .emp, .emp]) (by simp [b__law_same, opIsi, isiD])
    | tup l =>
      obtain ⟨h1, h2⟩ := Bool.and_eq_true_iff.mp h
      have e := same_lc (r := r__law_same n) (S := S) (a := .val (.tup l)) (b := .val (.tup l)) (e := le__law_same_1 (r__law_same n)) rfl l [] (fun x hx => ⟨same_refl S n x (List.all_eq_true.mp h1 x hx), plain_frz (List.all_eq_true.mp h1 x hx)⟩) (by simpa using h2)
      exact dDef_ret (σ' := [.val (.tup l), .val (.tup l), .emp, .emp]) (by simp [b__law_same, opIsi, isiD, dLc, noOwn, wipeD, restD, e, noX, all_rep])
    | lst l =>
      obtain ⟨h1, h2⟩ := Bool.and_eq_true_iff.mp h
      have e := same_lc (r := r__law_same n) (S := S) (a := .val (.lst l)) (b := .val (.lst l)) (e := le__law_same_2 (r__law_same n)) rfl l [] (fun x hx => ⟨same_refl S n x (List.all_eq_true.mp h1 x hx), plain_frz (List.all_eq_true.mp h1 x hx)⟩) (by simpa using h2)
      exact dDef_ret (σ' := [.val (.lst l), .val (.lst l), .emp, .emp]) (by simp [b__law_same, opIsi, isiD, dLc, noOwn, wipeD, restD, e, noX, all_rep])
    | _ => cases h
theorem same_ok {S : Sto} {d : D} (h : plain 8 d = true) : m__law_same [d, d] S = .ok (.bl true) S := same_refl S 8 d h
end MR

set_option Elab.async false
set_option linter.all false
set_option maxRecDepth 100000
set_option exponentiation.threshold 30000
/-! P1: fractions in lowest terms: part, scaled, and the law's own reckoning. -/
namespace MR
open PySem

/-- the measure with the bottom's sign -/
def sg (t b : Int) : Int := if b < 0 then -(Int.gcd t b : Int) else (Int.gcd t b : Int)
def frT (t b : Int) : Int := t.fdiv (sg t b)
def frB (t b : Int) : Int := b.fdiv (sg t b)
def fr (t b : Int) : D := .tup [.int (frT t b), .int (frB t b)]
theorem sg_natAbs (t b : Int) : (sg t b).natAbs = Int.gcd t b := by unfold sg; split <;> omega
theorem sg_ne {t b : Int} (h : b ≠ 0) : sg t b ≠ 0 := by
  have := Int.gcd_pos_of_ne_zero_right t h
  unfold sg
  split <;> omega
theorem sg_dvd_t (t b : Int) : sg t b ∣ t := by
  unfold sg
  split
  · exact Int.neg_dvd.mpr (Int.gcd_dvd_left t b)
  · exact Int.gcd_dvd_left t b
theorem sg_dvd_b (t b : Int) : sg t b ∣ b := by
  unfold sg
  split
  · exact Int.neg_dvd.mpr (Int.gcd_dvd_right t b)
  · exact Int.gcd_dvd_right t b
theorem fr_t (t b : Int) : sg t b * frT t b = t := Int.mul_fdiv_cancel' (sg_dvd_t t b)
theorem fr_b (t b : Int) : sg t b * frB t b = b := Int.mul_fdiv_cancel' (sg_dvd_b t b)
theorem sg_pos {t b : Int} (h : 0 < b) : 0 < sg t b := by
  have := Int.gcd_pos_of_ne_zero_right t (show b ≠ 0 by omega)
  unfold sg
  split <;> omega
theorem sg_neg {t b : Int} (h : b < 0) : sg t b < 0 := by
  have := Int.gcd_pos_of_ne_zero_right t (show b ≠ 0 by omega)
  unfold sg
  split <;> omega
theorem frB_pos {t b : Int} (h : b ≠ 0) : 0 < frB t b := by
  have e := fr_b t b
  rcases Int.lt_trichotomy b 0 with hb | hb | hb
  · have hs := sg_neg (t := t) hb
    rcases Int.lt_trichotomy (frB t b) 0 with q | q | q
    · have := Int.mul_pos_of_neg_of_neg hs q
      omega
    · rw [q, Int.mul_zero] at e
      omega
    · exact q
  · exact absurd hb h
  · have hs := sg_pos (t := t) hb
    rcases Int.lt_trichotomy (frB t b) 0 with q | q | q
    · have := Int.mul_neg_of_pos_of_neg hs q
      omega
    · rw [q, Int.mul_zero] at e
      omega
    · exact q
theorem fr_cop {t b : Int} (h : b ≠ 0) : Int.gcd (frT t b) (frB t b) = 1 := by
  have e : Int.gcd (sg t b * frT t b) (sg t b * frB t b) = Int.gcd t b := by rw [fr_t, fr_b]
  rw [Int.gcd_mul_left, sg_natAbs] at e
  have p := Int.gcd_pos_of_ne_zero_right t h
  exact Nat.eq_of_mul_eq_mul_left p (by rw [e, Nat.mul_one])
/-- two pairs in lowest terms of one worth are one -/
theorem low_unique {k m k' m' : Int} (hm : 0 < m) (hm' : 0 < m') (h : Int.gcd k m = 1) (h' : Int.gcd k' m' = 1) (e : k * m' = k' * m) : k = k' ∧ m = m' := by
  have en : k.natAbs * m'.natAbs = k'.natAbs * m.natAbs := by rw [← Int.natAbs_mul, ← Int.natAbs_mul, e]
  have c1 : Nat.Coprime m.natAbs k.natAbs := by
    unfold Nat.Coprime
    rw [Nat.gcd_comm]
    exact h
  have c2 : Nat.Coprime m'.natAbs k'.natAbs := by
    unfold Nat.Coprime
    rw [Nat.gcd_comm]
    exact h'
  have d1 : m.natAbs ∣ m'.natAbs := c1.dvd_of_dvd_mul_left (by rw [en]; exact Nat.dvd_mul_left ..)
  have d2 : m'.natAbs ∣ m.natAbs := c2.dvd_of_dvd_mul_left (by rw [← en]; exact Nat.dvd_mul_left ..)
  have em : m = m' := by
    have := Nat.dvd_antisymm d1 d2
    omega
  subst em
  exact ⟨Int.eq_of_mul_eq_mul_right (by omega) e, rfl⟩
theorem fr_unique {t b t' b' : Int} (hb : b ≠ 0) (hb' : b' ≠ 0) (e : t * b' = t' * b) : frT t b = frT t' b' ∧ frB t b = frB t' b' := by
  refine low_unique (frB_pos hb) (frB_pos hb') (fr_cop hb) (fr_cop hb') ?_
  have e1 := fr_t t b
  have e2 := fr_b t b
  have e3 := fr_t t' b'
  have e4 := fr_b t' b'
  have h1 : (sg t b * sg t' b') * (frT t b * frB t' b') = (sg t b * sg t' b') * (frT t' b' * frB t b) := by
    have l : (sg t b * sg t' b') * (frT t b * frB t' b') = (sg t b * frT t b) * (sg t' b' * frB t' b') := by
      rw [Int.mul_assoc, Int.mul_assoc, Int.mul_left_comm (sg t' b')]
    have r : (sg t b * sg t' b') * (frT t' b' * frB t b) = (sg t' b' * frT t' b') * (sg t b * frB t b) := by
      rw [Int.mul_comm (sg t b), Int.mul_assoc, Int.mul_assoc, Int.mul_left_comm (sg t b)]
    rw [l, r, e1, e2, e3, e4, e]
  exact Int.eq_of_mul_eq_mul_left (Int.mul_ne_zero (sg_ne hb) (sg_ne hb')) h1
theorem fr_eq {t b t' b' : Int} (hb : b ≠ 0) (hb' : b' ≠ 0) (e : t * b' = t' * b) : fr t b = fr t' b' := by
  obtain ⟨e1, e2⟩ := fr_unique hb hb' e
  unfold fr
  rw [e1, e2]
/-- what is in lowest terms is its own -/
theorem fr_low {k m : Int} (hm : 0 < m) (h : Int.gcd k m = 1) : frT k m = k ∧ frB k m = m := by
  have : sg k m = 1 := by
    unfold sg
    rw [if_neg (by omega), h]
    rfl
  unfold frT frB
  rw [this, Int.fdiv_one, Int.fdiv_one]
  exact ⟨rfl, rfl⟩
theorem fr_zero {b : Int} (h : b ≠ 0) : fr 0 b = .tup [.int 0, .int 1] := by
  have e := fr_eq (t := 0) (b := b) (t' := 0) (b' := 1) h (by decide) (by rw [Int.zero_mul, Int.zero_mul])
  rw [e]
  rfl
theorem frB_le {t b : Int} (h : b ≠ 0) : (frB t b).natAbs ≤ b.natAbs := by
  have e := congrArg Int.natAbs (fr_b t b)
  rw [Int.natAbs_mul] at e
  have : 0 < (sg t b).natAbs := by have := sg_ne (t := t) h; omega
  rw [← e]
  exact Nat.le_mul_of_pos_left _ this
theorem frT_le {t b : Int} (h : b ≠ 0) : (frT t b).natAbs ≤ t.natAbs := by
  have e := congrArg Int.natAbs (fr_t t b)
  rw [Int.natAbs_mul] at e
  have : 0 < (sg t b).natAbs := by have := sg_ne (t := t) h; omega
  rw [← e]
  exact Nat.le_mul_of_pos_left _ this
theorem sg_small {t b : Int} {n : Nat} (h : b ≠ 0) (hn : b.natAbs < 2 ^ n) : (sg t b).natAbs < 2 ^ n := by
  rw [sg_natAbs]
  exact Nat.lt_of_le_of_lt (Nat.le_of_dvd (by omega) (Int.gcd_dvd_natAbs_right t b)) hn
/-- a bottom that the reckoning takes -/
def okB (b : Int) : Prop := b ≠ 0 ∧ b.natAbs < 2 ^ 9000
theorem okB.fuel {b : Int} (h : okB b) : b.natAbs < fuel := Nat.lt_of_lt_of_le h.2 (by unfold MR.fuel; exact Nat.pow_le_pow_right (by decide) (by decide))
theorem okB.div {t b : Int} (h : okB b) : divOk (sg t b) := divOk_of (sg_ne h.1) (sg_small h.1 h.2) (by decide) (by decide)
theorem most3 : 2 ≤ most := by decide
theorem low_eq {t b : Int} (h : okB b) (S : Sto) : m__law_low [.int t, .int b] S = .ok (fr t b) S := by
  have e := loop_low S (.val (.int t)) (.val (.int b)) fuel (t.natAbs : Int) (b.natAbs : Int) (by omega) (by omega) (by have := h.fuel; omega)
  have e2 : Int.gcd (t.natAbs : Int) (b.natAbs : Int) = Int.gcd t b := by simp [Int.gcd]
  rw [e2] at e
  have hd := h.div (t := t)
  refine dDef_ret (σ' := [.val (.int t), .val (.int b), .val (.int (sg t b)), .val (.int 0)]) ?_
  unfold sg at hd
  by_cases hb : b < 0
  · rw [if_pos hb] at hd
    have hs : sg t b = -(Int.gcd t b : Int) := if_pos hb
    simp [b__law_low, e, hb, fr, frT, frB, hs, hd, most3]
  · rw [if_neg hb] at hd
    have hs : sg t b = (Int.gcd t b : Int) := if_neg hb
    simp [b__law_low, e, hb, fr, frT, frB, hs, hd, most3]
theorem part_eq {t b : Int} (h : okB b) (S : Sto) : m_part [.int t, .int b] S = .ok (fr t b) S := by
  have hd := h.div (t := t)
  by_cases hb : b < 0
  · have hs : sg t b = -(Int.gcd t b : Int) := if_pos hb
    have em := measure_eq (-t) (-b) S (by have := h.fuel; omega)
    rw [Int.neg_gcd, Int.gcd_neg] at em
    have hd2 : divOk (Int.gcd t b : Int) := by
      have : (Int.gcd t b : Int) = -(sg t b) := by rw [hs, Int.neg_neg]
      rw [this]
      unfold divOk at hd ⊢
      rw [Int.natAbs_neg]
      exact ⟨by omega, hd.2⟩
    have e1 : frT t b = (-t).fdiv (Int.gcd t b : Int) := by
      unfold frT
      rw [hs, ← Int.neg_fdiv_neg, Int.neg_neg]
    have e2 : frB t b = (-b).fdiv (Int.gcd t b : Int) := by
      unfold frB
      rw [hs, ← Int.neg_fdiv_neg, Int.neg_neg]
    refine dDef_ret (σ' := [.val (.int (-t)), .val (.int (-b)), .val (.int (Int.gcd t b))]) ?_
    simp [b_part, hb, em, hd2, fr, e1, e2, most3]
  · have hs : sg t b = (Int.gcd t b : Int) := if_neg hb
    have em := measure_eq t b S h.fuel
    rw [hs] at hd
    refine dDef_ret (σ' := [.val (.int t), .val (.int b), .val (.int (Int.gcd t b))]) ?_
    simp [b_part, hb, em, hd, fr, frT, frB, hs, most3]
theorem scaled_eq {t b m : Int} (h : okB b) (hm : mulOk t m) (S : Sto) : m_scaled [.tup [.int t, .int b], .int m] S = .ok (fr (t * m) b) S := by
  refine dDef_ret (σ' := [.val (.tup [.int t, .int b]), .val (.int m)]) ?_
  have e := part_eq (t := t * m) h S
  have a0 : L2.atI [D.int t, D.int b] 0 = some (.int t) := rfl
  have a1 : L2.atI [D.int t, D.int b] 1 = some (.int b) := rfl
  simp [b_scaled, a0, a1, hm, e]
  simp [fr]
end MR

set_option Elab.async false
set_option linter.all false
set_option maxRecDepth 100000
/-! P2: names. -/
namespace MR
open PySem

def abc : Str := "abcdefghijklmnopqrstuvwxyz"
def letter (c : Nat) : Bool := hasC abc c
def letters (t : Str) : Bool := t.cps.toList.all letter
def isNm (t : Str) : Bool := (decide (1 ≤ t.length) && decide (t.length ≤ 8)) && letters t
/-- a test of a text's signs, by a comprehension -/
theorem signs_lc {i : Nat} {e : DE} {σ σ' : Sl} {S : Sto} {it : DI} {t : Str} (p : Nat → Bool) (a : D → Sl) (hi : it σ S = .ok (signs t) σ' S) (hno : noOwn σ' [i] = true) (hl : t.length ≤ most)
    (st : ∀ c : Nat, (gN i) (.str ⟨#[c]⟩) (wipeD σ' [i]) = some (a (.str ⟨#[c]⟩)) ∧ wipeD (a (.str ⟨#[c]⟩)) [i] = wipeD σ' [i] ∧ dV e (a (.str ⟨#[c]⟩)) S = .ok (.bl (p c)) (a (.str ⟨#[c]⟩)) S) :
    dLc it (gN i) tTrue e [i] σ S = .ok (.lst (t.cps.toList.map fun c => .bl (p c))) σ' S := by
  have := dLc_map (it := it) (g := gN i) (e := e) (vs := [i]) a (fun d => match d with
    | .str x => .bl (p (x.cps.getD 0 0))
    | d => d) hi hno (by unfold signs; rw [List.length_map]; exact hl) fun d hd => by
      unfold signs at hd
      obtain ⟨c, _, rfl⟩ := List.mem_map.mp hd
      exact st c
  rw [this]
  unfold signs
  rw [List.map_map]
  rfl
theorem is_name_eq {t : Str} (h : t.length ≤ most) (S : Sto) : m_is_name [.str t] S = .ok (.bl (isNm t)) S := by
  have e : dLc (iStr (dVar 0)) (gN 1) tTrue le_is_name_1 [1] [.val (.str t), .emp] S = .ok (.lst (t.cps.toList.map fun c => .bl (letter c))) [.val (.str t), .emp] S :=
    signs_lc letter (fun d => [.val (.str t), .val d]) (by simp) rfl h fun c => ⟨rfl, rfl, by simp [le_is_name_1, opIn_sign]; rfl⟩
  refine dDef_ret (σ' := [.val (.str t), .emp]) ?_
  unfold isNm letters
  by_cases h1 : 1 ≤ t.length
  · by_cases h8 : t.length ≤ 8
    · have h1' : (1 : Int) ≤ (t.length : Int) := by omega
      have h8' : (t.length : Int) ≤ 8 := by omega
      simp [b_is_name, h, h1', h8', e, opAll_map, h1, h8]
    · have h1' : (1 : Int) ≤ (t.length : Int) := by omega
      have h8' : ¬ (t.length : Int) ≤ 8 := by omega
      simp [b_is_name, h, h1', h8', h1, h8]
  · have h1' : ¬ (1 : Int) ≤ (t.length : Int) := by omega
    simp [b_is_name, h, h1', h1]
end MR

set_option Elab.async false
set_option linter.all false
set_option maxRecDepth 100000
set_option exponentiation.threshold 30000
/-! P3: sums of fractions; numbers of many figures. -/
namespace MR
open PySem

def tenS (k : Nat) : Str := ("1" : Str) ++ repS "0" k
theorem ten_ok : ∀ k : Fin 24, ∃ n : Fin (10 ^ 24), PySem.intText? (tenS k.val) = some (n.val : Int) ∧ (tenS k.val).length ≤ 640 ∧ (("1" : Str).length + (repS "0" k.val).length ≤ most) ∧ ("0" : Str).length * k.val ≤ most := by
  intro k
  refine ⟨⟨10 ^ k.val, Nat.pow_lt_pow_right (by decide) k.isLt⟩, ?_⟩
  revert k
  decide +kernel
theorem atI_map {f : Int → D} {l : List Int} {n : Nat} (h : n < l.length) : L2.atI (l.map f) (n : Int) = some (f (l[n]'h)) := by
  refine L2.atI_nat ?_
  rw [List.getElem?_map, List.getElem?_eq_getElem h]
  rfl
theorem atI3 {a b c : D} {n : Int} (h0 : 0 ≤ n) (h1 : n < 3) : ∃ d, L2.atI [a, b, c] n = some d ∧ (d = a ∨ d = b ∨ d = c) := by
  have : n = 0 ∨ n = 1 ∨ n = 2 := by omega
  rcases this with rfl | rfl | rfl
  · exact ⟨a, rfl, .inl rfl⟩
  · exact ⟨b, rfl, .inr (.inl rfl)⟩
  · exact ⟨c, rfl, .inr (.inr rfl)⟩
theorem big_ok {l : List Int} (hl : 3 ≤ l.length) (hg : Good l) (S : Sto) : ∃ v : Int, v.natAbs < 2 ^ 100 ∧ m__law_big [.lst (l.map D.int)] S = .ok (.int v) S := by
  have a0 := atI_map (f := D.int) (l := l) (n := 0) (by omega)
  have a1 := atI_map (f := D.int) (l := l) (n := 1) (by omega)
  have a2 := atI_map (f := D.int) (l := l) (n := 2) (by omega)
  have g1 := hg _ (List.getElem_mem (h := show 1 < l.length by omega))
  generalize hx0 : l[0]'(by omega) = x0 at a0
  generalize hx1 : l[1]'(by omega) = x1 at a1 g1
  generalize hx2 : l[2]'(by omega) = x2 at a2
  have a0 : L2.atI (l.map D.int) 0 = some (.int x0) := a0
  have a1 : L2.atI (l.map D.int) 1 = some (.int x1) := a1
  have a2 : L2.atI (l.map D.int) 2 = some (.int x2) := a2
  obtain ⟨⟨n, hn⟩, e1, e2, e3, e4⟩ := ten_ok ⟨(x1 % 24).toNat, by omega⟩
  have e1 : PySem.intText? (("1" : Str) ++ repS "0" (x1 % 24).toNat) = some (n : Int) := e1
  have em : opMul' (.str "0") (.int (x1 % 24)) = some (.str (repS "0" (x1 % 24).toNat)) := if_pos ⟨by omega, by omega, e4⟩
  have e2 : ((("1" : Str) ++ repS "0" (x1 % 24).toNat)).length ≤ 640 := e2
  have ei : opIntS (.str (("1" : Str) ++ repS "0" (x1 % 24).toNat)) = some (.int n) := by
    show (if _ then _ else _) = _
    rw [if_pos e2, e1]
    rfl
  have mo : mulOk (x0 % 1000) n := mulS (by omega) (by omega)
  have d24 : divOk 24 := by decide
  have pn : x0 % 1000 * (n : Int) < 1000 * 10 ^ 24 := by
    have h1 : x0 % 1000 * (n : Int) ≤ 999 * (n : Int) := Int.mul_le_mul_of_nonneg_right (by omega) (by omega)
    omega
  have p0 : 0 ≤ x0 % 1000 * (n : Int) := Int.mul_nonneg (by omega) (by omega)
  obtain ⟨d, ed, hd⟩ := atI3 (a := .int (x0 % 1000 * n + x2 % 7)) (b := .int (0 - (x0 % 1000 * n + x2 % 7))) (c := .int (x2 % 13 - 6)) (n := x1.fdiv 24 % 3) (by omega) (by omega)
  obtain ⟨v, rfl, hv⟩ : ∃ v : Int, d = .int v ∧ v.natAbs < 2 ^ 100 := by
    rcases hd with rfl | rfl | rfl
    · exact ⟨_, rfl, by omega⟩
    · exact ⟨_, rfl, by omega⟩
    · exact ⟨_, rfl, by omega⟩
  refine ⟨v, hv, dDef_ret (σ' := [.val (.lst (l.map D.int)), .val (.int (x0 % 1000 * n + x2 % 7))]) ?_⟩
  have m3 : 3 ≤ most := by decide
  simp [b__law_big, a0, a1, a2, em, e3, ei, mo, m3, d24]
  simp at ed
  simp [ed]
theorem parts_same {t b : Int} (hb : b ≠ 0) (S : Sto) : m__law_parts_same [fr t b, fr t b] S = .ok (.bl true) S := by
  have hp : plain 8 (fr t b) = true := rfl
  have hs := same_ok (S := S) hp
  have hf := plain_frz hp
  refine dDef_ret (σ' := [.val (fr t b), .val (fr t b)]) ?_
  have a1 : opIx (fr t b) (.int 1) = some (.int (frB t b)) := rfl
  have hd : ∀ σ : Sl, deref σ S (fr t b) = some (fr t b) := fun _ => rfl
  simp [b__law_parts_same, hf, hs, a1, hd, frB_pos hb]
theorem Good.drop {l : List Int} (h : Good l) (n : Nat) : Good (l.drop n) := fun v hv => h v (List.mem_of_mem_drop hv)
abbrev Fr := Int × Int
def encF (p : Fr) : D := .tup [.int p.1, .int p.2]
/-- a fraction whose parts have less than n bits -/
structure Sz (n : Nat) (p : Fr) : Prop where
  t : p.1.natAbs < 2 ^ n
  b : p.2.natAbs < 2 ^ n
  pos : 0 < p.2
theorem Sz.mono {n m : Nat} {p : Fr} (h : Sz n p) (hm : n ≤ m) : Sz m p := ⟨Nat.lt_of_lt_of_le h.t (Nat.pow_le_pow_right (by decide) hm), Nat.lt_of_lt_of_le h.b (Nat.pow_le_pow_right (by decide) hm), h.pos⟩
def addF (p q : Fr) : Fr := (frT (p.1 * q.2 + q.1 * p.2) (p.2 * q.2), frB (p.1 * q.2 + q.1 * p.2) (p.2 * q.2))
def subF (p q : Fr) : Fr := (frT (p.1 * q.2 - q.1 * p.2) (p.2 * q.2), frB (p.1 * q.2 - q.1 * p.2) (p.2 * q.2))
theorem mul_bits {i j : Int} {a b : Nat} (ha : i.natAbs < 2 ^ a) (hb : j.natAbs < 2 ^ b) : (i * j).natAbs < 2 ^ (a + b) := by
  rw [Int.natAbs_mul, Nat.pow_add]
  exact Nat.mul_lt_mul'' ha hb
theorem Sz.bb {n m : Nat} {p q : Fr} (h : Sz n p) (k : Sz m q) : p.2 * q.2 ≠ 0 := by
  have := Int.mul_pos h.pos k.pos
  omega
theorem Sz.add {n m : Nat} {p q : Fr} (h : Sz n p) (k : Sz m q) : Sz (n + m + 1) (addF p q) := by
  have h0 := h.bb k
  have b1 := mul_bits h.t k.b
  have b2 := mul_bits k.t h.b
  have b3 := mul_bits h.b k.b
  have p2 : 2 ^ (n + m + 1) = 2 ^ (n + m) + 2 ^ (n + m) := by rw [Nat.pow_succ]; omega
  rw [Nat.add_comm m n] at b2
  refine ⟨Nat.lt_of_le_of_lt (frT_le h0) ?_, Nat.lt_of_le_of_lt (frB_le h0) ?_, frB_pos h0⟩
  · have := Int.natAbs_add_le (p.1 * q.2) (q.1 * p.2)
    omega
  · omega
theorem Sz.sub {n m : Nat} {p q : Fr} (h : Sz n p) (k : Sz m q) : Sz (n + m + 1) (subF p q) := by
  have h0 := h.bb k
  have b1 := mul_bits h.t k.b
  have b2 := mul_bits k.t h.b
  have b3 := mul_bits h.b k.b
  have p2 : 2 ^ (n + m + 1) = 2 ^ (n + m) + 2 ^ (n + m) := by rw [Nat.pow_succ]; omega
  rw [Nat.add_comm m n] at b2
  refine ⟨Nat.lt_of_le_of_lt (frT_le h0) ?_, Nat.lt_of_le_of_lt (frB_le h0) ?_, frB_pos h0⟩
  · have := Int.natAbs_sub_le (p.1 * q.2) (q.1 * p.2)
    omega
  · omega
theorem Sz.mulOk {i j : Int} {n m : Nat} (h : i.natAbs < 2 ^ n) (k : j.natAbs < 2 ^ m) (hn : n + m ≤ 9000) : MR.mulOk i j := mulOk_of (a := n + 1) (b := m + 1) (Nat.lt_of_lt_of_le h (Nat.pow_le_pow_right (by decide) (by omega))) (Nat.lt_of_lt_of_le k (Nat.pow_le_pow_right (by decide) (by omega))) (by omega) (by omega) (by omega)
theorem Sz.okB {n m : Nat} {p q : Fr} (h : Sz n p) (k : Sz m q) (hn : n + m ≤ 9000) : MR.okB (p.2 * q.2) := ⟨h.bb k, Nat.lt_of_lt_of_le (mul_bits h.b k.b) (Nat.pow_le_pow_right (by decide) hn)⟩
theorem ix0 (p : Fr) : opIx (encF p) (.int 0) = some (.int p.1) := rfl
theorem ix1 (p : Fr) : opIx (encF p) (.int 1) = some (.int p.2) := rfl
@[simp] theorem deref_F (p : Fr) (σ : Sl) (S : Sto) : deref σ S (encF p) = some (encF p) := rfl
@[simp] theorem frz_F (p : Fr) (σ : Sl) (S : Sto) : frz (encF p) σ S = .ok (encF p) σ S := rfl
theorem plus_eq {n m : Nat} {p q : Fr} (h : Sz n p) (k : Sz m q) (hn : n + m ≤ 9000) (S : Sto) : m_plus [encF p, encF q] S = .ok (encF (addF p q)) S := by
  have e := part_eq (t := p.1 * q.2 + q.1 * p.2) (h.okB k hn) S
  have e : m_part [.int (p.1 * q.2 + q.1 * p.2), .int (p.2 * q.2)] S = .ok (encF (addF p q)) S := e
  have m1 := Sz.mulOk h.t k.b hn
  have m2 := Sz.mulOk k.t h.b (by omega)
  have m3 := Sz.mulOk h.b k.b hn
  exact dDef_ret (σ' := [.val (encF p), .val (encF q)]) (by simp [b_plus, ix0, ix1, m1, m2, m3, e])
theorem minus_eq {n m : Nat} {p q : Fr} (h : Sz n p) (k : Sz m q) (hn : n + m ≤ 9000) (S : Sto) : m_minus [encF p, encF q] S = .ok (encF (subF p q)) S := by
  have e := part_eq (t := p.1 * q.2 - q.1 * p.2) (h.okB k hn) S
  have e : m_part [.int (p.1 * q.2 - q.1 * p.2), .int (p.2 * q.2)] S = .ok (encF (subF p q)) S := e
  have m1 := Sz.mulOk h.t k.b hn
  have m2 := Sz.mulOk k.t h.b (by omega)
  have m3 := Sz.mulOk h.b k.b hn
  exact dDef_ret (σ' := [.val (encF p), .val (encF q)]) (by simp [b_minus, ix0, ix1, m1, m2, m3, e])
theorem ladd_eq {n m : Nat} {p q : Fr} (h : Sz n p) (k : Sz m q) (hn : n + m ≤ 9000) (S : Sto) : m__law_add [encF p, encF q] S = .ok (encF (addF p q)) S := by
  have e := low_eq (t := p.1 * q.2 + q.1 * p.2) (h.okB k hn) S
  have e : m__law_low [.int (p.1 * q.2 + q.1 * p.2), .int (p.2 * q.2)] S = .ok (encF (addF p q)) S := e
  have m1 := Sz.mulOk h.t k.b hn
  have m2 := Sz.mulOk k.t h.b (by omega)
  have m3 := Sz.mulOk h.b k.b hn
  exact dDef_ret (σ' := [.val (encF p), .val (encF q)]) (by simp [b__law_add, ix0, ix1, m1, m2, m3, e])
/-- a sum, step by step -/
def sumF (p : Fr) (l : List Fr) : Fr := l.foldl addF p
theorem sum_Sz {n : Nat} {p : Fr} (h : Sz n p) : ∀ (l : List Fr), (∀ q ∈ l, Sz 101 q) → Sz (n + 102 * l.length) (sumF p l)
  | [], _ => h
  | q :: l, hl => by
    have := sum_Sz (h.add (hl q (List.mem_cons_self ..))) l fun r hr => hl r (List.mem_cons_of_mem _ hr)
    rw [List.length_cons]
    exact this.mono (by omega)
theorem total_loop {S : Sto} {a0 : Slot} {f : DS} {i j : Nat} : True := trivial
theorem parts_sameF {p : Fr} (hp : 0 < p.2) (S : Sto) : m__law_parts_same [encF p, encF p] S = .ok (.bl true) S := by
  have hpl : plain 8 (encF p) = true := rfl
  have hs := same_ok (S := S) hpl
  refine dDef_ret (σ' := [.val (encF p), .val (encF p)]) ?_
  simp [b__law_parts_same, hs, ix1, hp]
end MR

set_option Elab.async false
set_option linter.all false
set_option maxRecDepth 100000
/-! P4: texts; drawn names. -/
namespace MR
open PySem

/-- a text of these signs -/
def txt (l : List Nat) : Str := ⟨l.toArray⟩
@[simp] theorem txt_len (l : List Nat) : (txt l).length = l.length := by unfold txt Str.length; simp
@[simp] theorem txt_cps (l : List Nat) : (txt l).cps.toList = l := by unfold txt; simp
theorem txt_of (z : Str) : txt z.cps.toList = z := by unfold txt; cases z; simp
theorem txt_inj {l m : List Nat} (h : txt l = txt m) : l = m := by
  have := congrArg (fun z : Str => z.cps.toList) h
  simpa using this
theorem txt_app (l m : List Nat) : txt l ++ txt m = txt (l ++ m) := by
  show Str.append _ _ = _
  unfold Str.append txt
  simp
theorem join_signs (l : List Nat) : Txt.join "" (l.map fun c => txt [c]) = txt l := by
  show Builtin.Str.glued _ _ = _
  rw [StrLaws.glued_eq_join]
  induction l with
  | nil => rfl
  | cons c l ih =>
    cases l with
    | nil => rfl
    | cons c2 l =>
      show txt [c] ++ ("" : Str) ++ Str.join "" ((c2 :: l).map fun c => txt [c]) = _
      rw [ih]
      have : ("" : Str) = txt [] := by decide +kernel
      rw [this, txt_app, txt_app]
      rfl
theorem cutS_to (l : List Nat) (n : Nat) : L2.cutS (txt l) none (some (n : Int)) = txt (l.take n) := by
  have := cutL_to l n
  unfold cutL at this
  unfold L2.cutS
  rw [txt_len, txt_cps, this]
  rfl
theorem cutS_from (l : List Nat) (n : Nat) : L2.cutS (txt l) (some (n : Int)) none = txt (l.drop n) := by
  have := cutL_from l n
  unfold cutL at this
  unfold L2.cutS
  rw [txt_len, txt_cps, this]
  rfl
theorem rep_sign (c n : Nat) : repS (txt [c]) n = txt (List.replicate n c) := by
  unfold repS
  rw [txt_cps]
  congr 2
  induction n with
  | zero => rfl
  | succ n ih => rw [List.replicate_succ, List.flatten_cons, ih, List.replicate_succ]; rfl
theorem abc_at : ∀ k : Fin 26, abc.cps.toList[k.val]? = some (97 + k.val) := by decide +kernel
theorem abc_let : ∀ k : Fin 26, letter (97 + k.val) = true := by decide +kernel
theorem abc_len : abc.length = 26 := by decide +kernel
theorem abc_ix (v : Int) : opIx (.str abc) (.int (v % 26)) = some (.str (txt [97 + (v % 26).toNat])) := by
  have h := abc_at ⟨(v % 26).toNat, by omega⟩
  have h2 := L2.atI_nat h
  rw [Int.toNat_of_nonneg (by omega)] at h2
  have e : opIx (.str abc) (.int (v % 26)) = if abc.length ≤ most then (L2.atI abc.cps.toList (v % 26)).map (fun c => D.str ⟨#[c]⟩) else none := rfl
  rw [e, if_pos (by rw [abc_len]; decide), h2]
  rfl
theorem letter_of (v : Int) : letter (97 + (v % 26).toNat) = true := abc_let ⟨(v % 26).toNat, by omega⟩
/-- a drawn name -/
def nmOf (base : List Nat) (at_ : Nat) (rep : Bool) (x0 x3 : Int) (k : Nat) : List Nat :=
  if rep then List.replicate (1 + (x0 + 3 * k) % 8).toNat (97 + ((x3 + 7 * k) % 26).toNat) else base.take at_ ++ (97 + ((x3 + 7 * k) % 26).toNat) :: base.drop at_
theorem nmOf_ok {base : List Nat} {at_ : Nat} {rep : Bool} {x0 x3 : Int} {k : Nat} (hb : base.length ≤ 7) (hl : ∀ c ∈ base, letter c = true) : isNm (txt (nmOf base at_ rep x0 x3 k)) = true := by
  have key : ∀ l : List Nat, 1 ≤ l.length → l.length ≤ 8 → (∀ c ∈ l, letter c = true) → isNm (txt l) = true := fun l h1 h2 h3 => by
    unfold isNm letters
    rw [txt_len, txt_cps, Bool.and_eq_true, Bool.and_eq_true, decide_eq_true_iff, decide_eq_true_iff, List.all_eq_true]
    exact ⟨⟨h1, h2⟩, h3⟩
  unfold nmOf
  cases rep with
  | true =>
    rw [if_pos rfl]
    refine key _ (by rw [List.length_replicate]; omega) (by rw [List.length_replicate]; omega) fun c hc => ?_
    rw [List.eq_of_mem_replicate hc]
    exact letter_of _
  | false =>
    rw [if_neg Bool.false_ne_true]
    refine key _ (by simp; omega) (by simp; omega) fun c hc => ?_
    rcases List.mem_append.mp hc with hc | hc
    · exact hl c (List.mem_of_mem_take hc)
    · rcases List.mem_cons.mp hc with rfl | hc
      · exact letter_of _
      · exact hl c (List.mem_of_mem_drop hc)
theorem nmOf_inj {base : List Nat} {at_ : Nat} {rep : Bool} {x0 x3 : Int} {k j : Nat} (ha : at_ ≤ base.length) (hk : k < 26) (hj : j < 26) (h : nmOf base at_ rep x0 x3 k = nmOf base at_ rep x0 x3 j) : k = j := by
  have : (97 + ((x3 + 7 * k) % 26).toNat) = (97 + ((x3 + 7 * j) % 26).toNat) := by
    unfold nmOf at h
    cases rep with
    | true =>
      rw [if_pos rfl, if_pos rfl] at h
      have e1 : (1 + (x0 + 3 * (k : Int)) % 8).toNat = ((x0 + 3 * (k : Int)) % 8).toNat + 1 := by omega
      have e2 : (1 + (x0 + 3 * (j : Int)) % 8).toNat = ((x0 + 3 * (j : Int)) % 8).toNat + 1 := by omega
      rw [e1, e2, List.replicate_succ, List.replicate_succ] at h
      injection h
    | false =>
      rw [if_neg Bool.false_ne_true, if_neg Bool.false_ne_true] at h
      have := (List.append_cancel_left_eq _ _ _).mp h
      injection this
  omega
/-- the base of drawn names -/
def baseOf (x0 x1 : Int) : List Nat := (List.range (x1 % 8).toNat).map fun k => 97 + ((x0 + ((k : Nat) + 1) * x1.fdiv 8) % 26).toNat
theorem baseOf_len (x0 x1 : Int) : (baseOf x0 x1).length = (x1 % 8).toNat := by unfold baseOf; rw [List.length_map, List.length_range]
theorem baseOf_let (x0 x1 : Int) : ∀ c ∈ baseOf x0 x1, letter c = true := fun c hc => by
  obtain ⟨k, _, rfl⟩ := List.mem_map.mp hc
  exact letter_of _
structure Nms (n : Nat) (l : List Str) : Prop where
  len : l.length = n
  nd : l.Nodup
  nm : ∀ x ∈ l, isNm x = true
theorem nm_loop {ds : List D} {x0 x2 x3 : Int} {base : List Nat} {at_ : Nat} (h0 : L2.atI ds 0 = some (.int x0)) (h2 : L2.atI ds 2 = some (.int x2)) (h3 : L2.atI ds 3 = some (.int x3)) (g0 : 0 ≤ x0 ∧ x0 < 1000003) (g3 : 0 ≤ x3 ∧ x3 < 1000003)
    (hb : base.length ≤ 7) (ha : at_ ≤ base.length) (n : Nat) (hn : n ≤ 26) {s1 s6 s7 s8 : Slot} (S : Sto) : ∃ u6 u7 u8, forL (gN 6) fb__law_names_2 (ran 0 n) [.val (.lst ds), s1, .val (.str abc), .val (.str (txt base)), .val (.int at_), .own (.lst []), s6, s7, s8] S =
      .ok .next [.val (.lst ds), s1, .val (.str abc), .val (.str (txt base)), .val (.int at_), .own (.lst ((List.range n).map fun k => .str (txt (nmOf base at_ (decide (x2.fdiv 8 % 2 = 1)) x0 x3 k)))), u6, u7, u8] S := by
  obtain ⟨σ', S', e, rfl, t6, t7, t8, rfl⟩ := forL_inv (g := gN 6) (f := fb__law_names_2) (fun i σ S' => S' = S ∧ ∃ s6 s7 s8, σ = [.val (.lst ds), s1, .val (.str abc), .val (.str (txt base)), .val (.int at_), .own (.lst ((List.range i).map fun k => .str (txt (nmOf base at_ (decide (x2.fdiv 8 % 2 = 1)) x0 x3 k)))), s6, s7, s8]) (ran 0 n) 0 [.val (.lst ds), s1, .val (.str abc), .val (.str (txt base)), .val (.int at_), .own (.lst []), s6, s7, s8] S ⟨rfl, s6, s7, s8, rfl⟩ (by
    rintro i d σ S' hi ⟨rfl, s6, s7, s8, rfl⟩
    have hin : i < n := by
      have := (List.getElem?_eq_some_iff.mp hi).1
      simp [ran] at this
      omega
    have hd : d = .int (i : Nat) := by
      unfold ran at hi
      rw [List.getElem?_map] at hi
      obtain ⟨k, hk, rfl⟩ := Option.map_eq_some_iff.mp hi
      rw [List.getElem?_range (by omega)] at hk
      cases hk
      simp
    subst hd
    refine ⟨_, rfl, ?_⟩
    rw [Nat.zero_add]
    generalize hacc : ((List.range i).map fun k => D.str (txt (nmOf base at_ (decide (x2.fdiv 8 % 2 = 1)) x0 x3 k))) = acc
    have hal : acc.length < most := by rw [← hacc, List.length_map, List.length_range]; unfold most; omega
    have e1 : (List.range (i + 1)).map (fun k => D.str (txt (nmOf base at_ (decide (x2.fdiv 8 % 2 = 1)) x0 x3 k))) = acc ++ [.str (txt (nmOf base at_ (decide (x2.fdiv 8 % 2 = 1)) x0 x3 i))] := by
      rw [List.range_succ, List.map_append, hacc]; rfl
    rw [e1]
    have m7 : mulOk 7 (i : Int) := mulS (by omega) (by omega)
    have m3 : mulOk 3 (i : Int) := mulS (by omega) (by omega)
    have d8 : divOk 8 := by decide
    have es := abc_ix (x3 + 7 * (i : Int))
    have c1 := cutS_to base at_
    have c2 := cutS_from base at_
    have hbm : base.length ≤ most := by unfold most; omega
    have eA : opAdd (.str (txt (base.take at_))) (.str (txt [97 + ((x3 + 7 * (i : Int)) % 26).toNat])) = some (.str (txt (base.take at_ ++ [97 + ((x3 + 7 * (i : Int)) % 26).toNat]))) := by
      rw [opAdd_str (by rw [txt_len, txt_len, List.length_take, List.length_singleton]; unfold most; omega), txt_app]
    have eB : opAdd (.str (txt (base.take at_ ++ [97 + ((x3 + 7 * (i : Int)) % 26).toNat]))) (.str (txt (base.drop at_))) = some (.str (txt (base.take at_ ++ (97 + ((x3 + 7 * (i : Int)) % 26).toNat) :: base.drop at_))) := by
      rw [opAdd_str (by rw [txt_len, txt_len, List.length_append, List.length_take, List.length_singleton, List.length_drop]; unfold most; omega), txt_app, List.append_assoc]
      rfl
    have eM : opMul' (.str (txt [97 + ((x3 + 7 * (i : Int)) % 26).toNat])) (.int (1 + (x0 + 3 * (i : Int)) % 8)) = some (.str (txt (List.replicate (1 + (x0 + 3 * (i : Int)) % 8).toNat (97 + ((x3 + 7 * (i : Int)) % 26).toNat)))) := by
      have : opMul' (.str (txt [97 + ((x3 + 7 * (i : Int)) % 26).toNat])) (.int (1 + (x0 + 3 * (i : Int)) % 8)) = some (.str (repS (txt [97 + ((x3 + 7 * (i : Int)) % 26).toNat]) (1 + (x0 + 3 * (i : Int)) % 8).toNat)) := if_pos ⟨by omega, by omega, by rw [txt_len, List.length_singleton]; unfold most; omega⟩
      rw [this, rep_sign]
    by_cases hr : x2.fdiv 8 % 2 = 1
    · refine ⟨[.val (.lst ds), s1, .val (.str abc), .val (.str (txt base)), .val (.int at_), .own (.lst (acc ++ [.str (txt (nmOf base at_ (decide (x2.fdiv 8 % 2 = 1)) x0 x3 i))])), .val (.int i), .val (.str (txt [97 + ((x3 + 7 * (i : Int)) % 26).toNat])), .val (.str (txt (nmOf base at_ (decide (x2.fdiv 8 % 2 = 1)) x0 x3 i)))], S', ?_, rfl, _, _, _, rfl⟩
      have en : nmOf base at_ (decide (x2.fdiv 8 % 2 = 1)) x0 x3 i = List.replicate (1 + (x0 + 3 * (i : Int)) % 8).toNat (97 + ((x3 + 7 * (i : Int)) % 26).toNat) := by unfold nmOf; rw [if_pos (decide_eq_true hr)]
      rw [en]
      generalize List.replicate (1 + (x0 + 3 * (i : Int)) % 8).toNat (97 + ((x3 + 7 * (i : Int)) % 26).toNat) = z at *
      generalize txt [97 + ((x3 + 7 * (i : Int)) % 26).toNat] = sg at *
      generalize base.take at_ = z1 at *
      simp [fb__law_names_2, h0, h2, h3, m7, m3, d8, es, hbm, c1, c2, eA, eB, eM, hr, hal]
    · refine ⟨[.val (.lst ds), s1, .val (.str abc), .val (.str (txt base)), .val (.int at_), .own (.lst (acc ++ [.str (txt (nmOf base at_ (decide (x2.fdiv 8 % 2 = 1)) x0 x3 i))])), .val (.int i), .val (.str (txt [97 + ((x3 + 7 * (i : Int)) % 26).toNat])), .val (.str (txt (nmOf base at_ (decide (x2.fdiv 8 % 2 = 1)) x0 x3 i)))], S', ?_, rfl, _, _, _, rfl⟩
      have en : nmOf base at_ (decide (x2.fdiv 8 % 2 = 1)) x0 x3 i = base.take at_ ++ (97 + ((x3 + 7 * (i : Int)) % 26).toNat) :: base.drop at_ := by unfold nmOf; rw [if_neg]; simp [hr]
      rw [en]
      generalize base.take at_ ++ (97 + ((x3 + 7 * (i : Int)) % 26).toNat) :: base.drop at_ = z at *
      generalize txt [97 + ((x3 + 7 * (i : Int)) % 26).toNat] = sg at *
      generalize base.take at_ ++ [97 + ((x3 + 7 * (i : Int)) % 26).toNat] = z2 at *
      simp [fb__law_names_2, h0, h2, h3, m7, m3, d8, es, hbm, c1, c2, eA, eB, hr, hal])
  have : 0 + (ran 0 (n : Int)).length = n := by simp [ran]
  rw [this] at e
  exact ⟨t6, t7, t8, e⟩
theorem ran_mem {n : Int} {d : D} (h : d ∈ ran 0 n) : ∃ k : Nat, (k : Int) < n ∧ d = .int k := by
  unfold ran at h
  obtain ⟨k, hk, rfl⟩ := List.mem_map.mp h
  rw [List.mem_range] at hk
  exact ⟨k, by omega, by simp⟩
theorem ran_map {α : Type} (f : D → α) (n : Int) : (ran 0 n).map f = (List.range n.toNat).map fun k => f (.int (k : Nat)) := by
  unfold ran
  rw [List.map_map]
  simp
theorem names_end {ds out : List D} {m a : Int} {z tb : Str} {S : Sto} {u6 u7 u8 : Slot} (hsn : small m) (el : forL (gN 6) fb__law_names_2 (ran 0 m) [.val (.lst ds), .val (.int m), .val (.str z), .val (.str tb), .val (.int a), .own (.lst []), .emp, .emp, .emp] S = .ok .next [.val (.lst ds), .val (.int m), .val (.str z), .val (.str tb), .val (.int a), .own (.lst out), u6, u7, u8] S) :
  sSeq (sSetO 5 (dLst aNil)) (sSeq (sFor (iRan1 (dVar 1)) (gN 6) fb__law_names_2) (sRetO 5)) [.val (.lst ds), .val (.int m), .val (.str z), .val (.str tb), .val (.int a), .emp, .emp, .emp, .emp] S = .ok (.ret (.lst out)) [.val (.lst ds), .val (.int m), .val (.str z), .val (.str tb), .val (.int a), .own (.lst out), u6, u7, u8] S := by
  have m0 : 0 ≤ most := Nat.zero_le _
  simp [m0, hsn, el]
theorem names_ok {l : List Int} (hl : 4 ≤ l.length) (hg : Good l) (n : Nat) (hn : n ≤ 26) (S : Sto) : ∃ ys : List Str, Nms n ys ∧ m__law_names [.lst (l.map D.int), .int n] S = .ok (.lst (ys.map D.str)) S := by
  have a0 := atI_map (f := D.int) (l := l) (n := 0) (by omega)
  have a1 := atI_map (f := D.int) (l := l) (n := 1) (by omega)
  have a2 := atI_map (f := D.int) (l := l) (n := 2) (by omega)
  have a3 := atI_map (f := D.int) (l := l) (n := 3) (by omega)
  have g0 := hg _ (List.getElem_mem (h := show 0 < l.length by omega))
  have g1 := hg _ (List.getElem_mem (h := show 1 < l.length by omega))
  have g3 := hg _ (List.getElem_mem (h := show 3 < l.length by omega))
  generalize l[0]'(by omega) = x0 at a0 g0
  generalize l[1]'(by omega) = x1 at a1 g1
  generalize l[2]'(by omega) = x2 at a2
  generalize l[3]'(by omega) = x3 at a3 g3
  have a0 : L2.atI (l.map D.int) 0 = some (.int x0) := a0
  have a1 : L2.atI (l.map D.int) 1 = some (.int x1) := a1
  have a2 : L2.atI (l.map D.int) 2 = some (.int x2) := a2
  have a3 : L2.atI (l.map D.int) 3 = some (.int x3) := a3
  generalize l.map D.int = ds at *
  have hb : (baseOf x0 x1).length ≤ 7 := by rw [baseOf_len]; omega
  have hsm : small (x1 % 8) := ⟨by omega, by omega⟩
  have habc : ("abcdefghijklmnopqrstuvwxyz" : Str) = abc := rfl
  have d8 : divOk 8 := by decide
  have f8 : 0 ≤ x1.fdiv 8 ∧ x1.fdiv 8 < 1000003 := by rw [Int.fdiv_eq_ediv_of_nonneg _ (by omega)]; omega
  have ec : dLc (iRan1 (d2 opMod (d2 opIx (dVar 0) (dC (.int 1))) (dC (.int 8)))) (gN 6) tTrue le__law_names_1 [6] [.val (.lst ds), .val (.int n), .val (.str abc), .emp, .emp, .emp, .emp, .emp, .emp] S = .ok (.lst ((baseOf x0 x1).map fun c => .str (txt [c]))) [.val (.lst ds), .val (.int n), .val (.str abc), .emp, .emp, .emp, .emp, .emp, .emp] S := by
    have := dLc_map (it := iRan1 (d2 opMod (d2 opIx (dVar 0) (dC (.int 1))) (dC (.int 8)))) (g := gN 6) (e := le__law_names_1) (vs := [6]) (σ := [.val (.lst ds), .val (.int n), .val (.str abc), .emp, .emp, .emp, .emp, .emp, .emp]) (σ' := [.val (.lst ds), .val (.int n), .val (.str abc), .emp, .emp, .emp, .emp, .emp, .emp]) (S := S) (items := ran 0 (x1 % 8))
      (fun d => [.val (.lst ds), .val (.int n), .val (.str abc), .emp, .emp, .emp, .val d, .emp, .emp]) (fun d => match d with
        | .int k => .str (txt [97 + ((x0 + (k + 1) * x1.fdiv 8) % 26).toNat])
        | d => d) (by simp [a1, hsm]) rfl (by unfold ran most; rw [List.length_map, List.length_range]; omega) fun d hd => by
          obtain ⟨k, hk, rfl⟩ := ran_mem hd
          have m1 : mulOk ((k : Int) + 1) (x1.fdiv 8) := mulS (by omega) (by omega)
          have es := abc_ix (x0 + ((k : Int) + 1) * x1.fdiv 8)
          exact ⟨rfl, rfl, by simp [le__law_names_1, a0, a1, d8, m1, es]⟩
    rw [this, ran_map]
    unfold baseOf
    rw [List.map_map]
    rfl
  have ej : opJoin (.str "") (.lst ((baseOf x0 x1).map fun c => .str (txt [c]))) = some (.str (txt (baseOf x0 x1))) := by
    have e1 : ((baseOf x0 x1).map fun c => D.str (txt [c])) = ((baseOf x0 x1).map fun c => txt [c]).map D.str := by rw [List.map_map]; rfl
    rw [e1]
    show (strsD _).bind _ = _
    rw [strsD_map]
    show (if _ then _ else _) = _
    have hs : ∀ z : List Nat, ((z.map fun c => txt [c]).map (·.length)).sum = z.length := by
      intro z
      induction z with
      | nil => rfl
      | cons c z ih => rw [List.map_cons, List.map_cons, List.sum_cons, ih, txt_len, List.length_cons]; simp; omega
    have he0 : ("" : Str).length = 0 := by decide +kernel
    rw [if_pos (by rw [hs, he0, List.length_map]; unfold most; omega), join_signs]
  have hbl := baseOf_let x0 x1
  generalize baseOf x0 x1 = base at *
  have hat : ∃ at_ : Nat, x2 % ((base.length : Int) + 1) = at_ ∧ at_ ≤ base.length := by
    have h1 := Int.emod_nonneg x2 (b := (base.length : Int) + 1) (by omega)
    have h2 := Int.emod_lt_of_pos x2 (b := (base.length : Int) + 1) (by omega)
    exact ⟨(x2 % ((base.length : Int) + 1)).toNat, by omega, by omega⟩
  obtain ⟨at_, eat, hat⟩ := hat
  obtain ⟨u6, u7, u8, el⟩ := nm_loop a0 a2 a3 g0 g3 hb hat n hn (s1 := .val (.int n)) (s6 := .emp) (s7 := .emp) (s8 := .emp) S
  refine ⟨(List.range n).map fun k => txt (nmOf base at_ (decide (x2.fdiv 8 % 2 = 1)) x0 x3 k), ⟨by rw [List.length_map, List.length_range], ?_, fun y hy => ?_⟩, ?_⟩
  · unfold List.Nodup
    rw [List.pairwise_map]
    refine List.Pairwise.imp_of_mem (fun {a b} ha hb' hne e => hne (nmOf_inj hat ?_ ?_ (txt_inj e))) (List.nodup_range (n := n))
    · rw [List.mem_range] at ha; omega
    · rw [List.mem_range] at hb'; omega
  · obtain ⟨k, _, rfl⟩ := List.mem_map.mp hy
    exact nmOf_ok hb hbl
  · rw [List.map_map]
    have hsn : small (n : Int) := ⟨by omega, by omega⟩
    have hbm : base.length ≤ most := by unfold most; omega
    have hp : (0 : Int) < (base.length : Int) + 1 := by omega
    have m0 : 0 ≤ most := Nat.zero_le _
    refine dDef_ret (σ' := [.val (.lst ds), .val (.int n), .val (.str abc), .val (.str (txt base)), .val (.int at_), .own (.lst ((List.range n).map fun k => .str (txt (nmOf base at_ (decide (x2.fdiv 8 % 2 = 1)) x0 x3 k)))), u6, u7, u8]) ?_
    have ho : ((List.range n).map (D.str ∘ fun k => txt (nmOf base at_ (decide (x2.fdiv 8 % 2 = 1)) x0 x3 k))) = ((List.range n).map fun k => D.str (txt (nmOf base at_ (decide (x2.fdiv 8 % 2 = 1)) x0 x3 k))) := rfl
    rw [ho]
    generalize ((List.range n).map fun k => D.str (txt (nmOf base at_ (decide (x2.fdiv 8 % 2 = 1)) x0 x3 k))) = out at el
    have hbm : (txt base).length ≤ most := by rw [txt_len]; exact hbm
    have hlen : opLen (.str (txt base)) = some (.int base.length) := by rw [opLen_str hbm, txt_len]
    have hmod : opMod (.int x2) (.int ((base.length : Int) + 1)) = some (.int at_) := by rw [opMod_int hp, eat]
    generalize txt base = tb at *
    show b__law_names [.val (.lst ds), .val (.int n), .emp, .emp, .emp, .emp, .emp, .emp, .emp] S = _
    unfold b__law_names
    rw [habc]
    rw [sSeq_next (σ1 := [.val (.lst ds), .val (.int n), .val (.str abc), .emp, .emp, .emp, .emp, .emp, .emp]) (S1 := S) (by simp)]
    rw [sSeq_next (σ1 := [.val (.lst ds), .val (.int n), .val (.str abc), .val (.str tb), .emp, .emp, .emp, .emp, .emp]) (S1 := S) (by simp [ec, ej])]
    rw [sSeq_next (σ1 := [.val (.lst ds), .val (.int n), .val (.str abc), .val (.str tb), .val (.int at_), .emp, .emp, .emp, .emp]) (S1 := S) (by simp [a2, hlen, hmod])]
    exact names_end hsn el
end MR

set_option Elab.async false
set_option linter.all false
set_option maxRecDepth 100000
/-! PQ: equality of data. -/
namespace MR
open PySem

/-- data that == tells apart as the trees are apart: no bool in it, texts in order -/
def gr : Nat → D → Bool
  | _, .non => true
  | _, .int _ => true
  | _, .str x => PyData.strOk x
  | n + 1, .tup l => l.all (gr n)
  | n + 1, .lst l => l.all (gr n)
  | _, _ => false
theorem toDatas_cons (d : D) (ds : List D) : toData.toDatas (d :: ds) = (toData d).bind fun x => (toData.toDatas ds).map fun xs => x :: xs := rfl
theorem gr_data : ∀ (n : Nat) (d : D), gr n d = true → ∃ x, toData d = some x ∧ x.canLay0 = true ∧ x.depth ≤ n
  | n, .non, _ => ⟨_, rfl, rfl, Nat.zero_le _⟩
  | n, .int i, _ => ⟨_, rfl, rfl, Nat.zero_le _⟩
  | n, .str x, h => ⟨_, rfl, by cases n <;> exact h, Nat.zero_le _⟩
  | n + 1, .tup l, h => by
    have ih := gr_data n
    have : ∀ l : List D, l.all (gr n) = true → ∃ xs, toData.toDatas l = some xs ∧ PyData.canLayAll0 xs = true ∧ PyData.depthAll xs ≤ n := by
      intro l
      induction l with
      | nil => exact fun _ => ⟨[], rfl, rfl, Nat.zero_le _⟩
      | cons d ds hi =>
        intro h
        rw [List.all_cons, Bool.and_eq_true] at h
        obtain ⟨x, e1, e2, e3⟩ := ih d h.1
        obtain ⟨xs, f1, f2, f3⟩ := hi h.2
        refine ⟨x :: xs, by rw [toDatas_cons, e1, f1]; rfl, by rw [PyData.canLayAll0, e2, f2]; rfl, ?_⟩
        rw [PyData.depthAll]
        omega
    obtain ⟨xs, e1, e2, e3⟩ := this l h
    refine ⟨.tuple xs, ?_, e2, ?_⟩
    · show (toData.toDatas l).map _ = _
      rw [e1]; rfl
    · rw [PyData.depth]; omega
  | n + 1, .lst l, h => by
    have ih := gr_data n
    have : ∀ l : List D, l.all (gr n) = true → ∃ xs, toData.toDatas l = some xs ∧ PyData.canLayAll0 xs = true ∧ PyData.depthAll xs ≤ n := by
      intro l
      induction l with
      | nil => exact fun _ => ⟨[], rfl, rfl, Nat.zero_le _⟩
      | cons d ds hi =>
        intro h
        rw [List.all_cons, Bool.and_eq_true] at h
        obtain ⟨x, e1, e2, e3⟩ := ih d h.1
        obtain ⟨xs, f1, f2, f3⟩ := hi h.2
        refine ⟨x :: xs, by rw [toDatas_cons, e1, f1]; rfl, by rw [PyData.canLayAll0, e2, f2]; rfl, ?_⟩
        rw [PyData.depthAll]
        omega
    obtain ⟨xs, e1, e2, e3⟩ := this l h
    refine ⟨.list xs, ?_, e2, ?_⟩
    · show (toData.toDatas l).map _ = _
      rw [e1]; rfl
    · rw [PyData.depth]; omega
  | 0, .tup _, h => nomatch h
  | 0, .lst _, h => nomatch h
  | 0, .bl _, h => nomatch h
  | _ + 1, .bl _, h => nomatch h
  | 0, .dK _, h => nomatch h
  | _ + 1, .dK _, h => nomatch h
  | 0, .dT _, h => nomatch h
  | _ + 1, .dT _, h => nomatch h
  | 0, .obj _, h => nomatch h
  | _ + 1, .obj _, h => nomatch h
  | 0, .loc _, h => nomatch h
  | _ + 1, .loc _, h => nomatch h
  | 0, .scr _, h => nomatch h
  | _ + 1, .scr _, h => nomatch h
def nb : PyData → Bool
  | .bool _ => false
  | _ => true
theorem gr_tup {n : Nat} {l : List D} (h : gr n (.tup l) = true) : ∃ m, n = m + 1 ∧ l.all (gr m) = true := by
  cases n with
  | zero => cases h
  | succ m => exact ⟨m, rfl, h⟩
theorem gr_lst {n : Nat} {l : List D} (h : gr n (.lst l) = true) : ∃ m, n = m + 1 ∧ l.all (gr m) = true := by
  cases n with
  | zero => cases h
  | succ m => exact ⟨m, rfl, h⟩
theorem toData_tup {l : List D} {x : PyData} (h : toData (.tup l) = some x) : ∃ xs, toData.toDatas l = some xs ∧ x = .tuple xs := by
  obtain ⟨xs, g1, g2⟩ := Option.map_eq_some_iff.mp (show (toData.toDatas _).map _ = some _ from h)
  exact ⟨xs, g1, g2.symm⟩
theorem toData_lst {l : List D} {x : PyData} (h : toData (.lst l) = some x) : ∃ xs, toData.toDatas l = some xs ∧ x = .list xs := by
  obtain ⟨xs, g1, g2⟩ := Option.map_eq_some_iff.mp (show (toData.toDatas _).map _ = some _ from h)
  exact ⟨xs, g1, g2.symm⟩
def EqvAt (n : Nat) : Prop := ∀ (a b : D) (m : Nat) (x y : PyData), gr n a = true → gr m b = true → toData a = some x → toData b = some y → (PyData.eqv x y = true ↔ a = b)
theorem eqvAll_iff {n : Nat} (ih : EqvAt n) : ∀ (l k : List D) (m : Nat) (xs ys : List PyData), l.all (gr n) = true → k.all (gr m) = true → toData.toDatas l = some xs → toData.toDatas k = some ys → (PyData.eqvAll xs ys = true ↔ l = k) := by
  intro l
  induction l with
  | nil =>
    intro k m xs ys _ _ e1 e2
    cases e1
    cases k with
    | nil => cases e2; simp [PyData.eqvAll]
    | cons d ds =>
      rw [toDatas_cons] at e2
      obtain ⟨y, f1, f2⟩ := Option.bind_eq_some_iff.mp e2
      obtain ⟨ys, f3, rfl⟩ := Option.map_eq_some_iff.mp f2
      simp [PyData.eqvAll]
  | cons c cs hi =>
    intro k m xs ys h1 h2 e1 e2
    rw [toDatas_cons] at e1
    obtain ⟨x, f1, f2⟩ := Option.bind_eq_some_iff.mp e1
    obtain ⟨xs, f3, rfl⟩ := Option.map_eq_some_iff.mp f2
    rw [List.all_cons, Bool.and_eq_true] at h1
    cases k with
    | nil => cases e2; simp [PyData.eqvAll]
    | cons d ds =>
      rw [toDatas_cons] at e2
      obtain ⟨y, g1, g2⟩ := Option.bind_eq_some_iff.mp e2
      obtain ⟨ys, g3, rfl⟩ := Option.map_eq_some_iff.mp g2
      rw [List.all_cons, Bool.and_eq_true] at h2
      rw [PyData.eqvAll, Bool.and_eq_true, ih c d m x y h1.1 h2.1 f1 g1, hi ds m xs ys h1.2 h2.2 f3 g3]
      simp
theorem gr_cases {n : Nat} {a : D} (h : gr n a = true) : a = .non ∨ (∃ i, a = .int i) ∨ (∃ x, a = .str x) ∨ (∃ l, a = .tup l) ∨ ∃ l, a = .lst l := by
  cases a with
  | non => exact .inl rfl
  | int i => exact .inr (.inl ⟨_, rfl⟩)
  | str x => exact .inr (.inr (.inl ⟨_, rfl⟩))
  | tup l => exact .inr (.inr (.inr (.inl ⟨_, rfl⟩)))
  | lst l => exact .inr (.inr (.inr (.inr ⟨_, rfl⟩)))
  | _ => cases n <;> cases h
theorem eqvAt : ∀ n, EqvAt n := by
  intro n
  induction n with
  | zero =>
    intro a b m x y h1 h2 e1 e2
    rcases gr_cases h1 with rfl | ⟨i, rfl⟩ | ⟨z, rfl⟩ | ⟨l, rfl⟩ | ⟨l, rfl⟩ <;> rcases gr_cases h2 with rfl | ⟨j, rfl⟩ | ⟨z', rfl⟩ | ⟨k, rfl⟩ | ⟨k, rfl⟩ <;> first
      | (cases h1; done)
      | (cases e1; cases e2; simp [PyData.eqv]; done)
      | (cases e1; obtain ⟨ys, _, rfl⟩ := toData_tup e2; simp [PyData.eqv]; done)
      | (cases e1; obtain ⟨ys, _, rfl⟩ := toData_lst e2; simp [PyData.eqv]; done)
  | succ n ih =>
    intro a b m x y h1 h2 e1 e2
    rcases gr_cases h1 with rfl | ⟨i, rfl⟩ | ⟨z, rfl⟩ | ⟨l, rfl⟩ | ⟨l, rfl⟩ <;> rcases gr_cases h2 with rfl | ⟨j, rfl⟩ | ⟨z', rfl⟩ | ⟨k, rfl⟩ | ⟨k, rfl⟩ <;> first
      | (cases e1; cases e2; simp [PyData.eqv]; done)
      | (cases e1; obtain ⟨ys, _, rfl⟩ := toData_tup e2; simp [PyData.eqv]; done)
      | (cases e1; obtain ⟨ys, _, rfl⟩ := toData_lst e2; simp [PyData.eqv]; done)
      | (cases e2; obtain ⟨ys, _, rfl⟩ := toData_tup e1; simp [PyData.eqv]; done)
      | (cases e2; obtain ⟨ys, _, rfl⟩ := toData_lst e1; simp [PyData.eqv]; done)
      | (obtain ⟨xs, f1, rfl⟩ := toData_tup e1; obtain ⟨ys, _, rfl⟩ := toData_lst e2; simp [PyData.eqv]; done)
      | (obtain ⟨xs, f1, rfl⟩ := toData_lst e1; obtain ⟨ys, _, rfl⟩ := toData_tup e2; simp [PyData.eqv]; done)
      | (obtain ⟨xs, f1, rfl⟩ := toData_tup e1
         obtain ⟨ys, f2, rfl⟩ := toData_tup e2
         obtain ⟨m', rfl, h3⟩ := gr_tup h2
         rw [PyData.eqv, eqvAll_iff ih l k m' xs ys h1 h3 f1 f2]
         simp; done)
      | (obtain ⟨xs, f1, rfl⟩ := toData_lst e1
         obtain ⟨ys, f2, rfl⟩ := toData_lst e2
         obtain ⟨m', rfl, h3⟩ := gr_lst h2
         rw [PyData.eqv, eqvAll_iff ih l k m' xs ys h1 h3 f1 f2]
         simp; done)
theorem deepEq_gr {n m : Nat} {a b : D} (ha : gr n a = true) (hb : gr m b = true) (hn : n ≤ 64) (hm : m ≤ 64) : ∃ z : Bool, deepEq a b = some z ∧ (z = true ↔ a = b) := by
  obtain ⟨x, e1, e2, e3⟩ := gr_data n a ha
  obtain ⟨y, f1, f2, f3⟩ := gr_data m b hb
  refine ⟨PyData.eqv x y, ?_, eqvAt n a b m x y ha hb e1 f1⟩
  unfold deepEq
  rw [e1, f1]
  show (if _ then _ else _) = _
  rw [if_pos]
  unfold SeqAt.shaped
  rw [e2, f2]
  simp
  omega
theorem eqD_gr {n m : Nat} {a b : D} (ha : gr n a = true) (hb : gr m b = true) (hn : n ≤ 64) (hm : m ≤ 64) : ∃ z : Bool, eqD a b = some z ∧ (z = true ↔ a = b) := by
  have h := deepEq_gr ha hb hn hm
  rcases gr_cases ha with rfl | ⟨i, rfl⟩ | ⟨z, rfl⟩ | ⟨l, rfl⟩ | ⟨l, rfl⟩ <;> rcases gr_cases hb with rfl | ⟨j, rfl⟩ | ⟨z', rfl⟩ | ⟨k, rfl⟩ | ⟨k, rfl⟩ <;> first
    | exact h
    | (refine ⟨_, rfl, ?_⟩; simp; done)
theorem opEq_self {n : Nat} {a : D} (ha : gr n a = true) (hn : n ≤ 64) : opEq' a a = some (.bl true) := by
  obtain ⟨z, e, h⟩ := eqD_gr ha ha hn hn
  unfold opEq'
  rw [e, h.mpr rfl]
  rfl
theorem opNe_self {n : Nat} {a : D} (ha : gr n a = true) (hn : n ≤ 64) : opNe' a a = some (.bl false) := by
  obtain ⟨z, e, h⟩ := eqD_gr ha ha hn hn
  unfold opNe'
  rw [e, h.mpr rfl]
  rfl
theorem opEq_ne {n m : Nat} {a b : D} (ha : gr n a = true) (hb : gr m b = true) (hn : n ≤ 64) (hm : m ≤ 64) (hab : a ≠ b) : opEq' a b = some (.bl false) := by
  obtain ⟨z, e, h⟩ := eqD_gr ha hb hn hm
  unfold opEq'
  rw [e]
  cases z with
  | true => exact absurd (h.mp rfl) hab
  | false => rfl
theorem opNe_ne {n m : Nat} {a b : D} (ha : gr n a = true) (hb : gr m b = true) (hn : n ≤ 64) (hm : m ≤ 64) (hab : a ≠ b) : opNe' a b = some (.bl true) := by
  obtain ⟨z, e, h⟩ := eqD_gr ha hb hn hm
  unfold opNe'
  rw [e]
  cases z with
  | true => exact absurd (h.mp rfl) hab
  | false => rfl
end MR

set_option Elab.async false
set_option linter.all false
set_option maxRecDepth 100000
set_option exponentiation.threshold 30000
/-! P5: kin: who is dead, who takes after whom. -/
namespace MR
open PySem

theorem opIn_strs (x : Str) (l : List Str) : opIn (.str x) (.lst (l.map D.str)) = some (.bl (decide (x ∈ l))) := by
  have hf : (l.map D.str).all flatD = true := by
    rw [List.all_map, List.all_eq_true]
    intro _ _
    rfl
  have e : inA (.str x) (.lst (l.map D.str)) = some (inD (.str x) (l.map D.str)) := by
    show (if flatD (.str x) && (l.map D.str).all flatD then _ else _) = _
    rw [hf]
    rfl
  unfold opIn
  rw [e]
  have : inD (.str x) (l.map D.str) = decide (x ∈ l) := by
    unfold inD L2.inV
    rw [List.map_map, List.any_map]
    rw [Bool.eq_iff_iff, List.any_eq_true, decide_eq_true_iff]
    constructor
    · rintro ⟨y, hy, e⟩
      have e : L2.eqV (.str y) (.str x) = true := e
      have : y = x := by simpa [L2.eqV] using e
      exact this ▸ hy
    · intro h
      exact ⟨x, h, by show L2.eqV (.str x) (.str x) = true; simp [L2.eqV]⟩
  rw [this]
  rfl
theorem opNotIn_strs (x : Str) (l : List Str) : opNotIn (.str x) (.lst (l.map D.str)) = some (.bl (!decide (x ∈ l))) := by
  have h := opIn_strs x l
  unfold opIn at h
  unfold opNotIn
  cases e : inA (.str x) (.lst (l.map D.str)) with
  | none => rw [e] at h; cases h
  | some b =>
    rw [e] at h
    have h : some (D.bl b) = some (D.bl (decide (x ∈ l))) := h
    injection h with h
    injection h with h
    rw [h]
    rfl
def encO : Option Str → D
  | none => .non
  | some y => .str y
/-- the dict's values are texts -/
def SV' (h : List (Kk × D)) : Prop := ∀ k w, valD h k = some w → ∃ y, w = .str y
def nxt (h : List (Kk × D)) (x : Str) : Option Str := match valD h (.inr x) with
  | some (.str y) => some y
  | _ => none
theorem nxt_enc {h : List (Kk × D)} (hs : SV' h) (x : Str) : (valD h (.inr x)).getD .non = encO (nxt h x) := by
  unfold nxt
  cases e : valD h (.inr x) with
  | none => rfl
  | some w => obtain ⟨y, rfl⟩ := hs _ _ e; rfl
theorem nxt_some {h : List (Kk × D)} (hs : SV' h) (x : Str) : (valD h (.inr x)).isSome = (nxt h x).isSome := by
  unfold nxt
  cases e : valD h (.inr x) with
  | none => rfl
  | some w => obtain ⟨y, rfl⟩ := hs _ _ e; rfl
theorem nxt_val {h : List (Kk × D)} {x y : Str} (e : nxt h x = some y) : valD h (.inr x) = some (.str y) := by
  unfold nxt at e
  split at e
  · rename_i z hz; cases e; exact hz
  · cases e
/-- who takes -/
def tkF (nx : Str → Option Str) (dead : Str → Bool) : Nat → List Str → Str → Option (Option Str)
  | 0, _, _ => none
  | n + 1, met, last => match nx last with
    | none => some none
    | some one => if one ∈ met then some none else if dead one = true then tkF nx dead n (met ++ [one]) one else some (some one)
structure KinAt (S : Sto) (r a b : Nat) (h g : List (Kk × D)) : Prop where
  o : S[r]? = some (.ins "Kin" [("heirs", .obj a), ("gone", .obj b)])
  h : S[a]? = some (.con false (.dK h))
  g : S[b]? = some (.con false (.dK g))
section
variable {S : Sto} {r a b : Nat} {h g : List (Kk × D)}
theorem KinAt.ob (K : KinAt S r a b h g) : objAt ["Kin"] S (.obj r) = some (r, "Kin", [("heirs", .obj a), ("gone", .obj b)]) := objAt_obj K.o (by simp)
theorem KinAt.dh (K : KinAt S r a b h g) (σ : Sl) : deref σ S (.obj a) = some (.dK h) := deref_obj K.h
theorem KinAt.dg (K : KinAt S r a b h g) (σ : Sl) : deref σ S (.obj b) = some (.dK g) := deref_obj K.g
theorem KinAt.ch (K : KinAt S r a b h g) (σ : Sl) (w : D) : chg σ S (.obj a) w = some (σ, S.set a (.con false w)) := chg_obj K.h
theorem KinAt.cg (K : KinAt S r a b h g) (σ : Sl) (w : D) : chg σ S (.obj b) w = some (σ, S.set b (.con false w)) := chg_obj K.g
theorem is_dead_eq (K : KinAt S r a b h g) (x : Str) : m_Kin_is_dead [.obj r, .str x] S = .ok (.bl (valD g (.inr x)).isSome) S :=
  dDef_ret (σ' := [.val (.obj r), .val (.str x)]) (by simp [b_Kin_is_dead, K.ob, K.dg])
theorem die_eq (K : KinAt S r a b h g) (x : Str) (hl : g.length < most) : m_Kin_die [.obj r, .str x] S = .ok .non (S.set b (.con false (.dK (putD g (.inr x) (.bl true))))) :=
  dDef_next (σ' := [.val (.obj r), .val (.str x)]) (by simp [b_Kin_die, K.ob, K.dg, K.cg, hl])
theorem name_heir_eq (K : KinAt S r a b h g) (x y : Str) (hl : h.length < most) : m_Kin_name_heir [.obj r, .str x, .str y] S = .ok .non (S.set a (.con false (.dK (putD h (.inr x) (.str y))))) :=
  dDef_next (σ' := [.val (.obj r), .val (.str x), .val (.str y)]) (by simp [b_Kin_name_heir, K.ob, K.dh, K.ch, hl])
def seenD (met : List Str) : List (Kk × D) := met.map fun x => (.inr x, .bl true)
theorem seenD_val (met : List Str) (x : Str) : (valD (seenD met) (.inr x)).isSome = decide (x ∈ met) := by
  induction met with
  | nil => rfl
  | cons y met ih =>
    show (valD ((.inr y, .bl true) :: seenD met) (.inr x)).isSome = _
    rw [valD_cons]
    by_cases e : y = x
    · subst e; simp
    · have : ¬ (Sum.inr y : Kk) = .inr x := fun z => e (Sum.inr.inj z)
      rw [if_neg this, ih]
      have : ¬ x = y := fun z => e z.symm
      simp [this]
theorem seenD_put {met : List Str} {x : Str} (hx : x ∉ met) : putD (seenD met) (.inr x) (.bl true) = seenD (met ++ [x]) := by
  unfold putD
  rw [valD_any, seenD_val]
  rw [if_neg (by simp [hx])]
  unfold seenD
  rw [List.map_append]
  rfl
theorem frz_enc (o : Option Str) (σ : Sl) : frz (encO o) σ S = .ok (encO o) σ S := by cases o <;> rfl
theorem taker_loop (K : KinAt S r a b h g) (hs : SV' h) {man : Str} : ∀ (n : Nat) (met : List Str) (last : Str) (res : Option Str), tkF (nxt h) (fun x => (valD g (.inr x)).isSome) n met last = some res → met.length + n ≤ 10000000 →
    ∃ σ' fl, sWhile wc_Kin_taker_1 wb_Kin_taker_2 n [.val (.obj r), .val (.str man), .own (.dK (seenD met)), .val (encO (nxt h last))] S = .ok fl σ' S ∧ ((fl = .next ∧ res = none) ∨ fl = .ret (encO res))
  | 0, met, last, res, e, _ => by cases e
  | n + 1, met, last, res, e, hn => by
    rw [tkF] at e
    cases ho : nxt h last with
    | none =>
      rw [ho] at e
      cases e
      exact ⟨[.val (.obj r), .val (.str man), .own (.dK (seenD met)), .val .non], .next, sWhile_false (by show wc_Kin_taker_1 [.val (.obj r), .val (.str man), .own (.dK (seenD met)), .val .non] S = _; simp [wc_Kin_taker_1]), .inl ⟨rfl, rfl⟩⟩
    | some one =>
      rw [ho] at e
      have e : (if one ∈ met then some none else if (valD g (.inr one)).isSome = true then tkF (nxt h) (fun x => (valD g (.inr x)).isSome) n (met ++ [one]) one else some (some one)) = some res := e
      have sv := seenD_val met one
      have hc : wc_Kin_taker_1 [.val (.obj r), .val (.str man), .own (.dK (seenD met)), .val (encO (some one))] S = .ok true [.val (.obj r), .val (.str man), .own (.dK (seenD met)), .val (encO (some one))] S := by
        show wc_Kin_taker_1 [.val (.obj r), .val (.str man), .own (.dK (seenD met)), .val (.str one)] S = .ok true [.val (.obj r), .val (.str man), .own (.dK (seenD met)), .val (.str one)] S
        simp [wc_Kin_taker_1]
      by_cases hm : one ∈ met
      · rw [if_pos hm] at e
        cases e
        refine ⟨[.val (.obj r), .val (.str man), .own (.dK (seenD met)), .val (.str one)], .ret .non, sWhile_ret hc ?_, .inr rfl⟩
        show wb_Kin_taker_2 [.val (.obj r), .val (.str man), .own (.dK (seenD met)), .val (.str one)] S = _
        simp [wb_Kin_taker_2, sv, hm]
      · rw [if_neg hm] at e
        by_cases hd : (valD g (.inr one)).isSome = true
        · rw [if_pos hd] at e
          obtain ⟨σ', fl, e2, q⟩ := taker_loop K hs (man := man) n (met ++ [one]) one res e (by rw [List.length_append, List.length_singleton]; omega)
          refine ⟨σ', fl, ?_, q⟩
          rw [← e2]
          have hl : (seenD met).length < most := by unfold seenD most; rw [List.length_map]; omega
          have hp := seenD_put hm
          have hx := nxt_enc hs one
          refine sWhile_next hc ?_
          show wb_Kin_taker_2 [.val (.obj r), .val (.str man), .own (.dK (seenD met)), .val (.str one)] S = _
          simp [wb_Kin_taker_2, sv, hm, K.ob, K.dg, K.dh, hd, hl, hp, hx, frz_enc]
        · rw [if_neg hd] at e
          cases e
          refine ⟨[.val (.obj r), .val (.str man), .own (.dK (seenD met)), .val (.str one)], .ret (.str one), sWhile_ret hc ?_, .inr rfl⟩
          show wb_Kin_taker_2 [.val (.obj r), .val (.str man), .own (.dK (seenD met)), .val (.str one)] S = _
          simp [wb_Kin_taker_2, sv, hm, K.ob, K.dg, hd]
theorem taker_eq (K : KinAt S r a b h g) (hs : SV' h) {man : Str} {n : Nat} {res : Option Str} (e : tkF (nxt h) (fun x => (valD g (.inr x)).isSome) n [man] man = some res) (hn : n ≤ 9999999) : m_Kin_taker [.obj r, .str man] S = .ok (encO res) S := by
  obtain ⟨σ', fl, e2, q⟩ := taker_loop K hs (man := man) n [man] man res e (by simp; omega)
  have e3 := sWhile_more e2 (Nat.le_trans (by omega : n ≤ 10000000) fuel_big)
  have hx := nxt_enc hs man
  have hp : putD ([] : List (Kk × D)) (.inr man) (.bl true) = seenD [man] := rfl
  refine dDef_ex (w := encO res) ?_
  show ∃ σ', b_Kin_taker [.val (.obj r), .val (.str man), .emp, .emp] S = _
  rcases q with ⟨rfl, rfl⟩ | rfl
  · exact ⟨σ', by simp [b_Kin_taker, K.ob, K.dh, hx, frz_enc, hp, e3]; rfl⟩
  · exact ⟨σ', by simp [b_Kin_taker, K.ob, K.dh, hx, frz_enc, hp, e3]⟩
end
/-! ### the law's own book of kin -/
structure BkAt (S : Sto) (bk a : Nat) (bd h : List (Kk × D)) (dl : List Str) : Prop where
  o : S[bk]? = some (.con false (.dK bd))
  vh : valD bd (.inr "heirs") = some (.obj a)
  vd : valD bd (.inr "dead") = some (.lst (dl.map D.str))
  h : S[a]? = some (.con false (.dK h))
section
variable {S : Sto} {bk a : Nat} {bd h : List (Kk × D)} {dl : List Str}
theorem BkAt.d (B : BkAt S bk a bd h dl) (σ : Sl) : deref σ S (.obj bk) = some (.dK bd) := deref_obj B.o
theorem BkAt.dh (B : BkAt S bk a bd h dl) (σ : Sl) : deref σ S (.obj a) = some (.dK h) := deref_obj B.h
theorem ltaker_loop (B : BkAt S bk a bd h dl) (hs : SV' h) {man : Str} : ∀ (n : Nat) (pre : List Str) (last : Str) (res : Option Str) (s3 : Slot), tkF (nxt h) (fun x => decide (x ∈ dl)) n (pre ++ [last]) last = some res → pre.length + n ≤ 10000000 →
    ∃ σ' fl, sWhile wc__law_taker_1 wb__law_taker_2 n [.val (.obj bk), .val (.str man), .own (.lst ((pre ++ [last]).map D.str)), s3] S = .ok fl σ' S ∧ ((fl = .next ∧ res = none) ∨ fl = .ret (encO res))
  | 0, pre, last, res, _, e, _ => by cases e
  | n + 1, pre, last, res, s3, e, hn => by
    rw [tkF] at e
    have hat : L2.atI ((pre ++ [last]).map D.str) (-1) = some (.str last) := by rw [List.map_append]; exact L2.atI_last _ _
    have hml : ((pre ++ [last]).map D.str).length < most := by rw [List.length_map, List.length_append, List.length_singleton]; unfold most; omega
    have hin := fun x => opIn_strs x (pre ++ [last])
    have hmap : ∀ one, (pre ++ [last]).map D.str ++ [.str one] = ((pre ++ [last]) ++ [one]).map D.str := fun one => by rw [List.map_append (l₂ := [one])]; rfl
    have hnd := fun x => opNotIn_strs x dl
    have vh := B.vh
    have vd := B.vd
    have ns := nxt_some hs last
    cases ho : nxt h last with
    | none =>
      rw [ho] at e ns
      cases e
      generalize (pre ++ [last]).map D.str = ml at *
      exact ⟨[.val (.obj bk), .val (.str man), .own (.lst ml), s3], .next, sWhile_false (by simp [wc__law_taker_1, hat, B.d, vh, B.dh, ns]), .inl ⟨rfl, rfl⟩⟩
    | some one =>
      have hv := nxt_val ho
      rw [ho] at e ns
      have e : (if one ∈ pre ++ [last] then some none else if decide (one ∈ dl) = true then tkF (nxt h) (fun x => decide (x ∈ dl)) n ((pre ++ [last]) ++ [one]) one else some (some one)) = some res := e
      have hin := hin one
      have hnd := hnd one
      have hmap := hmap one
      have hc : wc__law_taker_1 [.val (.obj bk), .val (.str man), .own (.lst ((pre ++ [last]).map D.str)), s3] S = .ok true [.val (.obj bk), .val (.str man), .own (.lst ((pre ++ [last]).map D.str)), s3] S := by
        generalize (pre ++ [last]).map D.str = ml at *
        simp [wc__law_taker_1, hat, B.d, vh, B.dh, ns]
      by_cases hm : one ∈ pre ++ [last]
      · rw [if_pos hm] at e
        cases e
        refine ⟨[.val (.obj bk), .val (.str man), .own (.lst ((pre ++ [last]).map D.str)), .val (.str one)], .ret .non, sWhile_ret hc ?_, .inr rfl⟩
        rw [decide_eq_true hm] at hin
        clear hc hm
        generalize (pre ++ [last]).map D.str = ml at *
        simp [wb__law_taker_2, hat, B.d, vh, B.dh, hv, hin]
      · rw [if_neg hm] at e
        rw [decide_eq_false hm] at hin
        by_cases hd : one ∈ dl
        · rw [if_pos (decide_eq_true hd)] at e
          rw [decide_eq_true hd] at hnd
          obtain ⟨σ', fl, e2, q⟩ := ltaker_loop B hs (man := man) n (pre ++ [last]) one res (.val (.str one)) e (by rw [List.length_append, List.length_singleton]; omega)
          refine ⟨σ', fl, ?_, q⟩
          rw [← e2]
          refine sWhile_next hc ?_
          rw [← hmap]
          clear hc hm e2 hmap e
          generalize (pre ++ [last]).map D.str = ml at *
          simp [wb__law_taker_2, hat, B.d, vh, B.dh, hv, hin, vd, hnd, hml]
        · rw [if_neg (by simp [hd])] at e
          rw [decide_eq_false hd] at hnd
          cases e
          refine ⟨[.val (.obj bk), .val (.str man), .own (.lst ((pre ++ [last]).map D.str)), .val (.str one)], .ret (.str one), sWhile_ret hc ?_, .inr rfl⟩
          clear hc hm hmap
          generalize (pre ++ [last]).map D.str = ml at *
          simp [wb__law_taker_2, hat, B.d, vh, B.dh, hv, hin, vd, hnd]
theorem ltaker_eq (B : BkAt S bk a bd h dl) (hs : SV' h) {man : Str} {n : Nat} {res : Option Str} (e : tkF (nxt h) (fun x => decide (x ∈ dl)) n [man] man = some res) (hn : n ≤ 9999999) : m__law_taker [.obj bk, .str man] S = .ok (encO res) S := by
  obtain ⟨σ', fl, e2, q⟩ := ltaker_loop B hs (man := man) n [] man res .emp e (by simp; omega)
  have e3 := sWhile_more e2 (Nat.le_trans (by omega : n ≤ 10000000) fuel_big)
  have e3 : sWhile wc__law_taker_1 wb__law_taker_2 fuel [.val (.obj bk), .val (.str man), .own (.lst [.str man]), .emp] S = .ok fl σ' S := e3
  have m1 : 1 ≤ most := by decide
  refine dDef_ex (w := encO res) ?_
  show ∃ σ', b__law_taker [.val (.obj bk), .val (.str man), .emp, .emp] S = _
  rcases q with ⟨rfl, rfl⟩ | rfl
  · exact ⟨σ', by simp [b__law_taker, m1, e3]; rfl⟩
  · exact ⟨σ', by simp [b__law_taker, m1, e3]⟩
end
/-! ### the walk along heirs ends -/
theorem tkF_ends {nx : Str → Option Str} {dead : Str → Bool} {vs : List Str} (hv : ∀ x y, nx x = some y → y ∈ vs) : ∀ (n : Nat) (met : List Str) (last : Str), (∀ x ∈ vs, x ∉ met → True) → (vs.filter fun x => decide (x ∉ met)).length < n → ∃ res, tkF nx dead n met last = some res
  | 0, _, _, _, h => by omega
  | n + 1, met, last, _, h => by
    rw [tkF]
    cases e : nx last with
    | none => exact ⟨none, rfl⟩
    | some one =>
      dsimp only
      by_cases hm : one ∈ met
      · rw [if_pos hm]; exact ⟨none, rfl⟩
      · rw [if_neg hm]
        by_cases hd : dead one = true
        · rw [if_pos hd]
          refine tkF_ends hv n (met ++ [one]) one (fun _ _ _ => trivial) ?_
          have h1 : one ∈ vs.filter fun x => decide (x ∉ met) := List.mem_filter.mpr ⟨hv last one e, by simp [hm]⟩
          have h2 : (vs.filter fun x => decide (x ∉ met ++ [one])).length < (vs.filter fun x => decide (x ∉ met)).length := by
            have e1 : (vs.filter fun x => decide (x ∉ met ++ [one])) = (vs.filter fun x => decide (x ∉ met)).filter fun x => decide (x ≠ one) := by
              rw [List.filter_filter]
              congr 1
              funext x
              by_cases hx : x ∈ met <;> by_cases hx2 : x = one <;> simp [hx, hx2]
            rw [e1]
            generalize (vs.filter fun x => decide (x ∉ met)) = l at h1
            induction l with
            | nil => cases h1
            | cons y l ih =>
              rw [List.filter_cons, List.length_cons]
              by_cases hy : y = one
              · subst hy
                simp only [ne_eq, not_true, decide_false, Bool.false_eq_true, if_false]
                have := List.length_filter_le (fun x => decide (x ≠ y)) l
                simp only [ne_eq] at this
                omega
              · simp only [ne_eq, hy, not_false_eq_true, decide_true, if_true, List.length_cons]
                have h3 : one ∈ l := by
                  rcases List.mem_cons.mp h1 with rfl | h3
                  · exact absurd rfl hy
                  · exact h3
                have := ih h3
                simp only [ne_eq] at this
                omega
          omega
        · rw [if_neg hd]; exact ⟨some one, rfl⟩
theorem tkF_congr {nx : Str → Option Str} {d1 d2 : Str → Bool} (h : ∀ x, d1 x = d2 x) (n : Nat) (met : List Str) (last : Str) : tkF nx d1 n met last = tkF nx d2 n met last := by
  have : d1 = d2 := funext h
  rw [this]
end MR

set_option Elab.async false
set_option linter.all false
set_option maxRecDepth 100000
set_option exponentiation.threshold 30000
/-! PL3: rules for running denotations: what a run leads to; the store; dicts by texts; dicts that are walked; lists that are changed. -/
namespace MR
open PySem

/-! ### what a run leads to -/
def Ret (o : Out) (P : D → Sto → Prop) : Prop := match o with
  | .ok w S => P w S
  | _ => False
def RunF (r : Res Fl) (P : D → Sto → Prop) : Prop := match r with
  | .ok .next _ S => P .non S
  | .ok (.ret w) _ S => P w S
  | _ => False
@[simp] theorem Ret_ok {w : D} {S : Sto} {P : D → Sto → Prop} : Ret (.ok w S) P = P w S := rfl
@[simp] theorem RunF_next {σ : Sl} {S : Sto} {P : D → Sto → Prop} : RunF (.ok .next σ S) P = P .non S := rfl
@[simp] theorem RunF_ret {w : D} {σ : Sl} {S : Sto} {P : D → Sto → Prop} : RunF (.ok (.ret w) σ S) P = P w S := rfl
theorem ret_dDef {n : Nat} {f : DS} {ws : List D} {S : Sto} {P : D → Sto → Prop} : Ret (dDef n f ws S) P = RunF (f (ws.map Slot.val ++ List.replicate (n - ws.length) .emp) S) P := by
  unfold dDef
  cases e : f (ws.map Slot.val ++ List.replicate (n - ws.length) .emp) S with
  | ok a σ S' => cases a <;> rfl
  | exc a σ S' => rfl
  | fail => rfl
theorem Ret.ex {o : Out} {P : D → Sto → Prop} (h : Ret o P) : ∃ w S, o = .ok w S ∧ P w S := by
  cases o with
  | ok w S => exact ⟨w, S, rfl, h⟩
  | exc e S => exact h.elim
  | fail => exact h.elim
theorem Ret.of {o : Out} {P : D → Sto → Prop} {w : D} {S : Sto} (e : o = .ok w S) (h : P w S) : Ret o P := by rw [e]; exact h
theorem RunF.of {r : Res Fl} {P : D → Sto → Prop} {r' : Res Fl} (e : r = r') (h : RunF r' P) : RunF r P := by rw [e]; exact h

/-! ### the store -/
section
variable {σ : Sl} {S : Sto} {r : Nat} {w : D} {cs : List String}
theorem derefU : deref σ S (.obj r) = (match S[r]? with
  | some (.con _ c) => some c
  | _ => none) := rfl
theorem chgU : chg σ S (.obj r) w = (match S[r]? with
  | some (.con false _) => some (σ, S.set r (.con false w))
  | _ => none) := rfl
theorem objAtU : objAt cs S (.obj r) = (match S[r]? with
  | some (.ins c fs) => if c ∈ cs then some (r, c, fs) else none
  | _ => none) := rfl
theorem setG {i j : Nat} {o : Ob} : (S.set i o)[j]? = if i = j then (S[j]?).map (fun _ => o) else S[j]? := by
  by_cases e : i = j
  · subst e
    rw [if_pos rfl]
    by_cases lt : i < S.length
    · rw [List.getElem?_set_self lt, List.getElem?_eq_getElem lt]; rfl
    · rw [List.getElem?_eq_none_iff.mpr (by rw [List.length_set]; omega), List.getElem?_eq_none_iff.mpr (by omega)]; rfl
  · rw [if_neg e, List.getElem?_set_ne e]
theorem set_back {i : Nat} {o o' : Ob} (h : S[i]? = some o) : (S.set i o').set i o = S := by
  rw [List.set_set]
  apply List.ext_getElem?
  intro j
  rw [setG]
  by_cases e : i = j
  · subst e; rw [if_pos rfl, h]; rfl
  · rw [if_neg e]
end
/-- nothing but these places is changed -/
structure Off (fp : List Nat) (S S' : Sto) : Prop where
  len : S'.length = S.length
  off : ∀ j, j ∉ fp → S'[j]? = S[j]?
theorem Off.refl {fp : List Nat} {S : Sto} : Off fp S S := ⟨rfl, fun _ _ => rfl⟩
theorem Off.trans {fp : List Nat} {S S' S'' : Sto} (a : Off fp S S') (b : Off fp S' S'') : Off fp S S'' := ⟨b.len.trans a.len, fun j h => (b.off j h).trans (a.off j h)⟩
theorem Off.set {fp : List Nat} {S S' : Sto} {i : Nat} {o : Ob} (a : Off fp S S') (h : i ∈ fp) : Off fp S (S'.set i o) := ⟨by rw [List.length_set]; exact a.len, fun j hj => by rw [List.getElem?_set_ne (fun e => hj (by rw [← e]; exact h))]; exact a.off j hj⟩
theorem Off.mono {fp fp' : List Nat} {S S' : Sto} (a : Off fp S S') (h : ∀ i ∈ fp, i ∈ fp') : Off fp' S S' := ⟨a.len, fun j hj => a.off j fun z => hj (h j z)⟩

/-! ### dicts by texts -/
section
variable {α : Type} {e : α → D} {l : List (Str × α)} {k j : Str} {v : α}
def aval (l : List (Str × α)) (k : Str) : Option α := (l.find? fun p => decide (p.1 = k)).map (·.2)
def aput (l : List (Str × α)) (k : Str) (v : α) : List (Str × α) := if (l.any fun p => decide (p.1 = k)) = true then l.map (fun p => if p.1 = k then (p.1, v) else p) else l ++ [(k, v)]
def adrop (l : List (Str × α)) (k : Str) : List (Str × α) := l.filter fun p => decide (p.1 ≠ k)
def keys (l : List (Str × α)) : List Str := l.map (·.1)
def enc (e : α → D) (l : List (Str × α)) : List (Kk × D) := l.map fun p => (.inr p.1, e p.2)
theorem inr_iff {a b : Str} : ((Sum.inr a : Kk) = .inr b) ↔ a = b := ⟨Sum.inr.inj, congrArg _⟩
@[simp] theorem aval_nil : aval ([] : List (Str × α)) k = none := rfl
@[simp] theorem aval_cons {p : Str × α} : aval (p :: l) k = if p.1 = k then some p.2 else aval l k := by
  unfold aval
  rw [List.find?_cons]
  by_cases h : p.1 = k
  · simp [h]
  · simp [h]
@[simp] theorem valD_enc : valD (enc e l) (.inr k) = (aval l k).map e := by
  induction l with
  | nil => rfl
  | cons p l ih =>
    show valD ((.inr p.1, e p.2) :: enc e l) (.inr k) = _
    rw [valD_cons, aval_cons, ih]
    by_cases h : p.1 = k
    · simp [h]
    · simp [h]
theorem any_enc : ((enc e l).any fun kv => decide (kv.1 = (.inr k : Kk))) = l.any fun p => decide (p.1 = k) := by
  unfold enc
  rw [List.any_map]
  congr 1
  funext p
  simp [Function.comp]
theorem putD_enc : putD (enc e l) (.inr k) (e v) = enc e (aput l k v) := by
  unfold putD aput
  rw [any_enc]
  split
  · unfold enc
    rw [List.map_map, List.map_map]
    apply List.map_congr_left
    intro p _
    by_cases h : p.1 = k
    · simp [h]
    · simp [h]
  · unfold enc
    simp
theorem dropD_enc : dropD (enc e l) (.inr k) = enc e (adrop l k) := by
  unfold dropD adrop enc
  rw [List.filter_map]
  congr 1
  apply List.filter_congr
  intro p _
  simp
@[simp] theorem enc_len : (enc e l).length = l.length := by unfold enc; rw [List.length_map]
theorem enc_keys : (enc e l).map (fun p => kD p.1) = (keys l).map D.str := by
  unfold enc keys
  rw [List.map_map, List.map_map]
  rfl
theorem enc_fst : (enc e l).map (·.1) = (keys l).map Sum.inr := by
  unfold enc keys
  rw [List.map_map, List.map_map]
  rfl
theorem enc_snd : (enc e l).map (·.2) = (l.map (·.2)).map e := by
  unfold enc
  rw [List.map_map, List.map_map]
  rfl
theorem aval_some_iff : (aval l k).isSome = true ↔ k ∈ keys l := by
  induction l with
  | nil => simp [keys]
  | cons p l ih =>
    rw [aval_cons]
    unfold keys at ih ⊢
    by_cases h : p.1 = k
    · simp [h]
    · have h' : ¬ k = p.1 := fun z => h z.symm
      simp [h, h', ih]
theorem aval_none_iff : aval l k = none ↔ k ∉ keys l := by
  rw [← aval_some_iff]
  cases aval l k <;> simp
theorem aval_mem (h : aval l k = some v) : (k, v) ∈ l := by
  induction l with
  | nil => cases h
  | cons p l ih =>
    rw [aval_cons] at h
    split at h
    · rename_i e; cases h; rw [← e]; exact List.mem_cons_self
    · exact List.mem_cons_of_mem _ (ih h)
theorem aval_of_mem (hn : (keys l).Nodup) (h : (k, v) ∈ l) : aval l k = some v := by
  induction l with
  | nil => cases h
  | cons p l ih =>
    have hn' := List.nodup_cons.mp (show ((p :: l).map (·.1)).Nodup from hn)
    rw [aval_cons]
    rcases List.mem_cons.mp h with rfl | h
    · simp
    · rw [if_neg (fun z => hn'.1 (List.mem_map.mpr ⟨_, h, z.symm⟩)), ih hn'.2 h]
theorem any_keys : (l.any fun p => decide (p.1 = k)) = decide (k ∈ keys l) := by
  unfold keys
  rw [Bool.eq_iff_iff, List.any_eq_true, decide_eq_true_iff, List.mem_map]
  simp
theorem aval_map {f : Str × α → Str × α} (hf : ∀ p, (f p).1 = p.1) : aval (l.map f) k = (l.find? fun p => decide (p.1 = k)).map fun p => (f p).2 := by
  induction l with
  | nil => rfl
  | cons p l ih =>
    rw [List.map_cons, aval_cons, hf, List.find?_cons]
    by_cases h : p.1 = k
    · simp [h]
    · simp only [h, if_false, decide_false]
      exact ih
theorem aval_app : aval (l ++ [(j, v)]) k = if k ∈ keys l then aval l k else if j = k then some v else none := by
  induction l with
  | nil => simp [keys]
  | cons p l ih =>
    rw [List.cons_append, aval_cons, aval_cons, ih]
    unfold keys
    by_cases h : p.1 = k
    · simp [h]
    · have h' : ¬ k = p.1 := fun z => h z.symm
      simp only [h, if_false, List.map_cons, List.mem_cons, h', false_or]
theorem aval_put : aval (aput l j v) k = if j = k then some v else aval l k := by
  unfold aput
  rw [any_keys]
  by_cases hj : j ∈ keys l
  · simp only [hj, decide_true, if_true]
    rw [aval_map (fun p => by split <;> rfl)]
    by_cases e : j = k
    · subst e
      rw [if_pos rfl]
      obtain ⟨w, hw⟩ := Option.isSome_iff_exists.mp (aval_some_iff.mpr hj)
      unfold aval at hw
      obtain ⟨p, hp, _⟩ := Option.map_eq_some_iff.mp hw
      have h1 : p.1 = j := by simpa using List.find?_some hp
      rw [hp]
      simp [h1]
    · rw [if_neg e]
      unfold aval
      cases hf : l.find? fun p => decide (p.1 = k) with
      | none => rfl
      | some p =>
        have h1 : p.1 = k := by simpa using List.find?_some hf
        have : ¬ p.1 = j := fun z => e (z.symm.trans h1)
        simp [this]
  · simp only [hj, decide_false, Bool.false_eq_true, if_false]
    rw [aval_app]
    by_cases e : j = k
    · subst e
      rw [if_neg hj, if_pos rfl, if_pos rfl]
    · rw [if_neg e, if_neg e]
      split
      · rfl
      · rename_i h; exact (aval_none_iff.mpr h).symm
theorem keys_put : keys (aput l j v) = if j ∈ keys l then keys l else keys l ++ [j] := by
  unfold aput
  rw [any_keys]
  by_cases hj : j ∈ keys l
  · simp only [hj, decide_true, if_true]
    unfold keys
    rw [List.map_map]
    apply List.map_congr_left
    intro p _
    show (if p.1 = j then (p.1, v) else p).1 = p.1
    split <;> rfl
  · simp only [hj, decide_false, Bool.false_eq_true, if_false]
    unfold keys
    simp
theorem keys_drop : keys (adrop l j) = (keys l).filter fun x => decide (x ≠ j) := by
  unfold keys adrop
  rw [List.filter_map]
  rfl
theorem aval_drop : aval (adrop l j) k = if j = k then none else aval l k := by
  by_cases e : j = k
  · subst e
    rw [if_pos rfl, aval_none_iff, keys_drop]
    simp
  · rw [if_neg e]
    induction l with
    | nil => rfl
    | cons p l ih =>
      unfold adrop at ih ⊢
      rw [List.filter_cons]
      by_cases h : p.1 = j
      · simp only [ne_eq, h, not_true, decide_false, Bool.false_eq_true, if_false]
        rw [ih, aval_cons, if_neg (fun z => e (h.symm.trans z))]
      · simp only [ne_eq, h, not_false_eq_true, decide_true, if_true]
        rw [aval_cons, aval_cons, ih]
end
theorem putD_encS {l : List (Str × Str)} {k v : Str} : putD (enc D.str l) (.inr k) (.str v) = enc D.str (aput l k v) := putD_enc
theorem putD_encI {l : List (Str × Int)} {k : Str} {v : Int} : putD (enc D.int l) (.inr k) (.int v) = enc D.int (aput l k v) := putD_enc
theorem putD_encO {l : List (Str × Option Str)} {k v : Str} : putD (enc encO l) (.inr k) (.str v) = enc encO (aput l k (some v)) := putD_enc (e := encO) (v := some v)
theorem putD_encF {l : List (Str × Fr)} {k : Str} {a b : Int} : putD (enc encF l) (.inr k) (.tup [.int a, .int b]) = enc encF (aput l k (a, b)) := putD_enc (e := encF) (v := (a, b))
theorem putD_encF' {l : List (Str × Fr)} {k : Str} {p : Fr} : putD (enc encF l) (.inr k) (encF p) = enc encF (aput l k p) := putD_enc
theorem putD_encOO {l : List (Str × Option Str)} {k : Str} {o : Option Str} : putD (enc encO l) (.inr k) (encO o) = enc encO (aput l k o) := putD_enc

/-! ### dicts that are walked -/
@[simp] theorem kD_inr {x : Str} : kD (.inr x) = .str x := rfl
@[simp] theorem kD_inl {x : Int} : kD (.inl x) = .int x := rfl
theorem lock_lc {fe : DE} {i : Nat} {c : DT} {e : DE} {σ : Sl} {S : Sto} {a : Nat} {l : List (Kk × D)} (p : Kk → Bool) (h : Kk → D) (hs : S[a]? = some (.con false (.dK l))) (h1 : fe σ S = .ok (.obj a) σ S) (h2 : fe σ (S.set a (.con true (.dK l))) = .ok (.obj a) σ (S.set a (.con true (.dK l))))
    (hno : noOwn σ [i] = true) (hl : l.length ≤ most)
    (st : ∀ k ∈ l.map (·.1), c ((wipeD σ [i]).set i (.val (kD k))) (S.set a (.con true (.dK l))) = .ok (p k) ((wipeD σ [i]).set i (.val (kD k))) (S.set a (.con true (.dK l))) ∧ (p k = true → dV e ((wipeD σ [i]).set i (.val (kD k))) (S.set a (.con true (.dK l))) = .ok (h k) ((wipeD σ [i]).set i (.val (kD k))) (S.set a (.con true (.dK l))))) :
    dLock fe (dLc (iKeysD fe) (gN i) c e [i]) σ S = .ok (.lst (((l.map (·.1)).filter p).map h)) σ S := by
  have ep : pick fe σ S = some (a, l) := by
    unfold pick
    rw [h1]
    simp only [hs]
  have lt : a < S.length := (List.getElem?_eq_some_iff.mp hs).1
  have hlk : (S.set a (.con true (.dK l)))[a]? = some (.con true (.dK l)) := List.getElem?_set_self lt
  have hi : iKeysD fe σ (S.set a (.con true (.dK l))) = .ok (l.map fun q => kD q.1) σ (S.set a (.con true (.dK l))) := by
    show (fe σ _).bind _ = _
    rw [h2]
    show (match lockd σ (S.set a (.con true (.dK l))) (.obj a) with
      | some l' => Res.ok (List.map (fun (q : Kk × D) => kD q.1) l') σ (S.set a (.con true (.dK l)))
      | none => .fail) = _
    unfold lockd
    simp only [hlk]
  have hwi : ∀ d : D, wipeD ((wipeD σ [i]).set i (.val d)) [i] = wipeD σ [i] := fun d => by
    apply List.ext_getElem?
    intro j
    rw [wipeD_get, wipeD_get]
    by_cases e : j = i
    · subst e
      simp only [List.mem_singleton, if_true]
      by_cases lt : j < σ.length
      · rw [List.getElem?_set_self (by rw [wipeD_len]; exact lt), List.getElem?_eq_getElem lt]
        rfl
      · rw [List.getElem?_eq_none_iff.mpr (by rw [List.length_set, wipeD_len]; omega), List.getElem?_eq_none_iff.mpr (by omega)]
    · simp only [List.mem_singleton, e, if_false]
      rw [List.getElem?_set_ne (fun z => e z.symm), wipeD_get]
      simp [e]
  have key := dLc_gen (it := iKeysD fe) (g := gN i) (c := c) (e := e) (vs := [i]) (σ := σ) (σ' := σ) (S := S.set a (.con true (.dK l))) (items := l.map fun q => kD q.1) (fun d => (wipeD σ [i]).set i (.val d))
    (fun d => match d with
      | .int n => p (.inl n)
      | .str x => p (.inr x)
      | _ => false)
    (fun d => match d with
      | .int n => h (.inl n)
      | .str x => h (.inr x)
      | _ => .non) hi hno (by rw [List.length_map]; exact hl) (by
      intro d hd
      obtain ⟨q, hq, rfl⟩ := List.mem_map.mp hd
      obtain ⟨s1, s2⟩ := st q.1 (List.mem_map.mpr ⟨q, hq, rfl⟩)
      refine ⟨rfl, hwi _, ?_, ?_⟩
      · cases hk : q.1 with
        | inl n => rw [hk] at s1; exact s1
        | inr x => rw [hk] at s1; exact s1
      · cases hk : q.1 with
        | inl n => rw [hk] at s2; exact s2
        | inr x => rw [hk] at s2; exact s2)
  unfold dLock
  rw [ep]
  dsimp only
  rw [key]
  dsimp only [unlk]
  unfold openAt
  simp only [hlk]
  rw [set_back hs]
  congr 2
  clear key hi hlk ep h1 h2 hs st hl lt
  induction l with
  | nil => rfl
  | cons q l ih =>
    rw [List.map_cons, List.map_cons, List.filter_cons, List.filter_cons]
    cases hk : q.1 with
    | inl n =>
      simp only [kD_inl]
      by_cases hp : p (.inl n) = true
      · simp only [hp, if_true, List.map_cons]; rw [ih]
      · simp only [hp, if_false]; exact ih
    | inr x =>
      simp only [kD_inr]
      by_cases hp : p (.inr x) = true
      · simp only [hp, if_true, List.map_cons]; rw [ih]
      · simp only [hp, if_false]; exact ih
/-- over texts, the keys themselves -/
theorem lock_keys {α : Type} {enc_ : α → D} {fe : DE} {i : Nat} {c : DT} {σ : Sl} {S : Sto} {a : Nat} {l : List (Str × α)} (p : Str → Bool) (hs : S[a]? = some (.con false (.dK (enc enc_ l)))) (h1 : fe σ S = .ok (.obj a) σ S) (h2 : fe σ (S.set a (.con true (.dK (enc enc_ l)))) = .ok (.obj a) σ (S.set a (.con true (.dK (enc enc_ l)))))
    (hno : noOwn σ [i] = true) (hi : i < σ.length) (hl : l.length ≤ most)
    (st : ∀ k ∈ keys l, c ((wipeD σ [i]).set i (.val (.str k))) (S.set a (.con true (.dK (enc enc_ l)))) = .ok (p k) ((wipeD σ [i]).set i (.val (.str k))) (S.set a (.con true (.dK (enc enc_ l))))) :
    dLock fe (dLc (iKeysD fe) (gN i) c (dVar i) [i]) σ S = .ok (.lst (((keys l).filter p).map D.str)) σ S := by
  have := lock_lc (fe := fe) (i := i) (c := c) (e := dVar i) (fun k => match k with
    | .inl _ => false
    | .inr x => p x) kD hs h1 h2 hno (by rw [enc_len]; exact hl) (by
    intro k hk
    rw [enc_fst] at hk
    obtain ⟨x, hx, rfl⟩ := List.mem_map.mp hk
    refine ⟨st x hx, fun _ => ?_⟩
    rw [dV_def, dVar_val (w := .str x) (by rw [kD_inr]; exact List.getElem?_set_self (by rw [wipeD_len]; exact hi))]
    rfl)
  rw [this, enc_fst]
  congr 2
  rw [List.filter_map, List.map_map]
  rfl
theorem sortS_eq {xs : List Str} (h : xs.length < 64) : opSorted (.lst (xs.map D.str)) = some (.lst ((srtS xs).map D.str)) := by
  show (strsD (xs.map D.str)).bind _ = _
  rw [strsD_map]
  show (if xs.length < 64 then _ else _) = _
  rw [if_pos h]
theorem sortSet_eq {xs : List Str} (h : xs.length < 1000) : opSortSet (.lst (xs.map D.str)) = some (.lst ((srtS (nub xs)).map D.str)) := by
  show (strsD (xs.map D.str)).bind _ = _
  rw [strsD_map]
  show (if xs.length < 1000 then _ else _) = _
  rw [if_pos h]
@[simp] theorem opListA_dK {l : List (Kk × D)} : opListA (.dK l) = some (.lst (l.map fun p => kD p.1)) := rfl
@[simp] theorem opVals_dK {l : List (Kk × D)} : opVals (.dK l) = some (.lst (l.map (·.2))) := rfl
@[simp] theorem sDAugD_def {op : Int → Int → Int} {fd fy fv : DE} {σ : Sl} {S : Sto} : sDAugD op fd fy fv σ S = (fd σ S).bind fun x σ S => (fy σ S).bind fun y σ S => match deref σ S x, keyD y with
  | some (.dK l), some k => (match valD l k with
    | some (.int i) => (fv σ S).bind fun z σ S => (match z, deref σ S x with
      | .int j, some (.dK l') => if l'.length < most then ofMutS (chg σ S x (.dK (putD l' k (.int (op i j))))) else .fail
      | _, _ => .fail)
    | _ => .fail)
  | _, _ => .fail := rfl
@[simp] theorem sRaise_def {c : String} {σ : Sl} {S : Sto} : sRaise c σ S = .exc ⟨c, none⟩ σ S := rfl
@[simp] theorem kPop_1 {x b : D} {l : List (Kk × D)} {k : Kk} {σ : Sl} {S : Sto} (h : keyD b = some k) : kPop x (.dK l) [b] σ S = (match valD l k with
    | some w => ofMut w (chg σ S x (.dK (dropD l k)))
    | none => .fail) := by
  unfold kPop
  simp only [h] <;> rfl
end MR

set_option Elab.async false
set_option linter.all false
set_option maxRecDepth 100000
/-! P6: land in plain Lean: lords, holders, acres, services by names; chains, breadths. -/
namespace MR
open PySem
structure Ld where
  lords : List (Str × Option Str)
  hold : List (Str × Str)
  own : List (Str × Int)
  due : List (Str × Fr)
abbrev Ld.ks (L : Ld) : List Str := keys L.lords
def Ld.lord (L : Ld) (k : Str) : Option Str := (aval L.lords k).join
/-- the place of a name -/
def ixOf (l : List Str) (k : Str) : Nat := l.findIdx (· == k)
theorem ixOf_lt {l : List Str} {k : Str} : k ∈ l ↔ ixOf l k < l.length := by
  unfold ixOf
  constructor
  · intro h; exact List.findIdx_lt_length_of_exists ⟨k, h, by simp⟩
  · intro h
    have := List.findIdx_getElem (xs := l) (p := (· == k)) (w := h)
    exact eq_of_beq this ▸ List.getElem_mem h
theorem ixOf_app {l m : List Str} {k : Str} (h : k ∈ l) : ixOf (l ++ m) k = ixOf l k := by
  unfold ixOf
  rw [List.findIdx_append, if_pos (List.findIdx_lt_length_of_exists ⟨k, h, by simp⟩)]
theorem ixOf_last {l : List Str} {k : Str} (h : k ∉ l) : ixOf (l ++ [k]) k = l.length := by
  unfold ixOf
  rw [List.findIdx_append]
  have : ¬ (l.findIdx (· == k) < l.length) := fun z => h (ixOf_lt.mpr z)
  rw [if_neg this]
  simp
/-- what holds of each land that comes about -/
structure Wf (L : Ld) : Prop where
  kh : keys L.hold = L.ks
  ko : keys L.own = L.ks
  kd : keys L.due = L.ks
  nd : L.ks.Nodup
  cr : aval L.lords "" = some none
  no : ∀ k, aval L.lords k = some none → k = ""
  up : ∀ k p, aval L.lords k = some (some p) → p ∈ L.ks ∧ ixOf L.ks p < ixOf L.ks k
  sk : ∀ k ∈ L.ks, PyData.strOk k = true
  sh : ∀ m ∈ L.hold.map (·.2), PyData.strOk m = true
section
variable {L : Ld}
theorem Wf.crk (W : Wf L) : ("" : Str) ∈ L.ks := aval_some_iff.mp (by rw [W.cr]; rfl)
theorem lord_some {k p : Str} (h : L.lord k = some p) : aval L.lords k = some (some p) := by
  unfold Ld.lord at h
  cases e : aval L.lords k with
  | none => rw [e] at h; cases h
  | some o => rw [e] at h; cases o with
    | none => cases h
    | some q => cases h; rfl
theorem lord_of {k : Str} {o : Option Str} (h : aval L.lords k = some o) : L.lord k = o := by unfold Ld.lord; rw [h]; cases o <;> rfl
theorem Wf.lord_ne (W : Wf L) {k : Str} (hk : k ∈ L.ks) (h0 : k ≠ "") : ∃ p, L.lord k = some p ∧ p ∈ L.ks ∧ ixOf L.ks p < ixOf L.ks k := by
  obtain ⟨o, ho⟩ := Option.isSome_iff_exists.mp (aval_some_iff.mpr hk)
  cases o with
  | none => exact absurd (W.no k ho) h0
  | some p => exact ⟨p, lord_of ho, W.up k p ho⟩
theorem Wf.lord_cr (W : Wf L) : L.lord "" = none := lord_of W.cr
/-! ### chains -/
def chn (L : Ld) : Nat → Str → List Str
  | 0, x => [x]
  | n + 1, x => x :: (match L.lord x with
    | some p => chn L n p
    | none => [])
/-- the chain of x -/
def Ld.chain (L : Ld) (x : Str) : List Str := chn L (ixOf L.ks x) x
theorem chn_more (W : Wf L) : ∀ (n m : Nat) (x : Str), x ∈ L.ks → ixOf L.ks x ≤ n → n ≤ m → chn L m x = chn L n x := by
  intro n
  induction n with
  | zero =>
    intro m x hx hi hm
    have e : L.lord x = none := by
      cases h : L.lord x with
      | none => rfl
      | some p => have := (W.up x p (lord_some h)).2; omega
    cases m with
    | zero => rfl
    | succ m => unfold chn; rw [e]
  | succ n ih =>
    intro m x hx hi hm
    cases m with
    | zero => omega
    | succ m =>
      show (x :: _) = (x :: _)
      cases h : L.lord x with
      | none => rfl
      | some p =>
        obtain ⟨h1, h2⟩ := W.up x p (lord_some h)
        show x :: chn L m p = x :: chn L n p
        rw [ih m p h1 (by omega) (by omega)]
theorem chain_step (W : Wf L) {x p : Str} (h : L.lord x = some p) : L.chain x = x :: L.chain p := by
  obtain ⟨h1, h2⟩ := W.up x p (lord_some h)
  have hx : x ∈ L.ks := aval_some_iff.mp (by rw [lord_some h]; rfl)
  unfold Ld.chain
  obtain ⟨n, hn⟩ : ∃ n, ixOf L.ks x = n + 1 := ⟨ixOf L.ks x - 1, by omega⟩
  rw [hn]
  show x :: (match L.lord x with
    | some p => chn L n p
    | none => []) = _
  rw [h]
  show x :: chn L n p = _
  rw [chn_more W (ixOf L.ks p) n p h1 (Nat.le_refl _) (by omega)]
theorem chain_cr (W : Wf L) : L.chain "" = [("" : Str)] := by
  unfold Ld.chain
  cases ixOf L.ks "" with
  | zero => rfl
  | succ n =>
    show ("" : Str) :: (match L.lord "" with
      | some p => chn L n p
      | none => []) = _
    rw [W.lord_cr]
/-- along chains -/
theorem chain_ind (W : Wf L) {P : Str → Prop} (h0 : P "") (h1 : ∀ x p, x ∈ L.ks → x ≠ "" → L.lord x = some p → p ∈ L.ks → P p → P x) : ∀ x ∈ L.ks, P x := by
  have key : ∀ (n : Nat) (x : Str), x ∈ L.ks → ixOf L.ks x < n → P x := by
    intro n
    induction n with
    | zero => intro x _ h; omega
    | succ n ih =>
      intro x hx hi
      by_cases e : x = ""
      · rw [e]; exact h0
      · obtain ⟨p, hp, hm, hlt⟩ := W.lord_ne hx e
        exact h1 x p hx e hp hm (ih p hm (by omega))
  exact fun x hx => key _ x hx (Nat.lt_succ_self _)
theorem chain_sub (W : Wf L) : ∀ x ∈ L.ks, ∀ y ∈ L.chain x, y ∈ L.ks ∧ ixOf L.ks y ≤ ixOf L.ks x := by
  refine chain_ind W ?_ ?_
  · intro y hy
    rw [chain_cr W] at hy
    rw [List.mem_singleton.mp hy]
    exact ⟨W.crk, Nat.le_refl _⟩
  · intro x p hx h0 hp hm ih y hy
    rw [chain_step W hp] at hy
    rcases List.mem_cons.mp hy with rfl | hy
    · exact ⟨hx, Nat.le_refl _⟩
    · have := ih y hy
      have h2 := (W.up x p (lord_some hp)).2
      exact ⟨this.1, by omega⟩
theorem chain_len (W : Wf L) : ∀ x ∈ L.ks, (L.chain x).length ≤ ixOf L.ks x + 1 := by
  refine chain_ind W ?_ ?_
  · rw [chain_cr W]; simp
  · intro x p hx h0 hp hm ih
    rw [chain_step W hp, List.length_cons]
    have h2 := (W.up x p (lord_some hp)).2
    omega
theorem chain_self (W : Wf L) {x : Str} (hx : x ∈ L.ks) : x ∈ L.chain x := by
  by_cases e : x = ""
  · rw [e, chain_cr W]; exact List.mem_singleton.mpr rfl
  · obtain ⟨p, hp, _⟩ := W.lord_ne hx e
    rw [chain_step W hp]; exact List.mem_cons_self
/-! ### those under one -/
def Ld.kids (L : Ld) (e : Str) : List Str := L.ks.filter fun k => decide (aval L.lords k = some (some e))
def Ld.under (L : Ld) (e : Str) : List Str := srtS (L.kids e)
theorem mem_kids {e k : Str} : k ∈ L.kids e ↔ L.lord k = some e := by
  unfold Ld.kids
  rw [List.mem_filter, decide_eq_true_iff]
  constructor
  · intro h; exact lord_of h.2
  · intro h; exact ⟨aval_some_iff.mp (by rw [lord_some h]; rfl), lord_some h⟩
theorem mem_under {e k : Str} : k ∈ L.under e ↔ L.lord k = some e := by
  unfold Ld.under
  rw [(srtS_perm _).mem_iff, mem_kids]
/-- 1 where e is in the chain of x -/
def inc (L : Ld) (e x : Str) : Nat := if e ∈ L.chain x then 1 else 0
theorem sum_zeroN (l : List Str) : (l.map fun _ => (0 : Nat)).sum = 0 := by
  induction l with
  | nil => rfl
  | cons x l ih => simp only [List.map_cons, List.sum_cons]; omega
theorem sum_zeroI (l : List Str) : (l.map fun _ => (0 : Int)).sum = 0 := by
  induction l with
  | nil => rfl
  | cons x l ih => simp only [List.map_cons, List.sum_cons]; omega
theorem sum_one {l : List Str} (hn : l.Nodup) (x : Str) : (l.map fun c => if c = x then 1 else 0).sum = if x ∈ l then 1 else 0 := by
  induction l with
  | nil => rfl
  | cons y l ih =>
    have h := List.nodup_cons.mp hn
    rw [List.map_cons, List.sum_cons, ih h.2]
    by_cases e : y = x
    · subst e
      simp [h.1]
    · have e' : ¬ x = y := fun z => e z.symm
      simp [e, e']
theorem inc_split (W : Wf L) {e : Str} (he : e ∈ L.ks) : ∀ x ∈ L.ks, inc L e x = (if x = e then 1 else 0) + ((L.kids e).map fun c => inc L c x).sum := by
  have ndk : (L.kids e).Nodup := List.Pairwise.filter _ W.nd
  refine chain_ind W ?_ ?_
  · have z : ((L.kids e).map fun c => inc L c "").sum = 0 := by
      have : (L.kids e).map (fun c => inc L c "") = (L.kids e).map fun _ => 0 := by
        apply List.map_congr_left
        intro c hc
        unfold inc
        rw [chain_cr W, if_neg]
        intro h
        have : c = "" := List.mem_singleton.mp h
        rw [this] at hc
        have := mem_kids.mp hc
        rw [W.lord_cr] at this
        cases this
      rw [this, sum_zeroN]
    rw [z]
    unfold inc
    rw [chain_cr W]
    by_cases h : e = ""
    · subst h; simp
    · have h' : ¬ ("" : Str) = e := fun z => h z.symm
      simp [h, h']
  · intro x p hx h0 hp hm ih
    have hlt := (W.up x p (lord_some hp)).2
    have hxp : x ∉ L.chain p := fun z => by have := (chain_sub W p hm x z).2; omega
    have e1 : ∀ c, inc L c x = (if c = x then 1 else 0) + inc L c p := by
      intro c
      unfold inc
      rw [chain_step W hp]
      by_cases h : c = x
      · subst h; simp [hxp]
      · simp [h]
    have e2 : ((L.kids e).map fun c => inc L c x).sum = (if x ∈ L.kids e then 1 else 0) + ((L.kids e).map fun c => inc L c p).sum := by
      rw [← sum_one ndk x]
      clear ih ndk
      generalize L.kids e = l
      induction l with
      | nil => rfl
      | cons c l ih2 =>
        simp only [List.map_cons, List.sum_cons]
        rw [ih2, e1 c]
        omega
    rw [e1 e, ih, e2]
    have e3 : (if x ∈ L.kids e then 1 else 0) = if p = e then 1 else 0 := by
      by_cases h : p = e
      · subst h
        rw [if_pos rfl, if_pos (mem_kids.mpr hp)]
      · rw [if_neg h, if_neg]
        intro z
        have := mem_kids.mp z
        rw [hp] at this
        cases this
        exact h rfl
    rw [e3]
    have e4 : (if e = x then 1 else 0) = if x = e then 1 else 0 := by
      by_cases h : x = e
      · rw [if_pos h, if_pos h.symm]
      · rw [if_neg h, if_neg (fun z => h z.symm)]
    rw [e4]
/-! ### breadth -/
def Ld.ac (L : Ld) (k : Str) : Int := (aval L.own k).getD 0
def Ld.breadth (L : Ld) (e : Str) : Int := (L.ks.map fun x => (inc L e x : Int) * L.ac x).sum
def Ld.size (L : Ld) (e : Str) : Nat := (L.ks.map fun x => inc L e x).sum
theorem size_le (L : Ld) (e : Str) : L.size e ≤ L.ks.length := by
  unfold Ld.size
  generalize L.ks = l
  induction l with
  | nil => simp
  | cons x l ih =>
    simp only [List.map_cons, List.sum_cons, List.length_cons]
    have : inc L e x ≤ 1 := by unfold inc; split <;> omega
    omega
theorem sum_swap {α β : Type} (f : α → β → Int) (l : List α) (m : List β) : (l.map fun x => (m.map fun y => f x y).sum).sum = (m.map fun y => (l.map fun x => f x y).sum).sum := by
  induction l with
  | nil =>
    simp only [List.map_nil, List.sum_nil]
    induction m with
    | nil => rfl
    | cons y m ih => simp only [List.map_cons, List.sum_cons]; rw [← ih]; rfl
  | cons x l ih =>
    simp only [List.map_cons, List.sum_cons]
    rw [ih]
    clear ih
    induction m with
    | nil => rfl
    | cons y m ih => simp only [List.map_cons, List.sum_cons]; rw [← ih]; omega
theorem sum_nat {α : Type} (f : α → Nat) (l : List α) : ((l.map f).sum : Int) = (l.map fun x => (f x : Int)).sum := by
  induction l with
  | nil => rfl
  | cons x l ih => simp only [List.map_cons, List.sum_cons]; rw [← ih]; omega
theorem sum_mulr {α : Type} (f : α → Int) (l : List α) (c : Int) : (l.map fun x => f x * c).sum = (l.map f).sum * c := by
  induction l with
  | nil => simp
  | cons x l ih => simp only [List.map_cons, List.sum_cons]; rw [ih, Int.add_mul]
theorem sum_pick {l : List Str} (hn : l.Nodup) (g : Str → Int) {e : Str} (he : e ∈ l) : (l.map fun x => (if x = e then (1 : Int) else 0) * g x).sum = g e := by
  induction l with
  | nil => cases he
  | cons y l ih =>
    have h := List.nodup_cons.mp hn
    simp only [List.map_cons, List.sum_cons]
    rcases List.mem_cons.mp he with rfl | he
    · have : (l.map fun x => (if x = e then (1 : Int) else 0) * g x) = l.map fun _ => 0 := by
        apply List.map_congr_left
        intro x hx
        rw [if_neg (fun z : x = e => h.1 (z ▸ hx))]
        simp
      rw [this, sum_zeroI]
      simp
    · rw [ih h.2 he, if_neg (fun z : y = e => h.1 (z ▸ he))]
      simp
theorem sum_addI {α : Type} (f g : α → Int) (l : List α) : (l.map fun x => f x + g x).sum = (l.map f).sum + (l.map g).sum := by
  induction l with
  | nil => rfl
  | cons x l ih => simp only [List.map_cons, List.sum_cons]; rw [ih]; omega
theorem wsum_split (W : Wf L) {e : Str} (he : e ∈ L.ks) (g : Str → Int) : (L.ks.map fun x => (inc L e x : Int) * g x).sum = g e + ((L.kids e).map fun c => (L.ks.map fun x => (inc L c x : Int) * g x).sum).sum := by
  rw [sum_swap (fun c x => (inc L c x : Int) * g x) (L.kids e) L.ks]
  rw [← sum_pick W.nd g he, ← sum_addI]
  congr 1
  apply List.map_congr_left
  intro x hx
  rw [inc_split W he x hx, sum_mulr (fun c => (inc L c x : Int))]
  rw [← sum_nat]
  by_cases h : x = e
  · simp only [h, if_true]; rw [Int.natCast_add, Int.add_mul]; rfl
  · simp only [h, if_false]; rw [Nat.zero_add]; simp
theorem breadth_split (W : Wf L) {e : Str} (he : e ∈ L.ks) : L.breadth e = L.ac e + ((L.kids e).map L.breadth).sum := wsum_split W he L.ac
theorem size_split (W : Wf L) {e : Str} (he : e ∈ L.ks) : L.size e = 1 + ((L.kids e).map L.size).sum := by
  have h := wsum_split W he (fun _ => 1)
  have e1 : ∀ c, ((L.size c : Nat) : Int) = (L.ks.map fun x => (inc L c x : Int) * 1).sum := fun c => by
    unfold Ld.size
    rw [sum_nat]
    congr 1
    apply List.map_congr_left
    intro x _
    omega
  rw [← e1] at h
  have e2 : ((L.kids e).map fun c => (L.ks.map fun x => (inc L c x : Int) * 1).sum).sum = (((L.kids e).map L.size).sum : Nat) := by
    rw [sum_nat]
    congr 1
    apply List.map_congr_left
    intro c _
    exact (e1 c).symm
  rw [e2] at h
  omega
theorem size_pos (W : Wf L) {e : Str} (he : e ∈ L.ks) : 1 ≤ L.size e := by rw [size_split W he]; omega
theorem perm_sum {l m : List Str} (p : l.Perm m) (f : Str → Int) : (l.map f).sum = (m.map f).sum := by
  induction p with
  | nil => rfl
  | cons x _ ih => simp only [List.map_cons, List.sum_cons]; rw [ih]
  | swap x y l => simp only [List.map_cons, List.sum_cons]; omega
  | trans _ _ a b => exact a.trans b
theorem perm_sumN {l m : List Str} (p : l.Perm m) (f : Str → Nat) : (l.map f).sum = (m.map f).sum := by
  induction p with
  | nil => rfl
  | cons x _ ih => simp only [List.map_cons, List.sum_cons]; rw [ih]
  | swap x y l => simp only [List.map_cons, List.sum_cons]; omega
  | trans _ _ a b => exact a.trans b
theorem breadth_under (W : Wf L) {e : Str} (he : e ∈ L.ks) : L.breadth e = L.ac e + ((L.under e).map L.breadth).sum := by rw [breadth_split W he]; unfold Ld.under; rw [perm_sum (srtS_perm _)]
theorem size_under (W : Wf L) {e : Str} (he : e ∈ L.ks) : L.size e = 1 + ((L.under e).map L.size).sum := by rw [size_split W he]; unfold Ld.under; rw [perm_sumN (srtS_perm _)]
theorem under_ks {e k : Str} (h : k ∈ L.under e) : k ∈ L.ks := aval_some_iff.mp (by rw [lord_some (mem_under.mp h)]; rfl)
end
end MR

set_option Elab.async false
set_option linter.all false
set_option maxRecDepth 100000
set_option exponentiation.threshold 30000
/-! P7: what Land's questions tell. -/
namespace MR
open PySem
structure LandAt (S : Sto) (r a b c d : Nat) (la lb : Bool) (L : Ld) : Prop where
  o : S[r]? = some (.ins "Land" [("lords", .obj a), ("holders", .obj b), ("acres_of", .obj c), ("services", .obj d)])
  l : S[a]? = some (.con la (.dK (enc encO L.lords)))
  h : S[b]? = some (.con lb (.dK (enc D.str L.hold)))
  w : S[c]? = some (.con false (.dK (enc D.int L.own)))
  s : S[d]? = some (.con false (.dK (enc encF L.due)))
  nd : [r, a, b, c, d].Nodup
section
variable {S : Sto} {r a b c d : Nat} {la lb : Bool} {L : Ld} {e : Str}
theorem LandAt.ob (A : LandAt S r a b c d la lb L) : objAt ["Land"] S (.obj r) = some (r, "Land", [("lords", .obj a), ("holders", .obj b), ("acres_of", .obj c), ("services", .obj d)]) := by rw [objAtU, A.o]; simp
theorem LandAt.dl (A : LandAt S r a b c d la lb L) (σ : Sl) : deref σ S (.obj a) = some (.dK (enc encO L.lords)) := by rw [derefU, A.l]
theorem LandAt.dh (A : LandAt S r a b c d la lb L) (σ : Sl) : deref σ S (.obj b) = some (.dK (enc D.str L.hold)) := by rw [derefU, A.h]
theorem LandAt.dw (A : LandAt S r a b c d la lb L) (σ : Sl) : deref σ S (.obj c) = some (.dK (enc D.int L.own)) := by rw [derefU, A.w]
theorem LandAt.ds (A : LandAt S r a b c d la lb L) (σ : Sl) : deref σ S (.obj d) = some (.dK (enc encF L.due)) := by rw [derefU, A.s]
theorem LandAt.lockL (A : LandAt S r a b c d la lb L) (lk : Bool) : LandAt (S.set a (.con lk (.dK (enc encO L.lords)))) r a b c d lk lb L := by
  have nd := A.nd
  simp only [List.nodup_cons, List.mem_cons, List.not_mem_nil, or_false, not_or] at nd
  obtain ⟨⟨n1, n2, n3, n4⟩, ⟨n5, n6, n7⟩, _⟩ := nd
  refine ⟨?_, ?_, ?_, ?_, ?_, A.nd⟩
  · rw [setG, if_neg (fun z => n1 z.symm)]; exact A.o
  · rw [setG, if_pos rfl, A.l]; rfl
  · rw [setG, if_neg n5]; exact A.h
  · rw [setG, if_neg n6]; exact A.w
  · rw [setG, if_neg n7]; exact A.s
theorem LandAt.lockH (A : LandAt S r a b c d la lb L) (lk : Bool) : LandAt (S.set b (.con lk (.dK (enc D.str L.hold)))) r a b c d la lk L := by
  have nd := A.nd
  simp only [List.nodup_cons, List.mem_cons, List.not_mem_nil, or_false, not_or] at nd
  obtain ⟨⟨n1, n2, n3, n4⟩, ⟨n5, n6, n7⟩, ⟨n8, n9⟩, _⟩ := nd
  refine ⟨?_, ?_, ?_, ?_, ?_, A.nd⟩
  · rw [setG, if_neg (fun z => n2 z.symm)]; exact A.o
  · rw [setG, if_neg (fun z => n5 z.symm)]; exact A.l
  · rw [setG, if_pos rfl, A.h]; rfl
  · rw [setG, if_neg n8]; exact A.w
  · rw [setG, if_neg n9]; exact A.s
theorem isSome_map {α : Type} {f : α → D} {o : Option α} : (o.map f).isSome = o.isSome := by cases o <;> rfl
theorem there_eq (A : LandAt S r a b c d la lb L) : m_Land_there [.obj r, .str e] S = .ok (.bl (aval L.lords e).isSome) S :=
  dDef_ret (σ' := [.val (.obj r), .val (.str e)]) (by simp [b_Land_there, A.ob, A.dl])
theorem look_eq (A : LandAt S r a b c d la lb L) (he : e ∈ L.ks) : m_Land_look_at [.obj r, .str e] S = .ok .non S := by
  have h := aval_some_iff.mpr he
  exact dDef_next (σ' := [.val (.obj r), .val (.str e)]) (by simp [b_Land_look_at, A.ob, A.dl, h])
theorem holder_eq (A : LandAt S r a b c d la lb L) (he : e ∈ L.ks) {m : Str} (hm : aval L.hold e = some m) : m_Land_holder [.obj r, .str e] S = .ok (.str m) S :=
  dDef_ret (σ' := [.val (.obj r), .val (.str e)]) (by simp [b_Land_holder, A.ob, look_eq A he, A.dh, hm])
theorem lord_eq (A : LandAt S r a b c d la lb L) (he : e ∈ L.ks) {m : Option Str} (hm : aval L.lords e = some m) : m_Land_lord [.obj r, .str e] S = .ok (encO m) S :=
  dDef_ret (σ' := [.val (.obj r), .val (.str e)]) (by simp [b_Land_lord, A.ob, look_eq A he, A.dl, hm, frz_enc])
theorem own_eq (A : LandAt S r a b c d la lb L) (he : e ∈ L.ks) {m : Int} (hm : aval L.own e = some m) : m_Land_own [.obj r, .str e] S = .ok (.int m) S :=
  dDef_ret (σ' := [.val (.obj r), .val (.str e)]) (by simp [b_Land_own, A.ob, look_eq A he, A.dw, hm])
theorem service_eq (A : LandAt S r a b c d la lb L) (he : e ∈ L.ks) {m : Fr} (hm : aval L.due e = some m) : m_Land_service [.obj r, .str e] S = .ok (encF m) S :=
  dDef_ret (σ' := [.val (.obj r), .val (.str e)]) (by simp [b_Land_service, A.ob, look_eq A he, A.ds, hm, encF])
theorem eq_encO {o : Option Str} {e : Str} : opEq' (encO o) (.str e) = some (.bl (decide (o = some e))) := by
  cases o with
  | none => rfl
  | some x => show some (D.bl (decide (x = e))) = _; simp
theorem deref_encO {σ : Sl} {o : Option Str} : deref σ S (encO o) = some (encO o) := by cases o <;> rfl
theorem under_eq (A : LandAt S r a b c d false lb L) (he : e ∈ L.ks) (hl : L.ks.length < 64) : m_Land_under [.obj r, .str e] S = .ok (.lst ((L.under e).map D.str)) S := by
  have B := A.lockL true
  have hll : L.lords.length < 64 := by have : L.ks.length = L.lords.length := List.length_map ..; omega
  have key := lock_keys (fe := dFld ["Land"] "lords" (dVar 0)) (i := 2) (c := lt_Land_under_1) (σ := [.val (.obj r), .val (.str e), .emp]) (fun k => decide (aval L.lords k = some (some e))) A.l (by simp [A.ob]) (by simp [B.ob]) rfl (by simp) (by unfold most; omega) (by
    intro k hk
    obtain ⟨o, ho⟩ := Option.isSome_iff_exists.mp (aval_some_iff.mpr hk)
    simp [wipeD, lt_Land_under_1, B.ob, B.dl, ho, deref_encO, eq_encO])
  have hlen : (L.kids e).length < 64 := by have := List.length_filter_le (fun k => decide (aval L.lords k = some (some e))) L.ks; unfold Ld.kids; omega
  refine dDef_ret (σ' := [.val (.obj r), .val (.str e), .emp]) ?_
  have h2 : (dLock (dFld ["Land"] "lords" (dVar 0)) (dLc (iKeysD (dFld ["Land"] "lords" (dVar 0))) (gN 2) lt_Land_under_1 le_Land_under_2 [2])) [.val (.obj r), .val (.str e), .emp] S = .ok (.lst ((L.kids e).map D.str)) [.val (.obj r), .val (.str e), .emp] S := key
  simp [b_Land_under, A.ob, look_eq A he, h2, sortS_eq hlen, Ld.under]
def Ld.names (L : Ld) : List Str := srtS (L.ks.filter fun k => decide (k ≠ ("" : Str)))
theorem estates_eq (A : LandAt S r a b c d false lb L) (hl : L.ks.length < 64) : m_Land_estates [.obj r] S = .ok (.lst (L.names.map D.str)) S := by
  have B := A.lockL true
  have hll : L.lords.length < 64 := by have : L.ks.length = L.lords.length := List.length_map ..; omega
  have key := lock_keys (fe := dFld ["Land"] "lords" (dVar 0)) (i := 1) (c := lt_Land_estates_1) (σ := [.val (.obj r), .emp]) (fun k => decide (k ≠ ("" : Str))) A.l (by simp [A.ob]) (by simp [B.ob]) rfl (by simp) (by unfold most; omega) (by
    intro k hk
    simp [wipeD, lt_Land_estates_1])
  have hlen : (L.ks.filter fun k => decide (k ≠ ("" : Str))).length < 64 := by have := List.length_filter_le (fun k => decide (k ≠ ("" : Str))) L.ks; omega
  refine dDef_ret (σ' := [.val (.obj r), .emp]) ?_
  have h2 : (dLock (dFld ["Land"] "lords" (dVar 0)) (dLc (iKeysD (dFld ["Land"] "lords" (dVar 0))) (gN 1) lt_Land_estates_1 le_Land_estates_2 [1])) [.val (.obj r), .emp] S = .ok (.lst ((L.ks.filter fun k => decide (k ≠ ("" : Str))).map D.str)) [.val (.obj r), .emp] S := key
  have h3 : b_Land_estates [.val (.obj r), .emp] S = (Res.ok (.lst ((L.ks.filter fun k => decide (k ≠ ("" : Str))).map D.str)) [.val (.obj r), .emp] S).bind fun x σ S => (ofOpt ((deref σ S x).bind opSorted) σ S).bind fun w σ S => .ok (.ret w) σ S := by
    show ((dLock _ _ _ _).bind _).bind _ = _
    rw [h2]
    rfl
  rw [show ([.obj r] : List D).map Slot.val ++ List.replicate (2 - ([.obj r] : List D).length) .emp = [.val (.obj r), .emp] from rfl, h3]
  simp only [Res.bind_ok, deref_lst, Option.bind_some, sortS_eq hlen, ofOpt_some]
  rfl
def Ld.held (L : Ld) (m : Str) : List Str := srtS ((keys L.hold).filter fun k => decide (aval L.hold k = some m))
theorem held_eq (A : LandAt S r a b c d la false L) {m : Str} (hl : L.hold.length < 64) : m_Land_held [.obj r, .str m] S = .ok (.lst ((L.held m).map D.str)) S := by
  have B := A.lockH true
  have key := lock_keys (fe := dFld ["Land"] "holders" (dVar 0)) (i := 2) (c := lt_Land_held_1) (σ := [.val (.obj r), .val (.str m), .emp]) (fun k => decide (aval L.hold k = some m)) A.h (by simp [A.ob]) (by simp [B.ob]) rfl (by simp) (by unfold most; omega) (by
    intro k hk
    obtain ⟨o, ho⟩ := Option.isSome_iff_exists.mp (aval_some_iff.mpr hk)
    simp [wipeD, lt_Land_held_1, B.ob, B.dh, ho])
  have hlen : ((keys L.hold).filter fun k => decide (aval L.hold k = some m)).length < 64 := by
    have := List.length_filter_le (fun k => decide (aval L.hold k = some m)) (keys L.hold)
    have e : (keys L.hold).length = L.hold.length := List.length_map ..
    omega
  refine dDef_ret (σ' := [.val (.obj r), .val (.str m), .emp]) ?_
  have h2 : (dLock (dFld ["Land"] "holders" (dVar 0)) (dLc (iKeysD (dFld ["Land"] "holders" (dVar 0))) (gN 2) lt_Land_held_1 le_Land_held_2 [2])) [.val (.obj r), .val (.str m), .emp] S = .ok (.lst (((keys L.hold).filter fun k => decide (aval L.hold k = some m)).map D.str)) [.val (.obj r), .val (.str m), .emp] S := key
  simp [b_Land_held, A.ob, h2, sortS_eq hlen, Ld.held]
def Ld.folk (L : Ld) : List Str := srtS (nub (L.hold.map (·.2)))
theorem folk_eq (A : LandAt S r a b c d la lb L) (hl : L.hold.length < 64) : m_Land_folk [.obj r] S = .ok (.lst (L.folk.map D.str)) S := by
  have e : ((enc D.str L.hold).map (·.2)) = (L.hold.map (·.2)).map D.str := enc_snd
  have h : opSortSet (.lst ((enc D.str L.hold).map (·.2))) = some (.lst (L.folk.map D.str)) := by rw [e]; exact sortSet_eq (by rw [List.length_map]; omega)
  refine dDef_ret (σ' := [.val (.obj r)]) ?_
  simp [b_Land_folk, A.ob, A.dh, h]
/-! ### loops -/
@[simp] theorem kLPop_app {x : D} {l : List D} {y : D} {σ : Sl} : kLPop x (.lst (l ++ [y])) [] σ S = ofMut y (chg σ S x (.lst l)) := by
  unfold kLPop
  simp
@[simp] theorem kExt_lst {x : D} {l m : List D} {σ : Sl} (h : l.length + m.length ≤ most) : kExt x (.lst l) [.lst m] σ S = ofMut .non (chg σ S x (.lst (l ++ m))) := by
  unfold kExt
  simp only [h, if_true]
@[simp] theorem sAug_val {σ : Sl} {n : Nat} {i : Int} {op : Int → Int → Int} {f : DE} (h : σ[n]? = some (.val (.int i))) : sAug n op f σ S = (f σ S).bind fun y σ S => match y with
  | .int j => .ok .next (σ.set n (.val (.int (op i j)))) S
  | _ => .fail := by
  unfold sAug
  rw [h] <;> rfl
theorem gr_strs {l : List Str} (h : ∀ x ∈ l, PyData.strOk x = true) : gr 1 (.lst (l.map D.str)) = true := by
  show (l.map D.str).all (gr 0) = true
  rw [List.all_map, List.all_eq_true]
  intro x hx
  exact h x hx
theorem ne_nil {l : List Str} (hs : ∀ x ∈ l, PyData.strOk x = true) : opNe' (.lst (l.map D.str)) (.lst []) = some (.bl (decide (l ≠ []))) := by
  cases l with
  | nil => exact opNe_self (n := 1) rfl (by decide)
  | cons x l =>
    rw [opNe_ne (n := 1) (m := 1) (gr_strs hs) rfl (by decide) (by decide) (by intro z; cases z)]
    rfl
theorem breadth_loop (A : LandAt S r a b c d false lb L) (W : Wf L) (hl : L.ks.length < 64) : ∀ (n : Nat) (ah : List Str) (f : Int) (s4 : Slot), (∀ x ∈ ah, x ∈ L.ks) → (ah.map L.size).sum = n → n < 64 →
    ∃ s4', sWhile wc_Land_breadth_1 wb_Land_breadth_2 (n + 1) [.val (.obj r), .val (.str e), .val (.int f), .own (.lst (ah.map D.str)), s4] S = .ok .next [.val (.obj r), .val (.str e), .val (.int (f + (ah.map L.breadth).sum)), .own (.lst []), s4'] S := by
  intro n
  induction n using Nat.strongRecOn with
  | _ n ih =>
    intro ah f s4 hk hn h64
    have hso : ∀ x ∈ ah, PyData.strOk x = true := fun x hx => W.sk x (hk x hx)
    rcases List.eq_nil_or_concat ah with rfl | ⟨ah', x, rfl⟩
    · refine ⟨s4, ?_⟩
      rw [sWhile_false (σ1 := [.val (.obj r), .val (.str e), .val (.int f), .own (.lst []), s4]) (S1 := S) (by have := ne_nil (l := []) (by simp); simp at this; simp [wc_Land_breadth_1, this])]
      simp
    · rw [List.concat_eq_append] at hk hn hso ⊢
      have hx : x ∈ L.ks := hk x (by simp)
      obtain ⟨o, ho⟩ := Option.isSome_iff_exists.mp (aval_some_iff.mpr (show x ∈ keys L.own by rw [W.ko]; exact hx))
      have hac : L.ac x = o := by unfold Ld.ac; rw [ho]; rfl
      have e1 : wc_Land_breadth_1 [.val (.obj r), .val (.str e), .val (.int f), .own (.lst ((ah' ++ [x]).map D.str)), s4] S = .ok true [.val (.obj r), .val (.str e), .val (.int f), .own (.lst ((ah' ++ [x]).map D.str)), s4] S := by
        have := ne_nil hso
        have h2 : decide (ah' ++ [x] ≠ []) = true := by simp
        rw [h2] at this
        simp [wc_Land_breadth_1, -List.map_append, this]
      rw [List.map_append, List.sum_append, List.map_singleton, List.sum_singleton] at hn
      have hsz := size_under W hx
      have hu := under_eq A hx hl
      have hlen : ∀ l : List Str, (∀ y ∈ l, y ∈ L.ks) → l.length ≤ (l.map L.size).sum := by
        intro l hl
        induction l with
        | nil => simp
        | cons y l ih2 =>
          have h1 := size_pos W (hl y (by simp))
          have h2 := ih2 fun z hz => hl z (by simp [hz])
          simp only [List.length_cons, List.map_cons, List.sum_cons]
          omega
      have l1 := hlen ah' fun y hy => hk y (by simp [hy])
      have l2 := hlen (L.under x) fun y hy => under_ks hy
      have e2 : wb_Land_breadth_2 [.val (.obj r), .val (.str e), .val (.int f), .own (.lst ((ah' ++ [x]).map D.str)), s4] S = .ok .next [.val (.obj r), .val (.str e), .val (.int (f + o)), .own (.lst ((ah' ++ L.under x).map D.str)), .val (.str x)] S := by
        have hm : ah'.length + (L.under x).length ≤ most := by unfold most; omega
        simp [wb_Land_breadth_2, A.ob, A.dw, ho, hu, hm]
      obtain ⟨n', hn'⟩ : ∃ n', n = n' + 1 := ⟨n - 1, by omega⟩
      subst hn'
      obtain ⟨s4', e3⟩ := ih n' (by omega) (ah' ++ L.under x) (f + o) (.val (.str x)) (fun y hy => by
        rcases List.mem_append.mp hy with hy | hy
        · exact hk y (by simp [hy])
        · exact under_ks hy) (by rw [List.map_append, List.sum_append]; omega) (by omega)
      refine ⟨s4', ?_⟩
      rw [sWhile_next e1 e2, e3]
      have hb := breadth_under W hx
      congr 6
      rw [List.map_append, List.sum_append, List.map_append, List.sum_append, List.map_singleton, List.sum_singleton, hb, hac]
      omega
theorem breadth_eq (A : LandAt S r a b c d false lb L) (W : Wf L) (hl : L.ks.length < 64) (he : e ∈ L.ks) : m_Land_breadth [.obj r, .str e] S = .ok (.int (L.breadth e)) S := by
  have hs := size_le L e
  obtain ⟨s4, e1⟩ := breadth_loop (e := e) A W hl (L.size e) [e] 0 .emp (by simp [he]) (by simp) (by omega)
  have e2 := sWhile_more (m := fuel) e1 (by have := fuel_big; omega)
  refine dDef_ret (σ' := [.val (.obj r), .val (.str e), .val (.int (L.breadth e)), .own (.lst []), s4]) ?_
  simp at e2
  simp [b_Land_breadth, A.ob, look_eq A he, e2, most]
theorem atI_last {α : Type} {l : List α} {x : α} : L2.atI (l ++ [x]) (-1) = some x := by
  unfold L2.atI L2.ixN
  have e : (-1 + ((l.length : Int) + 1)).toNat = l.length := by omega
  simp only [List.length_append, List.length_singleton]
  rw [if_neg (by decide), if_pos (by omega)]
  show (l ++ [x])[(-1 + ((l.length + 1 : Nat) : Int)).toNat]? = some x
  rw [show (-1 + ((l.length + 1 : Nat) : Int)).toNat = l.length by omega]
  simp
theorem chain_loop (A : LandAt S r a b c d la lb L) (W : Wf L) : ∀ (n : Nat) (pre : List Str) (x : Str), x ∈ L.ks → ixOf L.ks x ≤ n → pre.length + n < 1000 →
    sWhile wc_Land_chain_1 wb_Land_chain_2 (n + 1) [.val (.obj r), .val (.str e), .own (.lst ((pre ++ [x]).map D.str))] S = .ok .next [.val (.obj r), .val (.str e), .own (.lst ((pre ++ L.chain x).map D.str))] S := by
  intro n
  induction n with
  | zero =>
    intro pre x hx hi hp
    have e0 : aval L.lords x = some none := by
      obtain ⟨o, ho⟩ := Option.isSome_iff_exists.mp (aval_some_iff.mpr hx)
      cases o with
      | none => exact ho
      | some p => have := (W.up x p ho).2; omega
    have ex := W.no x e0
    subst ex
    rw [chain_cr W]
    refine sWhile_false ?_
    simp [wc_Land_chain_1, A.ob, A.dl, atI_last, e0, encO]
  | succ n ih =>
    intro pre x hx hi hp
    obtain ⟨o, ho⟩ := Option.isSome_iff_exists.mp (aval_some_iff.mpr hx)
    cases o with
    | none =>
      have ex := W.no x ho
      subst ex
      rw [chain_cr W]
      refine sWhile_false ?_
      simp [wc_Land_chain_1, A.ob, A.dl, atI_last, ho, encO]
    | some p =>
      obtain ⟨h1, h2⟩ := W.up x p ho
      have hm : pre.length + 1 < most := by unfold most; omega
      rw [sWhile_next (σ1 := [.val (.obj r), .val (.str e), .own (.lst ((pre ++ [x]).map D.str))]) (S1 := S) (σ2 := [.val (.obj r), .val (.str e), .own (.lst ((pre ++ [x] ++ [p]).map D.str))]) (S2 := S) (by simp [wc_Land_chain_1, A.ob, A.dl, atI_last, ho, encO]) (by simp [wb_Land_chain_2, A.ob, A.dl, atI_last, ho, encO, hm])]
      rw [ih (pre ++ [x]) p h1 (by omega) (by rw [List.length_append, List.length_singleton]; omega), chain_step W (lord_of ho)]
      simp
theorem chain_eq (A : LandAt S r a b c d la lb L) (W : Wf L) (hl : L.ks.length < 64) (he : e ∈ L.ks) : m_Land_chain [.obj r, .str e] S = .ok (.lst ((L.chain e).map D.str)) S := by
  have hi := ixOf_lt.mp he
  have e1 := chain_loop (e := e) A W (ixOf L.ks e) [] e he (Nat.le_refl _) (by simp; omega)
  have e2 := sWhile_more (m := fuel) e1 (by have := fuel_big; omega)
  refine dDef_ret (σ' := [.val (.obj r), .val (.str e), .own (.lst ((L.chain e).map D.str))]) ?_
  simp at e2
  simp [b_Land_chain, A.ob, look_eq A he, e2, most]
end
end MR

set_option Elab.async false
set_option linter.all false
set_option maxRecDepth 100000
set_option exponentiation.threshold 30000
/-! P8: the deeds on a land in plain Lean, and that they leave it well formed. -/
namespace MR
open PySem
def setAll {α : Type} (l : List (Str × α)) (cs : List Str) (v : α) : List (Str × α) := l.map fun q => if q.1 ∈ cs then (q.1, v) else q
section
variable {α : Type} {l : List (Str × α)} {v : α}
theorem aput_in {k : Str} (h : k ∈ keys l) : aput l k v = l.map fun q => if q.1 = k then (q.1, v) else q := by
  unfold aput
  rw [any_keys]
  simp only [h, decide_true, if_true]
theorem aput_out {k : Str} (h : k ∉ keys l) : aput l k v = l ++ [(k, v)] := by
  unfold aput
  rw [any_keys]
  simp only [h, decide_false, Bool.false_eq_true, if_false]
theorem setAll_keys {cs : List Str} : keys (setAll l cs v) = keys l := by
  unfold keys setAll
  rw [List.map_map]
  apply List.map_congr_left
  intro q _
  show (if q.1 ∈ cs then (q.1, v) else q).1 = q.1
  split <;> rfl
theorem fold_aput : ∀ (cs : List Str) (l : List (Str × α)), (∀ c ∈ cs, c ∈ keys l) → cs.foldl (fun l c => aput l c v) l = setAll l cs v := by
  intro cs
  induction cs with
  | nil =>
    intro l _
    show l = l.map _
    conv => lhs; rw [← List.map_id l]
    apply List.map_congr_left
    intro q _
    simp
  | cons c cs ih =>
    intro l h
    have hc := h c List.mem_cons_self
    have e : setAll l [c] v = aput l c v := by
      rw [aput_in hc]
      unfold setAll
      simp
    rw [List.foldl_cons, ← e, ih _ (fun x hx => by rw [setAll_keys]; exact h x (List.mem_cons_of_mem _ hx))]
    unfold setAll
    rw [List.map_map]
    apply List.map_congr_left
    intro q _
    simp only [Function.comp, List.mem_singleton, List.mem_cons]
    by_cases h1 : q.1 = c
    · simp [h1]
    · by_cases h2 : q.1 ∈ cs <;> simp [h1, h2]
theorem aval_setAll {cs : List Str} {k : Str} : aval (setAll l cs v) k = if k ∈ cs ∧ k ∈ keys l then some v else aval l k := by
  unfold setAll
  rw [aval_map (fun p => by split <;> rfl)]
  by_cases hk : k ∈ keys l
  · obtain ⟨w, hw⟩ := Option.isSome_iff_exists.mp (aval_some_iff.mpr hk)
    have hw' := hw
    unfold aval at hw
    obtain ⟨p, hp, hp2⟩ := Option.map_eq_some_iff.mp hw
    have h1 : p.1 = k := by simpa using List.find?_some hp
    rw [hp, hw']
    by_cases hc : k ∈ cs
    · simp [hc, hk, h1]
    · simp [hc, h1, hp2]
  · have : l.find? (fun p => decide (p.1 = k)) = none := by
      have := aval_none_iff.mpr hk
      unfold aval at this
      simpa using this
    rw [this, aval_none_iff.mpr hk]
    simp [hk]
theorem setAll_drop {cs : List Str} {e : Str} : adrop (setAll l cs v) e = setAll (adrop l e) cs v := by
  unfold adrop setAll
  rw [List.filter_map]
  congr 1
  apply List.filter_congr
  intro q _
  show decide ((if q.1 ∈ cs then (q.1, v) else q).1 ≠ e) = decide (q.1 ≠ e)
  split <;> rfl
end
def Ld.grant (L : Ld) (e n m : Str) (a s : Int) : Ld := ⟨aput L.lords n (some e), aput L.hold n m, aput (aput L.own n a) e (L.ac e - a), aput L.due n (s, 1)⟩
def Ld.sv (L : Ld) (e : Str) : Fr := (aval L.due e).getD (0, 1)
def moved (L : Ld) (e : Str) (a : Int) : Fr := (frT ((L.sv e).1 * a) ((L.sv e).2 * L.breadth e), frB ((L.sv e).1 * a) ((L.sv e).2 * L.breadth e))
def left (L : Ld) (e : Str) (a : Int) : Fr := (frT ((L.sv e).1 * (L.breadth e - a)) ((L.sv e).2 * L.breadth e), frB ((L.sv e).1 * (L.breadth e - a)) ((L.sv e).2 * L.breadth e))
def Ld.part (L : Ld) (e n m : Str) (a : Int) : Ld := ⟨aput L.lords n (L.lord e), aput L.hold n m, aput (aput L.own n a) e (L.ac e - a), aput (aput L.due n (moved L e a)) e (left L e a)⟩
def Ld.convey (L : Ld) (e m : Str) : Ld := { L with hold := aput L.hold e m }
def Ld.fall (L : Ld) (e p : Str) : Ld := ⟨adrop (setAll L.lords (L.under e) (some p)) e, adrop L.hold e, aput (adrop L.own e) p (L.ac p + L.ac e), adrop L.due e⟩
/-! ### well formed -/
theorem ixOf_cons {z x : Str} {l : List Str} : ixOf (z :: l) x = if z = x then 0 else ixOf l x + 1 := by
  unfold ixOf
  rw [List.findIdx_cons]
  by_cases h : z = x
  · simp [h]
  · have : (z == x) = false := beq_eq_false_iff_ne.mpr h
    simp [h, this]
theorem ix_filter (P : Str → Bool) {x y : Str} (hx : P x = true) (hy : P y = true) : ∀ l : List Str, y ∈ l → ixOf l x < ixOf l y → ixOf (l.filter P) x < ixOf (l.filter P) y
  | [], h, _ => by cases h
  | z :: l, h, h2 => by
    rw [ixOf_cons, ixOf_cons] at h2
    by_cases zx : z = x
    · subst zx
      rw [List.filter_cons, if_pos hx, ixOf_cons, ixOf_cons]
      by_cases zy : z = y
      · subst zy; simp at h2
      · simp [zy]
    · by_cases zy : z = y
      · subst zy; simp at h2
      · simp only [zx, zy, if_false] at h2
        have hm : y ∈ l := by
          rcases List.mem_cons.mp h with e | h
          · exact absurd e.symm zy
          · exact h
        have ih := ix_filter P hx hy l hm (by omega)
        rw [List.filter_cons]
        split
        · rw [ixOf_cons, ixOf_cons, if_neg zx, if_neg zy]; omega
        · exact ih
section
variable {L : Ld} {e n m : Str} {a s : Int}
theorem vals_put {l : List (Str × Str)} {k v : Str} {P : Str → Prop} (h : ∀ x ∈ l.map (·.2), P x) (hv : P v) : ∀ x ∈ (aput l k v).map (·.2), P x := by
  intro x hx
  obtain ⟨q, hq, rfl⟩ := List.mem_map.mp hx
  unfold aput at hq
  split at hq
  · obtain ⟨q', hq', rfl⟩ := List.mem_map.mp hq
    split
    · exact hv
    · exact h _ (List.mem_map.mpr ⟨q', hq', rfl⟩)
  · rcases List.mem_append.mp hq with hq | hq
    · exact h _ (List.mem_map.mpr ⟨q, hq, rfl⟩)
    · rw [List.mem_singleton.mp hq]; exact hv
/-- a new estate with the lord p -/
theorem Wf.new (W : Wf L) (hn : n ∉ L.ks) (n0 : n ≠ "") {p : Str} (hp : p ∈ L.ks) (sn : PyData.strOk n = true) (sm : PyData.strOk m = true) {L' : Ld} (h1 : L'.lords = aput L.lords n (some p)) (h2 : L'.hold = aput L.hold n m) (h3 : keys L'.own = L.ks ++ [n]) (h4 : keys L'.due = L.ks ++ [n]) : Wf L' := by
  have ek : L'.ks = L.ks ++ [n] := by
    show keys L'.lords = _
    rw [h1, keys_put, if_neg hn]
  refine ⟨?_, by rw [ek]; exact h3, by rw [ek]; exact h4, ?_, ?_, ?_, ?_, ?_, ?_⟩
  · rw [ek, h2, keys_put, if_neg (by rw [W.kh]; exact hn), W.kh]
  · rw [ek]
    exact List.nodup_append.mpr ⟨W.nd, List.pairwise_singleton _ _, fun x hx y hy => by rw [List.mem_singleton.mp hy]; exact fun z => hn (z ▸ hx)⟩
  · rw [h1, aval_put, if_neg n0]; exact W.cr
  · intro k hk
    rw [h1, aval_put] at hk
    split at hk
    · cases hk
    · exact W.no k hk
  · intro k q hk
    rw [h1, aval_put] at hk
    rw [ek]
    split at hk
    · rename_i e1
      cases hk
      subst e1
      exact ⟨List.mem_append_left _ hp, by rw [ixOf_app hp, ixOf_last hn]; exact ixOf_lt.mp hp⟩
    · have hkm : k ∈ L.ks := aval_some_iff.mp (by rw [hk]; rfl)
      obtain ⟨g1, g2⟩ := W.up k q hk
      exact ⟨List.mem_append_left _ g1, by rw [ixOf_app g1, ixOf_app hkm]; exact g2⟩
  · intro k hk
    rw [ek] at hk
    rcases List.mem_append.mp hk with hk | hk
    · exact W.sk k hk
    · rw [List.mem_singleton.mp hk]; exact sn
  · rw [h2]
    exact vals_put W.sh sm
theorem keys_put2 {α : Type} {l : List (Str × α)} {n e : Str} {u v : α} (hn : n ∉ keys l) (he : e ∈ keys l) : keys (aput (aput l n u) e v) = keys l ++ [n] := by
  rw [keys_put, keys_put, if_neg hn, if_pos (List.mem_append_left _ he)]
theorem Wf.grant (W : Wf L) (he : e ∈ L.ks) (hn : n ∉ L.ks) (n0 : n ≠ "") (sn : PyData.strOk n = true) (sm : PyData.strOk m = true) : Wf (L.grant e n m a s) :=
  W.new hn n0 he sn sm rfl rfl (by rw [← W.ko]; exact keys_put2 (by rw [W.ko]; exact hn) (by rw [W.ko]; exact he)) (by
    show keys (aput L.due n (s, 1)) = _
    rw [keys_put, if_neg (by rw [W.kd]; exact hn), W.kd])
theorem Wf.part (W : Wf L) (he : e ∈ L.ks) (e0 : e ≠ "") (hn : n ∉ L.ks) (n0 : n ≠ "") (sn : PyData.strOk n = true) (sm : PyData.strOk m = true) : Wf (L.part e n m a) := by
  obtain ⟨p, hp, hm, _⟩ := W.lord_ne he e0
  exact W.new hn n0 hm sn sm (by show aput L.lords n (L.lord e) = _; rw [hp]) rfl (by rw [← W.ko]; exact keys_put2 (by rw [W.ko]; exact hn) (by rw [W.ko]; exact he)) (by rw [← W.kd]; exact keys_put2 (by rw [W.kd]; exact hn) (by rw [W.kd]; exact he))
theorem Wf.convey (W : Wf L) (he : e ∈ L.ks) (sm : PyData.strOk m = true) : Wf (L.convey e m) :=
  ⟨by show keys (aput L.hold e m) = L.ks; rw [keys_put, if_pos (by rw [W.kh]; exact he), W.kh], W.ko, W.kd, W.nd, W.cr, W.no, W.up, W.sk, vals_put W.sh sm⟩
theorem Wf.fall (W : Wf L) {p : Str} (hp : L.lord e = some p) : Wf (L.fall e p) := by
  obtain ⟨hpm, hpl⟩ := W.up e p (lord_some hp)
  have he : e ∈ L.ks := aval_some_iff.mp (by rw [lord_some hp]; rfl)
  have pe : p ≠ e := fun z => by rw [z] at hpl; omega
  have e0 : e ≠ "" := fun z => by rw [z, W.lord_cr] at hp; cases hp
  have ek : (L.fall e p).ks = L.ks.filter fun x => decide (x ≠ e) := by
    show keys (adrop (setAll L.lords (L.under e) (some p)) e) = _
    rw [keys_drop, setAll_keys]
  have key : ∀ k, aval (L.fall e p).lords k = if e = k then none else if L.lord k = some e then some (some p) else aval L.lords k := by
    intro k
    show aval (adrop (setAll L.lords (L.under e) (some p)) e) k = _
    rw [aval_drop, aval_setAll]
    by_cases h : e = k
    · rw [if_pos h, if_pos h]
    · rw [if_neg h, if_neg h]
      by_cases h2 : L.lord k = some e
      · rw [if_pos h2, if_pos ⟨mem_under.mpr h2, under_ks (mem_under.mpr h2)⟩]
      · rw [if_neg h2, if_neg (fun z => h2 (mem_under.mp z.1))]
  have mem' : ∀ x, x ∈ (L.fall e p).ks ↔ x ∈ L.ks ∧ x ≠ e := fun x => by rw [ek, List.mem_filter, decide_eq_true_iff]
  refine ⟨?_, ?_, ?_, ?_, ?_, ?_, ?_, ?_, ?_⟩
  · rw [ek]; show keys (adrop L.hold e) = _; rw [keys_drop, W.kh]
  · rw [ek]; show keys (aput (adrop L.own e) p _) = _
    rw [keys_put, keys_drop, W.ko, if_pos]
    rw [List.mem_filter, decide_eq_true_iff]
    exact ⟨hpm, pe⟩
  · rw [ek]; show keys (adrop L.due e) = _; rw [keys_drop, W.kd]
  · rw [ek]; exact List.Pairwise.filter _ W.nd
  · rw [key, if_neg e0, if_neg (by rw [W.lord_cr]; intro z; cases z)]; exact W.cr
  · intro k hk
    rw [key] at hk
    split at hk
    · cases hk
    · split at hk
      · cases hk
      · exact W.no k hk
  · intro k q hk
    rw [key] at hk
    split at hk
    · cases hk
    · rename_i ne
      have fin : ∀ q, q ∈ L.ks → q ≠ e → k ∈ L.ks → ixOf L.ks q < ixOf L.ks k → q ∈ (L.fall e p).ks ∧ ixOf (L.fall e p).ks q < ixOf (L.fall e p).ks k := fun q h1 h2 h3 h4 => by
        refine ⟨(mem' q).mpr ⟨h1, h2⟩, ?_⟩
        rw [ek]
        exact ix_filter _ (by simpa using h2) (by simpa using fun z : k = e => ne z.symm) L.ks h3 h4
      split at hk
      · rename_i h2
        cases hk
        have hkm : k ∈ L.ks := aval_some_iff.mp (by rw [lord_some h2]; rfl)
        have := (W.up k e (lord_some h2)).2
        exact fin p hpm pe hkm (by omega)
      · rename_i h2
        have hkm : k ∈ L.ks := aval_some_iff.mp (by rw [hk]; rfl)
        obtain ⟨g1, g2⟩ := W.up k q hk
        exact fin q g1 (fun z => h2 (by rw [lord_of hk, z])) hkm g2
  · intro k hk; exact W.sk k ((mem' k).mp hk).1
  · intro x hx
    obtain ⟨q, hq, rfl⟩ := List.mem_map.mp hx
    exact W.sh _ (List.mem_map.mpr ⟨q, (List.mem_filter.mp hq).1, rfl⟩)
end
end MR

set_option Elab.async false
set_option linter.all false
set_option maxRecDepth 100000
set_option exponentiation.threshold 30000
/-! P9: Land's deeds. -/
namespace MR
open PySem
section
variable {S : Sto} {r a b c d : Nat} {L : Ld} {e n m : Str} {x s : Int}
theorem atI_lit {α : Type} (l : List α) (k : Nat) : L2.atI l (k : Int) = l[k]? := by
  unfold L2.atI L2.ixN
  rw [if_pos (by omega)]
  by_cases h : k < l.length
  · rw [if_pos (by omega)]
    simp
  · rw [if_neg (by omega), List.getElem?_eq_none_iff.mpr (by omega)]
    rfl
theorem atI0 {α : Type} {x : α} {l : List α} : L2.atI (x :: l) 0 = some x := atI_lit (x :: l) 0
theorem atI1 {α : Type} {x y : α} {l : List α} : L2.atI (x :: y :: l) 1 = some y := atI_lit (x :: y :: l) 1
theorem atI2 {α : Type} {x y z : α} {l : List α} : L2.atI (x :: y :: z :: l) 2 = some z := atI_lit (x :: y :: z :: l) 2
theorem atI3' {α : Type} {x y z u : α} {l : List α} : L2.atI (x :: y :: z :: u :: l) 3 = some u := atI_lit (x :: y :: z :: u :: l) 3
theorem atI4 {α : Type} {x y z u v : α} {l : List α} : L2.atI (x :: y :: z :: u :: v :: l) 4 = some v := atI_lit (x :: y :: z :: u :: v :: l) 4
theorem atI5 {α : Type} {x y z u v t : α} {l : List α} : L2.atI (x :: y :: z :: u :: v :: t :: l) 5 = some t := atI_lit (x :: y :: z :: u :: v :: t :: l) 5
theorem atI6 {α : Type} {x y z u v t q : α} {l : List α} : L2.atI (x :: y :: z :: u :: v :: t :: q :: l) 6 = some q := atI_lit (x :: y :: z :: u :: v :: t :: q :: l) 6
theorem keys_len {α : Type} (l : List (Str × α)) : (keys l).length = l.length := List.length_map ..
structure Lens (L : Ld) : Prop where
  l : L.lords.length < 64
  h : L.hold.length < 64
  o : L.own.length < 64
  d : L.due.length < 64
theorem Wf.lens (W : Wf L) (hl : L.ks.length < 64) : Lens L := by
  have h1 := keys_len L.lords
  have h2 := keys_len L.hold
  have h3 := keys_len L.own
  have h4 := keys_len L.due
  have e1 : L.ks.length = (keys L.lords).length := rfl
  rw [W.kh] at h2
  rw [W.ko] at h3
  rw [W.kd] at h4
  exact ⟨by omega, by omega, by omega, by omega⟩
theorem LandAt.ne (A : LandAt S r a b c d false false L) : (¬ a = r ∧ ¬ b = r ∧ ¬ c = r ∧ ¬ d = r) ∧ (¬ a = b ∧ ¬ a = c ∧ ¬ a = d ∧ ¬ b = c ∧ ¬ b = d ∧ ¬ c = d) ∧ (¬ b = a ∧ ¬ c = a ∧ ¬ d = a ∧ ¬ c = b ∧ ¬ d = b ∧ ¬ d = c) := by
  have nd := A.nd
  simp only [List.nodup_cons, List.mem_cons, List.not_mem_nil, or_false, not_or] at nd
  obtain ⟨⟨n1, n2, n3, n4⟩, ⟨n5, n6, n7⟩, ⟨n8, n9⟩, n10, _⟩ := nd
  exact ⟨⟨fun z => n1 z.symm, fun z => n2 z.symm, fun z => n3 z.symm, fun z => n4 z.symm⟩, ⟨n5, n6, n7, n8, n9, n10⟩, fun z => n5 z.symm, fun z => n6 z.symm, fun z => n7 z.symm, fun z => n8 z.symm, fun z => n9 z.symm, fun z => n10 z.symm⟩
abbrev Done (S : Sto) (r a b c d : Nat) (L' : Ld) : D → Sto → Prop := fun w S' => w = .non ∧ LandAt S' r a b c d false false L' ∧ Off [a, b, c, d] S S'
theorem convey_ok (A : LandAt S r a b c d false false L) (hl : Lens L) : Ret (m_Land_convey [.obj r, .str e, .str m] S) (Done S r a b c d (L.convey e m)) := by
  obtain ⟨⟨n1, n2, n3, n4⟩, ⟨n5, n6, n7, n8, n9, n10⟩, n11, n12, n13, n14, n15, n16⟩ := A.ne
  have hm : L.hold.length < most := Nat.lt_trans hl.h (by decide)
  unfold m_Land_convey
  rw [ret_dDef]
  simp [b_Land_convey, objAtU, derefU, chgU, A.o, A.h, hm, putD_encS]
  refine ⟨rfl, ⟨?_, ?_, ?_, ?_, ?_, A.nd⟩, Off.refl.set (by simp)⟩
  · simp [setG, n2, A.o]
  · simp [setG, n11, A.l, Ld.convey]
  · simp [setG, A.h, Ld.convey]
  · simp [setG, n8, A.w, Ld.convey]
  · simp [setG, n9, A.s, Ld.convey]
theorem grant_ok (A : LandAt S r a b c d false false L) (W : Wf L) (hl : Lens L) (he : e ∈ L.ks) (hn : n ∉ L.ks) : Ret (m_Land_grant [.obj r, .str e, .str n, .str m, .int x, .int s] S) (Done S r a b c d (L.grant e n m x s)) := by
  obtain ⟨⟨n1, n2, n3, n4⟩, ⟨n5, n6, n7, n8, n9, n10⟩, n11, n12, n13, n14, n15, n16⟩ := A.ne
  have h1 : L.lords.length < most := Nat.lt_trans hl.l (by decide)
  have h2 : L.hold.length < most := Nat.lt_trans hl.h (by decide)
  have h3 : L.own.length < most := Nat.lt_trans hl.o (by decide)
  have h4 : L.due.length < most := Nat.lt_trans hl.d (by decide)
  have hne : ¬ n = e := fun z => hn (z ▸ he)
  obtain ⟨o, ho⟩ := Option.isSome_iff_exists.mp (aval_some_iff.mpr (show e ∈ keys L.own by rw [W.ko]; exact he))
  have hac : L.ac e = o := by unfold Ld.ac; rw [ho]; rfl
  have h5 : (aput L.own n x).length < most := by
    rw [aput_out (by rw [W.ko]; exact hn), List.length_append]
    have := hl.o
    unfold most
    simp
    omega
  unfold m_Land_grant
  rw [ret_dDef]
  simp [b_Land_grant, objAtU, derefU, chgU, setG, A.o, A.l, A.h, A.w, A.s, n1, n2, n3, n4, n5, n6, n7, n8, n9, n10, n11, n12, n13, n14, n15, n16, h1, h2, h3, h4, h5, putD_encS, putD_encO, putD_encI, putD_encF, aval_put, hne, ho, most3]
  refine ⟨rfl, ⟨?_, ?_, ?_, ?_, ?_, A.nd⟩, ?off⟩
  case off => repeat (first | exact Off.refl | refine Off.set ?_ (by simp))
  all_goals simp [setG, A.o, A.l, A.h, A.w, A.s, n1, n2, n3, n4, n5, n6, n7, n8, n9, n10, n11, n12, n13, n14, n15, n16, Ld.grant, hac]
theorem sub_eq {w1 w2 q1 q2 t B : Int} (hB : 0 < B) (hw : 0 < w2) (hq : q1 = frT (w1 * t) (w2 * B)) (hq2 : q2 = frB (w1 * t) (w2 * B)) : subF (w1, w2) (q1, q2) = (frT (w1 * (B - t)) (w2 * B), frB (w1 * (B - t)) (w2 * B)) := by
  have hb : w2 * B ≠ 0 := Int.ne_of_gt (Int.mul_pos hw hB)
  have hp : 0 < q2 := by rw [hq2]; exact frB_pos hb
  have e1 : q1 * (w2 * B) = (w1 * t) * q2 := by
    have a1 := fr_t (w1 * t) (w2 * B)
    have a2 := fr_b (w1 * t) (w2 * B)
    rw [← hq] at a1
    rw [← hq2] at a2
    rw [← a1]
    conv => lhs; rw [← a2]
    rw [Int.mul_assoc, Int.mul_comm q1, Int.mul_assoc, Int.mul_comm q2 q1]
  have h0 : w2 * q2 ≠ 0 := Int.ne_of_gt (Int.mul_pos hw hp)
  unfold subF
  have key : (w1 * q2 - q1 * w2) * (w2 * B) = (w1 * (B - t)) * (w2 * q2) := by
    have e2 : q1 * w2 * (w2 * B) = w2 * (w1 * t * q2) := by rw [← e1, Int.mul_comm q1 w2, Int.mul_assoc]
    rw [Int.sub_mul, e2]
    have e3 : w1 * q2 * (w2 * B) = w1 * B * (w2 * q2) := by ac_rfl
    have e4 : w2 * (w1 * t * q2) = w1 * t * (w2 * q2) := by rw [Int.mul_left_comm]
    rw [e3, e4, Int.mul_sub, Int.sub_mul]
  obtain ⟨k1, k2⟩ := fr_unique h0 hb key
  show (_, _) = _
  rw [k1, k2]
theorem part_ok (A : LandAt S r a b c d false false L) (W : Wf L) (hl : L.ks.length < 63) (he : e ∈ L.ks) (e0 : e ≠ "") (hn : n ∉ L.ks) {k : Nat} (hk : k + 100 ≤ 4000) (hz : Sz k (L.sv e)) (hx : 0 ≤ x) (hB : 0 < L.breadth e) (hb : L.breadth e < 2 ^ 20) (hxb : x < 2 ^ 20) :
    Ret (m_Land_part_off [.obj r, .str e, .str n, .str m, .int x] S) (Done S r a b c d (L.part e n m x)) := by
  obtain ⟨⟨n1, n2, n3, n4⟩, ⟨n5, n6, n7, n8, n9, n10⟩, n11, n12, n13, n14, n15, n16⟩ := A.ne
  have ln := W.lens (by omega)
  have h1 : L.lords.length < most := Nat.lt_trans ln.l (by decide)
  have h2 : L.hold.length < most := Nat.lt_trans ln.h (by decide)
  have h3 : L.own.length < most := Nat.lt_trans ln.o (by decide)
  have h4 : L.due.length < most := Nat.lt_trans ln.d (by decide)
  have hne : ¬ n = e := fun z => hn (z ▸ he)
  have hen : ¬ e = n := fun z => hn (z ▸ he)
  obtain ⟨o, ho⟩ := Option.isSome_iff_exists.mp (aval_some_iff.mpr (show e ∈ keys L.own by rw [W.ko]; exact he))
  have hac : L.ac e = o := by unfold Ld.ac; rw [ho]; rfl
  obtain ⟨⟨w1, w2⟩, hw⟩ := Option.isSome_iff_exists.mp (aval_some_iff.mpr (show e ∈ keys L.due by rw [W.kd]; exact he))
  have hsv : L.sv e = (w1, w2) := by unfold Ld.sv; rw [hw]; rfl
  obtain ⟨p, hp, _⟩ := W.lord_ne he e0
  have hlo := lord_some hp
  have h5 : (aput L.own n x).length < most := by
    rw [aput_out (by rw [W.ko]; exact hn), List.length_append]
    have := ln.o
    unfold most
    simp
    omega
  have h6 : ∀ v, (aput L.due n v).length < most := fun v => by
    rw [aput_out (by rw [W.kd]; exact hn), List.length_append]
    have := ln.d
    unfold most
    simp
    omega
  rw [hsv] at hz
  have hBn : (L.breadth e).natAbs < 2 ^ 20 := by omega
  have hxn : x.natAbs < 2 ^ 20 := by omega
  have mo1 : mulOk w1 x := Sz.mulOk hz.t hxn (by omega)
  have mo2 : mulOk w2 (L.breadth e) := Sz.mulOk hz.b hBn (by omega)
  have hne0 : w2 * L.breadth e ≠ 0 := Int.ne_of_gt (Int.mul_pos hz.pos hB)
  have okb : okB (w2 * L.breadth e) := ⟨hne0, Nat.lt_of_lt_of_le (mul_bits hz.b hBn) (Nat.pow_le_pow_right (by decide) (by omega))⟩
  have hbr := breadth_eq A W (by omega) he
  have hpart := part_eq (t := w1 * x) okb S
  have hfr : fr (w1 * x) (w2 * L.breadth e) = encF (moved L e x) := by unfold moved fr encF; rw [hsv]
  rw [hfr] at hpart
  have szm : Sz (k + 20) (moved L e x) := by
    unfold moved
    rw [hsv]
    refine ⟨Nat.lt_of_le_of_lt (frT_le hne0) (mul_bits hz.t hxn), Nat.lt_of_le_of_lt (frB_le hne0) (mul_bits hz.b hBn), frB_pos hne0⟩
  have hmin : ∀ T, m_minus [encF (w1, w2), encF (moved L e x)] T = .ok (encF (left L e x)) T := fun T => by
    rw [minus_eq hz szm (by omega)]
    congr 2
    unfold left
    rw [hsv]
    exact sub_eq hB hz.pos (by rw [hsv]) (by rw [hsv])
  have hmin2 : ∀ T, m_minus [.tup [.int w1, .int w2], .tup [.int (moved L e x).1, .int (moved L e x).2]] T = .ok (.tup [.int (left L e x).1, .int (left L e x).2]) T := hmin
  have hpart2 : m_part [.int (w1 * x), .int (w2 * L.breadth e)] S = .ok (.tup [.int (moved L e x).1, .int (moved L e x).2]) S := hpart
  unfold m_Land_part_off
  rw [ret_dDef]
  simp [b_Land_part_off, objAtU, derefU, chgU, setG, A.o, A.l, A.h, A.w, A.s, n1, n2, n3, n4, n5, n6, n7, n8, n9, n10, n11, n12, n13, n14, n15, n16, h1, h2, h3, h4, h5, h6, putD_encS, putD_encO, putD_encI, putD_encF, aval_put, hne, ho, hw, hlo, encF, encO, mo1, mo2, hbr, hpart2, hmin2, atI0, atI1]
  refine ⟨rfl, ⟨?_, ?_, ?_, ?_, ?_, A.nd⟩, ?off⟩
  case off => repeat (first | exact Off.refl | refine Off.set ?_ (by simp))
  all_goals simp [setG, A.o, A.l, A.h, A.w, A.s, n1, n2, n3, n4, n5, n6, n7, n8, n9, n10, n11, n12, n13, n14, n15, n16, Ld.part, hac, hp]
theorem fall_loop {p : Str} : ∀ (cs : List Str) (S : Sto) (L : Ld) (s3 : Slot), LandAt S r a b c d false false L → L.lords.length < 64 → (∀ x ∈ cs, x ∈ L.ks) →
    ∃ S' s3', forL (gN 3) fb_Land_fall_back_1 (cs.map D.str) [.val (.obj r), .val (.str e), .val (.str p), s3] S = .ok .next [.val (.obj r), .val (.str e), .val (.str p), s3'] S' ∧ LandAt S' r a b c d false false { L with lords := cs.foldl (fun l x => aput l x (some p)) L.lords } ∧ Off [a, b, c, d] S S' := by
  intro cs
  induction cs with
  | nil => intro S L s3 A _ _; exact ⟨S, s3, rfl, A, Off.refl⟩
  | cons x cs ih =>
    intro S L s3 A hl hk
    obtain ⟨⟨n1, n2, n3, n4⟩, ⟨n5, n6, n7, n8, n9, n10⟩, n11, n12, n13, n14, n15, n16⟩ := A.ne
    have hm : L.lords.length < most := Nat.lt_trans hl (by decide)
    have hx := hk x List.mem_cons_self
    have A2 : LandAt (S.set a (.con false (.dK (enc encO (aput L.lords x (some p)))))) r a b c d false false { L with lords := aput L.lords x (some p) } := by
      refine ⟨?_, ?_, ?_, ?_, ?_, A.nd⟩ <;> simp [setG, A.o, A.l, A.h, A.w, A.s, n1, n5, n6, n7]
    have hll : (aput L.lords x (some p)).length < 64 := by
      rw [← keys_len, keys_put, if_pos hx, keys_len]
      exact hl
    obtain ⟨S', s3', e1, e2, e3⟩ := ih _ _ (.val (.str x)) A2 hll (fun y hy => by
      show y ∈ keys (aput L.lords x (some p))
      rw [keys_put, if_pos hx]
      exact hk y (List.mem_cons_of_mem _ hy))
    refine ⟨S', s3', ?_, e2, (Off.refl.set (by simp)).trans e3⟩
    rw [List.map_cons, forL_cons (σ1 := [.val (.obj r), .val (.str e), .val (.str p), .val (.str x)]) (σ2 := [.val (.obj r), .val (.str e), .val (.str p), .val (.str x)]) (S2 := S.set a (.con false (.dK (enc encO (aput L.lords x (some p)))))) rfl (by simp [fb_Land_fall_back_1, objAtU, derefU, chgU, A.o, A.l, hm, putD_encO])]
    exact e1
theorem fall_ok (A : LandAt S r a b c d false false L) (W : Wf L) (hl : L.ks.length < 64) {p : Str} (hp : L.lord e = some p) : Ret (m_Land_fall_back [.obj r, .str e] S) (Done S r a b c d (L.fall e p)) := by
  have ln := W.lens hl
  obtain ⟨hpm, hpl⟩ := W.up e p (lord_some hp)
  have he : e ∈ L.ks := aval_some_iff.mp (by rw [lord_some hp]; rfl)
  have pe : ¬ e = p := fun z => by rw [z] at hpl; omega
  have hu := under_eq A he hl
  obtain ⟨S', s3', e1, A2, o2⟩ := fall_loop (e := e) (p := p) (L.under e) S L .emp A ln.l (fun x hx => under_ks hx)
  rw [fold_aput _ _ (fun x hx => under_ks hx)] at A2
  obtain ⟨⟨n1, n2, n3, n4⟩, ⟨n5, n6, n7, n8, n9, n10⟩, n11, n12, n13, n14, n15, n16⟩ := A.ne
  obtain ⟨oe, hoe⟩ := Option.isSome_iff_exists.mp (aval_some_iff.mpr (show e ∈ keys L.own by rw [W.ko]; exact he))
  obtain ⟨op, hop⟩ := Option.isSome_iff_exists.mp (aval_some_iff.mpr (show p ∈ keys L.own by rw [W.ko]; exact hpm))
  obtain ⟨he1, hhe⟩ := Option.isSome_iff_exists.mp (aval_some_iff.mpr (show e ∈ keys L.hold by rw [W.kh]; exact he))
  obtain ⟨du, hdu⟩ := Option.isSome_iff_exists.mp (aval_some_iff.mpr (show e ∈ keys L.due by rw [W.kd]; exact he))
  have h1 : aval (setAll L.lords (L.under e) (some p)) e = some (some p) := by
    rw [aval_setAll, if_neg (fun z => by
      have := mem_under.mp z.1
      rw [hp] at this
      cases this
      exact pe rfl)]
    exact lord_some hp
  have hac : L.ac e = oe := by unfold Ld.ac; rw [hoe]; rfl
  have hap : L.ac p = op := by unfold Ld.ac; rw [hop]; rfl
  have h3 : (adrop L.own e).length < most := Nat.lt_of_le_of_lt (List.length_filter_le ..) (Nat.lt_trans ln.o (by decide))
  have hlo := lord_some hp
  unfold m_Land_fall_back
  rw [ret_dDef]
  have a1 := A2.o
  have a2 := A2.l
  have a3 := A2.h
  have a4 := A2.w
  have a5 := A2.s
  have st1 : (sSet 2 (d2 opGet (dFld ["Land"] "lords" (dVar 0)) (dVar 1))) [.val (.obj r), .val (.str e), .emp, .emp] S = .ok .next [.val (.obj r), .val (.str e), .val (.str p), .emp] S := by simp [A.ob, A.dl, hlo, encO]
  have st2 : (sFor (iLst (dMet "under" [("Land", m_Land_under)] (dVar 0) (aCons (dVar 1) aNil))) (gN 3) fb_Land_fall_back_1) [.val (.obj r), .val (.str e), .val (.str p), .emp] S = .ok .next [.val (.obj r), .val (.str e), .val (.str p), s3'] S' := by simp [A.ob, hu, e1]
  show RunF (b_Land_fall_back [.val (.obj r), .val (.str e), .emp, .emp] S) _
  unfold b_Land_fall_back
  rw [sSeq_next st1, sSeq_next st2]
  simp [objAtU, derefU, chgU, setG, a1, a2, a3, a4, a5, n1, n2, n3, n4, n5, n6, n7, n8, n9, n10, n11, n12, n13, n14, n15, n16, hoe, hop, hhe, hdu, h1, h3, dropD_enc, putD_encI, encF, encO]
  refine ⟨rfl, ⟨?_, ?_, ?_, ?_, ?_, A.nd⟩, ?off⟩
  case off =>
    refine o2.trans ?_
    repeat (first | exact Off.refl | refine Off.set ?_ (by simp))
  all_goals simp [setG, a1, a2, a3, a4, a5, n1, n2, n3, n4, n5, n6, n7, n8, n9, n10, n11, n12, n13, n14, n15, n16, Ld.fall, hac, hap]
end
end MR

set_option Elab.async false
set_option linter.all false
set_option maxRecDepth 100000
set_option exponentiation.threshold 30000
/-! P10: the law's own book: what is read of it. -/
namespace MR
open PySem
structure Bk where
  L : Ld
  known : List Str
  heirs : List (Str × Str)
  dead : List Str
  lieges : List (Str × Str)
def bkD (n : Nat) : List (Kk × D) := [(.inr "lords", .obj n), (.inr "holders", .obj (n + 1)), (.inr "own", .obj (n + 2)), (.inr "due", .obj (n + 3)), (.inr "known", .obj (n + 4)), (.inr "heirs", .obj (n + 5)), (.inr "dead", .obj (n + 6)), (.inr "lieges", .obj (n + 7))]
theorem bk0 (n : Nat) : valD (bkD n) (.inr "lords") = some (.obj n) := rfl
theorem bk1 (n : Nat) : valD (bkD n) (.inr "holders") = some (.obj (n + 1)) := rfl
theorem bk2 (n : Nat) : valD (bkD n) (.inr "own") = some (.obj (n + 2)) := rfl
theorem bk3 (n : Nat) : valD (bkD n) (.inr "due") = some (.obj (n + 3)) := rfl
theorem bk4 (n : Nat) : valD (bkD n) (.inr "known") = some (.obj (n + 4)) := rfl
theorem bk5 (n : Nat) : valD (bkD n) (.inr "heirs") = some (.obj (n + 5)) := rfl
theorem bk6 (n : Nat) : valD (bkD n) (.inr "dead") = some (.obj (n + 6)) := rfl
theorem bk7 (n : Nat) : valD (bkD n) (.inr "lieges") = some (.obj (n + 7)) := rfl
structure BookAt (S : Sto) (n : Nat) (la lb : Bool) (B : Bk) : Prop where
  c0 : S[n]? = some (.con la (.dK (enc encO B.L.lords)))
  c1 : S[n + 1]? = some (.con lb (.dK (enc D.str B.L.hold)))
  c2 : S[n + 2]? = some (.con false (.dK (enc D.int B.L.own)))
  c3 : S[n + 3]? = some (.con false (.dK (enc encF B.L.due)))
  c4 : S[n + 4]? = some (.con false (.lst (B.known.map D.str)))
  c5 : S[n + 5]? = some (.con false (.dK (enc D.str B.heirs)))
  c6 : S[n + 6]? = some (.con false (.lst (B.dead.map D.str)))
  c7 : S[n + 7]? = some (.con false (.dK (enc D.str B.lieges)))
  c8 : S[n + 8]? = some (.con false (.dK (bkD n)))
section
variable {S : Sto} {n : Nat} {la lb : Bool} {B : Bk} {e m : Str}
theorem BookAt.d0 (A : BookAt S n la lb B) (σ : Sl) : deref σ S (.obj n) = some (.dK (enc encO B.L.lords)) := by rw [derefU, A.c0]
theorem BookAt.d1 (A : BookAt S n la lb B) (σ : Sl) : deref σ S (.obj (n + 1)) = some (.dK (enc D.str B.L.hold)) := by rw [derefU, A.c1]
theorem BookAt.d2 (A : BookAt S n la lb B) (σ : Sl) : deref σ S (.obj (n + 2)) = some (.dK (enc D.int B.L.own)) := by rw [derefU, A.c2]
theorem BookAt.d3 (A : BookAt S n la lb B) (σ : Sl) : deref σ S (.obj (n + 3)) = some (.dK (enc encF B.L.due)) := by rw [derefU, A.c3]
theorem BookAt.d4 (A : BookAt S n la lb B) (σ : Sl) : deref σ S (.obj (n + 4)) = some (.lst (B.known.map D.str)) := by rw [derefU, A.c4]
theorem BookAt.d5 (A : BookAt S n la lb B) (σ : Sl) : deref σ S (.obj (n + 5)) = some (.dK (enc D.str B.heirs)) := by rw [derefU, A.c5]
theorem BookAt.d6 (A : BookAt S n la lb B) (σ : Sl) : deref σ S (.obj (n + 6)) = some (.lst (B.dead.map D.str)) := by rw [derefU, A.c6]
theorem BookAt.d7 (A : BookAt S n la lb B) (σ : Sl) : deref σ S (.obj (n + 7)) = some (.dK (enc D.str B.lieges)) := by rw [derefU, A.c7]
theorem BookAt.d8 (A : BookAt S n la lb B) (σ : Sl) : deref σ S (.obj (n + 8)) = some (.dK (bkD n)) := by rw [derefU, A.c8]
theorem BookAt.lockL (A : BookAt S n la lb B) (lk : Bool) : BookAt (S.set n (.con lk (.dK (enc encO B.L.lords)))) n lk lb B := by
  refine ⟨?_, ?_, ?_, ?_, ?_, ?_, ?_, ?_, ?_⟩ <;> simp [setG, A.c0, A.c1, A.c2, A.c3, A.c4, A.c5, A.c6, A.c7, A.c8]
theorem BookAt.lockH (A : BookAt S n la lb B) (lk : Bool) : BookAt (S.set (n + 1) (.con lk (.dK (enc D.str B.L.hold)))) n la lk B := by
  refine ⟨?_, ?_, ?_, ?_, ?_, ?_, ?_, ?_, ?_⟩ <;> simp [setG, A.c0, A.c1, A.c2, A.c3, A.c4, A.c5, A.c6, A.c7, A.c8]
theorem lunder_eq (A : BookAt S n false lb B) (hl : B.L.ks.length < 64) : m__law_under [.obj (n + 8), .str e] S = .ok (.lst ((B.L.under e).map D.str)) S := by
  have C := A.lockL true
  have hll : B.L.lords.length < 64 := by have : B.L.ks.length = B.L.lords.length := List.length_map ..; omega
  have key := lock_keys (fe := MR.d2 opGet (dVar 0) (dC (.str "lords"))) (i := 2) (c := lt__law_under_1) (σ := [.val (.obj (n + 8)), .val (.str e), .emp]) (fun k => decide (aval B.L.lords k = some (some e))) A.c0 (by simp [A.d8, bk0]) (by simp [C.d8, bk0]) rfl (by simp) (by unfold most; omega) (by
    intro k hk
    obtain ⟨o, ho⟩ := Option.isSome_iff_exists.mp (aval_some_iff.mpr hk)
    simp [wipeD, lt__law_under_1, C.d8, C.d0, bk0, ho, deref_encO, eq_encO])
  have hlen : (B.L.kids e).length < 64 := by have := List.length_filter_le (fun k => decide (aval B.L.lords k = some (some e))) B.L.ks; unfold Ld.kids; omega
  refine dDef_ret (σ' := [.val (.obj (n + 8)), .val (.str e), .emp]) ?_
  have h2 : (dLock (MR.d2 opGet (dVar 0) (dC (.str "lords"))) (dLc (iKeysD (MR.d2 opGet (dVar 0) (dC (.str "lords")))) (gN 2) lt__law_under_1 le__law_under_2 [2])) [.val (.obj (n + 8)), .val (.str e), .emp] S = .ok (.lst ((B.L.kids e).map D.str)) [.val (.obj (n + 8)), .val (.str e), .emp] S := key
  simp [b__law_under, h2, sortS_eq hlen, Ld.under]
theorem lheld_eq (A : BookAt S n la false B) (hl : B.L.hold.length < 64) : m__law_held [.obj (n + 8), .str m] S = .ok (.lst ((B.L.held m).map D.str)) S := by
  have C := A.lockH true
  have key := lock_keys (fe := MR.d2 opGet (dVar 0) (dC (.str "holders"))) (i := 2) (c := lt__law_held_1) (σ := [.val (.obj (n + 8)), .val (.str m), .emp]) (fun k => decide (aval B.L.hold k = some m)) A.c1 (by simp [A.d8, bk1]) (by simp [C.d8, bk1]) rfl (by simp) (by unfold most; omega) (by
    intro k hk
    obtain ⟨o, ho⟩ := Option.isSome_iff_exists.mp (aval_some_iff.mpr hk)
    simp [wipeD, lt__law_held_1, C.d8, C.d1, bk1, ho])
  have hlen : ((keys B.L.hold).filter fun k => decide (aval B.L.hold k = some m)).length < 64 := by
    have := List.length_filter_le (fun k => decide (aval B.L.hold k = some m)) (keys B.L.hold)
    have e : (keys B.L.hold).length = B.L.hold.length := List.length_map ..
    omega
  refine dDef_ret (σ' := [.val (.obj (n + 8)), .val (.str m), .emp]) ?_
  have h2 : (dLock (MR.d2 opGet (dVar 0) (dC (.str "holders"))) (dLc (iKeysD (MR.d2 opGet (dVar 0) (dC (.str "holders")))) (gN 2) lt__law_held_1 le__law_held_2 [2])) [.val (.obj (n + 8)), .val (.str m), .emp] S = .ok (.lst (((keys B.L.hold).filter fun k => decide (aval B.L.hold k = some m)).map D.str)) [.val (.obj (n + 8)), .val (.str m), .emp] S := key
  simp [b__law_held, h2, sortS_eq hlen, Ld.held]
/-! ### the law's breadth: a queue -/
theorem cut1 {x : Str} {l : List Str} : cutL ((x :: l).map D.str) (some 1) none = l.map D.str := by
  rw [cutL_map]
  have := cutL_from (x :: l) 1
  rw [show ((1 : Nat) : Int) = 1 from rfl] at this
  rw [this]
  rfl
theorem lbreadth_loop (A : BookAt S n false lb B) (W : Wf B.L) (hl : B.L.ks.length < 64) : ∀ (k : Nat) (ah : List Str) (f : Int), (∀ x ∈ ah, x ∈ B.L.ks) → (ah.map B.L.size).sum = k → k < 64 →
    sWhile wc__law_breadth_1 wb__law_breadth_2 (k + 1) [.val (.obj (n + 8)), .val (.str e), .val (.int f), .val (.lst (ah.map D.str))] S = .ok .next [.val (.obj (n + 8)), .val (.str e), .val (.int (f + (ah.map B.L.breadth).sum)), .val (.lst [])] S := by
  intro k
  induction k using Nat.strongRecOn with
  | _ k ih =>
    intro ah f hk hn h64
    have hso : ∀ x ∈ ah, PyData.strOk x = true := fun x hx => W.sk x (hk x hx)
    cases ah with
    | nil =>
      rw [sWhile_false (σ1 := [.val (.obj (n + 8)), .val (.str e), .val (.int f), .val (.lst [])]) (S1 := S) (by have := ne_nil (l := []) (by simp); simp at this; simp [wc__law_breadth_1, this])]
      simp
    | cons x ah =>
      have hx : x ∈ B.L.ks := hk x (by simp)
      obtain ⟨o, ho⟩ := Option.isSome_iff_exists.mp (aval_some_iff.mpr (show x ∈ keys B.L.own by rw [W.ko]; exact hx))
      have hac : B.L.ac x = o := by unfold Ld.ac; rw [ho]; rfl
      have e1 : wc__law_breadth_1 [.val (.obj (n + 8)), .val (.str e), .val (.int f), .val (.lst ((x :: ah).map D.str))] S = .ok true [.val (.obj (n + 8)), .val (.str e), .val (.int f), .val (.lst ((x :: ah).map D.str))] S := by
        have := ne_nil hso
        have h2 : decide (x :: ah ≠ []) = true := by simp
        rw [h2] at this
        simp [wc__law_breadth_1, -List.map_cons, this]
      rw [List.map_cons, List.sum_cons] at hn
      have hsz := size_under W hx
      have hu := lunder_eq (e := x) A hl
      have hlen : ∀ l : List Str, (∀ y ∈ l, y ∈ B.L.ks) → l.length ≤ (l.map B.L.size).sum := by
        intro l hl
        induction l with
        | nil => simp
        | cons y l ih2 =>
          have h1 := size_pos W (hl y (by simp))
          have h2 := ih2 fun z hz => hl z (by simp [hz])
          simp only [List.length_cons, List.map_cons, List.sum_cons]
          omega
      have l1 := hlen ah fun y hy => hk y (by simp [hy])
      have l2 := hlen (B.L.under x) fun y hy => under_ks hy
      have e2 : wb__law_breadth_2 [.val (.obj (n + 8)), .val (.str e), .val (.int f), .val (.lst ((x :: ah).map D.str))] S = .ok .next [.val (.obj (n + 8)), .val (.str e), .val (.int (f + o)), .val (.lst ((ah ++ B.L.under x).map D.str))] S := by
        have hm : ah.length + (B.L.under x).length ≤ most := by unfold most; omega
        have hc : cutL (.str x :: ah.map D.str) (some 1) none = ah.map D.str := cut1 (x := x) (l := ah)
        simp [wb__law_breadth_2, A.d8, A.d2, bk2, ho, hu, hm, atI0, hc]
      obtain ⟨k', hk'⟩ : ∃ k', k = k' + 1 := ⟨k - 1, by omega⟩
      subst hk'
      rw [sWhile_next e1 e2, ih k' (by omega) (ah ++ B.L.under x) (f + o) (fun y hy => by
        rcases List.mem_append.mp hy with hy | hy
        · exact hk y (by simp [hy])
        · exact under_ks hy) (by rw [List.map_append, List.sum_append]; omega) (by omega)]
      have hb := breadth_under W hx
      congr 6
      rw [List.map_append, List.sum_append, List.map_cons, List.sum_cons, hb, hac]
      omega
theorem lbreadth_eq (A : BookAt S n false lb B) (W : Wf B.L) (hl : B.L.ks.length < 64) (he : e ∈ B.L.ks) : m__law_breadth [.obj (n + 8), .str e] S = .ok (.int (B.L.breadth e)) S := by
  have hs := size_le B.L e
  have h2 := size_under W he
  obtain ⟨o, ho⟩ := Option.isSome_iff_exists.mp (aval_some_iff.mpr (show e ∈ keys B.L.own by rw [W.ko]; exact he))
  have hac : B.L.ac e = o := by unfold Ld.ac; rw [ho]; rfl
  have e1 := lbreadth_loop (e := e) A W hl (((B.L.under e).map B.L.size).sum) (B.L.under e) o (fun y hy => under_ks hy) rfl (by omega)
  have e2 := sWhile_more (m := fuel) e1 (by have := fuel_big; omega)
  rw [show o + ((B.L.under e).map B.L.breadth).sum = B.L.breadth e by rw [breadth_under W he, hac]] at e2
  have hu := lunder_eq (e := e) A hl
  refine dDef_ret (σ' := [.val (.obj (n + 8)), .val (.str e), .val (.int (B.L.breadth e)), .val (.lst [])]) ?_
  simp [b__law_breadth, A.d8, A.d2, bk2, ho, hu, e2]
theorem lchain_loop (A : BookAt S n la lb B) (W : Wf B.L) : ∀ (k : Nat) (pre : List Str) (x : Str), x ∈ B.L.ks → ixOf B.L.ks x ≤ k → pre.length + k < 1000 →
    sWhile wc__law_chain_1 wb__law_chain_2 (k + 1) [.val (.obj (n + 8)), .val (.str e), .own (.lst ((pre ++ [x]).map D.str))] S = .ok .next [.val (.obj (n + 8)), .val (.str e), .own (.lst ((pre ++ B.L.chain x).map D.str))] S := by
  intro k
  induction k with
  | zero =>
    intro pre x hx hi hp
    have e0 : x = "" := by
      refine Classical.byContradiction fun h0 => ?_
      obtain ⟨p, _, _, h⟩ := W.lord_ne hx h0
      omega
    subst e0
    rw [chain_cr W]
    refine sWhile_false ?_
    simp [wc__law_chain_1, atI_last]
  | succ k ih =>
    intro pre x hx hi hp
    by_cases h0 : x = ""
    · subst h0
      rw [chain_cr W]
      refine sWhile_false ?_
      simp [wc__law_chain_1, atI_last]
    · obtain ⟨p, hlp, h1, h2⟩ := W.lord_ne hx h0
      have ho := lord_some hlp
      have hm : pre.length + 1 < most := by unfold most; omega
      rw [sWhile_next (σ1 := [.val (.obj (n + 8)), .val (.str e), .own (.lst ((pre ++ [x]).map D.str))]) (S1 := S) (σ2 := [.val (.obj (n + 8)), .val (.str e), .own (.lst ((pre ++ [x] ++ [p]).map D.str))]) (S2 := S) (by simp [wc__law_chain_1, atI_last, h0]) (by simp [wb__law_chain_2, A.d8, A.d0, bk0, atI_last, ho, encO, hm])]
      rw [ih (pre ++ [x]) p h1 (by omega) (by rw [List.length_append, List.length_singleton]; omega), chain_step W hlp]
      simp
theorem lchain_eq (A : BookAt S n la lb B) (W : Wf B.L) (hl : B.L.ks.length < 64) (he : e ∈ B.L.ks) : m__law_chain [.obj (n + 8), .str e] S = .ok (.lst ((B.L.chain e).map D.str)) S := by
  have hi := ixOf_lt.mp he
  have e1 := lchain_loop (e := e) A W (ixOf B.L.ks e) [] e he (Nat.le_refl _) (by simp; omega)
  have e2 := sWhile_more (m := fuel) e1 (by have := fuel_big; omega)
  refine dDef_ret (σ' := [.val (.obj (n + 8)), .val (.str e), .own (.lst ((B.L.chain e).map D.str))]) ?_
  simp at e2
  simp [b__law_chain, e2, most]
end
end MR

set_option Elab.async false
set_option linter.all false
set_option maxRecDepth 100000
set_option exponentiation.threshold 30000
/-! P11: charters; by which word one is void, by the law's book; the deeds on that book. -/
namespace MR
open PySem
@[simp] theorem ofString_iff {a b : String} : (Str.ofString a = Str.ofString b) ↔ a = b := ⟨ofString_inj, congrArg _⟩
inductive Rw where
  | heir (d : Int) (m h : Str)
  | grant (d : Int) (e n m : Str) (a s : Int)
  | part (d : Int) (e n m : Str) (a : Int)
  | convey (d : Int) (e m : Str)
  | liege (d : Int) (m l : Str)
  | surr (d : Int) (e : Str)
  | death (d : Int) (m : Str)
def Rw.D : Rw → MR.D
  | .heir d m h => .tup [.str "heir", .int d, .str m, .str h]
  | .grant d e n m a s => .tup [.str "grant", .int d, .str e, .str n, .str m, .int a, .int s]
  | .part d e n m a => .tup [.str "part", .int d, .str e, .str n, .str m, .int a]
  | .convey d e m => .tup [.str "convey", .int d, .str e, .str m]
  | .liege d m l => .tup [.str "liege", .int d, .str m, .str l]
  | .surr d e => .tup [.str "surrender", .int d, .str e]
  | .death d m => .tup [.str "death", .int d, .str m]
def Ld.bound (L : Ld) (m : Str) : List Str := ((L.held m).filter fun k => decide (k ≠ ("" : Str))).map fun k => ((L.lord k).bind fun p => aval L.hold p).getD ""
def Bk.why (B : Bk) : Rw → Str
  | .heir _ m _ => if m ∈ B.dead then "dead" else "stands"
  | .grant _ e n m a _ => if e ∉ B.L.ks then "nowhere" else if n ∈ B.known then "taken" else if m ∈ B.dead then "dead" else if B.L.ac e < a then "acres" else "stands"
  | .part _ e n m a => if e ∉ B.L.ks then "nowhere" else if n ∈ B.known then "taken" else if m ∈ B.dead then "dead" else if B.L.ac e < a then "acres" else "stands"
  | .convey _ e m => if e ∉ B.L.ks then "nowhere" else if m ∈ B.dead then "dead" else "stands"
  | .liege _ m l => if m ∈ B.dead then "dead" else if l ∉ B.L.bound m then "nobond" else "stands"
  | .surr _ e => if e ∉ B.L.ks then "nowhere" else "stands"
  | .death _ m => if m ∈ B.dead then "dead" else "stands"
theorem opInG_tup {x : Str} {l : List Str} : opInG (.str x) (.tup (l.map D.str)) = some (.bl (decide (x ∈ l))) := by
  have h : opInG (.str x) (.tup (l.map D.str)) = opIn (.str x) (.lst (l.map D.str)) := by unfold opInG opIn; rfl
  rw [h, opIn_strs]
theorem inT2 {x a b : Str} : opInG (.str x) (.tup [.str a, .str b]) = some (.bl (decide (x ∈ [a, b]))) := opInG_tup (l := [a, b])
theorem inT3 {x a b c : Str} : opInG (.str x) (.tup [.str a, .str b, .str c]) = some (.bl (decide (x ∈ [a, b, c]))) := opInG_tup (l := [a, b, c])
theorem inT4 {x a b c d : Str} : opInG (.str x) (.tup [.str a, .str b, .str c, .str d]) = some (.bl (decide (x ∈ [a, b, c, d]))) := opInG_tup (l := [a, b, c, d])
theorem opNotIn_lst {x : Str} {l : List Str} : opNotInG (.str x) (.lst (l.map D.str)) = some (.bl (!decide (x ∈ l))) := by rw [opNotInG_lst, opNotIn_strs]
theorem opIn_lst {x : Str} {l : List Str} : opInG (.str x) (.lst (l.map D.str)) = some (.bl (decide (x ∈ l))) := by rw [opInG_lst, opIn_strs]
section
variable {S : Sto} {n : Nat} {la lb : Bool} {B : Bk} {e m : Str}
theorem notIn_ks {α : Type} {f : α → D} {l : List (Str × α)} {k : Str} : opNotInG (.str k) (.dK (enc f l)) = some (.bl (decide (k ∉ keys l))) := by
  rw [opNotInG_dK (k := .inr k) rfl, valD_enc, isSome_map]
  congr 2
  by_cases h : k ∈ keys l
  · simp [h, aval_some_iff.mpr h]
  · simp [h, aval_none_iff.mpr h]
theorem in_ks {α : Type} {f : α → D} {l : List (Str × α)} {k : Str} : opInG (.str k) (.dK (enc f l)) = some (.bl (decide (k ∈ keys l))) := by
  rw [opInG_dK (k := .inr k) rfl, valD_enc, isSome_map]
  congr 2
  by_cases h : k ∈ keys l
  · simp [h, aval_some_iff.mpr h]
  · simp [h, aval_none_iff.mpr h]
theorem mem_held {L : Ld} {m k : Str} : k ∈ L.held m ↔ aval L.hold k = some m := by
  unfold Ld.held
  rw [(srtS_perm _).mem_iff, List.mem_filter, decide_eq_true_iff]
  exact ⟨fun h => h.2, fun h => ⟨aval_some_iff.mp (by rw [h]; rfl), h⟩⟩
theorem lbound_eq (A : BookAt S n la false B) (W : Wf B.L) (hl : B.L.ks.length < 64) : m__law_bound_to [.obj (n + 8), .str m] S = .ok (.lst ((B.L.bound m).map D.str)) S := by
  have ln := W.lens hl
  have hh := lheld_eq (m := m) A ln.h
  have hlen : (B.L.held m).length < 64 := by
    unfold Ld.held
    rw [(srtS_perm _).length_eq]
    have := List.length_filter_le (fun k => decide (aval B.L.hold k = some m)) (keys B.L.hold)
    rw [keys_len] at this
    have := ln.h
    omega
  have key := dLc_gen (it := iLst (dCall m__law_held (aCons (dVar 0) (aCons (dVar 1) aNil)))) (g := gN 2) (c := lt__law_bound_to_1) (e := le__law_bound_to_2) (vs := [2]) (σ := [.val (.obj (n + 8)), .val (.str m), .emp]) (σ' := [.val (.obj (n + 8)), .val (.str m), .emp]) (S := S) (items := (B.L.held m).map D.str)
    (fun d => [.val (.obj (n + 8)), .val (.str m), .val d]) (fun d => match d with | .str k => decide (k ≠ ("" : Str)) | _ => false) (fun d => match d with | .str k => .str (((B.L.lord k).bind fun p => aval B.L.hold p).getD "") | _ => .non)
    (by simp [hh]) rfl (by rw [List.length_map]; unfold most; omega) (by
      intro d hd
      obtain ⟨k, hk, rfl⟩ := List.mem_map.mp hd
      refine ⟨rfl, rfl, by simp [lt__law_bound_to_1], fun h0 => ?_⟩
      have h0 : k ≠ "" := by simpa using h0
      have hkm : k ∈ B.L.ks := by rw [← W.kh]; exact aval_some_iff.mp (by rw [mem_held.mp hk]; rfl)
      obtain ⟨p, hp, hpm, _⟩ := W.lord_ne hkm h0
      obtain ⟨q, hq⟩ := Option.isSome_iff_exists.mp (aval_some_iff.mpr (show p ∈ keys B.L.hold by rw [W.kh]; exact hpm))
      simp [le__law_bound_to_2, A.d8, A.d0, A.d1, bk0, bk1, lord_some hp, encO, hp, hq])
  have e0 : (((B.L.held m).map D.str).filter fun d => match d with | .str k => decide (k ≠ ("" : Str)) | _ => false).map (fun d => match d with | .str k => D.str (((B.L.lord k).bind fun p => aval B.L.hold p).getD "") | _ => .non) = (B.L.bound m).map D.str := by
    unfold Ld.bound
    rw [List.filter_map, List.map_map, List.map_map]
    rfl
  rw [e0] at key
  refine dDef_ret (σ' := [.val (.obj (n + 8)), .val (.str m), .emp]) ?_
  show (dLc _ _ _ _ _ [.val (.obj (n + 8)), .val (.str m), .emp] S).bind _ = _
  rw [key]
  rfl
theorem lwhy_eq (A : BookAt S n la false B) (W : Wf B.L) (hl : B.L.ks.length < 64) (row : Rw) : m__law_why [.obj (n + 8), row.D] S = .ok (.str (B.why row)) S := by
  have hks : ∀ k, k ∈ B.L.ks → ∃ o, aval B.L.own k = some o ∧ B.L.ac k = o := fun k hk => by
    obtain ⟨o, ho⟩ := Option.isSome_iff_exists.mp (aval_some_iff.mpr (show k ∈ keys B.L.own by rw [W.ko]; exact hk))
    exact ⟨o, ho, by unfold Ld.ac; rw [ho]; rfl⟩
  have k2 : (2 ≤ most) := by decide
  have k4 : (4 ≤ most) := by decide
  refine dDef_ex ?_
  cases row with
  | heir d m h =>
    by_cases c1 : m ∈ B.dead <;> simp [b__law_why, Rw.D, Bk.why, A.d8, A.d6, bk6, inT2, inT4, opIn_strs, k2, k4, atI0, atI2, c1]
  | death d m =>
    by_cases c1 : m ∈ B.dead <;> simp [b__law_why, Rw.D, Bk.why, A.d8, A.d6, bk6, inT2, inT4, opIn_strs, k2, k4, atI0, atI2, c1]
  | surr d e =>
    by_cases c1 : e ∈ B.L.ks <;> simp [b__law_why, Rw.D, Bk.why, A.d8, A.d0, bk0, inT2, inT4, aval_none_iff, k2, k4, atI0, atI2, c1]
  | convey d e m =>
    by_cases c1 : e ∈ B.L.ks
    · by_cases c2 : m ∈ B.dead <;> simp [b__law_why, Rw.D, Bk.why, A.d8, A.d0, A.d6, bk0, bk6, inT2, inT4, aval_none_iff, opIn_strs, k2, k4, atI0, atI2, atI3', c1, c2]
    · simp [b__law_why, Rw.D, Bk.why, A.d8, A.d0, A.d6, bk0, bk6, inT2, inT4, aval_none_iff, opIn_strs, k2, k4, atI0, atI2, atI3', c1]
  | liege d m l =>
    have hb := lbound_eq (m := m) A W hl
    by_cases c1 : m ∈ B.dead
    · simp [b__law_why, Rw.D, Bk.why, A.d8, A.d6, bk6, inT2, inT4, opIn_strs, k2, k4, atI0, atI2, c1]
    · by_cases c2 : l ∈ B.L.bound m <;> simp [b__law_why, Rw.D, Bk.why, A.d8, A.d6, bk6, inT2, inT4, opIn_strs, opNotIn_strs, k2, k4, atI0, atI2, atI3', c1, c2, hb]
  | grant d e nw m a s =>
    by_cases c1 : e ∈ B.L.ks
    · obtain ⟨o, ho, hac⟩ := hks e c1
      by_cases c2 : nw ∈ B.known
      · simp [b__law_why, Rw.D, Bk.why, A.d8, A.d0, A.d2, A.d4, A.d6, bk0, bk2, bk4, bk6, inT2, inT4, aval_none_iff, opIn_strs, k2, k4, atI0, atI2, atI3', atI4, atI5, c1, c2]
      · by_cases c3 : m ∈ B.dead
        · simp [b__law_why, Rw.D, Bk.why, A.d8, A.d0, A.d2, A.d4, A.d6, bk0, bk2, bk4, bk6, inT2, inT4, aval_none_iff, opIn_strs, k2, k4, atI0, atI2, atI3', atI4, atI5, c1, c2, c3]
        · by_cases c4 : o < a <;> simp [b__law_why, Rw.D, Bk.why, A.d8, A.d0, A.d2, A.d4, A.d6, bk0, bk2, bk4, bk6, inT2, inT4, aval_none_iff, opIn_strs, k2, k4, atI0, atI2, atI3', atI4, atI5, c1, c2, c3, ho, hac, c4]
    · simp [b__law_why, Rw.D, Bk.why, A.d8, A.d0, A.d2, A.d4, A.d6, bk0, bk2, bk4, bk6, inT2, inT4, aval_none_iff, opIn_strs, k2, k4, atI0, atI2, atI3', atI4, atI5, c1]
  | part d e nw m a =>
    by_cases c1 : e ∈ B.L.ks
    · obtain ⟨o, ho, hac⟩ := hks e c1
      by_cases c2 : nw ∈ B.known
      · simp [b__law_why, Rw.D, Bk.why, A.d8, A.d0, A.d2, A.d4, A.d6, bk0, bk2, bk4, bk6, inT2, inT4, aval_none_iff, opIn_strs, k2, k4, atI0, atI2, atI3', atI4, atI5, c1, c2]
      · by_cases c3 : m ∈ B.dead
        · simp [b__law_why, Rw.D, Bk.why, A.d8, A.d0, A.d2, A.d4, A.d6, bk0, bk2, bk4, bk6, inT2, inT4, aval_none_iff, opIn_strs, k2, k4, atI0, atI2, atI3', atI4, atI5, c1, c2, c3]
        · by_cases c4 : o < a <;> simp [b__law_why, Rw.D, Bk.why, A.d8, A.d0, A.d2, A.d4, A.d6, bk0, bk2, bk4, bk6, inT2, inT4, aval_none_iff, opIn_strs, k2, k4, atI0, atI2, atI3', atI4, atI5, c1, c2, c3, ho, hac, c4]
    · simp [b__law_why, Rw.D, Bk.why, A.d8, A.d0, A.d2, A.d4, A.d6, bk0, bk2, bk4, bk6, inT2, inT4, aval_none_iff, opIn_strs, k2, k4, atI0, atI2, atI3', atI4, atI5, c1]
end
end MR

set_option Elab.async false
set_option linter.all false
set_option maxRecDepth 100000
set_option exponentiation.threshold 30000
/-! P12: deeds on the law's book: a new estate, one that falls back, one that is conveyed. -/
namespace MR
open PySem
abbrev fp9 (n : Nat) : List Nat := [n, n + 1, n + 2, n + 3, n + 4, n + 5, n + 6, n + 7, n + 8]
abbrev BDone (S : Sto) (n : Nat) (B' : Bk) : D → Sto → Prop := fun w S' => w = .non ∧ BookAt S' n false false B' ∧ Off (fp9 n) S S'
section
variable {S : Sto} {n : Nat} {B : Bk} {e nw m : Str} {a s : Int}
theorem lnew_ok (A : BookAt S n false false B) (W : Wf B.L) (ln : Lens B.L) (hkn : B.known.length < 1000) (he : e ∈ B.L.ks) (hn : nw ∉ B.L.ks) {t : Str} {dd : Int} {rest : List D} {p : Str} {q : Fr} :
    Ret (m__law_new [.obj (n + 8), .tup (.str t :: .int dd :: .str e :: .str nw :: .str m :: .int a :: rest), .str p, encF q] S) (BDone S n { B with L := ⟨aput B.L.lords nw (some p), aput B.L.hold nw m, aput (aput B.L.own nw a) e (B.L.ac e - a), aput B.L.due nw q⟩, known := B.known ++ [nw] }) := by
  have h1 : B.L.lords.length < most := Nat.lt_trans ln.l (by decide)
  have h2 : B.L.hold.length < most := Nat.lt_trans ln.h (by decide)
  have h3 : B.L.own.length < most := Nat.lt_trans ln.o (by decide)
  have h4 : B.L.due.length < most := Nat.lt_trans ln.d (by decide)
  have h6 : B.known.length < most := Nat.lt_trans hkn (by decide)
  have hne : ¬ nw = e := fun z => hn (z ▸ he)
  obtain ⟨o, ho⟩ := Option.isSome_iff_exists.mp (aval_some_iff.mpr (show e ∈ keys B.L.own by rw [W.ko]; exact he))
  have hac : B.L.ac e = o := by unfold Ld.ac; rw [ho]; rfl
  have h5 : (aput B.L.own nw a).length < most := by
    rw [aput_out (by rw [W.ko]; exact hn), List.length_append]
    have := ln.o
    unfold most
    simp
    omega
  unfold m__law_new
  rw [ret_dDef]
  simp [b__law_new, derefU, chgU, setG, A.c0, A.c1, A.c2, A.c3, A.c4, A.c5, A.c6, A.c7, A.c8, bk0, bk1, bk2, bk3, bk4, h1, h2, h3, h4, h5, h6, putD_encS, putD_encO, putD_encI, putD_encF, aval_put, hne, ho, atI0, atI2, atI3', atI4, atI5, encF]
  refine ⟨rfl, ⟨?_, ?_, ?_, ?_, ?_, ?_, ?_, ?_, ?_⟩, ?off⟩
  case off => repeat (first | exact Off.refl | refine Off.set ?_ (by simp))
  all_goals simp [setG, A.c0, A.c1, A.c2, A.c3, A.c4, A.c5, A.c6, A.c7, A.c8, hac]
theorem lfall_loop {p : Str} : ∀ (cs : List Str) (S : Sto) (B : Bk) (s3 : Slot), BookAt S n false false B → B.L.lords.length < 64 → (∀ x ∈ cs, x ∈ B.L.ks) →
    ∃ S' s3', forL (gN 3) fb__law_fall_1 (cs.map D.str) [.val (.obj (n + 8)), .val (.str e), .val (.str p), s3] S = .ok .next [.val (.obj (n + 8)), .val (.str e), .val (.str p), s3'] S' ∧ BookAt S' n false false { B with L := { B.L with lords := cs.foldl (fun l x => aput l x (some p)) B.L.lords } } ∧ Off (fp9 n) S S' := by
  intro cs
  induction cs with
  | nil => intro S B s3 A _ _; exact ⟨S, s3, rfl, A, Off.refl⟩
  | cons x cs ih =>
    intro S B s3 A hl hk
    have hm : B.L.lords.length < most := Nat.lt_trans hl (by decide)
    have hx := hk x List.mem_cons_self
    have A2 : BookAt (S.set n (.con false (.dK (enc encO (aput B.L.lords x (some p)))))) n false false { B with L := { B.L with lords := aput B.L.lords x (some p) } } := by
      refine ⟨?_, ?_, ?_, ?_, ?_, ?_, ?_, ?_, ?_⟩ <;> simp [setG, A.c0, A.c1, A.c2, A.c3, A.c4, A.c5, A.c6, A.c7, A.c8]
    have hll : (aput B.L.lords x (some p)).length < 64 := by
      rw [← keys_len, keys_put, if_pos hx, keys_len]
      exact hl
    obtain ⟨S', s3', e1, e2, e3⟩ := ih _ _ (.val (.str x)) A2 hll (fun y hy => by
      show y ∈ keys (aput B.L.lords x (some p))
      rw [keys_put, if_pos hx]
      exact hk y (List.mem_cons_of_mem _ hy))
    refine ⟨S', s3', ?_, e2, (Off.refl.set (by simp)).trans e3⟩
    rw [List.map_cons, forL_cons (σ1 := [.val (.obj (n + 8)), .val (.str e), .val (.str p), .val (.str x)]) (σ2 := [.val (.obj (n + 8)), .val (.str e), .val (.str p), .val (.str x)]) (S2 := S.set n (.con false (.dK (enc encO (aput B.L.lords x (some p)))))) rfl (by simp [fb__law_fall_1, derefU, chgU, A.c0, A.c8, bk0, hm, putD_encO])]
    exact e1
theorem lfall_ok (A : BookAt S n false false B) (W : Wf B.L) (hl : B.L.ks.length < 64) {p : Str} (hp : B.L.lord e = some p) : Ret (m__law_fall [.obj (n + 8), .str e] S) (BDone S n { B with L := B.L.fall e p }) := by
  have ln := W.lens hl
  obtain ⟨hpm, hpl⟩ := W.up e p (lord_some hp)
  have he : e ∈ B.L.ks := aval_some_iff.mp (by rw [lord_some hp]; rfl)
  have pe : ¬ e = p := fun z => by rw [z] at hpl; omega
  obtain ⟨oe, hoe⟩ := Option.isSome_iff_exists.mp (aval_some_iff.mpr (show e ∈ keys B.L.own by rw [W.ko]; exact he))
  obtain ⟨op, hop⟩ := Option.isSome_iff_exists.mp (aval_some_iff.mpr (show p ∈ keys B.L.own by rw [W.ko]; exact hpm))
  obtain ⟨he1, hhe⟩ := Option.isSome_iff_exists.mp (aval_some_iff.mpr (show e ∈ keys B.L.hold by rw [W.kh]; exact he))
  obtain ⟨du, hdu⟩ := Option.isSome_iff_exists.mp (aval_some_iff.mpr (show e ∈ keys B.L.due by rw [W.kd]; exact he))
  have hac : B.L.ac e = oe := by unfold Ld.ac; rw [hoe]; rfl
  have hap : B.L.ac p = op := by unfold Ld.ac; rw [hop]; rfl
  have h3 : (adrop B.L.own e).length < most := Nat.lt_of_le_of_lt (List.length_filter_le ..) (Nat.lt_trans ln.o (by decide))
  have hlo := lord_some hp
  -- behind the pops
  let B1 : Bk := { B with L := ⟨adrop B.L.lords e, adrop B.L.hold e, aput (adrop B.L.own e) p (B.L.ac p + B.L.ac e), adrop B.L.due e⟩ }
  have kids1 : B1.L.kids e = B.L.kids e := by
    show (keys (adrop B.L.lords e)).filter (fun k => decide (aval (adrop B.L.lords e) k = some (some e))) = (keys B.L.lords).filter fun k => decide (aval B.L.lords k = some (some e))
    rw [keys_drop, List.filter_filter]
    apply List.filter_congr
    intro k hk
    rw [aval_drop]
    by_cases h : e = k
    · subst h
      have : ¬ p = e := fun z => pe z.symm
      simp [hlo, this]
    · have h' : ¬ k = e := fun z => h z.symm
      simp [h, h']
  have under1 : B1.L.under e = B.L.under e := by unfold Ld.under; rw [kids1]
  have len1 : B1.L.ks.length < 64 := by
    show (keys (adrop B.L.lords e)).length < 64
    rw [keys_drop]
    exact Nat.lt_of_le_of_lt (List.length_filter_le ..) hl
  have kidin : ∀ x ∈ B.L.under e, x ∈ B1.L.ks := fun x hx => by
    show x ∈ keys (adrop B.L.lords e)
    rw [keys_drop, List.mem_filter]
    refine ⟨under_ks hx, ?_⟩
    have h1 := mem_under.mp hx
    simp
    rintro rfl
    rw [hp] at h1
    cases h1
    exact pe rfl
  obtain ⟨S1, A1, o1, r1⟩ : ∃ S1, BookAt S1 n false false B1 ∧ Off (fp9 n) S S1 ∧ b__law_fall [.val (.obj (n + 8)), .val (.str e), .emp, .emp] S = (sFor (iLst (dCall m__law_under (aCons (dVar 0) (aCons (dVar 1) aNil)))) (gN 3) fb__law_fall_1) [.val (.obj (n + 8)), .val (.str e), .val (.str p), .emp] S1 := by
    refine ⟨((((S.set n (.con false (.dK (enc encO (adrop B.L.lords e))))).set (n + 2) (.con false (.dK (enc D.int (aput (adrop B.L.own e) p (op + oe)))))).set (n + 1) (.con false (.dK (enc D.str (adrop B.L.hold e))))).set (n + 3) (.con false (.dK (enc encF (adrop B.L.due e))))), ?_, ?_, ?_⟩
    · refine ⟨?_, ?_, ?_, ?_, ?_, ?_, ?_, ?_, ?_⟩ <;> simp [setG, A.c0, A.c1, A.c2, A.c3, A.c4, A.c5, A.c6, A.c7, A.c8, B1, hac, hap]
    · repeat (first | exact Off.refl | refine Off.set ?_ (by simp))
    · simp only [b__law_fall]
      simp [-sFor_def, derefU, chgU, setG, A.c0, A.c1, A.c2, A.c3, A.c4, A.c5, A.c6, A.c7, A.c8, bk0, bk1, bk2, bk3, hlo, encO, hoe, hop, hhe, hdu, h3, dropD_enc, putD_encI, encF]
  have hu := lunder_eq (e := e) A1 len1
  rw [under1] at hu
  obtain ⟨S2, s3', e1, A2, o2⟩ := lfall_loop (e := e) (p := p) (B.L.under e) S1 B1 .emp A1 (by show (adrop B.L.lords e).length < 64; exact Nat.lt_of_le_of_lt (List.length_filter_le ..) ln.l) kidin
  rw [fold_aput _ _ kidin] at A2
  unfold m__law_fall
  rw [ret_dDef]
  show RunF (b__law_fall [.val (.obj (n + 8)), .val (.str e), .emp, .emp] S) _
  rw [r1]
  have st : (sFor (iLst (dCall m__law_under (aCons (dVar 0) (aCons (dVar 1) aNil)))) (gN 3) fb__law_fall_1) [.val (.obj (n + 8)), .val (.str e), .val (.str p), .emp] S1 = .ok .next [.val (.obj (n + 8)), .val (.str e), .val (.str p), s3'] S2 := by simp [hu, e1]
  rw [st]
  refine ⟨rfl, ?_, o1.trans o2⟩
  have e3 : (B.L.fall e p).lords = setAll (adrop B.L.lords e) (B.L.under e) (some p) := setAll_drop
  have e4 : ({ B with L := B.L.fall e p } : Bk) = { B1 with L := { B1.L with lords := setAll B1.L.lords (B.L.under e) (some p) } } := by
    show Bk.mk _ _ _ _ _ = Bk.mk _ _ _ _ _
    congr 1
    show Ld.mk _ _ _ _ = Ld.mk _ _ _ _
    congr 1
  rw [e4]
  exact A2
end
end MR

set_option Elab.async false
set_option linter.all false
set_option maxRecDepth 100000
set_option exponentiation.threshold 30000
/-! P13: numbers of a land: acres that come to the whole, services of bounded size. -/
namespace MR
open PySem
section
variable {α : Type}
theorem map_aval {l : List (Str × Int)} (hn : (keys l).Nodup) : (keys l).map (fun k => (aval l k).getD 0) = l.map (·.2) := by
  unfold keys
  rw [List.map_map]
  apply List.map_congr_left
  intro p hp
  show (aval l p.1).getD 0 = p.2
  rw [aval_of_mem hn hp]
  rfl
theorem sum_snd_put {l : List (Str × Int)} {k : Str} {v : Int} (hn : (keys l).Nodup) : ((aput l k v).map (·.2)).sum = (l.map (·.2)).sum - (aval l k).getD 0 + v := by
  by_cases h : k ∈ keys l
  · rw [aput_in h]
    induction l with
    | nil => cases h
    | cons p l ih =>
      have hn' := List.nodup_cons.mp (show ((p :: l).map (·.1)).Nodup from hn)
      simp only [List.map_cons, List.sum_cons, aval_cons]
      by_cases e : p.1 = k
      · have nk : k ∉ keys l := by rw [← e]; exact hn'.1
        have e2 : (l.map fun q => if q.1 = k then (q.1, v) else q) = l := by
          conv => rhs; rw [← List.map_id l]
          apply List.map_congr_left
          intro q hq
          rw [if_neg (fun z : q.1 = k => nk (z ▸ List.mem_map.mpr ⟨q, hq, rfl⟩))]
          rfl
        rw [e2]
        simp only [e, if_true, Option.getD_some]
        omega
      · have hk : k ∈ keys l := by
          rcases List.mem_cons.mp (show k ∈ p.1 :: keys l from h) with z | z
          · exact absurd z.symm e
          · exact z
        simp only [e, if_false]
        rw [ih hn'.2 hk]
        omega
  · rw [aput_out h, aval_none_iff.mpr h]
    simp only [List.map_append, List.sum_append, List.map_cons, List.map_nil, List.sum_cons, List.sum_nil, Option.getD_none]
    omega
theorem sum_snd_drop {l : List (Str × Int)} {k : Str} (hn : (keys l).Nodup) : ((adrop l k).map (·.2)).sum = (l.map (·.2)).sum - (aval l k).getD 0 := by
  induction l with
  | nil => rfl
  | cons p l ih =>
    have hn' := List.nodup_cons.mp (show ((p :: l).map (·.1)).Nodup from hn)
    have ih := ih hn'.2
    unfold adrop at ih ⊢
    rw [List.filter_cons]
    simp only [List.map_cons, List.sum_cons, aval_cons]
    by_cases e : p.1 = k
    · have nk : aval l k = none := aval_none_iff.mpr (by rw [← e]; exact hn'.1)
      rw [nk] at ih
      simp only [e, ne_eq, not_true, decide_false, Bool.false_eq_true, if_false, if_true, Option.getD_some]
      rw [ih]
      simp
      omega
    · simp only [ne_eq, e, not_false_eq_true, decide_true, if_true, if_false, List.map_cons, List.sum_cons]
      rw [ih]
      omega
theorem mem_put {l : List (Str × α)} {k : Str} {v : α} {P : α → Prop} (h : ∀ p ∈ l, P p.2) (hv : P v) : ∀ p ∈ aput l k v, P p.2 := by
  intro p hp
  unfold aput at hp
  split at hp
  · obtain ⟨q, hq, rfl⟩ := List.mem_map.mp hp
    split
    · exact hv
    · exact h q hq
  · rcases List.mem_append.mp hp with hp | hp
    · exact h p hp
    · rw [List.mem_singleton.mp hp]; exact hv
theorem mem_drop {l : List (Str × α)} {k : Str} {P : α → Prop} (h : ∀ p ∈ l, P p.2) : ∀ p ∈ adrop l k, P p.2 := fun p hp => h p (List.mem_filter.mp hp).1
end
structure Nu (L : Ld) (k : Nat) (tot : Int) : Prop where
  nn : ∀ p ∈ L.own, 0 ≤ p.2
  sm : (L.own.map (·.2)).sum = tot
  sz : ∀ p ∈ L.due, Sz k p.2
section
variable {L : Ld} {k : Nat} {tot : Int} {e n m : Str} {a s : Int}
theorem Nu.ac0 (N : Nu L k tot) (x : Str) : 0 ≤ L.ac x := by
  unfold Ld.ac
  cases h : aval L.own x with
  | none => exact Int.le_refl _
  | some v => exact N.nn _ (aval_mem h)
theorem Nu.all (W : Wf L) (N : Nu L k tot) : (L.ks.map L.ac).sum = tot := by
  rw [← N.sm, ← map_aval (l := L.own) (by rw [W.ko]; exact W.nd), W.ko]
  rfl
theorem sum_le {l : List Str} {f g : Str → Int} (h : ∀ x ∈ l, f x ≤ g x) : (l.map f).sum ≤ (l.map g).sum := by
  induction l with
  | nil => exact Int.le_refl _
  | cons x l ih =>
    simp only [List.map_cons, List.sum_cons]
    have h1 := h x List.mem_cons_self
    have h2 := ih fun y hy => h y (List.mem_cons_of_mem _ hy)
    omega
theorem inc01 (L : Ld) (e x : Str) : inc L e x = 0 ∨ inc L e x = 1 := by unfold inc; split; exact .inr rfl; exact .inl rfl
theorem Nu.br_le (W : Wf L) (N : Nu L k tot) : L.breadth e ≤ tot := by
  rw [← N.all W]
  refine sum_le fun x hx => ?_
  have h := N.ac0 x
  rcases inc01 L e x with h1 | h1 <;> rw [h1] <;> simp <;> omega
theorem sum_pos {l : List Str} {f : Str → Int} (h : ∀ x ∈ l, 0 ≤ f x) : 0 ≤ (l.map f).sum := by
  have := sum_le (l := l) (f := fun _ => 0) (g := f) h
  rwa [sum_zeroI] at this
theorem Nu.br_nn (N : Nu L k tot) (e : Str) : 0 ≤ L.breadth e := by
  refine sum_pos fun x hx => ?_
  have h := N.ac0 x
  rcases inc01 L e x with h1 | h1 <;> rw [h1] <;> simp <;> omega
theorem Nu.br_ge (W : Wf L) (N : Nu L k tot) (he : e ∈ L.ks) : L.ac e ≤ L.breadth e := by
  rw [breadth_split W he]
  have := sum_pos (l := L.kids e) (f := L.breadth) fun x _ => N.br_nn x
  omega
theorem Nu.sv (W : Wf L) (N : Nu L k tot) (he : e ∈ L.ks) : Sz k (L.sv e) := by
  obtain ⟨v, hv⟩ := Option.isSome_iff_exists.mp (aval_some_iff.mpr (show e ∈ keys L.due by rw [W.kd]; exact he))
  unfold Ld.sv
  rw [hv]
  exact N.sz _ (aval_mem hv)
theorem Nu.mono {k' : Nat} (N : Nu L k tot) (h : k ≤ k') : Nu L k' tot := ⟨N.nn, N.sm, fun p hp => (N.sz p hp).mono h⟩
theorem own_new (W : Wf L) (N : Nu L k tot) (he : e ∈ L.ks) (hn : n ∉ L.ks) (ha : 0 ≤ a) (hae : a ≤ L.ac e) : (∀ p ∈ aput (aput L.own n a) e (L.ac e - a), 0 ≤ p.2) ∧ ((aput (aput L.own n a) e (L.ac e - a)).map (·.2)).sum = tot := by
  have hno : n ∉ keys L.own := by rw [W.ko]; exact hn
  have nd : (keys L.own).Nodup := by rw [W.ko]; exact W.nd
  have nd2 : (keys (aput L.own n a)).Nodup := by
    rw [keys_put, if_neg hno]
    exact List.nodup_append.mpr ⟨nd, List.pairwise_singleton _ _, fun x hx y hy => by rw [List.mem_singleton.mp hy]; exact fun z => hno (z ▸ hx)⟩
  refine ⟨mem_put (P := fun v => 0 ≤ v) (mem_put (P := fun v => 0 ≤ v) N.nn ha) (by omega), ?_⟩
  rw [sum_snd_put nd2, sum_snd_put nd, aval_put, if_neg (fun z : n = e => hn (z ▸ he)), aval_none_iff.mpr hno, N.sm]
  show tot - 0 + a - L.ac e + (L.ac e - a) = tot
  omega
theorem Nu.grant (W : Wf L) (N : Nu L k tot) (he : e ∈ L.ks) (hn : n ∉ L.ks) (ha : 0 ≤ a) (hae : a ≤ L.ac e) (hs : Sz k (s, 1)) : Nu (L.grant e n m a s) k tot := by
  obtain ⟨h1, h2⟩ := own_new W N he hn ha hae
  exact ⟨h1, h2, mem_put N.sz hs⟩
theorem Nu.part (W : Wf L) (N : Nu L k tot) (he : e ∈ L.ks) (hn : n ∉ L.ks) (ha : 1 ≤ a) (hae : a ≤ L.ac e) (ht : tot < 2 ^ 20) : Nu (L.part e n m a) (k + 20) tot := by
  obtain ⟨h1, h2⟩ := own_new W N he hn (by omega) hae
  have hz := N.sv W he
  have b1 := N.br_le W (e := e)
  have b2 := N.br_ge W he
  have hne : (L.sv e).2 * L.breadth e ≠ 0 := Int.ne_of_gt (Int.mul_pos hz.pos (by omega))
  have hbb : ((L.sv e).2 * L.breadth e).natAbs < 2 ^ (k + 20) := mul_bits hz.b (by omega)
  refine ⟨h1, h2, mem_put (mem_put (fun p hp => (N.sz p hp).mono (by omega)) ?_) ?_⟩
  · exact ⟨Nat.lt_of_le_of_lt (frT_le hne) (mul_bits hz.t (by omega)), Nat.lt_of_le_of_lt (frB_le hne) hbb, frB_pos hne⟩
  · exact ⟨Nat.lt_of_le_of_lt (frT_le hne) (mul_bits hz.t (by omega)), Nat.lt_of_le_of_lt (frB_le hne) hbb, frB_pos hne⟩
theorem Nu.convey (N : Nu L k tot) : Nu (L.convey e m) k tot := ⟨N.nn, N.sm, N.sz⟩
theorem Nu.fall (W : Wf L) (N : Nu L k tot) {p : Str} (hp : L.lord e = some p) : Nu (L.fall e p) k tot := by
  obtain ⟨hpm, hpl⟩ := W.up e p (lord_some hp)
  have pe : ¬ e = p := fun z => by rw [z] at hpl; omega
  have nd : (keys L.own).Nodup := by rw [W.ko]; exact W.nd
  have nd2 : (keys (adrop L.own e)).Nodup := by rw [keys_drop]; exact List.Pairwise.filter _ nd
  have h1 := N.ac0 p
  have h2 := N.ac0 e
  refine ⟨mem_put (P := fun v => 0 ≤ v) (mem_drop (P := fun v => 0 ≤ v) N.nn) (by omega), ?_, mem_drop N.sz⟩
  show ((aput (adrop L.own e) p (L.ac p + L.ac e)).map (·.2)).sum = tot
  rw [sum_snd_put nd2, sum_snd_drop nd, aval_drop, if_neg pe, N.sm]
  show tot - L.ac e - L.ac p + (L.ac p + L.ac e) = tot
  omega
end
/-! ### what a charter that stands does to the book (deeds on land) -/
structure Rw.ok (r : Rw) : Prop where
  h : match r with
    | .grant _ e n m a s => n ≠ "" ∧ PyData.strOk n = true ∧ PyData.strOk m = true ∧ 1 ≤ a ∧ 0 ≤ s ∧ s < 10000
    | .part _ e n m a => e ≠ "" ∧ n ≠ "" ∧ PyData.strOk n = true ∧ PyData.strOk m = true ∧ 1 ≤ a
    | .convey _ e m => e ≠ "" ∧ PyData.strOk m = true
    | .surr _ e => e ≠ ""
    | .heir _ m h => PyData.strOk m = true ∧ PyData.strOk h = true
    | .liege _ m l => PyData.strOk m = true ∧ PyData.strOk l = true
    | .death _ m => PyData.strOk m = true
/-- deeds on land -/
def Rw.lands : Rw → Bool
  | .grant .. => true
  | .part .. => true
  | .convey .. => true
  | .surr .. => true
  | _ => false
def Ld.act (L : Ld) : Rw → Ld
  | .grant _ e n m a s => L.grant e n m a s
  | .part _ e n m a => L.part e n m a
  | .convey _ e m => L.convey e m
  | .surr _ e => L.fall e ((L.lord e).getD "")
  | _ => L
def Rw.new : Rw → List Str
  | .grant _ _ n _ _ _ => [n]
  | .part _ _ n _ _ => [n]
  | _ => []
def Bk.actL (B : Bk) (r : Rw) : Bk := { B with L := B.L.act r, known := B.known ++ r.new }
structure Sound (B : Bk) (t : Nat) (tot : Int) : Prop where
  W : Wf B.L
  N : Nu B.L (20 + 20 * t) tot
  len : B.L.ks.length ≤ t + 1
  kn : ∀ k ∈ B.L.ks, k ≠ "" → k ∈ B.known
  kl : B.known.length ≤ t
  tt : tot < 10000
theorem stands_cases {c : Prop} [Decidable c] {x y : Str} (h : (if c then x else y) = "stands") (hx : x ≠ "stands") : ¬ c ∧ y = "stands" := by
  by_cases hc : c
  · rw [if_pos hc] at h; exact absurd h hx
  · rw [if_neg hc] at h; exact ⟨hc, h⟩
section
variable {B : Bk} {t : Nat} {tot : Int}
theorem new_facts (Z : Sound B t tot) {d : Int} {e n m : Str} {a s : Int} (h : B.why (.grant d e n m a s) = "stands") (n0 : n ≠ "") : e ∈ B.L.ks ∧ n ∉ B.L.ks ∧ n ∉ B.known ∧ a ≤ B.L.ac e := by
  unfold Bk.why at h
  obtain ⟨h1, h⟩ := stands_cases h (by decide)
  obtain ⟨h2, h⟩ := stands_cases h (by decide)
  obtain ⟨h3, h⟩ := stands_cases h (by decide)
  obtain ⟨h4, h⟩ := stands_cases h (by decide)
  exact ⟨Classical.byContradiction h1, fun z => h2 (Z.kn n z n0), h2, by omega⟩
theorem Sound.act (Z : Sound B t tot) {r : Rw} (hl : r.lands = true) (ok : r.ok) (h : B.why r = "stands") (ht : t < 60) : Sound (B.actL r) (t + 1) tot := by
  have W := Z.W
  have N := Z.N
  cases r with
  | grant d e n m a s =>
    obtain ⟨n0, sn, sm, a1, s0, s1⟩ := ok.h
    obtain ⟨he, hn, hk, hae⟩ := new_facts Z h n0
    have ek : (B.L.grant e n m a s).ks = B.L.ks ++ [n] := by show keys (aput B.L.lords n (some e)) = _; rw [keys_put, if_neg hn]
    refine ⟨W.grant he hn n0 sn sm, (N.grant W he hn (by omega) hae ?_).mono (by omega), ?_, ?_, ?_, Z.tt⟩
    · have : (2 : Nat) ^ 14 ≤ 2 ^ (20 + 20 * t) := Nat.pow_le_pow_right (by decide) (by omega)
      exact ⟨by show s.natAbs < _; omega, by show (1 : Int).natAbs < _; omega, by show (0 : Int) < 1; omega⟩
    · show (B.L.grant e n m a s).ks.length ≤ _
      rw [ek, List.length_append, List.length_singleton]
      have := Z.len
      omega
    · intro k hk2 k0
      show k ∈ B.known ++ [n]
      have hk3 : k ∈ (B.L.grant e n m a s).ks := hk2
      rw [ek] at hk3
      rcases List.mem_append.mp hk3 with z | z
      · exact List.mem_append_left _ (Z.kn k z k0)
      · exact List.mem_append_right _ z
    · show (B.known ++ [n]).length ≤ _
      rw [List.length_append, List.length_singleton]
      have := Z.kl
      omega
  | part d e n m a =>
    obtain ⟨e0, n0, sn, sm, a1⟩ := ok.h
    obtain ⟨he, hn, hk, hae⟩ := new_facts (s := 0) Z (show B.why (.grant d e n m a 0) = "stands" from h) n0
    have ek : (B.L.part e n m a).ks = B.L.ks ++ [n] := by show keys (aput B.L.lords n (B.L.lord e)) = _; rw [keys_put, if_neg hn]
    refine ⟨W.part he e0 hn n0 sn sm, (N.part W he hn a1 hae (by have := Z.tt; omega)).mono (by omega), ?_, ?_, ?_, Z.tt⟩
    · show (B.L.part e n m a).ks.length ≤ _
      rw [ek, List.length_append, List.length_singleton]
      have := Z.len
      omega
    · intro k hk2 k0
      show k ∈ B.known ++ [n]
      have hk3 : k ∈ (B.L.part e n m a).ks := hk2
      rw [ek] at hk3
      rcases List.mem_append.mp hk3 with z | z
      · exact List.mem_append_left _ (Z.kn k z k0)
      · exact List.mem_append_right _ z
    · show (B.known ++ [n]).length ≤ _
      rw [List.length_append, List.length_singleton]
      have := Z.kl
      omega
  | convey d e m =>
    obtain ⟨e0, sm⟩ := ok.h
    unfold Bk.why at h
    obtain ⟨h1, h⟩ := stands_cases h (by decide)
    have he : e ∈ B.L.ks := Classical.byContradiction h1
    exact ⟨W.convey he sm, (Nu.convey N).mono (by omega), Nat.le_succ_of_le Z.len, fun k hk k0 => by show k ∈ B.known ++ []; rw [List.append_nil]; exact Z.kn k hk k0, by show (B.known ++ []).length ≤ _; rw [List.append_nil]; exact Nat.le_succ_of_le Z.kl, Z.tt⟩
  | surr d e =>
    have e0 : e ≠ "" := ok.h
    unfold Bk.why at h
    obtain ⟨h1, h⟩ := stands_cases h (by decide)
    have he : e ∈ B.L.ks := Classical.byContradiction h1
    obtain ⟨p, hp, _⟩ := W.lord_ne he e0
    have ea : B.L.act (.surr d e) = B.L.fall e p := by show B.L.fall e ((B.L.lord e).getD "") = _; rw [hp]; rfl
    have ek : (B.L.fall e p).ks = B.L.ks.filter fun x => decide (x ≠ e) := by
      show keys (adrop (setAll B.L.lords (B.L.under e) (some p)) e) = _
      rw [keys_drop, setAll_keys]
    refine ⟨by show Wf (B.L.act (.surr d e)); rw [ea]; exact W.fall hp, by show Nu (B.L.act (.surr d e)) _ _; rw [ea]; exact (N.fall W hp).mono (by omega), ?_, ?_, ?_, Z.tt⟩
    · show (B.L.act (.surr d e)).ks.length ≤ _
      rw [ea, ek]
      exact Nat.le_trans (List.length_filter_le ..) (Nat.le_succ_of_le Z.len)
    · intro k hk k0
      show k ∈ B.known ++ []
      rw [List.append_nil]
      have hk : k ∈ (B.L.act (.surr d e)).ks := hk
      rw [ea, ek] at hk
      exact Z.kn k (List.mem_filter.mp hk).1 k0
    · show (B.known ++ []).length ≤ _
      rw [List.append_nil]
      exact Nat.le_succ_of_le Z.kl
  | _ => cases hl
end
end MR

set_option Elab.async false
set_option linter.all false
set_option maxRecDepth 100000
set_option exponentiation.threshold 30000
/-! P14: a charter on land done in the law's book and done in Land: both come to the same land. -/
namespace MR
open PySem
section
variable {S : Sto} {n : Nat} {B : Bk} {t : Nat} {tot : Int}
theorem Sound.br (Z : Sound B t tot) {e : Str} (he : e ∈ B.L.ks) {a : Int} (a1 : 1 ≤ a) (hae : a ≤ B.L.ac e) : 0 < B.L.breadth e ∧ B.L.breadth e < 2 ^ 20 ∧ a ≤ B.L.breadth e := by
  have b1 := Z.N.br_le Z.W (e := e)
  have b2 := Z.N.br_ge Z.W he
  have := Z.tt
  refine ⟨by omega, by omega, by omega⟩
theorem ldo_ok (A : BookAt S n false false B) (Z : Sound B t tot) (ht : t < 60) {r : Rw} (hl : r.lands = true) (ok : r.ok) (h : B.why r = "stands") : Ret (m__law_do [.obj (n + 8), r.D] S) (BDone S n (B.actL r)) := by
  have W := Z.W
  have hlen := Z.len
  have ln := W.lens (by omega)
  have hkl := Z.kl
  have k5 : 5 ≤ most := by decide
  have k2 : 2 ≤ most := by decide
  unfold m__law_do
  rw [ret_dDef]
  cases r with
  | grant d e nw m a s =>
    obtain ⟨n0, sn, sm, a1, s0, s1⟩ := ok.h
    obtain ⟨he, hn, hk, hae⟩ := new_facts Z h n0
    obtain ⟨w, S', e1, e2, A2, o2⟩ := (lnew_ok A W ln (by omega) he hn (m := m) (a := a) (t := "grant") (dd := d) (rest := [.int s]) (p := e) (q := (s, 1))).ex
    simp only [encF] at e1
    simp [b__law_do, Rw.D, atI0, atI2, atI6, e1, k5, k2]
    exact ⟨rfl, A2, o2⟩
  | part d e nw m a =>
    obtain ⟨e0, n0, sn, sm, a1⟩ := ok.h
    obtain ⟨he, hn, hk, hae⟩ := new_facts (s := 0) Z (show B.why (.grant d e nw m a 0) = "stands" from h) n0
    obtain ⟨hB, hb, hab⟩ := Z.br he a1 hae
    have hz := Z.N.sv W he
    obtain ⟨⟨w1, w2⟩, hw⟩ := Option.isSome_iff_exists.mp (aval_some_iff.mpr (show e ∈ keys B.L.due by rw [W.kd]; exact he))
    have hsv : B.L.sv e = (w1, w2) := by unfold Ld.sv; rw [hw]; rfl
    obtain ⟨p, hp, _⟩ := W.lord_ne he e0
    have hlo := lord_some hp
    rw [hsv] at hz
    have hBn : (B.L.breadth e).natAbs < 2 ^ 20 := by omega
    have hxn : a.natAbs < 2 ^ 20 := by omega
    have mo1 : mulOk w1 a := Sz.mulOk hz.t hxn (by omega)
    have mo2 : mulOk w2 (B.L.breadth e) := Sz.mulOk hz.b hBn (by omega)
    have mo3 : mulOk w1 (B.L.breadth e - a) := Sz.mulOk hz.t (show (B.L.breadth e - a).natAbs < 2 ^ 20 by omega) (by omega)
    have hne0 : w2 * B.L.breadth e ≠ 0 := Int.ne_of_gt (Int.mul_pos hz.pos hB)
    have okb : okB (w2 * B.L.breadth e) := ⟨hne0, Nat.lt_of_lt_of_le (mul_bits hz.b hBn) (Nat.pow_le_pow_right (by decide) (by omega))⟩
    have hbr := lbreadth_eq A W (by omega) he
    have f1 : fr (w1 * a) (w2 * B.L.breadth e) = encF (moved B.L e a) := by unfold moved fr encF; rw [hsv]
    have f2 : fr (w1 * (B.L.breadth e - a)) (w2 * B.L.breadth e) = encF (left B.L e a) := by unfold left fr encF; rw [hsv]
    have lo1 := low_eq (t := w1 * a) okb S
    rw [f1] at lo1
    obtain ⟨w, S', e1, e2, A2, o2⟩ := (lnew_ok A W ln (by omega) he hn (m := m) (a := a) (t := "part") (dd := d) (rest := []) (p := p) (q := moved B.L e a)).ex
    have lo2 := low_eq (t := w1 * (B.L.breadth e - a)) okb S'
    rw [f2] at lo2
    have h6 : (aput B.L.due nw (moved B.L e a)).length < most := by
      rw [aput_out (by rw [W.kd]; exact hn), List.length_append]
      have := ln.d
      unfold most
      simp
      omega
    simp only [encF] at e1 lo1 lo2
    simp [b__law_do, Rw.D, derefU, chgU, A.c8, A.c3, A.c0, A2.c8, A2.c3, bk0, bk3, hw, hlo, encO, encF, hbr, lo1, lo2, mo1, mo2, mo3, atI0, atI1, atI2, atI5, e1, k5, k2, h6, putD_encF]
    refine ⟨rfl, ⟨?_, ?_, ?_, ?_, ?_, ?_, ?_, ?_, ?_⟩, o2.set (by simp)⟩
    all_goals simp [setG, A2.c0, A2.c1, A2.c2, A2.c3, A2.c4, A2.c5, A2.c6, A2.c7, A2.c8, Bk.actL, Ld.act, Ld.part, Rw.new, hp]
  | convey d e m =>
    have h2 : B.L.hold.length < most := Nat.lt_trans ln.h (by decide)
    simp [b__law_do, Rw.D, derefU, chgU, A.c8, A.c1, bk1, atI0, atI2, atI3', h2, putD_encS, k5, k2]
    refine ⟨rfl, ⟨?_, ?_, ?_, ?_, ?_, ?_, ?_, ?_, ?_⟩, Off.refl.set (by simp)⟩
    all_goals simp [setG, A.c0, A.c1, A.c2, A.c3, A.c4, A.c5, A.c6, A.c7, A.c8, Bk.actL, Ld.act, Ld.convey, Rw.new]
  | surr d e =>
    have e0 : e ≠ "" := ok.h
    unfold Bk.why at h
    obtain ⟨h1, h⟩ := stands_cases h (by decide)
    have he : e ∈ B.L.ks := Classical.byContradiction h1
    obtain ⟨p, hp, _⟩ := W.lord_ne he e0
    obtain ⟨w, S', e1, e2, A2, o2⟩ := (lfall_ok A W (by omega) hp).ex
    simp [b__law_do, Rw.D, atI0, atI2, e1, k5, k2]
    refine ⟨rfl, ?_, o2⟩
    have : B.actL (.surr d e) = { B with L := B.L.fall e p } := by
      unfold Bk.actL
      simp [Ld.act, hp, Rw.new]
    rw [this]
    exact A2
  | _ => cases hl
theorem land_do_ok {r a b c d : Nat} (A : LandAt S r a b c d false false B.L) (Z : Sound B t tot) (ht : t < 60) {rw_ : Rw} (hl : rw_.lands = true) (ok : rw_.ok) (h : B.why rw_ = "stands") : Ret (m__law_land_do [.obj r, rw_.D] S) (Done S r a b c d (B.L.act rw_)) := by
  have W := Z.W
  have hlen := Z.len
  have ln := W.lens (by omega)
  have k5 : 5 ≤ most := by decide
  have k2 : 2 ≤ most := by decide
  unfold m__law_land_do
  rw [ret_dDef]
  cases rw_ with
  | grant dd e nw m x s =>
    obtain ⟨n0, sn, sm, a1, s0, s1⟩ := ok.h
    obtain ⟨he, hn, hk, hae⟩ := new_facts Z h n0
    obtain ⟨w, S', e1, e2, A2, o2⟩ := (grant_ok A W ln he hn (m := m) (x := x) (s := s)).ex
    subst e2
    simp [b__law_land_do, Rw.D, A.ob, atI0, atI2, atI3', atI4, atI5, atI6, e1, k5, k2]
    exact ⟨rfl, A2, o2⟩
  | part dd e nw m x =>
    obtain ⟨e0, n0, sn, sm, a1⟩ := ok.h
    obtain ⟨he, hn, hk, hae⟩ := new_facts (s := 0) Z (show B.why (.grant dd e nw m x 0) = "stands" from h) n0
    obtain ⟨hB, hb, hab⟩ := Z.br he a1 hae
    obtain ⟨w, S', e1, e2, A2, o2⟩ := (part_ok A W (by omega) he e0 hn (m := m) (x := x) (k := 20 + 20 * t) (by omega) (Z.N.sv W he) (by omega) hB hb (by omega)).ex
    subst e2
    simp [b__law_land_do, Rw.D, A.ob, atI0, atI2, atI3', atI4, atI5, e1, k5, k2]
    exact ⟨rfl, A2, o2⟩
  | convey dd e m =>
    obtain ⟨w, S', e1, e2, A2, o2⟩ := (convey_ok A ln (e := e) (m := m)).ex
    subst e2
    simp [b__law_land_do, Rw.D, A.ob, atI0, atI2, atI3', e1, k5, k2]
    exact ⟨rfl, A2, o2⟩
  | surr dd e =>
    have e0 : e ≠ "" := ok.h
    unfold Bk.why at h
    obtain ⟨h1, h⟩ := stands_cases h (by decide)
    have he : e ∈ B.L.ks := Classical.byContradiction h1
    obtain ⟨p, hp, _⟩ := W.lord_ne he e0
    obtain ⟨w, S', e1, e2, A2, o2⟩ := (fall_ok A W (by omega) hp).ex
    subst e2
    simp [b__law_land_do, Rw.D, A.ob, atI0, atI2, e1, k5, k2]
    refine ⟨rfl, ?_, o2⟩
    have : B.L.act (.surr dd e) = B.L.fall e p := by
      simp [Ld.act, hp]
    rw [this]
    exact A2
  | _ => cases hl
theorem let_by_eq (A : BookAt S n false false B) (W : Wf B.L) (hl : B.L.ks.length < 64) (r : Rw) : m__law_let_by [.obj (n + 8), r.D] S = .ok (.bl (r.lands && decide (B.why r = "stands"))) S := by
  have k4 : (4 ≤ most) := by decide
  have hw := lwhy_eq A W hl r
  refine dDef_ex ?_
  cases r <;> simp only [Rw.D] at hw <;> simp [b__law_let_by, Rw.D, Rw.lands, inT4, atI0, k4, hw]
end
end MR

set_option Elab.async false
set_option linter.all false
set_option maxRecDepth 100000
set_option exponentiation.threshold 30000
/-! P15: a Land and a book that hold the same answer alike. -/
namespace MR
open PySem
section
theorem wipe1 (σ : Sl) (i : Nat) (d : D) : wipeD ((wipeD σ [i]).set i (.val d)) [i] = wipeD σ [i] := by
  apply List.ext_getElem?
  intro j
  rw [wipeD_get, wipeD_get]
  by_cases e : j = i
  · subst e
    simp only [List.mem_singleton, if_true]
    by_cases lt : j < σ.length
    · rw [List.getElem?_set_self (by rw [wipeD_len]; exact lt), List.getElem?_eq_getElem lt]
      rfl
    · rw [List.getElem?_eq_none_iff.mpr (by rw [List.length_set, wipeD_len]; omega), List.getElem?_eq_none_iff.mpr (by omega)]
  · simp only [List.mem_singleton, e, if_false]
    rw [List.getElem?_set_ne (fun z => e z.symm), wipeD_get]
    simp [e]
/-- a comprehension over texts -/
theorem lc_strs {it : DI} {i : Nat} {c : DT} {e : DE} {σ σ' : Sl} {S : Sto} {l : List Str} (p : Str → Bool) (h : Str → D) (hi : it σ S = .ok (l.map D.str) σ' S) (hno : noOwn σ' [i] = true) (hl : l.length ≤ most)
    (st : ∀ x ∈ l, c ((wipeD σ' [i]).set i (.val (.str x))) S = .ok (p x) ((wipeD σ' [i]).set i (.val (.str x))) S ∧ (p x = true → dV e ((wipeD σ' [i]).set i (.val (.str x))) S = .ok (h x) ((wipeD σ' [i]).set i (.val (.str x))) S)) :
    dLc it (gN i) c e [i] σ S = .ok (.lst ((l.filter p).map h)) σ' S := by
  have key := dLc_gen (it := it) (g := gN i) (c := c) (e := e) (vs := [i]) (σ := σ) (σ' := σ') (S := S) (items := l.map D.str) (fun d => (wipeD σ' [i]).set i (.val d))
    (fun d => match d with
      | .str x => p x
      | _ => false)
    (fun d => match d with
      | .str x => h x
      | _ => .non) hi hno (by rw [List.length_map]; exact hl) (by
      intro d hd
      obtain ⟨x, hx, rfl⟩ := List.mem_map.mp hd
      obtain ⟨s1, s2⟩ := st x hx
      exact ⟨rfl, wipe1 _ _ _, s1, s2⟩)
  rw [key]
  congr 2
  rw [List.filter_map, List.map_map]
  rfl
theorem all_strs {it : DI} {i : Nat} {e : DE} {σ σ' : Sl} {S : Sto} {l : List Str} (hi : it σ S = .ok (l.map D.str) σ' S) (hno : noOwn σ' [i] = true) (hl : l.length ≤ most)
    (st : ∀ x ∈ l, dV e ((wipeD σ' [i]).set i (.val (.str x))) S = .ok (.bl true) ((wipeD σ' [i]).set i (.val (.str x))) S) :
    (MR.d1 opAll (dLc it (gN i) tTrue e [i])) σ S = .ok (.bl true) σ' S := by
  have key := lc_strs (c := tTrue) (e := e) (fun _ => true) (fun _ => .bl true) hi hno hl fun x hx => ⟨rfl, fun _ => st x hx⟩
  have h2 := opAll_map (fun _ : Str => true) (l.filter fun _ => true)
  simp [key, h2]
theorem plain_strs {l : List Str} (h : l.length ≤ most) : plain 8 (.lst (l.map D.str)) = true := by
  show ((l.map D.str).all (plain 7) && decide ((l.map D.str).length ≤ most)) = true
  rw [List.length_map, decide_eq_true h, Bool.and_true, List.all_map, List.all_eq_true]
  intro x _
  rfl
theorem same_strs {S : Sto} {l : List Str} (h : l.length < 1000) : m__law_same [.lst (l.map D.str), .lst (l.map D.str)] S = .ok (.bl true) S := same_ok (plain_strs (Nat.le_of_lt (Nat.lt_trans h (by decide))))
variable {S : Sto} {r a b c d n : Nat} {B : Bk} {e : Str}
theorem plain_est {m : Str} {o : Option Str} {x y : Int} {f : Fr} : plain 8 (.tup [.str m, encO o, .int x, .int y, encF f]) = true := by
  cases o <;> simp [plain, encO, encF, most]
theorem srtS_len (l : List Str) : (srtS l).length = l.length := (srtS_perm l).length_eq
theorem nub_len : ∀ l : List Str, (nub l).length ≤ l.length
  | [] => Nat.le_refl _
  | x :: l => by
    have := nub_len l
    unfold nub
    split
    · exact Nat.le_succ_of_le this
    · exact Nat.succ_le_succ this
theorem mem_srtS {l : List Str} {x : Str} : x ∈ srtS l ↔ x ∈ l := (srtS_perm l).mem_iff
theorem estate_is_eq (A : LandAt S r a b c d false false B.L) (K : BookAt S n false false B) (W : Wf B.L) (hl : B.L.ks.length < 64) (he : e ∈ B.L.ks) : m__law_estate_is [.obj r, .obj (n + 8), .str e] S = .ok (.bl true) S := by
  obtain ⟨m, hm⟩ := Option.isSome_iff_exists.mp (aval_some_iff.mpr (show e ∈ keys B.L.hold by rw [W.kh]; exact he))
  obtain ⟨o, ho⟩ := Option.isSome_iff_exists.mp (aval_some_iff.mpr (show e ∈ keys B.L.lords from he))
  obtain ⟨x, hx⟩ := Option.isSome_iff_exists.mp (aval_some_iff.mpr (show e ∈ keys B.L.own by rw [W.ko]; exact he))
  obtain ⟨f, hf⟩ := Option.isSome_iff_exists.mp (aval_some_iff.mpr (show e ∈ keys B.L.due by rw [W.kd]; exact he))
  have q1 := holder_eq A he hm
  have q2 := lord_eq A he ho
  have q3 := own_eq A he hx
  have q4 := breadth_eq A W hl he
  have q5 := service_eq A he hf
  have q6 := chain_eq A W hl he
  have q7 := under_eq A he hl
  have q8 : m_Land_there [.obj r, .str e] S = .ok (.bl true) S := by rw [there_eq A, ho]; rfl
  have l1 := lbreadth_eq K W hl he
  have l2 := lchain_eq K W hl he
  have l3 := lunder_eq (e := e) K hl
  have s1 := same_ok (S := S) (plain_est (m := m) (o := o) (x := x) (y := B.L.breadth e) (f := f))
  have s2 := same_strs (S := S) (l := B.L.chain e) (by have := chain_len W e he; have := ixOf_lt.mp he; omega)
  have s3 := same_strs (S := S) (l := B.L.under e) (by
    have h1 : (B.L.kids e).length ≤ B.L.ks.length := List.length_filter_le ..
    have h2 : (B.L.under e).length = (B.L.kids e).length := srtS_len _
    omega)
  have s4 : m__law_same [.bl true, .bl true] S = .ok (.bl true) S := same_ok rfl
  have k5 : 5 ≤ most := by decide
  have k4 : 4 ≤ most := by decide
  have k1 : 1 ≤ most := by decide
  simp only [encF] at q5 s1
  refine dDef_ex ?_
  simp [b__law_estate_is, A.ob, q1, q2, q3, q4, q5, q6, q7, q8, l1, l2, l3, s1, s2, s3, s4, K.d8, K.d0, K.d1, K.d2, K.d3, bk0, bk1, bk2, bk3, hm, ho, hx, hf, k5, k4, k1, encF, frz_enc, deref_encO]
theorem land_is_eq (A : LandAt S r a b c d false false B.L) (K : BookAt S n false false B) (W : Wf B.L) (hl : B.L.ks.length < 64) : m__law_land_is [.obj r, .obj (n + 8)] S = .ok (.bl true) S := by
  have C := K.lockL true
  have ln := W.lens hl
  have ll := ln.l
  have lh := ln.h
  let σ0 : Sl := [.val (.obj r), .val (.obj (n + 8)), .emp, .emp, .emp, .emp, .emp]
  have key := lock_keys (fe := MR.d2 opGet (dVar 1) (dC (.str "lords"))) (i := 4) (c := lt__law_land_is_1) (σ := σ0) (fun k => decide (k ≠ ("" : Str))) K.c0 (by simp [σ0, K.d8, bk0]) (by simp [σ0, C.d8, bk0]) rfl (by show 4 < 7; decide) (by unfold most; omega) (by
    intro k hk
    simp [σ0, wipeD, lt__law_land_is_1])
  have hlen : (B.L.ks.filter fun k => decide (k ≠ ("" : Str))).length < 64 := by have := List.length_filter_le (fun k => decide (k ≠ ("" : Str))) B.L.ks; omega
  have h2 : (dLock (MR.d2 opGet (dVar 1) (dC (.str "lords"))) (dLc (iKeysD (MR.d2 opGet (dVar 1) (dC (.str "lords")))) (gN 4) lt__law_land_is_1 le__law_land_is_2 [4])) σ0 S = .ok (.lst ((B.L.ks.filter fun k => decide (k ≠ ("" : Str))).map D.str)) σ0 S := key
  let σ1 : Sl := [.val (.obj r), .val (.obj (n + 8)), .val (.lst (B.L.names.map D.str)), .emp, .emp, .emp, .emp]
  let σ2 : Sl := [.val (.obj r), .val (.obj (n + 8)), .val (.lst (B.L.names.map D.str)), .val (.lst (B.L.folk.map D.str)), .emp, .emp, .emp]
  have st1 : (sSet 2 (MR.d1 opSorted (dLock (MR.d2 opGet (dVar 1) (dC (.str "lords"))) (dLc (iKeysD (MR.d2 opGet (dVar 1) (dC (.str "lords")))) (gN 4) lt__law_land_is_1 le__law_land_is_2 [4])))) σ0 S = .ok .next σ1 S := by
    have h3 : (sSet 2 (MR.d1 opSorted (dLock (MR.d2 opGet (dVar 1) (dC (.str "lords"))) (dLc (iKeysD (MR.d2 opGet (dVar 1) (dC (.str "lords")))) (gN 4) lt__law_land_is_1 le__law_land_is_2 [4])))) σ0 S = ((((dLock (MR.d2 opGet (dVar 1) (dC (.str "lords"))) (dLc (iKeysD (MR.d2 opGet (dVar 1) (dC (.str "lords")))) (gN 4) lt__law_land_is_1 le__law_land_is_2 [4])) σ0 S).bind fun x σ S => ofOpt ((deref σ S x).bind opSorted) σ S).bind frz |>.bind fun w σ S => .ok .next (σ.set 2 (.val w)) S) := by
      simp
    rw [h3, h2]
    simp only [Res.bind_ok, deref_lst, Option.bind_some, sortS_eq hlen, ofOpt_some]
    rfl
  have hfl : B.L.folk.length ≤ B.L.hold.length := by
    unfold Ld.folk
    rw [srtS_len]
    exact Nat.le_trans (nub_len _) (by rw [List.length_map]; exact Nat.le_refl _)
  have e9 : ((enc D.str B.L.hold).map (·.2)) = (B.L.hold.map (·.2)).map D.str := enc_snd
  have h9 : opSortSet (.lst ((enc D.str B.L.hold).map (·.2))) = some (.lst (B.L.folk.map D.str)) := by rw [e9]; exact sortSet_eq (by rw [List.length_map]; omega)
  have st2 : (sSet 3 (MR.d1 opSortSet (MR.d1 opVals (MR.d2 opGet (dVar 1) (dC (.str "holders")))))) σ1 S = .ok .next σ2 S := by
    simp [σ1, σ2, K.d8, K.d1, bk1, h9]
  have hnl : B.L.names.length = (B.L.ks.filter fun k => decide (k ≠ ("" : Str))).length := srtS_len _
  have s1 := same_strs (S := S) (l := B.L.names) (by omega)
  have s2 := same_strs (S := S) (l := B.L.folk) (by omega)
  have q1 := estates_eq A hl
  have q2 := folk_eq A lh
  have a1 : (MR.d1 opAll (dLc (iLst (dVar 3)) (gN 5) tTrue le__law_land_is_3 [5])) σ2 S = .ok (.bl true) σ2 S := all_strs (l := B.L.folk) (by simp [σ2]) rfl (by unfold most; omega) fun x hx => by
    have l1 := held_eq (m := x) A lh
    have l2 := lheld_eq (m := x) K lh
    have l3 := same_strs (S := S) (l := B.L.held x) (by
      unfold Ld.held
      rw [srtS_len]
      refine Nat.lt_of_le_of_lt (List.length_filter_le ..) ?_
      rw [keys_len]
      omega)
    simp [σ2, wipeD, le__law_land_is_3, A.ob, l1, l2, l3]
  have hcr : ("" : Str) ∈ B.L.ks := aval_some_iff.mp (by rw [W.cr]; rfl)
  have k1 : (1 : Nat) ≤ most := by decide
  have hnm : 1 + B.L.names.length ≤ most := by unfold most; omega
  have a2 : (MR.d1 opAll (dLc (iLst (MR.d2 opAdd (dLst (aCons (dC (.str "")) aNil)) (dVar 2))) (gN 6) tTrue le__law_land_is_4 [6])) σ2 S = .ok (.bl true) σ2 S := all_strs (l := "" :: B.L.names) (by
      simp [σ2, k1, hnm]) rfl (by unfold most; simp; omega) fun x hx => by
    have hxk : x ∈ B.L.ks := by
      rcases List.mem_cons.mp hx with rfl | hx
      · exact hcr
      · exact (List.mem_filter.mp ((mem_srtS).mp hx)).1
    have l1 := estate_is_eq A K W hl hxk
    simp [σ2, wipeD, le__law_land_is_4, l1]
  refine dDef_ret (σ' := σ2) ?_
  show b__law_land_is σ0 S = _
  unfold b__law_land_is
  rw [sSeq_next st1, sSeq_next st2]
  have st3 : (sIf (tOr (tNot (tVal (dCall m__law_same (aCons (dMet "estates" [("Land", m_Land_estates)] (dVar 0) aNil) (aCons (dVar 2) aNil))))) (tNot (tVal (dCall m__law_same (aCons (dMet "folk" [("Land", m_Land_folk)] (dVar 0) aNil) (aCons (dVar 3) aNil)))))) (sRet (dC (.bl false))) sNil) σ2 S = .ok .next σ2 S := by
    simp [σ2, A.ob, q1, q2, s1, s2]
  have st4 : (sIf (tNot (tVal (MR.d1 opAll (dLc (iLst (dVar 3)) (gN 5) tTrue le__law_land_is_3 [5])))) (sRet (dC (.bl false))) sNil) σ2 S = .ok .next σ2 S := by
    show (((MR.d1 opAll _ σ2 S).bind _).bind _).bind _ = _
    rw [a1]
    rfl
  rw [sSeq_next st3, sSeq_next st4]
  show ((MR.d1 opAll _ σ2 S).bind _).bind _ = _
  rw [a2]
  rfl
end
end MR

set_option Elab.async false
set_option linter.all false
set_option maxRecDepth 100000
set_option exponentiation.threshold 30000
/-! P16: drawn pools and drawn charters. -/
namespace MR
open PySem
section
theorem RunF_step {f g : DS} {σ σ1 : Sl} {S S1 : Sto} {P : D → Sto → Prop} (h : f σ S = .ok .next σ1 S1) (h2 : RunF (g σ1 S1) P) : RunF (sSeq f g σ S) P := by rw [sSeq_next h]; exact h2
theorem atI7 {α : Type} {x y z u v t q p : α} {l : List α} : L2.atI (x :: y :: z :: u :: v :: t :: q :: p :: l) 7 = some p := atI_lit (x :: y :: z :: u :: v :: t :: q :: p :: l) 7
theorem atIs {l : List Str} {i : Int} (h0 : 0 ≤ i) (h1 : i < l.length) : ∃ x ∈ l, L2.atI (l.map D.str) i = some (.str x) := by
  obtain ⟨n, rfl⟩ := Int.eq_ofNat_of_zero_le h0
  have hn : n < l.length := by omega
  refine ⟨l[n]'hn, List.getElem_mem .., L2.atI_nat ?_⟩
  rw [List.getElem?_map, List.getElem?_eq_getElem hn]
  rfl
/-- the one that a number picks -/
theorem picks {l : List Str} (x : Int) (h : l ≠ []) : ∃ y ∈ l, L2.atI (l.map D.str) (x % (l.length : Int)) = some (.str y) := by
  have : 0 < l.length := List.length_pos_iff.mpr h
  exact atIs (Int.emod_nonneg _ (by omega)) (Int.emod_lt_of_pos _ (by omega))
theorem cut_nat {α : Type} (l : List α) (a b : Nat) (hb : b ≤ l.length) (hab : a ≤ b) : cutL l (some (a : Int)) (some (b : Int)) = (l.drop a).take (b - a) := by
  unfold cutL
  have h1 : HT.sIx l.length 0 (some (a : Int)) = min a l.length := HT.sIx_nat ..
  have h2 : HT.sIx l.length l.length (some (b : Int)) = min b l.length := HT.sIx_nat ..
  rw [h1, h2, Nat.min_eq_left (by omega), Nat.min_eq_left (by omega)]
theorem nm_ne {x : Str} (h : isNm x = true) : x ≠ "" := by
  rintro rfl
  revert h
  decide
theorem letter_small {c : Nat} (h : letter c = true) : c < 0x110000 := by
  unfold letter hasC at h
  have h2 : c ∈ abc.cps.toList := by simpa using h
  have : ∀ d ∈ abc.cps.toList, d < 0x110000 := by decide +kernel
  exact this c h2
theorem nm_ok {x : Str} (h : isNm x = true) : PyData.strOk x = true := by
  unfold isNm at h
  rw [Bool.and_eq_true] at h
  have h2 := h.2
  unfold letters at h2
  unfold PyData.strOk
  rw [← Array.all_toList, List.all_eq_true]
  intro c hc
  exact decide_eq_true (letter_small (List.all_eq_true.mp h2 c hc))
structure Pools (men lands : List Str) (w : Int) : Prop where
  lm : men.length = 6
  ll : lands.length = 9
  nm : ∀ x ∈ men, isNm x = true
  nl : ∀ x ∈ lands, isNm x = true
  dm : men.Nodup
  dl : lands.Nodup
  w1 : 1 ≤ w
  w2 : w ≤ 9999
abbrev poolsD (men lands : List Str) (w : Int) : D := .tup [.lst (men.map D.str), .lst (lands.map D.str), .int w]
theorem int_at {fs : List Int} (i : Nat) (hg : Good fs) (h : i < fs.length) : ∃ x : Int, L2.atI (fs.map D.int) (i : Int) = some (.int x) ∧ 0 ≤ x ∧ x < 1000003 := by
  refine ⟨fs[i]'h, ?_, hg _ (List.getElem_mem ..)⟩
  rw [atI_lit, List.getElem?_map, List.getElem?_eq_getElem h]
  rfl
theorem Good.cut {fs : List Int} (hg : Good fs) (a b : Nat) : Good ((fs.drop a).take b) := fun v hv => hg v (List.mem_of_mem_drop (List.mem_of_mem_take hv))
theorem back9 {l : List Str} (h : l.length = 9) : ∃ m : List Str, pickL (l.map D.str) (some 8) (some 2) (some (-1)) = m.map D.str ∧ m.length = 6 ∧ (∀ x ∈ m, x ∈ l) ∧ (l.Nodup → m.Nodup) := by
  match l, h with
  | [a, b, c, d, e, f, g, h, i], _ =>
    refine ⟨[i, h, g, f, e, d], rfl, rfl, fun x hx => ?_, fun hn => ?_⟩
    · simp only [List.mem_cons, List.not_mem_nil, or_false] at hx ⊢
      rcases hx with z | z | z | z | z | z <;> simp [z]
    · have : ([i, h, g, f, e, d] : List Str) = ([a, b, c, d, e, f, g, h, i].drop 3).reverse := rfl
      rw [this]
      refine List.pairwise_reverse.mpr ((hn.sublist (List.drop_sublist 3 _)).imp fun z => z.symm)
theorem cut_ok {fs : List Int} (hg : Good fs) (a b : Nat) (hb : b ≤ fs.length) (hab : a ≤ b) : ∃ ds : List Int, cutL (fs.map D.int) (some (a : Int)) (some (b : Int)) = ds.map D.int ∧ ds.length = b - a ∧ Good ds := ⟨(fs.drop a).take (b - a), by rw [cutL_map]; congr 1; exact cut_nat fs a b hb hab, by rw [List.length_take, List.length_drop]; omega, hg.cut a _⟩
theorem pools_ok {fs : List Int} (hl : 14 ≤ fs.length) (hg : Good fs) (S : Sto) : ∃ men lands w, Pools men lands w ∧ m__law_pools [.lst (fs.map D.int)] S = .ok (poolsD men lands w) S := by
  obtain ⟨x12, a12, b12, _⟩ := int_at 12 hg (by omega)
  obtain ⟨x13, a13, b13, _⟩ := int_at 13 hg (by omega)
  have a12 : L2.atI (fs.map D.int) 12 = some (.int x12) := a12
  have a13 : L2.atI (fs.map D.int) 13 = some (.int x13) := a13
  obtain ⟨da, c1, l4, ga⟩ := cut_ok hg 8 12 (by omega) (by omega)
  obtain ⟨db, c2, l5, gb⟩ := cut_ok hg 4 8 (by omega) (by omega)
  have c1 : cutL (fs.map D.int) (some 8) (some 12) = da.map D.int := c1
  have c2 : cutL (fs.map D.int) (some 4) (some 8) = db.map D.int := c2
  have l4 : da.length = 4 := l4
  have l5 : db.length = 4 := l5
  obtain ⟨lands, hL, eL⟩ := names_ok (l := da) (by omega) ga 9 (by decide) S
  obtain ⟨men, hM, eM⟩ := names_ok (l := db) (by omega) gb 6 (by decide) S
  have eL : m__law_names [.lst (da.map D.int), .int 9] S = .ok (.lst (lands.map D.str)) S := eL
  have eM : m__law_names [.lst (db.map D.int), .int 6] S = .ok (.lst (men.map D.str)) S := eM
  obtain ⟨bk, eb, lb, mb, nb⟩ := back9 hL.len
  have d4 : divOk 4 := by decide
  have k4 : 4 ≤ most := by decide
  have k3 : 3 ≤ most := by decide
  have k6 : 6 ≤ most := by decide
  obtain ⟨w, w1, w2, ew⟩ : ∃ w : Int, 1 ≤ w ∧ w ≤ 9999 ∧ L2.atI [D.int (7 + x12 % 200), .int (1 + x12 % 9), .int (9999 - x12 % 50), .int 40] (x13 % 4) = some (.int w) := by
    obtain h | h | h | h : x13 % 4 = 0 ∨ x13 % 4 = 1 ∨ x13 % 4 = 2 ∨ x13 % 4 = 3 := by omega
    · exact ⟨7 + x12 % 200, by omega, by omega, by rw [h, atI0]⟩
    · exact ⟨1 + x12 % 9, by omega, by omega, by rw [h, atI1]⟩
    · exact ⟨9999 - x12 % 50, by omega, by omega, by rw [h, atI2]⟩
    · exact ⟨40, by omega, by omega, by rw [h, atI3']⟩
  have hp : Ret (m__law_pools [.lst (fs.map D.int)] S) (fun v S' => S' = S ∧ ∃ men lands w, Pools men lands w ∧ v = poolsD men lands w) := by
    unfold m__law_pools
    rw [ret_dDef]
    show RunF (b__law_pools [.val (.lst (fs.map D.int)), .emp, .emp] S) _
    unfold b__law_pools
    refine RunF_step (σ1 := [.val (.lst (fs.map D.int)), .val (.int w), .emp]) (S1 := S) (by simp [a12, a13, k4, ew]) ?_
    refine RunF_step (σ1 := [.val (.lst (fs.map D.int)), .val (.int w), .val (.lst (lands.map D.str))]) (S1 := S) (by simp [c1, eL, l4, k4]) ?_
    by_cases h : x13.fdiv 4 % 4 = 3
    · have pl : (pickL (lands.map D.str) (some 8) (some 2) (some (-1))).length ≤ most := by rw [eb, List.length_map, lb]; decide
      refine RunF.of (r' := .ok (.ret (poolsD bk lands w)) [.val (.lst (fs.map D.int)), .val (.int w), .val (.lst (lands.map D.str))] S) ?_ ⟨rfl, bk, lands, w, ⟨lb, hL.len, fun x hx => hL.nm x (mb x hx), hL.nm, nb hL.nd, hL.nd, w1, w2⟩, rfl⟩
      simp [a13, h, d4, dSl3, opPick, eb, lb, k6, k3]
    · refine RunF.of (r' := .ok (.ret (poolsD men lands w)) [.val (.lst (fs.map D.int)), .val (.int w), .val (.lst (lands.map D.str))] S) ?_ ⟨rfl, men, lands, w, ⟨hM.len, hL.len, hM.nm, hL.nm, hM.nd, hL.nd, w1, w2⟩, rfl⟩
      simp [a13, h, d4, c2, eM, l5, k3, k4]
  obtain ⟨v, S', e, rfl, men, lands, w, hP, rfl⟩ := hp.ex
  exact ⟨men, lands, w, hP, e⟩
end
end MR

set_option Elab.async false
set_option linter.all false
set_option maxRecDepth 100000
set_option exponentiation.threshold 30000
/-! P17: a drawn charter. -/
namespace MR
open PySem
/-- what a drawn charter is made of -/
def Rw.fit (men lands : List Str) (B : Bk) (dd : Int) : Rw → Prop
  | .grant d e n m a s => d = dd ∧ (e ∈ B.L.ks ∨ e ∈ ("" : Str) :: lands) ∧ n ∈ lands ∧ m ∈ men ∧ 1 ≤ a ∧ a ≤ 9999 ∧ 0 ≤ s ∧ s ≤ 9999
  | .part d e n m a => d = dd ∧ (e ∈ B.L.ks ∨ e ∈ ("" : Str) :: lands) ∧ e ≠ "" ∧ n ∈ lands ∧ m ∈ men ∧ 1 ≤ a ∧ a ≤ 9999
  | .convey d e m => d = dd ∧ (e ∈ B.L.ks ∨ e ∈ ("" : Str) :: lands) ∧ e ≠ "" ∧ m ∈ men
  | .surr d e => d = dd ∧ (e ∈ B.L.ks ∨ e ∈ ("" : Str) :: lands) ∧ e ≠ ""
  | .heir d m h => d = dd ∧ m ∈ men ∧ h ∈ men ∧ h ≠ m
  | .liege d m l => d = dd ∧ m ∈ men ∧ l ≠ m ∧ (l = "" ∨ l ∈ men ∨ l ∈ B.L.bound m)
  | .death d m => d = dd ∧ m ∈ men
section
variable {S : Sto} {n t : Nat} {B : Bk} {tot : Int} {men lands : List Str} {w : Int}
theorem bound_len (L : Ld) (m : Str) : (L.bound m).length ≤ L.hold.length := by
  unfold Ld.bound
  rw [List.length_map]
  refine Nat.le_trans (List.length_filter_le ..) ?_
  unfold Ld.held
  rw [srtS_len]
  refine Nat.le_trans (List.length_filter_le ..) ?_
  rw [keys_len]
  exact Nat.le_refl _
theorem opMul3 {l : List Str} (h : l.length < 1000) : opMul' (.lst (l.map D.str)) (.int 3) = some (.lst ((l ++ (l ++ l)).map D.str)) := by
  have : (List.replicate 3 (l.map D.str)).flatten = (l ++ (l ++ l)).map D.str := by simp [List.replicate]
  rw [← this]
  exact if_pos ⟨by decide, by decide, by rw [List.length_map]; show l.length * 3 ≤ most; unfold most; omega⟩
theorem lord_for_ok (A : BookAt S n false false B) (W : Wf B.L) (hl : B.L.ks.length < 64) (P : Pools men lands w) {m : Str} (m0 : m ≠ "") (x : Int) : ∃ l : Str, (l = "" ∨ l ∈ men ∨ l ∈ B.L.bound m) ∧ l ≠ m ∧ m__law_lord_for [.obj (n + 8), .lst (men.map D.str), .str m, .int x] S = .ok (.str l) S := by
  have hb := lbound_eq (m := m) A W hl
  have lb := bound_len B.L m
  have lh := (W.lens hl).h
  have h3 := opMul3 (l := B.L.bound m) (by omega)
  generalize hbm : B.L.bound m = bm at *
  obtain ⟨L, eL⟩ : ∃ L : List Str, L = bm ++ (bm ++ bm) ++ men ++ [("" : Str)] := ⟨_, rfl⟩
  have hL : L.length < 1000 := by rw [eL]; simp; have := P.lm; omega
  have mL : ∀ y ∈ L, y = "" ∨ y ∈ men ∨ y ∈ bm := fun y hy => by
    rw [eL] at hy
    simp only [List.mem_append, List.mem_singleton] at hy
    rcases hy with ((z | z | z) | z) | z
    · exact .inr (.inr z)
    · exact .inr (.inr z)
    · exact .inr (.inr z)
    · exact .inr (.inl z)
    · exact .inl z
  have e0 : ("" : Str) ∈ L := by rw [eL]; simp
  have lm := P.lm
  have k1 : 1 ≤ most := by decide
  have q1 : bm.length + (bm.length + bm.length) + men.length ≤ most := by unfold most; omega
  have q2 : bm.length + (bm.length + bm.length) + men.length + 1 ≤ most := by unfold most; omega
  let σ0 : Sl := [.val (.obj (n + 8)), .val (.lst (men.map D.str)), .val (.str m), .val (.int x), .emp, .emp]
  let F := L.filter fun y => !decide (y = m)
  have hi : (iLst (d2 opAdd (d2 opAdd (d2 opMul' (dCall m__law_bound_to (aCons (dVar 0) (aCons (dVar 2) aNil))) (dC (.int 3))) (dVar 1)) (dLst (aCons (dC (.str "")) aNil)))) σ0 S = .ok (L.map D.str) σ0 S := by
    simp only [List.map_append] at h3
    simp [-List.append_assoc, σ0, hb, h3, k1, q1, q2, eL]
  have hlc := lc_strs (it := (iLst (d2 opAdd (d2 opAdd (d2 opMul' (dCall m__law_bound_to (aCons (dVar 0) (aCons (dVar 2) aNil))) (dC (.int 3))) (dVar 1)) (dLst (aCons (dC (.str "")) aNil))))) (i := 5) (c := lt__law_lord_for_1) (e := le__law_lord_for_2) (fun y => !decide (y = m)) D.str hi rfl (by unfold most; omega) (fun y hy => by simp [σ0, wipeD, lt__law_lord_for_1, le__law_lord_for_2])
  have hlc : (dLc (iLst (d2 opAdd (d2 opAdd (d2 opMul' (dCall m__law_bound_to (aCons (dVar 0) (aCons (dVar 2) aNil))) (dC (.int 3))) (dVar 1)) (dLst (aCons (dC (.str "")) aNil)))) (gN 5) lt__law_lord_for_1 le__law_lord_for_2 [5]) σ0 S = .ok (.lst (F.map D.str)) σ0 S := hlc
  have F0 : F ≠ [] := List.ne_nil_of_mem (List.mem_filter.mpr ⟨e0, by simp; exact fun z => m0 z.symm⟩)
  obtain ⟨y, hy, ey⟩ := picks (l := F) x F0
  have hFl : 0 < F.length := List.length_pos_iff.mpr F0
  have hy2 := List.mem_filter.mp hy
  refine ⟨y, mL y hy2.1, by simpa using hy2.2, ?_⟩
  refine dDef_ret (σ' := [.val (.obj (n + 8)), .val (.lst (men.map D.str)), .val (.str m), .val (.int x), .val (.lst (F.map D.str)), .emp]) ?_
  show b__law_lord_for σ0 S = _
  unfold b__law_lord_for
  have st1 : (sSet 4 (dLc (iLst (d2 opAdd (d2 opAdd (d2 opMul' (dCall m__law_bound_to (aCons (dVar 0) (aCons (dVar 2) aNil))) (dC (.int 3))) (dVar 1)) (dLst (aCons (dC (.str "")) aNil)))) (gN 5) lt__law_lord_for_1 le__law_lord_for_2 [5])) σ0 S = .ok .next [.val (.obj (n + 8)), .val (.lst (men.map D.str)), .val (.str m), .val (.int x), .val (.lst (F.map D.str)), .emp] S := by
    show ((dLc _ _ _ _ _ σ0 S).bind _).bind _ = _
    rw [hlc]
    rfl
  rw [sSeq_next st1]
  generalize F = G at *
  simp [ey, hFl]
end
end MR

set_option Elab.async false
set_option linter.all false
set_option maxRecDepth 100000
set_option exponentiation.threshold 30000
/-! P18: a drawn charter. -/
namespace MR
open PySem
section
variable {S : Sto} {n t : Nat} {B : Bk} {tot : Int} {men lands : List Str} {w : Int} {x0 x1 x2 x3 x4 x5 x6 x7 dd : Int}
theorem keys_kD {α : Type} {f : α → D} {l : List (Str × α)} : (enc f l).map (fun p => kD p.1) = (keys l).map D.str := by
  unfold enc keys
  rw [List.map_map, List.map_map]
  rfl
theorem inI5 {k : Int} {a b c d e : Int} : opInG (.int k) (.tup [.int a, .int b, .int c, .int d, .int e]) = some (.bl (decide (k = a ∨ k = b ∨ k = c ∨ k = d ∨ k = e))) := by
  show (if flatD (.int k) && ([.int a, .int b, .int c, .int d, .int e] : List D).all flatD then some (inD (.int k) [.int a, .int b, .int c, .int d, .int e]) else none).map D.bl = _
  have h : (flatD (.int k) && ([.int a, .int b, .int c, .int d, .int e] : List D).all flatD) = true := rfl
  rw [h]
  have q : ∀ x : Int, (x == k) = decide (k = x) := fun x => by
    by_cases h : k = x
    · subst h; simp
    · have h2 : ¬ x = k := fun z => h z.symm
      simp [h, h2]
  simp [inD, L2.inV, toV, Bool.or_assoc, L2.eqV, q]
abbrev drsD (x0 x1 x2 x3 x4 x5 x6 x7 : Int) : D := .lst [.int x0, .int x1, .int x2, .int x3, .int x4, .int x5, .int x6, .int x7]
def free (B : Bk) (lands : List Str) : List Str := lands.filter fun x => !decide (x ∈ B.known)
theorem row_ok (A : BookAt S n false false B) (Z : Sound B t tot) (ht : t < 60) (P : Pools men lands w) (dd : Int) : ∃ r : Rw, r.fit men lands B dd ∧ m__law_row [.obj (n + 8), poolsD men lands w, drsD x0 x1 x2 x3 x4 x5 x6 x7, .int dd] S = .ok r.D S := by
  have W := Z.W
  have hlen := Z.len
  have hl : B.L.ks.length < 64 := by omega
  have k5 : 5 ≤ most := by decide
  have k2 : 2 ≤ most := by decide
  have k1 : 1 ≤ most := by decide
  have k3 : 3 ≤ most := by decide
  have k4 : 4 ≤ most := by decide
  have k6 : 6 ≤ most := by decide
  have k7 : 7 ≤ most := by decide
  have lm := P.lm
  have ll := P.ll
  have hkl := Z.kl
  have ek : opSorted (.lst ((enc encO B.L.lords).map fun p => kD p.1)) = some (.lst ((srtS B.L.ks).map D.str)) := by
    rw [keys_kD]
    exact sortS_eq hl
  have hcr : ("" : Str) ∈ B.L.ks := aval_some_iff.mp (by rw [W.cr]; rfl)
  have es0 : srtS B.L.ks ≠ [] := List.ne_nil_of_mem (mem_srtS.mpr hcr)
  obtain ⟨e0, he0, pe0⟩ := picks (l := srtS B.L.ks) x1 es0
  have he0 := mem_srtS.mp he0
  have ep : 0 < (srtS B.L.ks).length := List.length_pos_iff.mpr es0
  obtain ⟨m, hm, pm⟩ := picks (l := men) x2 (fun z => by rw [z] at lm; cases lm)
  rw [lm] at pm
  have pm : L2.atI (men.map D.str) (x2 % 6) = some (.str m) := pm
  have m0 := nm_ne (P.nm m hm)
  have fl : (free B lands).length ≤ 9 := by rw [← ll]; exact List.length_filter_le ..
  obtain ⟨nw, hnw, pnw⟩ : ∃ y ∈ lands, L2.atI ((free B lands ++ lands).map D.str) (x3 % (if ((free B lands).length : Int) > 1 then ((free B lands).length : Int) else 1)) = some (.str y) := by
    have h1 : (0 : Int) < (if ((free B lands).length : Int) > 1 then ((free B lands).length : Int) else 1) := by split <;> omega
    obtain ⟨y, hy, ey⟩ := atIs (l := free B lands ++ lands) (i := x3 % (if ((free B lands).length : Int) > 1 then ((free B lands).length : Int) else 1)) (Int.emod_nonneg _ (by omega)) (by
      have := Int.emod_lt_of_pos x3 h1
      have hq : (if ((free B lands).length : Int) > 1 then ((free B lands).length : Int) else 1) ≤ ((free B lands).length : Int) + 9 := by split <;> omega
      rw [List.length_append, ll]
      generalize (if ((free B lands).length : Int) > 1 then ((free B lands).length : Int) else 1) = q at *
      omega)
    refine ⟨y, ?_, ey⟩
    rcases List.mem_append.mp hy with z | z
    · exact (List.mem_filter.mp z).1
    · exact z
  obtain ⟨nl, hnl, pnl⟩ := picks (l := lands) x3 (fun z => by rw [z] at ll; cases ll)
  rw [ll] at pnl
  have pnl : L2.atI (lands.map D.str) (x3 % 9) = some (.str nl) := pnl
  obtain ⟨el, hel, pel⟩ := picks (l := ("" : Str) :: lands) x1 (by simp)
  rw [List.length_cons, ll] at pel
  have pel : L2.atI (.str "" :: lands.map D.str) (x1 % 10) = some (.str el) := pel
  have hfr : ∀ s9 s10 s11 s12 s13 s14 s6 s7 s8, (dLc (iLst (dVar 5)) (gN 15) lt__law_row_1 le__law_row_2 [15]) [.val (.obj (n + 8)), .val (poolsD men lands w), .val (.lst [.int x0, .int x1, .int x2, .int x3, .int x4, .int x5, .int x6, .int x7]), .val (.int dd), .val (.lst (men.map D.str)), .val (.lst (lands.map D.str)), s6, s7, s8, s9, s10, s11, s12, s13, s14, .emp] S = .ok (.lst ((free B lands).map D.str)) [.val (.obj (n + 8)), .val (poolsD men lands w), .val (.lst [.int x0, .int x1, .int x2, .int x3, .int x4, .int x5, .int x6, .int x7]), .val (.int dd), .val (.lst (men.map D.str)), .val (.lst (lands.map D.str)), s6, s7, s8, s9, s10, s11, s12, s13, s14, .emp] S := by
    intro s9 s10 s11 s12 s13 s14 s6 s7 s8
    refine lc_strs (l := lands) (fun x => !decide (x ∈ B.known)) D.str (by simp) rfl (by rw [ll]; decide) (fun y hy => ?_)
    simp [wipeD, lt__law_row_1, le__law_row_2, A.d8, A.d4, bk4, opNotIn_strs]

  have hp : Ret (m__law_row [.obj (n + 8), poolsD men lands w, drsD x0 x1 x2 x3 x4 x5 x6 x7, .int dd] S) (fun v S' => S' = S ∧ ∃ r : Rw, r.fit men lands B dd ∧ v = r.D) := by
    unfold m__law_row
    rw [ret_dDef]
    show RunF (b__law_row [.val (.obj (n + 8)), .val (poolsD men lands w), .val (.lst [.int x0, .int x1, .int x2, .int x3, .int x4, .int x5, .int x6, .int x7]), .val (.int dd), .emp, .emp, .emp, .emp, .emp, .emp, .emp, .emp, .emp, .emp, .emp, .emp] S) _
    unfold b__law_row
    refine RunF_step (σ1 := [.val (.obj (n + 8)), .val (poolsD men lands w), .val (.lst [.int x0, .int x1, .int x2, .int x3, .int x4, .int x5, .int x6, .int x7]), .val (.int dd), .val (.lst (men.map D.str)), .emp, .emp, .emp, .emp, .emp, .emp, .emp, .emp, .emp, .emp, .emp]) (S1 := S) (by simp [atI0]) ?_
    refine RunF_step (σ1 := [.val (.obj (n + 8)), .val (poolsD men lands w), .val (.lst [.int x0, .int x1, .int x2, .int x3, .int x4, .int x5, .int x6, .int x7]), .val (.int dd), .val (.lst (men.map D.str)), .val (.lst (lands.map D.str)), .emp, .emp, .emp, .emp, .emp, .emp, .emp, .emp, .emp, .emp]) (S1 := S) (by simp [atI1]) ?_
    refine RunF_step (σ1 := [.val (.obj (n + 8)), .val (poolsD men lands w), .val (.lst [.int x0, .int x1, .int x2, .int x3, .int x4, .int x5, .int x6, .int x7]), .val (.int dd), .val (.lst (men.map D.str)), .val (.lst (lands.map D.str)), .val (.lst ((srtS B.L.ks).map D.str)), .emp, .emp, .emp, .emp, .emp, .emp, .emp, .emp, .emp]) (S1 := S) (by simp [A.d8, A.d0, bk0, ek]) ?_
    refine RunF_step (σ1 := [.val (.obj (n + 8)), .val (poolsD men lands w), .val (.lst [.int x0, .int x1, .int x2, .int x3, .int x4, .int x5, .int x6, .int x7]), .val (.int dd), .val (.lst (men.map D.str)), .val (.lst (lands.map D.str)), .val (.lst ((srtS B.L.ks).map D.str)), .val (.str e0), .emp, .emp, .emp, .emp, .emp, .emp, .emp, .emp]) (S1 := S) (by simp [atI1, pe0, ep]) ?_
    refine RunF_step (σ1 := [.val (.obj (n + 8)), .val (poolsD men lands w), .val (.lst [.int x0, .int x1, .int x2, .int x3, .int x4, .int x5, .int x6, .int x7]), .val (.int dd), .val (.lst (men.map D.str)), .val (.lst (lands.map D.str)), .val (.lst ((srtS B.L.ks).map D.str)), .val (.str e0), .val (.str m), .emp, .emp, .emp, .emp, .emp, .emp, .emp]) (S1 := S) (by simp [atI2, lm, pm]) ?_
    refine RunF_step (σ1 := [.val (.obj (n + 8)), .val (poolsD men lands w), .val (.lst [.int x0, .int x1, .int x2, .int x3, .int x4, .int x5, .int x6, .int x7]), .val (.int dd), .val (.lst (men.map D.str)), .val (.lst (lands.map D.str)), .val (.lst ((srtS B.L.ks).map D.str)), .val (.str e0), .val (.str m), .val (.lst ((free B lands).map D.str)), .emp, .emp, .emp, .emp, .emp, .emp]) (S1 := S) (by rw [sSet_def, dV_def, hfr]; rfl) ?_
    refine RunF_step (σ1 := [.val (.obj (n + 8)), .val (poolsD men lands w), .val (.lst [.int x0, .int x1, .int x2, .int x3, .int x4, .int x5, .int x6, .int x7]), .val (.int dd), .val (.lst (men.map D.str)), .val (.lst (lands.map D.str)), .val (.lst ((srtS B.L.ks).map D.str)), .val (.str e0), .val (.str m), .val (.lst ((free B lands).map D.str)), .val (.str nw), .emp, .emp, .emp, .emp, .emp]) (S1 := S) (by
      have q1 : (free B lands).length + lands.length ≤ most := by rw [ll]; unfold most; omega
      have q2 : (0 : Int) < (if ((free B lands).length : Int) > 1 then ((free B lands).length : Int) else 1) := by split <;> omega
      rw [List.map_append] at pnw
      simp only [gt_iff_lt] at pnw q2
      simp [atI3', q1, q2, pnw]) ?_
    obtain ⟨e, nx, he, hnx, est⟩ : ∃ e nx, (e ∈ B.L.ks ∨ e ∈ ("" : Str) :: lands) ∧ nx ∈ lands ∧ (sIf (tVal (d2 opGt (d2 opMod (d2 opIx (dVar 2) (dC (.int 7))) (dC (.int 12))) (dC (.int 9)))) (sSeq (sSet 10 (d2 opIx (dVar 5) (d2 opMod (d2 opIx (dVar 2) (dC (.int 3))) (d1 opLen (dVar 5))))) (sSet 7 (d2 opIx (d2 opAdd (dLst (aCons (dC (.str "")) aNil)) (dVar 5)) (d2 opMod (d2 opIx (dVar 2) (dC (.int 1))) (dC (.int 10)))))) sNil) [.val (.obj (n + 8)), .val (poolsD men lands w), .val (.lst [.int x0, .int x1, .int x2, .int x3, .int x4, .int x5, .int x6, .int x7]), .val (.int dd), .val (.lst (men.map D.str)), .val (.lst (lands.map D.str)), .val (.lst ((srtS B.L.ks).map D.str)), .val (.str e0), .val (.str m), .val (.lst ((free B lands).map D.str)), .val (.str nw), .emp, .emp, .emp, .emp, .emp] S = .ok .next [.val (.obj (n + 8)), .val (poolsD men lands w), .val (.lst [.int x0, .int x1, .int x2, .int x3, .int x4, .int x5, .int x6, .int x7]), .val (.int dd), .val (.lst (men.map D.str)), .val (.lst (lands.map D.str)), .val (.lst ((srtS B.L.ks).map D.str)), .val (.str e), .val (.str m), .val (.lst ((free B lands).map D.str)), .val (.str nx), .emp, .emp, .emp, .emp, .emp] S := by
      have q10 : 1 + 9 ≤ most := by decide
      have q9 : 9 + 1 ≤ most := by decide
      by_cases c : x7 % 12 > 9
      · refine ⟨el, nl, .inr hel, hnl, ?_⟩
        have c' : 9 < x7 % 12 := c
        simp [atI7, atI3', atI1, c', ll, pnl, k1, q10, q9, pel]
      · refine ⟨e0, nw, .inl he0, hnw, ?_⟩
        have c' : ¬ 9 < x7 % 12 := c
        simp [atI7, c']
    refine RunF_step est ?_
    have hac : B.L.ac e = (aval B.L.own e).getD 0 := rfl
    have ac0 := Z.N.ac0 e
    have ac1 : B.L.ac e ≤ 9999 := by
      have tt := Z.tt
      by_cases hk : e ∈ B.L.ks
      · have b1 := Z.N.br_le W (e := e)
        have b2 := Z.N.br_ge W hk
        omega
      · have : B.L.ac e = 0 := by unfold Ld.ac; rw [aval_none_iff.mpr (by rw [W.ko]; exact hk)]; rfl
        omega
    refine RunF_step (σ1 := [.val (.obj (n + 8)), .val (poolsD men lands w), .val (.lst [.int x0, .int x1, .int x2, .int x3, .int x4, .int x5, .int x6, .int x7]), .val (.int dd), .val (.lst (men.map D.str)), .val (.lst (lands.map D.str)), .val (.lst ((srtS B.L.ks).map D.str)), .val (.str e), .val (.str m), .val (.lst ((free B lands).map D.str)), .val (.str nx), .val (.int (B.L.ac e)), .emp, .emp, .emp, .emp]) (S1 := S) (by
      cases ho : aval B.L.own e with
      | none => rw [ho] at hac; simp [A.d8, A.d2, bk2, ho, hac]
      | some o => rw [ho] at hac; simp [A.d8, A.d2, bk2, ho, hac]) ?_
    generalize B.L.ac e = ac at *
    obtain ⟨a, a1, a2, fin⟩ : ∃ a : Int, 1 ≤ a ∧ a ≤ 9999 ∧ ∀ R : DS, RunF (R [.val (.obj (n + 8)), .val (poolsD men lands w), .val (.lst [.int x0, .int x1, .int x2, .int x3, .int x4, .int x5, .int x6, .int x7]), .val (.int dd), .val (.lst (men.map D.str)), .val (.lst (lands.map D.str)), .val (.lst ((srtS B.L.ks).map D.str)), .val (.str e), .val (.str m), .val (.lst ((free B lands).map D.str)), .val (.str nx), .val (.int ac), .val (.int a), .emp, .emp, .emp] S) (fun v S' => S' = S ∧ ∃ r : Rw, r.fit men lands B dd ∧ v = r.D) → RunF ((sSeq (sSet 12 (d2 opAdd (dC (.int 1)) (d2 opMod (d2 opIx (dVar 2) (dC (.int 4))) (d2 opMax (dC (.int 1)) (dVar 11))))) (sSeq (sIf (tVal (d2 opEq' (d2 opMod (d2 opIx (dVar 2) (dC (.int 7))) (dC (.int 12))) (dC (.int 9)))) (sSet 12 (d2 opMin (dC (.int 9999)) (d2 opAdd (d2 opAdd (dVar 11) (dC (.int 1))) (d2 opMod (d2 opIx (dVar 2) (dC (.int 4))) (dC (.int 2)))))) sNil) R)) [.val (.obj (n + 8)), .val (poolsD men lands w), .val (.lst [.int x0, .int x1, .int x2, .int x3, .int x4, .int x5, .int x6, .int x7]), .val (.int dd), .val (.lst (men.map D.str)), .val (.lst (lands.map D.str)), .val (.lst ((srtS B.L.ks).map D.str)), .val (.str e), .val (.str m), .val (.lst ((free B lands).map D.str)), .val (.str nx), .val (.int ac), .emp, .emp, .emp, .emp] S) (fun v S' => S' = S ∧ ∃ r : Rw, r.fit men lands B dd ∧ v = r.D) := by
      have q2 : (0 : Int) < (if 1 < ac then ac else 1) := by split <;> omega
      have u3 : (if 1 < ac then ac else 1) ≤ 9999 := by split <;> omega
      have u1 := Int.emod_nonneg x4 (show (if 1 < ac then ac else 1) ≠ 0 by omega)
      have u2 := Int.emod_lt_of_pos x4 q2
      have st1 : (sSet 12 (d2 opAdd (dC (.int 1)) (d2 opMod (d2 opIx (dVar 2) (dC (.int 4))) (d2 opMax (dC (.int 1)) (dVar 11))))) [.val (.obj (n + 8)), .val (poolsD men lands w), .val (.lst [.int x0, .int x1, .int x2, .int x3, .int x4, .int x5, .int x6, .int x7]), .val (.int dd), .val (.lst (men.map D.str)), .val (.lst (lands.map D.str)), .val (.lst ((srtS B.L.ks).map D.str)), .val (.str e), .val (.str m), .val (.lst ((free B lands).map D.str)), .val (.str nx), .val (.int ac), .emp, .emp, .emp, .emp] S = .ok .next [.val (.obj (n + 8)), .val (poolsD men lands w), .val (.lst [.int x0, .int x1, .int x2, .int x3, .int x4, .int x5, .int x6, .int x7]), .val (.int dd), .val (.lst (men.map D.str)), .val (.lst (lands.map D.str)), .val (.lst ((srtS B.L.ks).map D.str)), .val (.str e), .val (.str m), .val (.lst ((free B lands).map D.str)), .val (.str nx), .val (.int ac), .val (.int (1 + x4 % (if 1 < ac then ac else 1))), .emp, .emp, .emp] S := by simp [atI4, q2]
      by_cases c : x7 % 12 = 9
      · refine ⟨if ac + 1 + x4 % 2 < 9999 then ac + 1 + x4 % 2 else 9999, by split <;> omega, by split <;> omega, fun R hR => RunF_step st1 (RunF_step (σ1 := [.val (.obj (n + 8)), .val (poolsD men lands w), .val (.lst [.int x0, .int x1, .int x2, .int x3, .int x4, .int x5, .int x6, .int x7]), .val (.int dd), .val (.lst (men.map D.str)), .val (.lst (lands.map D.str)), .val (.lst ((srtS B.L.ks).map D.str)), .val (.str e), .val (.str m), .val (.lst ((free B lands).map D.str)), .val (.str nx), .val (.int ac), .val (.int (if ac + 1 + x4 % 2 < 9999 then ac + 1 + x4 % 2 else 9999)), .emp, .emp, .emp]) (S1 := S) (by simp [atI7, atI4, c]) hR)⟩
      · refine ⟨1 + x4 % (if 1 < ac then ac else 1), by omega, by generalize (if 1 < ac then ac else 1) = q at *; omega, fun R hR => RunF_step st1 (RunF_step (σ1 := [.val (.obj (n + 8)), .val (poolsD men lands w), .val (.lst [.int x0, .int x1, .int x2, .int x3, .int x4, .int x5, .int x6, .int x7]), .val (.int dd), .val (.lst (men.map D.str)), .val (.lst (lands.map D.str)), .val (.lst ((srtS B.L.ks).map D.str)), .val (.str e), .val (.str m), .val (.lst ((free B lands).map D.str)), .val (.str nx), .val (.int ac), .val (.int (1 + x4 % (if 1 < ac then ac else 1))), .emp, .emp, .emp]) (S1 := S) (by simp [atI7, c]) hR)⟩
    refine fin _ ?_
    have kb := Int.emod_nonneg x0 (show (13 : Int) ≠ 0 by decide)
    have kt := Int.emod_lt_of_pos x0 (show (0 : Int) < 13 by decide)
    obtain ⟨k, ek⟩ : ∃ k, k = x0 % 13 := ⟨_, rfl⟩
    rw [← ek] at kb kt
    refine RunF_step (σ1 := [.val (.obj (n + 8)), .val (poolsD men lands w), .val (.lst [.int x0, .int x1, .int x2, .int x3, .int x4, .int x5, .int x6, .int x7]), .val (.int dd), .val (.lst (men.map D.str)), .val (.lst (lands.map D.str)), .val (.lst ((srtS B.L.ks).map D.str)), .val (.str e), .val (.str m), .val (.lst ((free B lands).map D.str)), .val (.str nx), .val (.int ac), .val (.int a), .val (.int k), .emp, .emp]) (S1 := S) (by simp [atI0, ek]) ?_
    clear fin est ek
    obtain ⟨sv, sv0, sv1, esv⟩ : ∃ s : Int, 0 ≤ s ∧ s ≤ 9999 ∧ L2.atI [D.int 0, .int 1, .int (x5 % 30), .int (9999 - x5 % 9)] (x6 % 4) = some (.int s) := by
      obtain h | h | h | h : x6 % 4 = 0 ∨ x6 % 4 = 1 ∨ x6 % 4 = 2 ∨ x6 % 4 = 3 := by omega
      · exact ⟨0, by omega, by omega, by rw [h, atI0]⟩
      · exact ⟨1, by omega, by omega, by rw [h, atI1]⟩
      · exact ⟨x5 % 30, by omega, by omega, by rw [h, atI2]⟩
      · exact ⟨9999 - x5 % 9, by omega, by omega, by rw [h, atI3']⟩
    have hgr : (Rw.grant dd e nx m a sv).fit men lands B dd := ⟨rfl, he, hnx, hm, a1, a2, sv0, sv1⟩
    by_cases g1 : k < 4 ∨ (e = "" ∧ (k = 4 ∨ k = 5 ∨ k = 6 ∨ k = 9 ∨ k = 12))
    · refine RunF.of (r' := .ok (.ret (Rw.grant dd e nx m a sv).D) [.val (.obj (n + 8)), .val (poolsD men lands w), .val (.lst [.int x0, .int x1, .int x2, .int x3, .int x4, .int x5, .int x6, .int x7]), .val (.int dd), .val (.lst (men.map D.str)), .val (.lst (lands.map D.str)), .val (.lst ((srtS B.L.ks).map D.str)), .val (.str e), .val (.str m), .val (.lst ((free B lands).map D.str)), .val (.str nx), .val (.int ac), .val (.int a), .val (.int k), .emp, .emp] S) ?_ ⟨rfl, .grant dd e nx m a sv, hgr, rfl⟩
      by_cases g2 : k < 4
      · simp [g2, atI5, atI6, esv, k4, k7, Rw.D]
      · have g3 := (Or.resolve_left g1 g2)
        obtain ⟨g4, g5⟩ := g3
        subst g4
        simp [g2, inI5, g5, atI5, atI6, esv, k4, k5, k7, Rw.D]
    refine RunF_step (σ1 := [.val (.obj (n + 8)), .val (poolsD men lands w), .val (.lst [.int x0, .int x1, .int x2, .int x3, .int x4, .int x5, .int x6, .int x7]), .val (.int dd), .val (.lst (men.map D.str)), .val (.lst (lands.map D.str)), .val (.lst ((srtS B.L.ks).map D.str)), .val (.str e), .val (.str m), .val (.lst ((free B lands).map D.str)), .val (.str nx), .val (.int ac), .val (.int a), .val (.int k), .emp, .emp]) (S1 := S) (by
      by_cases g2 : e = ""
      · have g3 : ¬ k < 4 := fun z => g1 (.inl z)
        have g4 : ¬ (k = 4 ∨ k = 5 ∨ k = 6 ∨ k = 9 ∨ k = 12) := fun z => g1 (.inr ⟨g2, z⟩)
        simp [g2, g3, inI5, g4, k5]
      · have g3 : ¬ k < 4 := fun z => g1 (.inl z)
        simp [g2, g3]) ?_
    have g3 : 4 ≤ k := Classical.byContradiction fun z => g1 (.inl (by omega))
    by_cases c1 : k = 4 ∨ k = 12
    · have en : e ≠ "" := fun z => g1 (.inr ⟨z, by omega⟩)
      refine RunF.of (r' := .ok (.ret (Rw.part dd e nx m a).D) [.val (.obj (n + 8)), .val (poolsD men lands w), .val (.lst [.int x0, .int x1, .int x2, .int x3, .int x4, .int x5, .int x6, .int x7]), .val (.int dd), .val (.lst (men.map D.str)), .val (.lst (lands.map D.str)), .val (.lst ((srtS B.L.ks).map D.str)), .val (.str e), .val (.str m), .val (.lst ((free B lands).map D.str)), .val (.str nx), .val (.int ac), .val (.int a), .val (.int k), .emp, .emp] S) ?_ ⟨rfl, .part dd e nx m a, (⟨rfl, he, en, hnx, hm, a1, a2⟩ : (Rw.part dd e nx m a).fit men lands B dd), rfl⟩
      rcases c1 with rfl | rfl <;> simp [k6, Rw.D]
    have c1a : ¬ k = 4 := fun z => c1 (.inl z)
    have c1b : ¬ k = 12 := fun z => c1 (.inr z)
    refine RunF_step (σ1 := [.val (.obj (n + 8)), .val (poolsD men lands w), .val (.lst [.int x0, .int x1, .int x2, .int x3, .int x4, .int x5, .int x6, .int x7]), .val (.int dd), .val (.lst (men.map D.str)), .val (.lst (lands.map D.str)), .val (.lst ((srtS B.L.ks).map D.str)), .val (.str e), .val (.str m), .val (.lst ((free B lands).map D.str)), .val (.str nx), .val (.int ac), .val (.int a), .val (.int k), .emp, .emp]) (S1 := S) (by simp [c1a, c1b]) ?_
    by_cases c2 : k < 7
    · have en : e ≠ "" := fun z => g1 (.inr ⟨z, by omega⟩)
      refine RunF.of (r' := .ok (.ret (Rw.convey dd e m).D) [.val (.obj (n + 8)), .val (poolsD men lands w), .val (.lst [.int x0, .int x1, .int x2, .int x3, .int x4, .int x5, .int x6, .int x7]), .val (.int dd), .val (.lst (men.map D.str)), .val (.lst (lands.map D.str)), .val (.lst ((srtS B.L.ks).map D.str)), .val (.str e), .val (.str m), .val (.lst ((free B lands).map D.str)), .val (.str nx), .val (.int ac), .val (.int a), .val (.int k), .emp, .emp] S) ?_ ⟨rfl, .convey dd e m, (⟨rfl, he, en, hm⟩ : (Rw.convey dd e m).fit men lands B dd), rfl⟩
      simp [k4, c2, Rw.D]
    refine RunF_step (σ1 := [.val (.obj (n + 8)), .val (poolsD men lands w), .val (.lst [.int x0, .int x1, .int x2, .int x3, .int x4, .int x5, .int x6, .int x7]), .val (.int dd), .val (.lst (men.map D.str)), .val (.lst (lands.map D.str)), .val (.lst ((srtS B.L.ks).map D.str)), .val (.str e), .val (.str m), .val (.lst ((free B lands).map D.str)), .val (.str nx), .val (.int ac), .val (.int a), .val (.int k), .emp, .emp]) (S1 := S) (by simp [c2]) ?_
    by_cases c3 : k = 7 ∨ k = 11
    · have hot : (dLc (iLst (dVar 4)) (gN 15) lt__law_row_3 le__law_row_4 [15]) [.val (.obj (n + 8)), .val (poolsD men lands w), .val (.lst [.int x0, .int x1, .int x2, .int x3, .int x4, .int x5, .int x6, .int x7]), .val (.int dd), .val (.lst (men.map D.str)), .val (.lst (lands.map D.str)), .val (.lst ((srtS B.L.ks).map D.str)), .val (.str e), .val (.str m), .val (.lst ((free B lands).map D.str)), .val (.str nx), .val (.int ac), .val (.int a), .val (.int k), .emp, .emp] S = .ok (.lst ((men.filter fun y => !decide (y = m)).map D.str)) [.val (.obj (n + 8)), .val (poolsD men lands w), .val (.lst [.int x0, .int x1, .int x2, .int x3, .int x4, .int x5, .int x6, .int x7]), .val (.int dd), .val (.lst (men.map D.str)), .val (.lst (lands.map D.str)), .val (.lst ((srtS B.L.ks).map D.str)), .val (.str e), .val (.str m), .val (.lst ((free B lands).map D.str)), .val (.str nx), .val (.int ac), .val (.int a), .val (.int k), .emp, .emp] S := by
        refine lc_strs (l := men) (fun y => !decide (y = m)) D.str (by simp) rfl (by rw [lm]; decide) (fun y hy => ?_)
        simp [wipeD, lt__law_row_3, le__law_row_4]
      have hF : (men.filter fun y => !decide (y = m)) ≠ [] := by
        obtain ⟨y, hy, yn⟩ : ∃ y ∈ men, y ≠ m := by
          match men, lm, P.dm with
          | [a, b, c, d, e, f], _, dm =>
            by_cases z : a = m
            · refine ⟨b, by simp, fun z2 => ?_⟩
              simp only [List.nodup_cons, List.mem_cons, not_or] at dm
              exact dm.1.1 (z.trans z2.symm)
            · exact ⟨a, by simp, z⟩
        exact List.ne_nil_of_mem (List.mem_filter.mpr ⟨hy, by simp [yn]⟩)
      obtain ⟨h, hh, ph⟩ := picks (l := men.filter fun y => !decide (y = m)) x3 hF
      have hh2 := List.mem_filter.mp hh
      have hFl : 0 < (men.filter fun y => !decide (y = m)).length := List.length_pos_iff.mpr hF
      have ft : (Rw.heir dd m h).fit men lands B dd := ⟨rfl, hm, hh2.1, by simpa using hh2.2⟩
      generalize (men.filter fun y => !decide (y = m)) = FF at *
      have st1 : (sSet 14 (dLc (iLst (dVar 4)) (gN 15) lt__law_row_3 le__law_row_4 [15])) [.val (.obj (n + 8)), .val (poolsD men lands w), .val (.lst [.int x0, .int x1, .int x2, .int x3, .int x4, .int x5, .int x6, .int x7]), .val (.int dd), .val (.lst (men.map D.str)), .val (.lst (lands.map D.str)), .val (.lst ((srtS B.L.ks).map D.str)), .val (.str e), .val (.str m), .val (.lst ((free B lands).map D.str)), .val (.str nx), .val (.int ac), .val (.int a), .val (.int k), .emp, .emp] S = .ok .next [.val (.obj (n + 8)), .val (poolsD men lands w), .val (.lst [.int x0, .int x1, .int x2, .int x3, .int x4, .int x5, .int x6, .int x7]), .val (.int dd), .val (.lst (men.map D.str)), .val (.lst (lands.map D.str)), .val (.lst ((srtS B.L.ks).map D.str)), .val (.str e), .val (.str m), .val (.lst ((free B lands).map D.str)), .val (.str nx), .val (.int ac), .val (.int a), .val (.int k), .val (.lst (FF.map D.str)), .emp] S := by rw [sSet_def, dV_def, hot]; rfl
      refine RunF.of (r' := .ok (.ret (Rw.heir dd m h).D) [.val (.obj (n + 8)), .val (poolsD men lands w), .val (.lst [.int x0, .int x1, .int x2, .int x3, .int x4, .int x5, .int x6, .int x7]), .val (.int dd), .val (.lst (men.map D.str)), .val (.lst (lands.map D.str)), .val (.lst ((srtS B.L.ks).map D.str)), .val (.str e), .val (.str m), .val (.lst ((free B lands).map D.str)), .val (.str nx), .val (.int ac), .val (.int a), .val (.int k), .val (.lst (FF.map D.str)), .emp] S) ?_ ⟨rfl, .heir dd m h, ft, rfl⟩
      have st2 : (sSeq (sSet 14 (dLc (iLst (dVar 4)) (gN 15) lt__law_row_3 le__law_row_4 [15])) (sRet (dTup (aCons (dC (.str "heir")) (aCons (dVar 3) (aCons (dVar 8) (aCons (d2 opIx (dVar 14) (d2 opMod (d2 opIx (dVar 2) (dC (.int 3))) (d1 opLen (dVar 14)))) aNil))))))) [.val (.obj (n + 8)), .val (poolsD men lands w), .val (.lst [.int x0, .int x1, .int x2, .int x3, .int x4, .int x5, .int x6, .int x7]), .val (.int dd), .val (.lst (men.map D.str)), .val (.lst (lands.map D.str)), .val (.lst ((srtS B.L.ks).map D.str)), .val (.str e), .val (.str m), .val (.lst ((free B lands).map D.str)), .val (.str nx), .val (.int ac), .val (.int a), .val (.int k), .emp, .emp] S = .ok (.ret (Rw.heir dd m h).D) [.val (.obj (n + 8)), .val (poolsD men lands w), .val (.lst [.int x0, .int x1, .int x2, .int x3, .int x4, .int x5, .int x6, .int x7]), .val (.int dd), .val (.lst (men.map D.str)), .val (.lst (lands.map D.str)), .val (.lst ((srtS B.L.ks).map D.str)), .val (.str e), .val (.str m), .val (.lst ((free B lands).map D.str)), .val (.str nx), .val (.int ac), .val (.int a), .val (.int k), .val (.lst (FF.map D.str)), .emp] S := by
        rw [sSeq_next st1]
        simp [atI3', hFl, ph, k4, Rw.D]
      have st3 : (tOr (tVal (d2 opEq' (dVar 13) (dC (.int 7)))) (tVal (d2 opEq' (dVar 13) (dC (.int 11))))) [.val (.obj (n + 8)), .val (poolsD men lands w), .val (.lst [.int x0, .int x1, .int x2, .int x3, .int x4, .int x5, .int x6, .int x7]), .val (.int dd), .val (.lst (men.map D.str)), .val (.lst (lands.map D.str)), .val (.lst ((srtS B.L.ks).map D.str)), .val (.str e), .val (.str m), .val (.lst ((free B lands).map D.str)), .val (.str nx), .val (.int ac), .val (.int a), .val (.int k), .emp, .emp] S = .ok true [.val (.obj (n + 8)), .val (poolsD men lands w), .val (.lst [.int x0, .int x1, .int x2, .int x3, .int x4, .int x5, .int x6, .int x7]), .val (.int dd), .val (.lst (men.map D.str)), .val (.lst (lands.map D.str)), .val (.lst ((srtS B.L.ks).map D.str)), .val (.str e), .val (.str m), .val (.lst ((free B lands).map D.str)), .val (.str nx), .val (.int ac), .val (.int a), .val (.int k), .emp, .emp] S := by
        rcases c3 with rfl | rfl <;> simp
      rw [sSeq_def, sIf_def, st3]
      simp only [Res.bind_ok, if_true]
      rw [st2]
      rfl
    have c3a : ¬ k = 7 := fun z => c3 (.inl z)
    have c3b : ¬ k = 11 := fun z => c3 (.inr z)
    refine RunF_step (σ1 := [.val (.obj (n + 8)), .val (poolsD men lands w), .val (.lst [.int x0, .int x1, .int x2, .int x3, .int x4, .int x5, .int x6, .int x7]), .val (.int dd), .val (.lst (men.map D.str)), .val (.lst (lands.map D.str)), .val (.lst ((srtS B.L.ks).map D.str)), .val (.str e), .val (.str m), .val (.lst ((free B lands).map D.str)), .val (.str nx), .val (.int ac), .val (.int a), .val (.int k), .emp, .emp]) (S1 := S) (by simp [c3a, c3b]) ?_
    by_cases c4 : k = 8
    · obtain ⟨l, hl1, hl2, el⟩ := lord_for_ok A W hl P m0 x3
      refine RunF.of (r' := .ok (.ret (Rw.liege dd m l).D) [.val (.obj (n + 8)), .val (poolsD men lands w), .val (.lst [.int x0, .int x1, .int x2, .int x3, .int x4, .int x5, .int x6, .int x7]), .val (.int dd), .val (.lst (men.map D.str)), .val (.lst (lands.map D.str)), .val (.lst ((srtS B.L.ks).map D.str)), .val (.str e), .val (.str m), .val (.lst ((free B lands).map D.str)), .val (.str nx), .val (.int ac), .val (.int a), .val (.int k), .emp, .emp] S) ?_ ⟨rfl, .liege dd m l, (⟨rfl, hm, hl2, hl1⟩ : (Rw.liege dd m l).fit men lands B dd), rfl⟩
      simp [c4, atI3', el, k4, Rw.D]
    refine RunF_step (σ1 := [.val (.obj (n + 8)), .val (poolsD men lands w), .val (.lst [.int x0, .int x1, .int x2, .int x3, .int x4, .int x5, .int x6, .int x7]), .val (.int dd), .val (.lst (men.map D.str)), .val (.lst (lands.map D.str)), .val (.lst ((srtS B.L.ks).map D.str)), .val (.str e), .val (.str m), .val (.lst ((free B lands).map D.str)), .val (.str nx), .val (.int ac), .val (.int a), .val (.int k), .emp, .emp]) (S1 := S) (by simp [c4]) ?_
    by_cases c5 : k = 9
    · have en : e ≠ "" := fun z => g1 (.inr ⟨z, by omega⟩)
      refine RunF.of (r' := .ok (.ret (Rw.surr dd e).D) [.val (.obj (n + 8)), .val (poolsD men lands w), .val (.lst [.int x0, .int x1, .int x2, .int x3, .int x4, .int x5, .int x6, .int x7]), .val (.int dd), .val (.lst (men.map D.str)), .val (.lst (lands.map D.str)), .val (.lst ((srtS B.L.ks).map D.str)), .val (.str e), .val (.str m), .val (.lst ((free B lands).map D.str)), .val (.str nx), .val (.int ac), .val (.int a), .val (.int k), .emp, .emp] S) ?_ ⟨rfl, .surr dd e, (⟨rfl, he, en⟩ : (Rw.surr dd e).fit men lands B dd), rfl⟩
      simp [c5, k3, Rw.D]
    refine RunF.of (r' := .ok (.ret (Rw.death dd m).D) [.val (.obj (n + 8)), .val (poolsD men lands w), .val (.lst [.int x0, .int x1, .int x2, .int x3, .int x4, .int x5, .int x6, .int x7]), .val (.int dd), .val (.lst (men.map D.str)), .val (.lst (lands.map D.str)), .val (.lst ((srtS B.L.ks).map D.str)), .val (.str e), .val (.str m), .val (.lst ((free B lands).map D.str)), .val (.str nx), .val (.int ac), .val (.int a), .val (.int k), .emp, .emp] S) ?_ ⟨rfl, .death dd m, (⟨rfl, hm⟩ : (Rw.death dd m).fit men lands B dd), rfl⟩
    simp [c5, k3, Rw.D]
  obtain ⟨v, S', e, rfl, r, hr, rfl⟩ := hp.ex
  exact ⟨r, hr, e⟩
end
end MR

set_option Elab.async false
set_option linter.all false
set_option maxRecDepth 100000
set_option exponentiation.threshold 30000
/-! P19: drawn deeds on land. -/
namespace MR
open PySem
section
variable {S : Sto} {n t : Nat} {B : Bk} {tot : Int} {men lands : List Str} {w : Int} {x0 x1 x2 x3 x4 x5 x6 x7 : Int}
theorem slock_set {fe f : DE} {j : Nat} {σ : Sl} {S : Sto} {v : D} (h : dLock fe f σ S = .ok v σ S) (hv : frz v = fun σ S => .ok v σ S) : sLock fe (sSet j f) σ S = .ok .next (σ.set j (.val v)) S := by
  unfold dLock at h
  unfold sLock
  cases hp : pick fe σ S with
  | none => rw [hp] at h; cases h
  | some p =>
    obtain ⟨r, l⟩ := p
    rw [hp] at h
    dsimp only at h ⊢
    cases hf : f σ (S.set r (.con true (.dK l))) with
    | ok a σ' S' =>
      rw [hf] at h
      dsimp only [unlk] at h
      rw [sSet_def, dV_def, hf]
      dsimp only [Res.bind]
      cases ho : openAt r S' with
      | none => rw [ho] at h; cases h
      | some S2 =>
        rw [ho] at h
        cases h
        rw [hv]
        dsimp only [Res.bind, unlk]
        rw [ho]
    | exc e σ' S' => rw [hf] at h; cases h
    | fail => rw [hf] at h; cases h
theorem lands_head {r : Rw} (h : r.lands = true) : ∃ k rest, r.D = .tup (.str k :: rest) ∧ k ∉ [("heir" : Str), "liege", "death"] ∧ k ∈ [("grant" : Str), "part", "convey", "surrender"] := by
  cases r with
  | grant => exact ⟨"grant", _, rfl, by decide, by decide⟩
  | part => exact ⟨"part", _, rfl, by decide, by decide⟩
  | convey => exact ⟨"convey", _, rfl, by decide, by decide⟩
  | surr => exact ⟨"surrender", _, rfl, by decide, by decide⟩
  | _ => cases h
theorem folk_head {r : Rw} (h : r.lands = false) : ∃ d k m rest, r.D = .tup (.str k :: .int d :: .str m :: rest) ∧ k ∈ [("heir" : Str), "liege", "death"] := by
  cases r with
  | heir d m h => exact ⟨d, "heir", m, _, rfl, by simp⟩
  | liege d m h => exact ⟨d, "liege", m, _, rfl, by simp⟩
  | death d m => exact ⟨d, "death", m, _, rfl, by simp⟩
  | _ => cases h
theorem cut73 {a b c d e f g : D} : opSl (.tup [a, b, c, d, e, f, g]) none (some 3) = some (.tup [a, b, c]) := rfl
theorem cut74 {a b c d e f g : D} : opSl (.tup [a, b, c, d, e, f, g]) (some 4) none = some (.tup [e, f, g]) := rfl
theorem frz_row (r : Rw) : frz r.D = fun σ S => .ok r.D σ S := by cases r <;> rfl
theorem free_lc {f g : DE} {σ : Sl} {i : Nat} {c : DT} {e : DE} {it : DI} (hi : it σ S = .ok (lands.map D.str) σ S) (ll : lands.length = 9) (hno : noOwn σ [i] = true)
    (st : ∀ y, c ((wipeD σ [i]).set i (.val (.str y))) S = .ok (!decide (y ∈ B.known)) ((wipeD σ [i]).set i (.val (.str y))) S ∧ dV e ((wipeD σ [i]).set i (.val (.str y))) S = .ok (.str y) ((wipeD σ [i]).set i (.val (.str y))) S) : dLc it (gN i) c e [i] σ S = .ok (.lst ((free B lands).map D.str)) σ S :=
  lc_strs (l := lands) (fun x => !decide (x ∈ B.known)) D.str hi hno (by rw [ll]; decide) (fun y _ => ⟨(st y).1, fun _ => (st y).2⟩)
theorem some_deed_ok (A : BookAt S n false false B) (Z : Sound B t tot) (ht : t < 60) (P : Pools men lands w) : ∃ r : Rw, r.fit men lands B 0 ∧ r.lands = true ∧ m__law_some_deed [.obj (n + 8), poolsD men lands w, drsD x0 x1 x2 x3 x4 x5 x6 x7] S = .ok r.D S := by
  have W := Z.W
  have hlen := Z.len
  have hl : B.L.ks.length < 64 := by omega
  have k3 : 3 ≤ most := by decide
  have k7 : 7 ≤ most := by decide
  have k1 : 1 ≤ most := by decide
  have lm := P.lm
  have ll := P.ll
  obtain ⟨r0, f0, er⟩ := row_ok (x0 := x0) (x1 := x1) (x2 := x2) (x3 := x3) (x4 := x4) (x5 := x5) (x6 := x6) (x7 := x7) A Z ht P 0
  by_cases hr : r0.lands = true
  · refine ⟨r0, f0, hr, ?_⟩
    obtain ⟨k, rest, eD, nk, _⟩ := lands_head hr
    have fz := frz_row r0
    rw [eD] at er fz ⊢
    have nk2 : decide (k ∈ [("heir" : Str), "liege", "death"]) = false := decide_eq_false nk
    refine dDef_ex ?_
    simp only [drsD] at er
    have inT := inT3 (x := k) (a := "heir") (b := "liege") (c := "death")
    rw [nk2] at inT
    simp [b__law_some_deed, er, fz, inT, atI0, k3]
  · have hr : r0.lands = false := by simpa using hr
    obtain ⟨d, k, m0, rest, eD, nk⟩ := folk_head hr
    have fz := frz_row r0
    rw [eD] at er fz
    have nk2 : decide (k ∈ [("heir" : Str), "liege", "death"]) = true := decide_eq_true nk
    have inT := inT3 (x := k) (a := "heir") (b := "liege") (c := "death")
    rw [nk2] at inT
    have ek : opSorted (.lst ((enc encO B.L.lords).map fun p => kD p.1)) = some (.lst ((srtS B.L.ks).map D.str)) := by
      rw [keys_kD]
      exact sortS_eq hl
    have hcr : ("" : Str) ∈ B.L.ks := W.crk
    have es0 : srtS B.L.ks ≠ [] := List.ne_nil_of_mem (mem_srtS.mpr hcr)
    obtain ⟨e0, he0, pe0⟩ := picks (l := srtS B.L.ks) x1 es0
    have he0 := mem_srtS.mp he0
    have el : (enc encO B.L.lords).length = (srtS B.L.ks).length := by rw [enc_len, srtS_len]; exact (keys_len _).symm
    have ep : 0 < (srtS B.L.ks).length := List.length_pos_iff.mpr es0
    obtain ⟨m, hm, pm⟩ := picks (l := men) x2 (fun z => by rw [z] at lm; cases lm)
    rw [lm] at pm
    have pm : L2.atI (men.map D.str) (x2 % 6) = some (.str m) := pm
    obtain ⟨nw, hnw, pnw⟩ : ∃ y ∈ lands, L2.atI ((free B lands ++ lands).map D.str) 0 = some (.str y) := by
      obtain ⟨y, hy, ey⟩ := atIs (l := free B lands ++ lands) (i := 0) (Int.le_refl _) (by rw [List.length_append, ll]; omega)
      refine ⟨y, ?_, ey⟩
      rcases List.mem_append.mp hy with z | z
      · exact (List.mem_filter.mp z).1
      · exact z
    rw [List.map_append] at pnw
    have fl : (free B lands).length + lands.length ≤ most := by
      have : (free B lands).length ≤ lands.length := List.length_filter_le ..
      rw [ll] at this ⊢
      unfold most
      omega
    refine ⟨.grant 0 e0 nw m 1 2, ⟨rfl, .inl he0, hnw, hm, by decide, by decide, by decide, by decide⟩, rfl, ?_⟩
    have hp : Ret (m__law_some_deed [.obj (n + 8), poolsD men lands w, drsD x0 x1 x2 x3 x4 x5 x6 x7] S) (fun v S' => S' = S ∧ v = (Rw.grant 0 e0 nw m 1 2).D) := by
      unfold m__law_some_deed
      rw [ret_dDef]
      simp only [drsD] at er
      show RunF (b__law_some_deed [.val (.obj (n + 8)), .val (poolsD men lands w), .val (drsD x0 x1 x2 x3 x4 x5 x6 x7), .emp, .emp, .emp] S) _
      unfold b__law_some_deed
      refine RunF_step (σ1 := [.val (.obj (n + 8)), .val (poolsD men lands w), .val (drsD x0 x1 x2 x3 x4 x5 x6 x7), .val (.tup (.str k :: .int d :: .str m0 :: rest)), .emp, .emp]) (S1 := S) (by simp [er, fz]) ?_
      have st1 : (sSet 3 (dTup (aCons (dC (.str "grant")) (aCons (dC (.int 0)) (aCons (d2 opIx (d1 opSorted (d1 opListA (d2 opGet (dVar 0) (dC (.str "lords"))))) (d2 opMod (d2 opIx (dVar 2) (dC (.int 1))) (d1 opLen (d2 opGet (dVar 0) (dC (.str "lords")))))) (aCons (d2 opIx (dVar 3) (dC (.int 2))) (aCons (d2 opIx (d2 opIx (dVar 1) (dC (.int 0))) (d2 opMod (d2 opIx (dVar 2) (dC (.int 2))) (dC (.int 6)))) (aCons (dC (.int 1)) (aCons (dC (.int 2)) aNil))))))))) [.val (.obj (n + 8)), .val (poolsD men lands w), .val (drsD x0 x1 x2 x3 x4 x5 x6 x7), .val (.tup (.str k :: .int d :: .str m0 :: rest)), .emp, .emp] S = .ok .next [.val (.obj (n + 8)), .val (poolsD men lands w), .val (drsD x0 x1 x2 x3 x4 x5 x6 x7), .val (.tup [.str "grant", .int 0, .str e0, .str m0, .str m, .int 1, .int 2]), .emp, .emp] S := by
        simp [A.d8, A.d0, bk0, ek, el, atI0, atI1, atI2, pe0, ep, pm, k7]
      have st2 : (sSet 4 (dLc (iLst (d2 opIx (dVar 1) (dC (.int 1)))) (gN 5) lt__law_some_deed_1 le__law_some_deed_2 [5])) [.val (.obj (n + 8)), .val (poolsD men lands w), .val (drsD x0 x1 x2 x3 x4 x5 x6 x7), .val (.tup [.str "grant", .int 0, .str e0, .str m0, .str m, .int 1, .int 2]), .emp, .emp] S = .ok .next [.val (.obj (n + 8)), .val (poolsD men lands w), .val (drsD x0 x1 x2 x3 x4 x5 x6 x7), .val (.tup [.str "grant", .int 0, .str e0, .str m0, .str m, .int 1, .int 2]), .val (.lst ((free B lands).map D.str)), .emp] S := by
        rw [sSet_def, dV_def, free_lc (f := dVar 0) (g := dVar 0) (B := B) (by simp [atI1]) ll rfl (fun y => by simp [wipeD, lt__law_some_deed_1, le__law_some_deed_2, A.d8, A.d4, bk4, opNotIn_strs])]
        rfl
      have st3 : (sSet 3 (d2 opAdd (d2 opAdd (dSl (dVar 3) oNone (oSome (dC (.int 3)))) (dTup (aCons (d2 opIx (d2 opAdd (dVar 4) (d2 opIx (dVar 1) (dC (.int 1)))) (dC (.int 0))) aNil))) (dSl (dVar 3) (oSome (dC (.int 4))) oNone))) [.val (.obj (n + 8)), .val (poolsD men lands w), .val (drsD x0 x1 x2 x3 x4 x5 x6 x7), .val (.tup [.str "grant", .int 0, .str e0, .str m0, .str m, .int 1, .int 2]), .val (.lst ((free B lands).map D.str)), .emp] S = .ok .next [.val (.obj (n + 8)), .val (poolsD men lands w), .val (drsD x0 x1 x2 x3 x4 x5 x6 x7), .val (Rw.grant 0 e0 nw m 1 2).D, .val (.lst ((free B lands).map D.str)), .emp] S := by
        have k31 : 3 + 1 ≤ most := by decide
        have k43 : 4 + 3 ≤ most := by decide
        have k44 : 4 ≤ most := by decide
        simp [cut73, cut74, atI1, fl, pnw, k1, k3, k31, k43, k44, k7, Rw.D]
      refine RunF_step (σ1 := [.val (.obj (n + 8)), .val (poolsD men lands w), .val (drsD x0 x1 x2 x3 x4 x5 x6 x7), .val (Rw.grant 0 e0 nw m 1 2).D, .val (.lst ((free B lands).map D.str)), .emp]) (S1 := S) ?_ ?_
      · have tst : (tVal (d2 opInG (d2 opIx (dVar 3) (dC (.int 0))) (dTup (aCons (dC (.str "heir")) (aCons (dC (.str "liege")) (aCons (dC (.str "death")) aNil)))))) [.val (.obj (n + 8)), .val (poolsD men lands w), .val (drsD x0 x1 x2 x3 x4 x5 x6 x7), .val (.tup (.str k :: .int d :: .str m0 :: rest)), .emp, .emp] S = .ok true [.val (.obj (n + 8)), .val (poolsD men lands w), .val (drsD x0 x1 x2 x3 x4 x5 x6 x7), .val (.tup (.str k :: .int d :: .str m0 :: rest)), .emp, .emp] S := by
          simp [atI0, inT, k3]
        rw [sIf_def, tst]
        simp only [Res.bind_ok, if_true]
        rw [sSeq_next st1, sSeq_next st2, st3]
      · simp [Rw.D]
    obtain ⟨v, S', e, rfl, rfl⟩ := hp.ex
    exact e
end
end MR

set_option Elab.async false
set_option linter.all false
set_option maxRecDepth 100000
set_option exponentiation.threshold 30000
/-! P20: a steered deed. -/
namespace MR
open PySem
theorem eq_nil {l : List Str} (hs : ∀ x ∈ l, PyData.strOk x = true) : opEq' (.lst (l.map D.str)) (.lst []) = some (.bl (decide (l = []))) := by
  cases l with
  | nil => exact opEq_self (n := 1) rfl (by decide)
  | cons x l =>
    rw [opEq_ne (n := 1) (m := 1) (gr_strs hs) rfl (by decide) (by decide) (by intro z; cases z)]
    rfl
section
variable {S : Sto} {n t : Nat} {B : Bk} {tot : Int} {men lands kk : List Str} {w : Int} {x0 x1 x2 x3 x4 x5 x6 x7 : Int}
theorem steered_ok (A : BookAt S n false false B) (Z : Sound B t tot) (ht : t < 60) (P : Pools men lands w) (h0 : kk ≠ []) : ∃ r : Rw, r.fit men lands B 0 ∧ r.lands = true ∧ m__law_steered [.obj (n + 8), poolsD men lands w, drsD x0 x1 x2 x3 x4 x5 x6 x7, .lst (kk.map D.str)] S = .ok r.D S := by
  have W := Z.W
  have C := A.lockL true
  have hlen := Z.len
  have hl : B.L.ks.length < 64 := by omega
  have k0 : 0 ≤ most := by decide
  have k3 : 3 ≤ most := by decide
  have k4 : 4 ≤ most := by decide
  have k6 : 6 ≤ most := by decide
  have k1 : 1 ≤ most := by decide
  have lm := P.lm
  have ll := P.ll
  obtain ⟨r0, f0, l0, er⟩ := some_deed_ok (x0 := x0) (x1 := x1) (x2 := x2) (x3 := x3) (x4 := x4) (x5 := x5) (x6 := x6) (x7 := x7) A Z ht P
  obtain ⟨k, rest, eD, _, hk4⟩ := lands_head l0
  have fz := frz_row r0
  obtain ⟨m, hm, pm⟩ := picks (l := men) x2 (fun z => by rw [z] at lm; cases lm)
  rw [lm] at pm
  have pm : L2.atI (men.map D.str) (x2 % 6) = some (.str m) := pm
  obtain ⟨kd, _, pkd⟩ := picks (l := kk) x0 h0
  have kkp : 0 < kk.length := List.length_pos_iff.mpr h0
  obtain ⟨ot, eot⟩ : ∃ ot : List Str, ot = B.L.ks.filter fun k => decide (k ≠ ("" : Str)) := ⟨_, rfl⟩
  have mot : ∀ x ∈ ot, x ∈ B.L.ks ∧ x ≠ "" := fun x hx => by
    rw [eot] at hx
    have := List.mem_filter.mp hx
    exact ⟨this.1, by simpa using this.2⟩
  have sot := eq_nil (l := ot) fun x hx => W.sk x (mot x hx).1
  have lot : ot.length < 64 := by rw [eot]; exact Nat.lt_of_le_of_lt (List.length_filter_le ..) hl
  have sfr := ne_nil (l := free B lands) fun x hx => nm_ok (P.nl x (List.mem_filter.mp hx).1)
  have hll : B.L.lords.length < 64 := (W.lens hl).l
  simp only [drsD] at er

  have hp : Ret (m__law_steered [.obj (n + 8), poolsD men lands w, drsD x0 x1 x2 x3 x4 x5 x6 x7, .lst (kk.map D.str)] S) (fun v S' => S' = S ∧ ∃ r : Rw, r.fit men lands B 0 ∧ r.lands = true ∧ v = r.D) := by
    unfold m__law_steered
    rw [ret_dDef]
    show RunF (b__law_steered [.val (.obj (n + 8)), .val (poolsD men lands w), .val (drsD x0 x1 x2 x3 x4 x5 x6 x7), .val (.lst (kk.map D.str)), .emp, .emp, .emp, .emp, .emp, .emp] S) _
    unfold b__law_steered
    refine RunF_step (σ1 := [.val (.obj (n + 8)), .val (poolsD men lands w), .val (drsD x0 x1 x2 x3 x4 x5 x6 x7), .val (.lst (kk.map D.str)), .val (.lst ((free B lands).map D.str)), .emp, .emp, .emp, .emp, .emp]) (S1 := S) (by
      rw [sSet_def, dV_def, free_lc (f := dVar 0) (g := dVar 0) (B := B) (by simp [atI1]) ll rfl (fun y => by simp [wipeD, lt__law_steered_1, le__law_steered_2, A.d8, A.d4, bk4, opNotIn_strs])]
      rfl) ?_
    have key := lock_keys (fe := MR.d2 opGet (dVar 0) (dC (.str "lords"))) (i := 9) (c := lt__law_steered_3) (σ := [.val (.obj (n + 8)), .val (poolsD men lands w), .val (drsD x0 x1 x2 x3 x4 x5 x6 x7), .val (.lst (kk.map D.str)), .val (.lst ((free B lands).map D.str)), .emp, .emp, .emp, .emp, .emp]) (fun k => decide (k ≠ ("" : Str))) A.c0 (by simp [A.d8, bk0]) (by simp [C.d8, bk0]) rfl (by simp) (by unfold most; omega) (by
      intro k hk
      simp [wipeD, lt__law_steered_3])
    have key : dLock (MR.d2 opGet (dVar 0) (dC (.str "lords"))) (dLc (iKeysD (MR.d2 opGet (dVar 0) (dC (.str "lords")))) (gN 9) lt__law_steered_3 le__law_steered_4 [9]) [.val (.obj (n + 8)), .val (poolsD men lands w), .val (drsD x0 x1 x2 x3 x4 x5 x6 x7), .val (.lst (kk.map D.str)), .val (.lst ((free B lands).map D.str)), .emp, .emp, .emp, .emp, .emp] S = .ok (.lst (ot.map D.str)) [.val (.obj (n + 8)), .val (poolsD men lands w), .val (drsD x0 x1 x2 x3 x4 x5 x6 x7), .val (.lst (kk.map D.str)), .val (.lst ((free B lands).map D.str)), .emp, .emp, .emp, .emp, .emp] S := by rw [eot]; exact key
    refine RunF_step (σ1 := [.val (.obj (n + 8)), .val (poolsD men lands w), .val (drsD x0 x1 x2 x3 x4 x5 x6 x7), .val (.lst (kk.map D.str)), .val (.lst ((free B lands).map D.str)), .val (.lst (ot.map D.str)), .emp, .emp, .emp, .emp]) (S1 := S) (slock_set key rfl) ?_
    clear key
    refine RunF_step (σ1 := [.val (.obj (n + 8)), .val (poolsD men lands w), .val (drsD x0 x1 x2 x3 x4 x5 x6 x7), .val (.lst (kk.map D.str)), .val (.lst ((free B lands).map D.str)), .val (.lst (ot.map D.str)), .val r0.D, .emp, .emp, .emp]) (S1 := S) (by simp [er, fz]) ?_
    by_cases c1 : k ∈ kk ∨ ot = []
    · refine RunF.of (r' := .ok (.ret r0.D) [.val (.obj (n + 8)), .val (poolsD men lands w), .val (drsD x0 x1 x2 x3 x4 x5 x6 x7), .val (.lst (kk.map D.str)), .val (.lst ((free B lands).map D.str)), .val (.lst (ot.map D.str)), .val r0.D, .emp, .emp, .emp] S) ?_ ⟨rfl, r0, f0, l0, rfl⟩
      rw [eD] at fz ⊢
      have ink := opIn_strs k kk
      by_cases c2 : k ∈ kk
      · rw [decide_eq_true c2] at ink
        simp [atI0, ink, fz]
      · have c3 := c1.resolve_left c2
        rw [decide_eq_false c2] at ink
        rw [decide_eq_true c3] at sot
        simp [atI0, ink, sot, fz, k0]
    have c2 : k ∉ kk := fun z => c1 (.inl z)
    have c3 : ot ≠ [] := fun z => c1 (.inr z)
    refine RunF_step (σ1 := [.val (.obj (n + 8)), .val (poolsD men lands w), .val (drsD x0 x1 x2 x3 x4 x5 x6 x7), .val (.lst (kk.map D.str)), .val (.lst ((free B lands).map D.str)), .val (.lst (ot.map D.str)), .val r0.D, .emp, .emp, .emp]) (S1 := S) (by
      have ink := opIn_strs k kk
      rw [decide_eq_false c2] at ink
      rw [decide_eq_false c3] at sot
      rw [eD]
      simp [atI0, ink, sot, k0]) ?_
    obtain ⟨e, he, pe⟩ := picks (l := ot) x1 c3
    have otp : 0 < ot.length := List.length_pos_iff.mpr c3
    obtain ⟨he1, en⟩ := mot e he
    refine RunF_step (σ1 := [.val (.obj (n + 8)), .val (poolsD men lands w), .val (drsD x0 x1 x2 x3 x4 x5 x6 x7), .val (.lst (kk.map D.str)), .val (.lst ((free B lands).map D.str)), .val (.lst (ot.map D.str)), .val r0.D, .val (.str e), .emp, .emp]) (S1 := S) (by simp [atI1, pe, otp]) ?_
    refine RunF_step (σ1 := [.val (.obj (n + 8)), .val (poolsD men lands w), .val (drsD x0 x1 x2 x3 x4 x5 x6 x7), .val (.lst (kk.map D.str)), .val (.lst ((free B lands).map D.str)), .val (.lst (ot.map D.str)), .val r0.D, .val (.str e), .val (.str m), .emp]) (S1 := S) (by simp [atI0, atI2, pm]) ?_
    obtain ⟨o, ho⟩ := Option.isSome_iff_exists.mp (aval_some_iff.mpr (show e ∈ keys B.L.own by rw [W.ko]; exact he1))
    have hac : B.L.ac e = o := by unfold Ld.ac; rw [ho]; rfl
    have ac0 := Z.N.ac0 e
    have ac1 : o ≤ 9999 := by
      have tt := Z.tt
      have b1 := Z.N.br_le W (e := e)
      have b2 := Z.N.br_ge W he1
      omega
    have q2 : (0 : Int) < (if 1 < o then o else 1) := by split <;> omega
    have u3 : (if 1 < o then o else 1) ≤ 9999 := by split <;> omega
    have u1 := Int.emod_nonneg x4 (show (if 1 < o then o else 1) ≠ 0 by omega)
    have u2 := Int.emod_lt_of_pos x4 q2
    by_cases c4 : kd = "part" ∧ free B lands ≠ []
    · obtain ⟨nw, hnw, pnw⟩ := atIs (l := free B lands) (i := 0) (Int.le_refl _) (by have := List.length_pos_iff.mpr c4.2; omega)
      have hnw2 := (List.mem_filter.mp hnw).1
      refine RunF.of (r' := .ok (.ret (Rw.part 0 e nw m (1 + x4 % (if 1 < o then o else 1))).D) [.val (.obj (n + 8)), .val (poolsD men lands w), .val (drsD x0 x1 x2 x3 x4 x5 x6 x7), .val (.lst (kk.map D.str)), .val (.lst ((free B lands).map D.str)), .val (.lst (ot.map D.str)), .val r0.D, .val (.str e), .val (.str m), .emp] S) ?_ ⟨rfl, .part 0 e nw m (1 + x4 % (if 1 < o then o else 1)), ⟨rfl, .inl he1, en, hnw2, hm, by generalize (if 1 < o then o else 1) = q at *; omega, by generalize (if 1 < o then o else 1) = q at *; omega⟩, rfl, rfl⟩
      rw [decide_eq_true c4.2] at sfr
      rw [c4.1] at pkd
      simp [atI0, atI4, pkd, kkp, sfr, k0, k6, pnw, A.d8, A.d2, bk2, ho, q2, Rw.D]
    refine RunF_step (σ1 := [.val (.obj (n + 8)), .val (poolsD men lands w), .val (drsD x0 x1 x2 x3 x4 x5 x6 x7), .val (.lst (kk.map D.str)), .val (.lst ((free B lands).map D.str)), .val (.lst (ot.map D.str)), .val r0.D, .val (.str e), .val (.str m), .emp]) (S1 := S) (by
      by_cases c5 : kd = "part"
      · have c6 : free B lands = [] := Classical.byContradiction fun z => c4 ⟨c5, z⟩
        rw [decide_eq_false (fun z : free B lands ≠ [] => z c6)] at sfr
        rw [c5] at pkd
        simp [atI0, pkd, kkp, sfr, k0]
      · simp [atI0, pkd, kkp, c5]) ?_
    by_cases c5 : kd = "convey"
    · refine RunF.of (r' := .ok (.ret (Rw.convey 0 e m).D) [.val (.obj (n + 8)), .val (poolsD men lands w), .val (drsD x0 x1 x2 x3 x4 x5 x6 x7), .val (.lst (kk.map D.str)), .val (.lst ((free B lands).map D.str)), .val (.lst (ot.map D.str)), .val r0.D, .val (.str e), .val (.str m), .emp] S) ?_ ⟨rfl, .convey 0 e m, ⟨rfl, .inl he1, en, hm⟩, rfl, rfl⟩
      simp [atI0, pkd, kkp, c5, k4, Rw.D]
    refine RunF_step (σ1 := [.val (.obj (n + 8)), .val (poolsD men lands w), .val (drsD x0 x1 x2 x3 x4 x5 x6 x7), .val (.lst (kk.map D.str)), .val (.lst ((free B lands).map D.str)), .val (.lst (ot.map D.str)), .val r0.D, .val (.str e), .val (.str m), .emp]) (S1 := S) (by simp [atI0, pkd, kkp, c5]) ?_
    by_cases c6 : kd = "surrender"
    · refine RunF.of (r' := .ok (.ret (Rw.surr 0 e).D) [.val (.obj (n + 8)), .val (poolsD men lands w), .val (drsD x0 x1 x2 x3 x4 x5 x6 x7), .val (.lst (kk.map D.str)), .val (.lst ((free B lands).map D.str)), .val (.lst (ot.map D.str)), .val r0.D, .val (.str e), .val (.str m), .emp] S) ?_ ⟨rfl, .surr 0 e, ⟨rfl, .inl he1, en⟩, rfl, rfl⟩
      simp [atI0, pkd, kkp, c6, k3, Rw.D]
    refine RunF_step (σ1 := [.val (.obj (n + 8)), .val (poolsD men lands w), .val (drsD x0 x1 x2 x3 x4 x5 x6 x7), .val (.lst (kk.map D.str)), .val (.lst ((free B lands).map D.str)), .val (.lst (ot.map D.str)), .val r0.D, .val (.str e), .val (.str m), .emp]) (S1 := S) (by simp [atI0, pkd, kkp, c6]) ?_
    refine RunF.of (r' := .ok (.ret r0.D) [.val (.obj (n + 8)), .val (poolsD men lands w), .val (drsD x0 x1 x2 x3 x4 x5 x6 x7), .val (.lst (kk.map D.str)), .val (.lst ((free B lands).map D.str)), .val (.lst (ot.map D.str)), .val r0.D, .val (.str e), .val (.str m), .emp] S) ?_ ⟨rfl, r0, f0, l0, rfl⟩
    simp [fz]
  obtain ⟨v, S', e, rfl, r, hr, hr2, rfl⟩ := hp.ex
  exact ⟨r, hr, hr2, e⟩
end
end MR

set_option Elab.async false
set_option linter.all false
set_option maxRecDepth 100000
set_option exponentiation.threshold 30000
/-! P21: deeds played on a Land and on the law's book together. -/
namespace MR
open PySem
theorem ranGet {n : Nat} {i : Nat} {d : D} (hi : (ran 0 (n : Int))[i]? = some d) : i < n ∧ d = .int (i : Nat) := by
  have hin : i < n := by
    have := (List.getElem?_eq_some_iff.mp hi).1
    simp [ran] at this
    omega
  refine ⟨hin, ?_⟩
  unfold ran at hi
  rw [List.getElem?_map] at hi
  obtain ⟨k, hk, rfl⟩ := Option.map_eq_some_iff.mp hi
  rw [List.getElem?_range (by omega)] at hk
  cases hk
  simp
theorem ran_len (n : Nat) : (ran 0 (n : Int)).length = n := by simp [ran]
section
variable {S S' : Sto} {r a b c d n t : Nat} {B : Bk} {L : Ld} {tot : Int} {men lands kk : List Str} {w : Int}
theorem LandAt.off (A : LandAt S r a b c d false false L) {fp : List Nat} (o : Off fp S S') (h : ∀ i ∈ [r, a, b, c, d], i ∉ fp) : LandAt S' r a b c d false false L :=
  ⟨by rw [o.off _ (h _ (by simp))]; exact A.o, by rw [o.off _ (h _ (by simp))]; exact A.l, by rw [o.off _ (h _ (by simp))]; exact A.h, by rw [o.off _ (h _ (by simp))]; exact A.w, by rw [o.off _ (h _ (by simp))]; exact A.s, A.nd⟩
theorem BookAt.off (A : BookAt S n false false B) {fp : List Nat} (o : Off fp S S') (h : ∀ i ∈ fp9 n, i ∉ fp) : BookAt S' n false false B :=
  ⟨by rw [o.off _ (h _ (by simp))]; exact A.c0, by rw [o.off _ (h _ (by simp))]; exact A.c1, by rw [o.off _ (h _ (by simp))]; exact A.c2, by rw [o.off _ (h _ (by simp))]; exact A.c3, by rw [o.off _ (h _ (by simp))]; exact A.c4, by rw [o.off _ (h _ (by simp))]; exact A.c5, by rw [o.off _ (h _ (by simp))]; exact A.c6, by rw [o.off _ (h _ (by simp))]; exact A.c7, by rw [o.off _ (h _ (by simp))]; exact A.c8⟩
structure Wrld (S : Sto) (r a b c d n : Nat) (B : Bk) (t : Nat) (tot : Int) : Prop where
  A : LandAt S r a b c d false false B.L
  K : BookAt S n false false B
  Z : Sound B t tot
  dis : ∀ i ∈ [r, a, b, c, d], i ∉ fp9 n
theorem fit_ok {rw_ : Rw} {dd : Int} (P : Pools men lands w) (f : rw_.fit men lands B dd) (h : rw_.lands = true) : rw_.ok := by
  cases rw_ with
  | grant d e nw m x s =>
    obtain ⟨_, _, h1, h2, h3, h4, h5, h6⟩ := f
    exact ⟨nm_ne (P.nl _ h1), nm_ok (P.nl _ h1), nm_ok (P.nm _ h2), h3, h5, by omega⟩
  | part d e nw m x =>
    obtain ⟨_, _, h0, h1, h2, h3, h4⟩ := f
    exact ⟨h0, nm_ne (P.nl _ h1), nm_ok (P.nl _ h1), nm_ok (P.nm _ h2), h3⟩
  | convey d e m =>
    obtain ⟨_, _, h0, h1⟩ := f
    exact ⟨h0, nm_ok (P.nm _ h1)⟩
  | surr d e =>
    obtain ⟨_, _, h0⟩ := f
    exact ⟨h0⟩
  | _ => cases h
theorem eight {ds : List Int} (h : ds.length = 8) : ∃ x0 x1 x2 x3 x4 x5 x6 x7, ds.map D.int = [.int x0, .int x1, .int x2, .int x3, .int x4, .int x5, .int x6, .int x7] := by
  match ds, h with
  | [x0, x1, x2, x3, x4, x5, x6, x7], _ => exact ⟨x0, x1, x2, x3, x4, x5, x6, x7, rfl⟩
theorem Sound.up (Z : Sound B t tot) : Sound B (t + 1) tot := ⟨Z.W, Z.N.mono (by omega), by have := Z.len; omega, Z.kn, by have := Z.kl; omega, Z.tt⟩
theorem Sound.upTo (Z : Sound B t tot) {t' : Nat} (h : t ≤ t') : Sound B t' tot := ⟨Z.W, Z.N.mono (by omega), by have := Z.len; omega, Z.kn, by have := Z.kl; omega, Z.tt⟩
theorem play1 (J : Bk → Prop) (hJ : ∀ (B : Bk) (q : Rw), J B → q.fit men lands B 0 → q.lands = true → q.ok → B.why q = "stands" → J (B.actL q)) (j : J B) (X : Wrld S r a b c d n B t tot) (P : Pools men lands w) (h0 : kk ≠ []) (ht : t < 59) {fs : List Int} (hg : Good fs) {at_ i : Nat} (hf : at_ + 8 * i + 8 ≤ fs.length) (hs : fs.length ≤ 10000) {s5 s8 : Slot} :
    ∃ S' B' u8, fb__law_played_1 [.val (.obj r), .val (.obj (n + 8)), .val (poolsD men lands w), .val (.lst (fs.map D.int)), .val (.int (at_ : Nat)), s5, .val (.lst (kk.map D.str)), .val (.int (i : Nat)), s8] S = .ok .next [.val (.obj r), .val (.obj (n + 8)), .val (poolsD men lands w), .val (.lst (fs.map D.int)), .val (.int (at_ : Nat)), s5, .val (.lst (kk.map D.str)), .val (.int (i : Nat)), u8] S' ∧ Wrld S' r a b c d n B' (t + 1) tot ∧ Off ([a, b, c, d] ++ fp9 n) S S' ∧ J B' := by
  have hlen := X.Z.len
  obtain ⟨ds, c1, l1, g1⟩ := cut_ok hg (at_ + 8 * i) (at_ + 8 * i + 8) (by omega) (by omega)
  have c1 : cutL (fs.map D.int) (some ((at_ : Int) + 8 * (i : Int))) (some ((at_ : Int) + 8 * (i : Int) + 8)) = ds.map D.int := by
    rw [← c1]; congr 2
  obtain ⟨x0, x1, x2, x3, x4, x5, x6, x7, e8⟩ := eight (by omega : ds.length = 8)
  rw [e8] at c1
  have m8 : mulOk 8 (i : Int) := mulS ⟨by omega, by omega⟩ ⟨by omega, by omega⟩
  obtain ⟨rw_, fit, hl, es⟩ := steered_ok (x0 := x0) (x1 := x1) (x2 := x2) (x3 := x3) (x4 := x4) (x5 := x5) (x6 := x6) (x7 := x7) X.K X.Z (by omega) P h0
  simp only [drsD] at es
  have ok := fit_ok P fit hl
  have lb := let_by_eq X.K X.Z.W (by omega) rw_
  rw [hl, Bool.true_and] at lb
  have fz := frz_row rw_
  have k8 : 8 ≤ most := by decide
  have st1 : (sSet 8 (dCall m__law_steered (aCons (dVar 1) (aCons (dVar 2) (aCons (dSl (dVar 3) (oSome (d2 opAdd (dVar 4) (d2 opMul' (dC (.int 8)) (dVar 7)))) (oSome (d2 opAdd (d2 opAdd (dVar 4) (d2 opMul' (dC (.int 8)) (dVar 7))) (dC (.int 8))))) (aCons (dVar 6) aNil)))))) [.val (.obj r), .val (.obj (n + 8)), .val (poolsD men lands w), .val (.lst (fs.map D.int)), .val (.int (at_ : Nat)), s5, .val (.lst (kk.map D.str)), .val (.int (i : Nat)), s8] S = .ok .next [.val (.obj r), .val (.obj (n + 8)), .val (poolsD men lands w), .val (.lst (fs.map D.int)), .val (.int (at_ : Nat)), s5, .val (.lst (kk.map D.str)), .val (.int (i : Nat)), .val rw_.D] S := by
    simp [m8, c1, es, fz, k8]
  by_cases hw : B.why rw_ = "stands"
  · rw [decide_eq_true hw] at lb
    obtain ⟨v, S1, e1, rfl, A1, o1⟩ := (land_do_ok X.A X.Z (by omega) hl ok hw).ex
    have K1 : BookAt S1 n false false B := X.K.off o1 (fun i hi z => X.dis i (List.mem_cons_of_mem _ z) hi)
    obtain ⟨v2, S2, e2, rfl, K2, o2⟩ := (ldo_ok K1 X.Z (by omega) hl ok hw).ex
    have A2 : LandAt S2 r a b c d false false (B.L.act rw_) := A1.off o2 X.dis
    refine ⟨S2, B.actL rw_, .val rw_.D, ?_, ⟨A2, K2, X.Z.act hl ok hw (by omega), X.dis⟩, (o1.mono (by simp)).trans (o2.mono (by simp)), hJ _ _ j fit hl ok hw⟩
    unfold fb__law_played_1
    rw [sSeq_next st1]
    simp [lb, fz, e1, e2]
  · rw [decide_eq_false hw] at lb
    refine ⟨S, B, .val rw_.D, ?_, ⟨X.A, X.K, X.Z.up, X.dis⟩, Off.refl, j⟩
    unfold fb__law_played_1
    rw [sSeq_next st1]
    simp [lb, fz]
theorem played_end {p0 p1 p2 p3 p4 p6 : D} {m : Int} {u7 u8 : Slot} (sm : small m) (e : forL (gN 7) fb__law_played_1 (ran 0 m) [.val p0, .val p1, .val p2, .val p3, .val p4, .val (.int m), .val p6, .emp, .emp] S = .ok .next [.val p0, .val p1, .val p2, .val p3, .val p4, .val (.int m), .val p6, u7, u8] S') :
    m__law_played [p0, p1, p2, p3, p4, .int m, p6] S = .ok (.bl true) S' := by
  refine dDef_ret (σ' := [.val p0, .val p1, .val p2, .val p3, .val p4, .val (.int m), .val p6, u7, u8]) ?_
  simp [b__law_played, sm, e]
theorem played_inv (J : Bk → Prop) (hJ : ∀ (B : Bk) (q : Rw), J B → q.fit men lands B 0 → q.lands = true → q.ok → B.why q = "stands" → J (B.actL q)) (j : J B) (X : Wrld S r a b c d n B t tot) (P : Pools men lands w) (h0 : kk ≠ []) {N : Nat} (hN : N ≤ 40) (ht : t + N < 59) {fs : List Int} (hg : Good fs) {at_ : Nat} (hf : at_ + 8 * N ≤ fs.length) (hs : fs.length ≤ 10000) :
    ∃ S' B', m__law_played [.obj r, .obj (n + 8), poolsD men lands w, .lst (fs.map D.int), .int (at_ : Nat), .int (N : Nat), .lst (kk.map D.str)] S = .ok (.bl true) S' ∧ Wrld S' r a b c d n B' (t + N) tot ∧ Off ([a, b, c, d] ++ fp9 n) S S' ∧ J B' := by
  obtain ⟨σ', S', e, B', u7, u8, rfl, X', o', j'⟩ := forL_inv (g := gN 7) (f := fb__law_played_1) (fun i σ S' => ∃ B' s7 s8, σ = [.val (.obj r), .val (.obj (n + 8)), .val (poolsD men lands w), .val (.lst (fs.map D.int)), .val (.int (at_ : Nat)), .val (.int (N : Nat)), .val (.lst (kk.map D.str)), s7, s8] ∧ Wrld S' r a b c d n B' (t + i) tot ∧ Off ([a, b, c, d] ++ fp9 n) S S' ∧ J B') (ran 0 (N : Int)) 0 [.val (.obj r), .val (.obj (n + 8)), .val (poolsD men lands w), .val (.lst (fs.map D.int)), .val (.int (at_ : Nat)), .val (.int (N : Nat)), .val (.lst (kk.map D.str)), .emp, .emp] S ⟨B, .emp, .emp, rfl, X, Off.refl, j⟩ (by
    rintro i d' σ S1 hi ⟨B1, s7, s8, rfl, X1, o1, j1⟩
    obtain ⟨hiN, rfl⟩ := ranGet hi
    rw [Nat.zero_add] at X1 ⊢
    obtain ⟨S2, B2, u8, e2, X2, o2, j2⟩ := play1 J hJ j1 X1 P h0 (by omega) hg (at_ := at_) (i := i) (by omega) hs (s5 := .val (.int (N : Nat))) (s8 := s8)
    exact ⟨_, rfl, _, S2, e2, B2, _, u8, rfl, X2, o1.trans o2, j2⟩)
  rw [Nat.zero_add, ran_len] at X'
  refine ⟨S', B', ?_, X', o', j'⟩
  exact played_end ⟨by omega, by omega⟩ e
theorem played_ok (X : Wrld S r a b c d n B t tot) (P : Pools men lands w) (h0 : kk ≠ []) {N : Nat} (hN : N ≤ 40) (ht : t + N < 59) {fs : List Int} (hg : Good fs) {at_ : Nat} (hf : at_ + 8 * N ≤ fs.length) (hs : fs.length ≤ 10000) :
    ∃ S' B', m__law_played [.obj r, .obj (n + 8), poolsD men lands w, .lst (fs.map D.int), .int (at_ : Nat), .int (N : Nat), .lst (kk.map D.str)] S = .ok (.bl true) S' ∧ Wrld S' r a b c d n B' (t + N) tot ∧ Off ([a, b, c, d] ++ fp9 n) S S' := by
  obtain ⟨S', B', h1, h2, h3, _⟩ := played_inv (fun _ => True) (fun _ _ _ _ _ _ _ => trivial) trivial X P h0 hN ht hg hf hs
  exact ⟨S', B', h1, h2, h3⟩
end
end MR

set_option Elab.async false
set_option linter.all false
set_option maxRecDepth 100000
set_option exponentiation.threshold 30000
/-! P22: a Land and a book that are made. -/
namespace MR
open PySem
def L0 (w : Int) : Ld := ⟨[("", none)], [("", "")], [("", w)], [("", (0, 1))]⟩
def B0 (w : Int) : Bk := ⟨L0 w, [], [], [], []⟩
def landC (k : Nat) (w : Int) : Sto := [.ins "Land" [("lords", .obj (k + 1)), ("holders", .obj (k + 2)), ("acres_of", .obj (k + 3)), ("services", .obj (k + 4))], .con false (.dK [(.inr "", .non)]), .con false (.dK [(.inr "", .str "")]), .con false (.dK [(.inr "", .int w)]), .con false (.dK [(.inr "", .tup [.int 0, .int 1])])]
def bookC9 (k : Nat) (w : Int) : Sto := [.con false (.dK [(.inr "", .non)]), .con false (.dK [(.inr "", .str "")]), .con false (.dK [(.inr "", .int w)]), .con false (.dK [(.inr "", .tup [.int 0, .int 1])]), .con false (.lst []), .con false (.dK []), .con false (.lst []), .con false (.dK [])]
theorem land_init {w : Int} (h1 : 1 ≤ w) (h2 : w ≤ 9999) (S : Sto) : m_Land___init__ [.obj S.length, .int w] (S ++ [.ins "Land" []]) = .ok .non (S ++ landC S.length w) := by
  refine dDef_next (σ' := [.val (.obj S.length), .val (.int w)]) ?_
  have p : ∀ (k : Kk) (w : D), putD ([] : List (Kk × D)) k w = [(k, w)] := fun _ _ => rfl
  have g1 : ∀ (o : Ob) (X : Sto), (S ++ o :: X)[S.length]? = some o := fun o X => by simp
  have g2 : ∀ (o o' : Ob) (X : Sto), (S ++ o :: X).set S.length o' = S ++ o' :: X := fun o o' X => by simp
  simp [b_Land___init__, h1, h2, p, objAtU, g1, g2, landC]
theorem book9_ok (w : Int) (S : Sto) : m__law_book_v2 [.int w] S = .ok (.dK (bkD S.length)) (S ++ bookC9 S.length w) := by
  refine dDef_ret (σ' := [.val (.int w)]) ?_
  have m0 : 0 ≤ most := by decide
  have m2 : 2 ≤ most := by decide
  have p : ∀ (k : Kk) (w : D), putD ([] : List (Kk × D)) k w = [(k, w)] := fun _ _ => rfl
  have e : bkD S.length = mergeD [] [(.inr "lords", .obj S.length), (.inr "holders", .obj (S.length + 1)), (.inr "own", .obj (S.length + 2)), (.inr "due", .obj (S.length + 3)), (.inr "known", .obj (S.length + 4)), (.inr "heirs", .obj (S.length + 5)), (.inr "dead", .obj (S.length + 6)), (.inr "lieges", .obj (S.length + 7))] := rfl
  rw [e]
  simp [b__law_book_v2, bookC9, m0, m2, p]
theorem wf0 (w : Int) : Wf (L0 w) := by
  refine ⟨rfl, rfl, rfl, ?_, rfl, ?_, ?_, ?_, ?_⟩
  · show ([("" : Str)]).Nodup
    simp
  · intro k h
    have := aval_some_iff.mp (show (aval (L0 w).lords k).isSome = true by rw [h]; rfl)
    exact List.mem_singleton.mp this
  · intro k p h
    have h1 := aval_some_iff.mp (show (aval (L0 w).lords k).isSome = true by rw [h]; rfl)
    rw [List.mem_singleton.mp h1] at h
    cases h
  · intro k hk
    rw [List.mem_singleton.mp hk]
    show PyData.strOk "" = true
    decide +kernel
  · intro k hk
    rw [List.mem_singleton.mp hk]
    show PyData.strOk "" = true
    decide +kernel
theorem sound0 {w : Int} (h1 : 1 ≤ w) (h2 : w ≤ 9999) : Sound (B0 w) 0 w := by
  refine ⟨wf0 w, ⟨?_, ?_, ?_⟩, Nat.le_refl _, ?_, Nat.le_refl _, by omega⟩
  · intro p hp
    rw [List.mem_singleton.mp hp]
    show 0 ≤ w
    omega
  · show ([w] : List Int).sum = w
    simp
  · intro p hp
    rw [List.mem_singleton.mp hp]
    exact ⟨by show (0 : Int).natAbs < 2 ^ 20; decide, by show (1 : Int).natAbs < 2 ^ 20; decide, by show (0 : Int) < 1; decide⟩
  · intro k hk k0
    exact absurd (List.mem_singleton.mp hk) k0
def S14 (w : Int) : Sto := landC 0 w ++ bookC9 5 w ++ [.con false (.dK (bkD 5))]
theorem world14 {w : Int} (h1 : 1 ≤ w) (h2 : w ≤ 9999) : Wrld (S14 w) 0 1 2 3 4 5 (B0 w) 0 w :=
  ⟨⟨rfl, rfl, rfl, rfl, rfl, by decide⟩, ⟨rfl, rfl, rfl, rfl, rfl, rfl, rfl, rfl, rfl⟩, sound0 h1 h2, by decide⟩
end MR

set_option Elab.async false
set_option linter.all false
set_option maxRecDepth 100000
set_option exponentiation.threshold 30000
/-! P23: what holds of every land: acres, chains, breadths. -/
namespace MR
open PySem
theorem intsD_map {l : List Str} (f : Str → Int) : intsD (l.map fun x => D.int (f x)) = some (l.map f) := by
  induction l with
  | nil => rfl
  | cons x l ih =>
    show (intsD _).map _ = _
    rw [ih]
    rfl
theorem opSum_map {l : List Str} (f : Str → Int) : opSum (.lst (l.map fun x => D.int (f x))) = some (.int (l.map f).sum) := by
  show (intsD _).map _ = _
  rw [intsD_map]
  rfl
theorem nub_id : ∀ {l : List Str}, l.Nodup → nub l = l
  | [], _ => rfl
  | x :: l, h => by
    have h2 := List.nodup_cons.mp h
    unfold nub
    rw [if_neg h2.1, nub_id h2.2]
theorem lenSet_eq {l : List Str} (h : l.Nodup) (hl : l.length < 1000) : opLenSet (.lst (l.map D.str)) = some (.int (l.length : Nat)) := by
  show (strsD (l.map D.str)).bind _ = _
  rw [strsD_map]
  show (if l.length < 1000 then _ else _) = _
  rw [if_pos hl, nub_id h]
section
variable {L : Ld} {k : Nat} {tot : Int}
theorem all_perm (W : Wf L) : (("" : Str) :: L.names).Perm L.ks := by
  refine perm_of_mem ?_ W.nd fun x => ?_
  · refine List.nodup_cons.mpr ⟨fun z => ?_, ?_⟩
    · have := (List.mem_filter.mp (mem_srtS.mp z)).2
      simp at this
    · unfold Ld.names
      exact (srtS_perm _).nodup_iff.mpr (W.nd.filter _)
  · constructor
    · intro h
      rcases List.mem_cons.mp h with rfl | h
      · exact W.crk
      · exact (List.mem_filter.mp (mem_srtS.mp h)).1
    · intro h
      by_cases e : x = ""
      · subst e; exact List.mem_cons_self
      · exact List.mem_cons_of_mem _ (mem_srtS.mpr (List.mem_filter.mpr ⟨h, by simp [e]⟩))
theorem all_acres (W : Wf L) (N : Nu L k tot) : ((("" : Str) :: L.names).map L.ac).sum = tot := by
  rw [perm_sum (all_perm W), N.all W]
theorem chain_nodup (W : Wf L) : ∀ x ∈ L.ks, (L.chain x).Nodup := by
  refine chain_ind W ?_ ?_
  · rw [chain_cr W]; simp
  · intro x p hx x0 hp hpk ih
    rw [chain_step W hp]
    refine List.nodup_cons.mpr ⟨fun z => ?_, ih⟩
    have h1 := (chain_sub W p hpk x z).2
    have h2 := (W.up x p (lord_some hp)).2
    omega
theorem chain_ends (W : Wf L) : ∀ x ∈ L.ks, ∃ l, L.chain x = l ++ [("" : Str)] := by
  refine chain_ind W ?_ ?_
  · exact ⟨[], by rw [chain_cr W]; rfl⟩
  · intro x p hx x0 hp hpk ih
    obtain ⟨l, e⟩ := ih
    exact ⟨x :: l, by rw [chain_step W hp, e]; rfl⟩
end
end MR

set_option Elab.async false
set_option linter.all false
set_option maxRecDepth 100000
set_option exponentiation.threshold 30000
/-! PL4: steps through a body without writing down its frames. -/
namespace MR
open PySem
/-- what follows behind a statement -/
def seqK (g : DS) (r : Res Fl) : Res Fl := r.bind fun x σ S => match x with
  | .next => g σ S
  | x => .ok x σ S
@[simp] theorem seqK_next {g : DS} {σ : Sl} {S : Sto} : seqK g (.ok .next σ S) = g σ S := rfl
@[simp] theorem seqK_ret {g : DS} {w : D} {σ : Sl} {S : Sto} : seqK g (.ok (.ret w) σ S) = .ok (.ret w) σ S := rfl
@[simp] theorem seqK_exc {g : DS} {e : Exn} {σ : Sl} {S : Sto} : seqK g (.exc e σ S) = .exc e σ S := rfl
theorem RunF_seq {f g : DS} {σ : Sl} {S : Sto} {P : D → Sto → Prop} {r : Res Fl} (h : f σ S = r) (k : RunF (seqK g r) P) : RunF (sSeq f g σ S) P := by
  rw [sSeq_def, h]
  exact k
theorem run_seq {f g : DS} {σ : Sl} {S : Sto} {r r' : Res Fl} (h : f σ S = r) (k : seqK g r = r') : sSeq f g σ S = r' := by
  rw [sSeq_def, h]
  exact k
/-- the body of a def -/
theorem Ret_def {n : Nat} {f : DS} {ws : List D} {S : Sto} {P : D → Sto → Prop} {σ : Sl} (e : ws.map Slot.val ++ List.replicate (n - ws.length) .emp = σ) (h : RunF (f σ S) P) : Ret (dDef n f ws S) P := by
  rw [ret_dDef, e]
  exact h
/-- an exception, the store as it is -/
def Exc (o : Out) (P : Exn → Sto → Prop) : Prop := match o with
  | .exc e S => P e S
  | _ => False
theorem dDef_exc {n : Nat} {f : DS} {ws : List D} {S S' : Sto} {e : Exn} {σ' : Sl} (h : f (ws.map Slot.val ++ List.replicate (n - ws.length) .emp) S = .exc e σ' S') : dDef n f ws S = .exc e S' := by
  unfold dDef
  rw [h]
end MR

set_option Elab.async false
set_option linter.all false
set_option maxRecDepth 100000
set_option exponentiation.threshold 30000
/-! P24: try; a Land's questions of an estate that isn't there; letters that are no names; the holders of a land. -/
namespace MR
open PySem
/-! ### try -/
section
variable {rs : List String} {fb : DS} {c k : String} {i : Nat} {fs : Addr → Exn → DS} {σ σ1 σ2 : Sl} {S S1 S2 : Sto} {f : Fl}
theorem sTry_ok (h : fb σ S = .ok f σ1 S1) : sTry rs fb c i fs σ S = .ok f σ1 S1 := by unfold sTry; rw [h]
theorem sTry_next (h : fb σ S = .exc ⟨k, none⟩ σ1 S1) (hr : k ∈ rs) (hs : excSub k c = true) (hf : ∀ a, ∃ σ3, fs a ⟨k, none⟩ (σ1.set i (.exn a)) S1 = .ok .next σ3 S2 ∧ σ3.set i .emp = σ2) : sTry rs fb c i fs σ S = .ok .next σ2 S2 := by
  unfold sTry
  rw [h]
  dsimp only
  rw [if_pos ⟨hr, rfl⟩, if_pos hs, if_pos ⟨.next, σ2, S2, hf⟩]
  obtain ⟨σ3, e, q⟩ := hf 0
  rw [e, ← q]
theorem sTry_ret {w : D} (h : fb σ S = .exc ⟨k, none⟩ σ1 S1) (hr : k ∈ rs) (hs : excSub k c = true) (hf : ∀ a, ∃ σ3, fs a ⟨k, none⟩ (σ1.set i (.exn a)) S1 = .ok (.ret w) σ3 S2 ∧ σ3.set i .emp = σ2) : sTry rs fb c i fs σ S = .ok (.ret w) σ2 S2 := by
  unfold sTry
  rw [h]
  dsimp only
  rw [if_pos ⟨hr, rfl⟩, if_pos hs, if_pos ⟨.ret w, σ2, S2, hf⟩]
  obtain ⟨σ3, e, q⟩ := hf 0
  rw [e, ← q]
@[simp] theorem dIsE_at {a : Addr} {r : String} (h : σ[i]? = some (.exn a)) : dIsE a i r c σ S = .ok (.bl (excSub r c)) σ S := by
  unfold dIsE
  rw [h]
  exact if_pos rfl
end
/-! ### letters -/
theorem nodup_len {α : Type} [DecidableEq α] : ∀ {l m : List α}, l.Nodup → (∀ x ∈ l, x ∈ m) → l.length ≤ m.length
  | [], _, _, _ => Nat.zero_le _
  | x :: l, m, hn, hs => by
    have h := List.nodup_cons.mp hn
    have hx := hs x List.mem_cons_self
    have ih := nodup_len (l := l) (m := m.erase x) h.2 fun y hy => (List.mem_erase_of_ne (fun z : y = x => h.1 (z ▸ hy))).mpr (hs y (List.mem_cons_of_mem _ hy))
    rw [List.length_erase_of_mem hx] at ih
    have : 0 < m.length := List.length_pos_of_mem hx
    rw [List.length_cons]
    omega
def abcS : List Str := abc.cps.toList.map fun c => txt [c]
theorem abcS_len : abcS.length = 26 := by unfold abcS; rw [List.length_map]; decide +kernel
theorem abcS_nd : abcS.Nodup := by
  have h : abc.cps.toList.Nodup := by decide +kernel
  unfold abcS
  refine List.pairwise_map.mpr (h.imp fun {a b} hab e => hab ?_)
  have := txt_inj e
  simpa using this
theorem abcS_ok : ∀ x ∈ abcS, PyData.strOk x = true := by
  have : abcS.all (fun x => PyData.strOk x) = true := by decide +kernel
  exact List.all_eq_true.mp this
theorem strange {l : List Str} (h : l.length < 26) : ∃ x rest, (abcS.filter fun x => !decide (x ∈ l)) = x :: rest ∧ x ∉ l ∧ x ∈ abcS := by
  cases e : abcS.filter fun x => !decide (x ∈ l) with
  | nil =>
    have hs : ∀ x ∈ abcS, x ∈ l := fun x hx => by
      have q := List.filter_eq_nil_iff.mp e x hx
      simpa using q
    have := nodup_len abcS_nd hs
    rw [abcS_len] at this
    omega
  | cons x rest =>
    have hx : x ∈ abcS.filter fun x => !decide (x ∈ l) := by rw [e]; exact List.mem_cons_self
    obtain ⟨h1, h2⟩ := List.mem_filter.mp hx
    exact ⟨x, rest, rfl, by simpa using h2, h1⟩
/-! ### refused questions -/
abbrev xNoEst : Exn := ⟨"NoEstate", none⟩
section
variable {S : Sto} {r a b c d : Nat} {la lb : Bool} {L : Ld} {e : Str}
theorem look_exc (A : LandAt S r a b c d la lb L) (he : e ∉ L.ks) : m_Land_look_at [.obj r, .str e] S = .exc xNoEst S := by
  have h := aval_none_iff.mpr he
  exact dDef_exc (σ' := [.val (.obj r), .val (.str e)]) (by simp [b_Land_look_at, A.ob, A.dl, h])
theorem holder_exc (A : LandAt S r a b c d la lb L) (he : e ∉ L.ks) : m_Land_holder [.obj r, .str e] S = .exc xNoEst S :=
  dDef_exc (σ' := [.val (.obj r), .val (.str e)]) (by simp [b_Land_holder, A.ob, look_exc A he])
theorem lord_exc (A : LandAt S r a b c d la lb L) (he : e ∉ L.ks) : m_Land_lord [.obj r, .str e] S = .exc xNoEst S :=
  dDef_exc (σ' := [.val (.obj r), .val (.str e)]) (by simp [b_Land_lord, A.ob, look_exc A he])
theorem own_exc (A : LandAt S r a b c d la lb L) (he : e ∉ L.ks) : m_Land_own [.obj r, .str e] S = .exc xNoEst S :=
  dDef_exc (σ' := [.val (.obj r), .val (.str e)]) (by simp [b_Land_own, A.ob, look_exc A he])
theorem service_exc (A : LandAt S r a b c d la lb L) (he : e ∉ L.ks) : m_Land_service [.obj r, .str e] S = .exc xNoEst S :=
  dDef_exc (σ' := [.val (.obj r), .val (.str e)]) (by simp [b_Land_service, A.ob, look_exc A he])
theorem under_exc (A : LandAt S r a b c d la lb L) (he : e ∉ L.ks) : m_Land_under [.obj r, .str e] S = .exc xNoEst S :=
  dDef_exc (σ' := [.val (.obj r), .val (.str e), .emp]) (by simp [b_Land_under, A.ob, look_exc A he])
theorem breadth_exc (A : LandAt S r a b c d la lb L) (he : e ∉ L.ks) : m_Land_breadth [.obj r, .str e] S = .exc xNoEst S :=
  dDef_exc (σ' := [.val (.obj r), .val (.str e), .emp, .emp, .emp]) (by simp [b_Land_breadth, A.ob, look_exc A he])
theorem chain_exc (A : LandAt S r a b c d la lb L) (he : e ∉ L.ks) : m_Land_chain [.obj r, .str e] S = .exc xNoEst S :=
  dDef_exc (σ' := [.val (.obj r), .val (.str e), .emp]) (by simp [b_Land_chain, A.ob, look_exc A he])
theorem land_refused {w : Int} (h : ¬ (1 ≤ w ∧ w ≤ 9999)) (S : Sto) : m_Land___init__ [.obj S.length, .int w] (S ++ [.ins "Land" []]) = .exc ⟨"NoLand", none⟩ (S ++ [.ins "Land" []]) := by
  refine dDef_exc (σ' := [.val (.obj S.length), .val (.int w)]) ?_
  by_cases h1 : 1 ≤ w
  · have h2 : ¬ w ≤ 9999 := fun z => h ⟨h1, z⟩
    simp [b_Land___init__, h1, h2]
  · simp [b_Land___init__, h1]
/-- a store that only grew -/
theorem LandAt.grow (A : LandAt S r a b c d la lb L) (X : Sto) : LandAt (S ++ X) r a b c d la lb L := by
  have g : ∀ {i : Nat} {o : Ob}, S[i]? = some o → (S ++ X)[i]? = some o := fun {i o} h => by
    rw [List.getElem?_append_left (List.getElem?_eq_some_iff.mp h).1]; exact h
  exact ⟨g A.o, g A.l, g A.h, g A.w, g A.s, A.nd⟩
end
theorem BookAt.grow {S : Sto} {n : Nat} {la lb : Bool} {B : Bk} (A : BookAt S n la lb B) (X : Sto) : BookAt (S ++ X) n la lb B := by
  have g : ∀ {i : Nat} {o : Ob}, S[i]? = some o → (S ++ X)[i]? = some o := fun {i o} h => by
    rw [List.getElem?_append_left (List.getElem?_eq_some_iff.mp h).1]; exact h
  exact ⟨g A.c0, g A.c1, g A.c2, g A.c3, g A.c4, g A.c5, g A.c6, g A.c7, g A.c8⟩
theorem Wrld.grow {S : Sto} {r a b c d n : Nat} {B : Bk} {t : Nat} {tot : Int} (A : Wrld S r a b c d n B t tot) (X : Sto) : Wrld (S ++ X) r a b c d n B t tot := ⟨A.A.grow X, A.K.grow X, A.Z, A.dis⟩
/-! ### who holds -/
def HeldBy (men : List Str) (B : Bk) : Prop := ∀ m : Str, m ∈ B.L.hold.map (·.2) → m = "" ∨ m ∈ men
theorem vals_drop {l : List (Str × Str)} {k : Str} {P : Str → Prop} (h : ∀ x ∈ l.map (·.2), P x) : ∀ x ∈ (adrop l k).map (·.2), P x := fun x hx => by
  obtain ⟨p, hp, rfl⟩ := List.mem_map.mp hx
  exact h _ (List.mem_map.mpr ⟨p, (List.mem_filter.mp hp).1, rfl⟩)
theorem HeldBy.act {men lands : List Str} {B : Bk} {q : Rw} {dd : Int} (h : HeldBy men B) (f : q.fit men lands B dd) (hl : q.lands = true) : HeldBy men (B.actL q) := by
  cases q with
  | grant d e n m x s => obtain ⟨_, _, _, h2, _⟩ := f; exact vals_put (P := fun m => m = "" ∨ m ∈ men) h (.inr h2)
  | part d e n m x => obtain ⟨_, _, _, _, h2, _⟩ := f; exact vals_put (P := fun m => m = "" ∨ m ∈ men) h (.inr h2)
  | convey d e m => obtain ⟨_, _, _, h2⟩ := f; exact vals_put (P := fun m => m = "" ∨ m ∈ men) h (.inr h2)
  | surr d e =>
    exact vals_drop (P := fun m => m = "" ∨ m ∈ men) h
  | _ => cases hl
end MR

set_option Elab.async false
set_option linter.all false
set_option maxRecDepth 100000
set_option exponentiation.threshold 30000
/-! The law holds of the denotations. -/
namespace MR
open PySem
section
variable {S : Sto} {r a b c d : Nat} {L : Ld} {e : Str} {k : Nat}
theorem stranger_ok {l : List Str} (h : l.length < 26) (S : Sto) : ∃ x, x ∉ l ∧ x ∈ abcS ∧ m__law_stranger [.lst (l.map D.str)] S = .ok (.str x) S := by
  obtain ⟨x, rest, e, hx, ha⟩ := strange h
  refine ⟨x, hx, ha, dDef_ret (σ' := [.val (.lst (l.map D.str)), .emp]) ?_⟩
  have hs : signs abc = abcS.map D.str := by unfold signs abcS; rw [List.map_map]; rfl
  have key := lc_strs (it := iStr (dC (.str abc))) (i := 1) (c := lt__law_stranger_1) (e := le__law_stranger_2) (σ := [.val (.lst (l.map D.str)), .emp]) (σ' := [.val (.lst (l.map D.str)), .emp]) (S := S) (l := abcS) (fun x => !decide (x ∈ l)) D.str (by simp [hs]) rfl (by rw [abcS_len]; decide) (fun y hy => by
    simp [wipeD, lt__law_stranger_1, le__law_stranger_2, opNotIn_strs])
  rw [e] at key
  have key : dLc (iStr (dC (.str "abcdefghijklmnopqrstuvwxyz"))) (gN 1) lt__law_stranger_1 le__law_stranger_2 [1] [.val (.lst (l.map D.str)), .emp] S = _ := key
  simp [b__law_stranger, key, atI0]
theorem question_ok (A : LandAt S r a b c d false false L) (W : Wf L) (hl : L.ks.length < 64) (he : e ∈ L.ks) (hk : k < 7) : ∃ w, m__law_question [.obj r, .int k, .str e] S = .ok w S := by
  obtain ⟨o, ho⟩ := Option.isSome_iff_exists.mp (aval_some_iff.mpr (show e ∈ keys L.own by rw [W.ko]; exact he))
  obtain ⟨m, hm⟩ := Option.isSome_iff_exists.mp (aval_some_iff.mpr (show e ∈ keys L.hold by rw [W.kh]; exact he))
  obtain ⟨q, hq⟩ := Option.isSome_iff_exists.mp (aval_some_iff.mpr (show e ∈ keys L.due by rw [W.kd]; exact he))
  obtain ⟨p, hp⟩ := Option.isSome_iff_exists.mp (aval_some_iff.mpr he)
  have q1 := holder_eq A he hm
  have q2 := lord_eq A he hp
  have q3 := own_eq A he ho
  have q4 := breadth_eq A W hl he
  have q5 := service_eq A he hq
  have q6 := chain_eq A W hl he
  have q7 := under_eq A he hl
  have hc : k = 0 ∨ k = 1 ∨ k = 2 ∨ k = 3 ∨ k = 4 ∨ k = 5 ∨ k = 6 := by omega
  have hR : Ret (m__law_question [.obj r, .int k, .str e] S) (fun v S' => S' = S) := by
    unfold m__law_question
    rw [ret_dDef]
    rcases hc with rfl | rfl | rfl | rfl | rfl | rfl | rfl
    · simp [b__law_question, A.ob, q1]
    · simp [b__law_question, A.ob, q2, frz_enc]
    · simp [b__law_question, A.ob, q3]
    · simp [b__law_question, A.ob, q4]
    · simp [b__law_question, A.ob, q5, encF]
    · simp [b__law_question, A.ob, q6]
    · simp [b__law_question, A.ob, q7]
  obtain ⟨w, S', e1, rfl⟩ := hR.ex
  exact ⟨w, e1⟩
theorem question_exc (A : LandAt S r a b c d false false L) (he : e ∉ L.ks) (hk : k < 7) : m__law_question [.obj r, .int k, .str e] S = .exc xNoEst S := by
  have q1 := holder_exc A he
  have q2 := lord_exc A he
  have q3 := own_exc A he
  have q4 := breadth_exc A he
  have q5 := service_exc A he
  have q6 := chain_exc A he
  have q7 := under_exc A he
  have hc : k = 0 ∨ k = 1 ∨ k = 2 ∨ k = 3 ∨ k = 4 ∨ k = 5 ∨ k = 6 := by omega
  refine dDef_exc (σ' := [.val (.obj r), .val (.int k), .val (.str e)]) ?_
  rcases hc with rfl | rfl | rfl | rfl | rfl | rfl | rfl
  · simp [b__law_question, A.ob, q1]
  · simp [b__law_question, A.ob, q2]
  · simp [b__law_question, A.ob, q3]
  · simp [b__law_question, A.ob, q4]
  · simp [b__law_question, A.ob, q5]
  · simp [b__law_question, A.ob, q6]
  · simp [b__law_question, A.ob, q7]
def marks (b : Bool) : D := if b then .lst [] else .lst [.bl true, .bl true, .bl false, .bl false]
theorem why_asked_eq (A : LandAt S r a b c d false false L) (W : Wf L) (hl : L.ks.length < 64) (hk : k < 7) : m__law_why_asked [.obj r, .int k, .str e] S = .ok (marks (decide (e ∈ L.ks))) S := by
  have k0 : 0 ≤ most := by decide
  have k4 : 4 ≤ most := by decide
  by_cases he : e ∈ L.ks
  · obtain ⟨w, q⟩ := question_ok A W hl he hk
    have t := sTry_ok (rs := ["NoEstate"]) (fb := tb__law_why_asked_1) (c := "LandError") (i := 4) (fs := th__law_why_asked_2) (σ := [.val (.obj r), .val (.int k), .val (.str e), .val (.lst []), .emp]) (S := S) (f := .next) (σ1 := [.val (.obj r), .val (.int k), .val (.str e), .val (.lst []), .emp]) (S1 := S) (by simp [tb__law_why_asked_1, q])
    refine dDef_ret (σ' := [.val (.obj r), .val (.int k), .val (.str e), .val (.lst []), .emp]) ?_
    simp [b__law_why_asked, t, marks, he, k0]
  · have q := question_exc (k := k) A he hk
    have t := sTry_next (rs := ["NoEstate"]) (fb := tb__law_why_asked_1) (c := "LandError") (k := "NoEstate") (i := 4) (fs := th__law_why_asked_2) (σ := [.val (.obj r), .val (.int k), .val (.str e), .val (.lst []), .emp]) (S := S) (σ1 := [.val (.obj r), .val (.int k), .val (.str e), .val (.lst []), .emp]) (S1 := S) (S2 := S) (σ2 := [.val (.obj r), .val (.int k), .val (.str e), .val (.lst [.bl true, .bl true, .bl false, .bl false]), .emp]) (by simp [tb__law_why_asked_1, q]) (by simp) rfl (fun x => ⟨[.val (.obj r), .val (.int k), .val (.str e), .val (.lst [.bl true, .bl true, .bl false, .bl false]), .exn x], by simp [th__law_why_asked_2, excSub, k4], rfl⟩)
    refine dDef_ret (σ' := [.val (.obj r), .val (.int k), .val (.str e), .val (.lst [.bl true, .bl true, .bl false, .bl false]), .emp]) ?_
    simp [b__law_why_asked, t, marks, he, k0]
def marks2 (b : Bool) : D := if b then .lst [] else .lst [.bl true, .bl false, .bl false]
theorem why_land_eq (w : Int) (S : Sto) : ∃ X, m__law_why_land [.int w] S = .ok (marks2 (decide (1 ≤ w ∧ w ≤ 9999))) (S ++ X) := by
  have k0 : 0 ≤ most := by decide
  have k3 : 3 ≤ most := by decide
  by_cases h : 1 ≤ w ∧ w ≤ 9999
  · have q := land_init h.1 h.2 S
    have t := sTry_ok (rs := ["NoLand"]) (fb := tb__law_why_land_1) (c := "LandError") (i := 2) (fs := th__law_why_land_2) (σ := [.val (.int w), .val (.lst []), .emp]) (S := S) (f := .next) (σ1 := [.val (.int w), .val (.lst []), .emp]) (S1 := S ++ landC S.length w) (by simp [tb__law_why_land_1, q])
    refine ⟨landC S.length w, dDef_ret (σ' := [.val (.int w), .val (.lst []), .emp]) ?_⟩
    simp [b__law_why_land, t, marks2, h, k0]
  · have q := land_refused h S
    have t := sTry_next (rs := ["NoLand"]) (fb := tb__law_why_land_1) (c := "LandError") (k := "NoLand") (i := 2) (fs := th__law_why_land_2) (σ := [.val (.int w), .val (.lst []), .emp]) (S := S) (σ1 := [.val (.int w), .val (.lst []), .emp]) (S1 := S ++ [.ins "Land" []]) (S2 := S ++ [.ins "Land" []]) (σ2 := [.val (.int w), .val (.lst [.bl true, .bl false, .bl false]), .emp]) (by simp [tb__law_why_land_1, q]) (by simp) rfl (fun x => ⟨[.val (.int w), .val (.lst [.bl true, .bl false, .bl false]), .exn x], by simp [th__law_why_land_2, excSub, k3], rfl⟩)
    refine ⟨[.ins "Land" []], dDef_ret (σ' := [.val (.int w), .val (.lst [.bl true, .bl false, .bl false]), .emp]) ?_⟩
    simp [b__law_why_land, t, marks2, h, k0]
theorem ne_marks (b : Bool) : opNe' (marks b) (marks b) = some (.bl false) := by cases b <;> rfl
theorem ne_marks2 (b : Bool) : opNe' (marks2 b) (marks2 b) = some (.bl false) := by cases b <;> rfl
theorem frz_marks (b : Bool) (σ : Sl) (S : Sto) : frz (marks b) σ S = .ok (marks b) σ S := by cases b <;> rfl
theorem deref_marks (b : Bool) (σ : Sl) (S : Sto) : deref σ S (marks b) = some (marks b) := by cases b <;> rfl
theorem deref_marks2 (b : Bool) (σ : Sl) (S : Sto) : deref σ S (marks2 b) = some (marks2 b) := by cases b <;> rfl
theorem intS_bl (b : Bool) : opIntS (.bl b) = some (.int (if b then 1 else 0)) := by cases b <;> rfl
theorem get_marks (b : Bool) : opGet (.lst [.lst [.bl true, .bl true, .bl false, .bl false], .lst []]) (.int (if b then 1 else 0)) = some (marks b) := by cases b <;> rfl
theorem get_marks2 (b : Bool) : opGet (.lst [.lst [.bl true, .bl false, .bl false], .lst []]) (.int (if b then 1 else 0)) = some (marks2 b) := by cases b <;> rfl
theorem ask1 (A : LandAt S r a b c d false false L) (W : Wf L) (hl : L.ks.length < 64) (hk : k < 7) {p0 p1 p2 p4 : D} {s8 : Slot} :
    fb_law_1 [.val p0, .val p1, .val p2, .val (.obj r), .val p4, .val (.str e), .val (.bl (decide (e ∈ L.ks))), .val (.int k), s8] S = .ok .next [.val p0, .val p1, .val p2, .val (.obj r), .val p4, .val (.str e), .val (.bl (decide (e ∈ L.ks))), .val (.int k), s8] S := by
  have q := why_asked_eq (e := e) A W hl hk
  have k0 : 0 ≤ most := by decide
  have k2 : 2 ≤ most := by decide
  have k4 : 4 ≤ most := by decide
  generalize decide (e ∈ L.ks) = th at *
  have g := get_marks th
  have n := ne_marks th
  simp only [opGet_lst] at g
  simp [fb_law_1, q, intS_bl, deref_marks, g, n, k0, k2, k4]
theorem ask7 (A : LandAt S r a b c d false false L) (W : Wf L) (hl : L.ks.length < 64) {p0 p1 p2 p4 : D} {s7 s8 : Slot} :
    ∃ u7, forL (gN 7) fb_law_1 (ran 0 7) [.val p0, .val p1, .val p2, .val (.obj r), .val p4, .val (.str e), .val (.bl (decide (e ∈ L.ks))), s7, s8] S = .ok .next [.val p0, .val p1, .val p2, .val (.obj r), .val p4, .val (.str e), .val (.bl (decide (e ∈ L.ks))), u7, s8] S := by
  obtain ⟨σ', S', e1, u7, rfl, rfl⟩ := forL_inv (g := gN 7) (f := fb_law_1) (fun i σ S' => ∃ s7, σ = [.val p0, .val p1, .val p2, .val (.obj r), .val p4, .val (.str e), .val (.bl (decide (e ∈ L.ks))), s7, s8] ∧ S' = S) (ran 0 ((7 : Nat) : Int)) 0 [.val p0, .val p1, .val p2, .val (.obj r), .val p4, .val (.str e), .val (.bl (decide (e ∈ L.ks))), s7, s8] S ⟨s7, rfl, rfl⟩ (by
    rintro i d' σ S1 hi ⟨s7, rfl, rfl⟩
    obtain ⟨hi7, rfl⟩ := ranGet hi
    exact ⟨_, rfl, _, _, ask1 A W hl hi7, _, rfl, rfl⟩)
  exact ⟨u7, e1⟩
theorem same_bl (b : Bool) (S : Sto) : m__law_same [.bl b, .bl b] S = .ok (.bl true) S := same_ok (by cases b <;> rfl)
theorem est1 {n : Nat} {B : Bk} (A : LandAt S r a b c d false false B.L) (K : BookAt S n false false B) (W : Wf B.L) (hl : B.L.ks.length < 64) {p0 p1 p2 : D} {s6 s7 s8 : Slot} :
    ∃ u6 u7, fb_law_2 [.val p0, .val p1, .val p2, .val (.obj r), .val (.obj (n + 8)), .val (.str e), s6, s7, s8] S = .ok .next [.val p0, .val p1, .val p2, .val (.obj r), .val (.obj (n + 8)), .val (.str e), u6, u7, s8] S := by
  obtain ⟨u7, e7⟩ := ask7 (e := e) A W hl (p0 := p0) (p1 := p1) (p2 := p2) (p4 := .obj (n + 8)) (s7 := s7) (s8 := s8)
  have th := there_eq (e := e) A
  have hs : (aval B.L.lords e).isSome = decide (e ∈ B.L.ks) := by rw [Bool.eq_iff_iff, decide_eq_true_iff]; exact aval_some_iff
  rw [hs] at th
  have sm : small 7 := ⟨by decide, by decide⟩
  have ik := in_ks (f := encO) (l := B.L.lords) (k := e)
  have sb := same_bl (decide (e ∈ B.L.ks)) S
  refine ⟨.val (.bl (decide (e ∈ B.L.ks))), u7, ?_⟩
  unfold fb_law_2
  refine (sSeq_next (σ1 := [.val p0, .val p1, .val p2, .val (.obj r), .val (.obj (n + 8)), .val (.str e), .val (.bl (decide (e ∈ B.L.ks))), s7, s8]) (S1 := S) (by simp [K.d8, K.d0, bk0, hs])).trans ?_
  refine (sSeq_next (σ1 := [.val p0, .val p1, .val p2, .val (.obj r), .val (.obj (n + 8)), .val (.str e), .val (.bl (decide (e ∈ B.L.ks))), s7, s8]) (S1 := S) (by
    generalize decide (e ∈ B.L.ks) = z at *
    simp [A.ob, th, sb])).trans ?_
  simp only [sFor_def, iRan1_def, dC_ok, Res.bind_ok, sm, if_true, e7]
theorem ests {n : Nat} {B : Bk} (A : LandAt S r a b c d false false B.L) (K : BookAt S n false false B) (W : Wf B.L) (hl : B.L.ks.length < 64) {p0 p1 p2 : D} {s8 : Slot} : ∀ (l : List Str) (s5 s6 s7 : Slot),
    ∃ u5 u6 u7, forL (gN 5) fb_law_2 (l.map D.str) [.val p0, .val p1, .val p2, .val (.obj r), .val (.obj (n + 8)), s5, s6, s7, s8] S = .ok .next [.val p0, .val p1, .val p2, .val (.obj r), .val (.obj (n + 8)), u5, u6, u7, s8] S := by
  intro l
  induction l with
  | nil => exact fun s5 s6 s7 => ⟨s5, s6, s7, rfl⟩
  | cons x l ih =>
    intro s5 s6 s7
    obtain ⟨u6, u7, e1⟩ := est1 (e := x) A K W hl (p0 := p0) (p1 := p1) (p2 := p2) (s6 := s6) (s7 := s7) (s8 := s8)
    obtain ⟨v5, v6, v7, e2⟩ := ih (.val (.str x)) u6 u7
    exact ⟨v5, v6, v7, by rw [List.map_cons, forL_cons rfl e1]; exact e2⟩
theorem acre1 (w : Int) (S : Sto) {s0 s1 s2 s3 s4 s5 s6 s7 : Slot} : ∃ X, fb_law_3 [s0, s1, s2, s3, s4, s5, s6, s7, .val (.int w)] S = .ok .next [s0, s1, s2, s3, s4, s5, s6, s7, .val (.int w)] (S ++ X) := by
  obtain ⟨X, q⟩ := why_land_eq w S
  refine ⟨X, ?_⟩
  have k0 : 0 ≤ most := by decide
  have k2 : 2 ≤ most := by decide
  have k3 : 3 ≤ most := by decide
  have hc : ∀ σ S, (dChain opLe opLe (dC (.int 1)) (dVar 8) (dC (.int 9999))) σ S = (dChain opLe opLe (dC (.int 1)) (dVar 8) (dC (.int 9999))) σ S := fun _ _ => rfl
  have ec : (dChain opLe opLe (dC (.int 1)) (dVar 8) (dC (.int 9999))) [s0, s1, s2, s3, s4, s5, s6, s7, .val (.int w)] (S ++ X) = .ok (.bl (decide (1 ≤ w ∧ w ≤ 9999))) [s0, s1, s2, s3, s4, s5, s6, s7, .val (.int w)] (S ++ X) := by
    by_cases h1 : 1 ≤ w
    · simp [h1]
    · simp [h1]
  generalize decide (1 ≤ w ∧ w ≤ 9999) = th at *
  have g := get_marks2 th
  have n := ne_marks2 th
  simp only [opGet_lst] at g
  unfold fb_law_3
  simp only [sIf_def, tVal_def, d2_def, d1_def, ec]
  simp [-dChain_def, ec, q, intS_bl, deref_marks2, g, n, k0, k2, k3]
theorem acres : ∀ (l : List Int) (S : Sto) (s8 : Slot) {s0 s1 s2 s3 s4 s5 s6 s7 : Slot}, ∃ X u8, forL (gN 8) fb_law_3 (l.map D.int) [s0, s1, s2, s3, s4, s5, s6, s7, s8] S = .ok .next [s0, s1, s2, s3, s4, s5, s6, s7, u8] (S ++ X) := by
  intro l
  induction l with
  | nil => exact fun S s8 _ _ _ _ _ _ _ _ => ⟨[], s8, by simp⟩
  | cons x l ih =>
    intro S s8 s0 s1 s2 s3 s4 s5 s6 s7
    obtain ⟨X, e1⟩ := acre1 x S (s0 := s0) (s1 := s1) (s2 := s2) (s3 := s3) (s4 := s4) (s5 := s5) (s6 := s6) (s7 := s7)
    obtain ⟨Y, v, e2⟩ := ih (S ++ X) (.val (.int x)) (s0 := s0) (s1 := s1) (s2 := s2) (s3 := s3) (s4 := s4) (s5 := s5) (s6 := s6) (s7 := s7)
    exact ⟨X ++ Y, v, by rw [List.map_cons, forL_cons rfl e1, e2, List.append_assoc]⟩
end
theorem law_true : ∀ ns : List Int, ns.length ≤ 63 → ∃ S', m_law [.scr ns] [] = .ok (.bl true) S' := by
  intro ns _
  obtain ⟨fs, hl, hg, ef⟩ := feed_ok ns 120 (by decide) []
  have ef : m__law_feed [.scr ns, .int 120] [] = .ok (.lst (fs.map D.int)) [] := ef
  obtain ⟨men, lands, w, P, ep⟩ := pools_ok (fs := fs) (by omega) hg []
  obtain ⟨x0, a0, _, _⟩ := int_at 0 hg (by omega)
  have a0 : L2.atI (fs.map D.int) 0 = some (.int x0) := a0
  obtain ⟨x1, a1, _, _⟩ := int_at 1 hg (by omega)
  have a1 : L2.atI (fs.map D.int) 1 = some (.int x1) := a1
  obtain ⟨N, hN, eN⟩ : ∃ N : Nat, N < 11 ∧ (N : Int) = x0 % 11 := ⟨(x0 % 11).toNat, by omega, by omega⟩
  have w1 := P.w1
  have w2 := P.w2
  obtain ⟨S', B', e5, X', o', j'⟩ := played_inv (HeldBy men) (fun B q h f hl _ _ => h.act f hl) (B := B0 w) (fun m hm => .inl (List.mem_singleton.mp hm)) (world14 w1 w2) P (kk := [("surrender" : Str), "grant"]) (by simp) (N := N) (by omega) (by omega) hg (at_ := 20) (by omega) (by omega)
  have e5 : m__law_played [.obj 0, .obj 13, poolsD men lands w, .lst (fs.map D.int), .int 20, .int (N : Int), .lst [.str "surrender", .str "grant"]] (S14 w) = .ok (.bl true) S' := e5
  rw [eN] at e5
  have hlen := X'.Z.len
  have hks : B'.L.ks.length < 64 := by omega
  have li : m_Land___init__ [.obj 0, .int w] [.ins "Land" []] = .ok .non (landC 0 w) := land_init w1 w2 []
  have bk : m__law_book_v2 [.int w] (landC 0 w) = .ok (.dK (bkD 5)) (landC 0 w ++ bookC9 5 w) := book9_ok w (landC 0 w)
  have k1 : 1 ≤ most := by decide
  have k2 : 2 ≤ most := by decide
  have k8 : 8 ≤ most := by decide
  obtain ⟨xl, hxl, al, esl⟩ := stranger_ok (l := lands) (by rw [P.ll]; decide) S'
  obtain ⟨u5, u6, u7, e6⟩ := ests (n := 5) X'.A X'.K X'.Z.W hks (p0 := .scr ns) (p1 := .lst (fs.map D.int)) (p2 := poolsD men lands w) (s8 := .emp) (("" : Str) :: lands ++ [xl]) .emp .emp .emp
  obtain ⟨Y, u8, e7⟩ := acres [-1, 0, 1, 9999, 10000, x1 % 30000 - 10000, 0 - 10 ^ 20, 10 ^ 20] S' .emp (s0 := .val (.scr ns)) (s1 := .val (.lst (fs.map D.int))) (s2 := .val (poolsD men lands w)) (s3 := .val (.obj 0)) (s4 := .val (.obj 13)) (s5 := u5) (s6 := u6) (s7 := u7)
  obtain ⟨xm, hxm, am, esm⟩ := stranger_ok (l := men) (by rw [P.lm]; decide) (S' ++ Y)
  have X2 := X'.grow Y
  have ln := X2.Z.W.lens hks
  have eh := held_eq X2.A (m := xm) ln.h
  have hnil : B'.L.held xm = [] := by
    cases hh : B'.L.held xm with
    | nil => rfl
    | cons y l =>
      have hy : y ∈ B'.L.held xm := by rw [hh]; exact List.mem_cons_self
      have hv := aval_mem (mem_held.mp hy)
      rcases j' xm (List.mem_map.mpr ⟨_, hv, rfl⟩) with z | z
      · exfalso
        rw [z] at am
        exact absurd am (by decide +kernel)
      · exact absurd z hxm
  rw [hnil] at eh
  have es : m__law_same [.lst [], .lst []] (S' ++ Y) = .ok (.bl true) (S' ++ Y) := same_ok rfl
  have ei := land_is_eq X2.A X2.K X2.Z.W hks
  have ei : m__law_land_is [.obj 0, .obj 13] (S' ++ Y) = .ok (.bl true) (S' ++ Y) := ei
  have hp : Ret (m_law [.scr ns] []) (fun v S'' => v = .bl true) := by
    refine Ret_def rfl ?_
    show RunF (b_law [.val (.scr ns), .emp, .emp, .emp, .emp, .emp, .emp, .emp, .emp] []) _
    unfold b_law
    (apply MR.RunF_seq; (focus (simp [ef] <;> rfl)); simp only [MR.seqK_next, MR.seqK_ret])
    (apply MR.RunF_seq; (focus (simp [ep] <;> rfl)); simp only [MR.seqK_next, MR.seqK_ret])
    (apply MR.RunF_seq; (focus (simp [atI2, li] <;> rfl)); simp only [MR.seqK_next, MR.seqK_ret])
    (apply MR.RunF_seq; (focus (simp [atI2, bk] <;> rfl)); simp only [MR.seqK_next, MR.seqK_ret])
    change RunF (sSeq _ _ [.val (.scr ns), .val (.lst (fs.map D.int)), .val (poolsD men lands w), .val (.obj 0), .val (.obj 13), .emp, .emp, .emp, .emp] (S14 w)) _
    (apply MR.RunF_seq; (focus (simp [a0, e5, k2] <;> rfl)); simp only [MR.seqK_next, MR.seqK_ret])
    have e6 : forL (gN 5) fb_law_2 (D.str "" :: (lands.map D.str ++ [D.str xl])) [.val (.scr ns), .val (.lst (fs.map D.int)), .val (poolsD men lands w), .val (.obj 0), .val (.obj 13), .emp, .emp, .emp, .emp] S' = .ok .next [.val (.scr ns), .val (.lst (fs.map D.int)), .val (poolsD men lands w), .val (.obj 0), .val (.obj 13), u5, u6, u7, .emp] S' := by
      rw [List.map_append] at e6
      exact e6
    have ll := P.ll
    have k10 : 1 + 9 ≤ most := by decide
    have k11 : 1 + 9 + 1 ≤ most := by decide
    have k12 : 9 + 1 + 1 ≤ most := by decide
    have k13 : 9 + 1 ≤ most := by decide
    (apply MR.RunF_seq; (focus (simp [atI1, esl, k1, ll, k10, k11, k12, k13, e6] <;> rfl)); simp only [MR.seqK_next, MR.seqK_ret])
    have p20 : opPow (.int 10) (.int 20) = some (.int 100000000000000000000) := by simp [opPow]
    have e7 : forL (gN 8) fb_law_3 [.int (-1), .int 0, .int 1, .int 9999, .int 10000, .int (x1 % 30000 - 10000), .int (-100000000000000000000), .int 100000000000000000000] [.val (.scr ns), .val (.lst (fs.map D.int)), .val (poolsD men lands w), .val (.obj 0), .val (.obj 13), u5, u6, u7, .emp] S' = .ok .next [.val (.scr ns), .val (.lst (fs.map D.int)), .val (poolsD men lands w), .val (.obj 0), .val (.obj 13), u5, u6, u7, u8] (S' ++ Y) := e7
    (apply MR.RunF_seq; (focus (simp [a1, p20, k8, e7] <;> rfl)); simp only [MR.seqK_next, MR.seqK_ret])
    have k0 : 0 ≤ most := by decide
    have eh : m_Land_held [.obj 0, .str xm] (S' ++ Y) = .ok (.lst []) (S' ++ Y) := eh
    simp [atI0, esm, X2.A.ob, eh, es, ei, k0]
  obtain ⟨v, S'', e, rfl⟩ := hp.ex
  exact ⟨S'', e⟩
end MR

set_option Elab.async false
set_option linter.all false
set_option maxRecDepth 100000
set_option maxHeartbeats 0
/-! The ties of the linked text to the denotations, and the head (printed by gen.py). -/
namespace MR
open PySem PySem.Spec PyProof.Rows L2
def top (i : Nat) : Stmt := PySem.Challenge.pw_manrent_k10_estates_not_there.main.body.getD i (.Pass ⟨0, 0, 0, 0⟩)
structure Tx (K : PySem.W.Frag) (mg : Str → Option Value) : Prop where
  cf_Land_acres_of : ClsF K ["Land"] "acres_of"
  cf_Land_holders : ClsF K ["Land"] "holders"
  cf_Land_lords : ClsF K ["Land"] "lords"
  cf_Land_services : ClsF K ["Land"] "services"
  ValueError : mg "ValueError" = none
  abs : mg "abs" = none
  all : mg "all" = none
  bool : mg "bool" = none
  int : mg "int" = none
  isinstance : mg "isinstance" = none
  len : mg "len" = none
  list : mg "list" = none
  max : mg "max" = none
  min : mg "min" = none
  range : mg "range" = none
  set : mg "set" = none
  sorted : mg "sorted" = none
  str : mg "str" = none
  tuple : mg "tuple" = none
  zip : mg "zip" = none
  CROWN : ∃ t, mg "CROWN" = some (.str "" t)
  MOST_ACRES : ∃ t, mg "MOST_ACRES" = some (.int (9999) t)
  NOUGHT : GTup K mg "NOUGHT" [.int 0, .int 1]
  x_NoEstate : ExF K mg "NoEstate"
  x_NoLand : ExF K mg "NoLand"
  g_LandError : mg (Str.ofString "LandError") = some (.ref (ca K "LandError"))
  g_NoEstate : mg (Str.ofString "NoEstate") = some (.ref (ca K "NoEstate"))
  g_NoForm : mg (Str.ofString "NoForm") = some (.ref (ca K "NoForm"))
  g_NoLand : mg (Str.ofString "NoLand") = some (.ref (ca K "NoLand"))
  g_NoMan : mg (Str.ofString "NoMan") = some (.ref (ca K "NoMan"))
  m_NoEstate_LandError : PySem.W.exmOne K (.ref (ca K "NoEstate")) (.ref (ca K "LandError")) = some true
  m_NoLand_LandError : PySem.W.exmOne K (.ref (ca K "NoLand")) (.ref (ca K "LandError")) = some true
  q_NoEstate : ExcC K (ca K "NoEstate")
  q_NoLand : ExcC K (ca K "NoLand")
  k_NoEstate_NoEstate : PySem.W.kitOne K (.ref (ca K "NoEstate")) (.ref (ca K "NoEstate")) = some true
  k_NoEstate_NoLand : PySem.W.kitOne K (.ref (ca K "NoEstate")) (.ref (ca K "NoLand")) = some false
  k_NoEstate_NoMan : PySem.W.kitOne K (.ref (ca K "NoEstate")) (.ref (ca K "NoMan")) = some false
  k_NoLand_NoEstate : PySem.W.kitOne K (.ref (ca K "NoLand")) (.ref (ca K "NoEstate")) = some false
  k_NoLand_NoForm : PySem.W.kitOne K (.ref (ca K "NoLand")) (.ref (ca K "NoForm")) = some false
  k_NoLand_NoLand : PySem.W.kitOne K (.ref (ca K "NoLand")) (.ref (ca K "NoLand")) = some true
  kb_NoEstate_ValueError : PySem.W.kitOne K (.ref (ca K "NoEstate")) (.type "ValueError") = some true
section
variable {P : Program} {w : World} {K : PySem.W.Frag} {mg : Str → Option Value} {base : Heap}
abbrev s__law_feed : Stmt := top 17
abbrev N__law_feed : List Str := ["_law_script", "_law_many", "_law_feed_here", "_law_salt", "_law_cell", "_law_rest", "_law_k"]
theorem sc__law_feed : FnScope N__law_feed ["_law_script", "_law_many"] (defScope s__law_feed) := ⟨rfl, rfl, rfl, by decide +kernel, rfl, by decide +kernel, by decide +kernel⟩
theorem t__law_feed {f : Addr} {fd : FuncData} (T : Tx K mg) (FD : FunD K "_law_feed" "_law_feed" (defArgs s__law_feed) (defBody s__law_feed) (defScope s__law_feed) [] [] f fd) (hm : mg "_law_feed" = some (.ref f))  : Fn true P w K mg base "_law_feed" 1 2 m__law_feed := by
  have sc := sc__law_feed
  refine fn_mk (n := 7) FD hm sc rfl rfl (fun _ _ _ _ _ _ us hl => match us, hl with | [_, _], _ => rfl) fun cdv A outer s H E hr => ?_
  have tk := takes_of (X := cxOf (L2.CX P w) P w K mg base N__law_feed "_law_feed" (defScope s__law_feed) f cdv A outer s H E) rfl rfl rfl rfl
  have hp := passes_of (X := cxOf (L2.CX P w) P w K mg base N__law_feed "_law_feed" (defScope s__law_feed) f cdv A outer s H E) rfl
  exact (cs_cons (cs_setO (i := 2) sc.nd (cf_lst ca_nil) rfl (Or.inl rfl) rfl (.inl rfl))
      (cs_cons (cs_set (i := 3) sc.nd c_int rfl (Or.inl rfl) rfl (.inl rfl))
      (cs_cons (cs_for (tvs := [4]) hp (ci_list (c_f (cf_sl (c_var 0) co_none (co_some c_int)))) (cg_name 4 sc.nd) (cs_cons (cs_set (i := 3) sc.nd (c_op op_mod os_mod (c_op op_addA os_add (c_op op_addA os_add (c_op op_mulA os_mul' (c_var 3) c_int) (c_op op_mod os_mod (c_var 4) c_int)) c_int) c_int) rfl (Or.inl rfl) rfl (.inl rfl))
      (cs_cons (cs_set (i := 5) sc.nd (c_op op_sub os_sub (c_var 4) (c_op op_pow os_pow c_int c_int)) rfl (Or.inl rfl) rfl (.inl rfl))
      (cs_cons (cs_if (ct_cmp op_lt os_lt (c_var 5) c_int (nomark _)) (cs_one (cs_expr (c_app (c_var 2) (c_op op_mod os_mod (c_var 4) c_int) rfl rfl rfl rfl) rfl)) cs_nil)
      (cs_one (cs_for (tvs := [6]) hp (ci_ran1 T.range c_int rfl rfl) (cg_name 6 sc.nd) (cs_one (cs_if (ct_cmp op_gt os_gt (c_var 5) c_int (nomark _)) (cs_cons (cs_expr (c_app (c_var 2) (c_op op_mod os_mod (c_var 5) c_int) rfl rfl rfl rfl) rfl)
      (cs_one (cs_set (i := 5) sc.nd (c_op op_divNW os_div (c_var 5) c_int) rfl (Or.inl rfl) rfl (.inl rfl)))) cs_nil)) rfl (fun _ => rfl)))))) rfl (fun _ => rfl))
      (cs_cons (cs_for (tvs := [6]) hp (ci_ran1 T.range (c_op op_sub os_sub (c_var 1) (c_b1 call_lenA b_len T.len (c_var 2) (by decide +kernel) rfl (by decide) (by decide) rfl)) rfl rfl) (cg_name 6 sc.nd) (cs_cons (cs_set (i := 3) sc.nd (c_op op_mod os_mod (c_op op_addA os_add (c_op op_addA os_add (c_op op_addA os_add (c_op op_mulA os_mul' (c_op op_mulA os_mul' (c_var 3) (c_var 3)) (c_var 3)) (c_op op_mulA os_mul' c_int (c_var 3))) (c_op op_mulA os_mul' c_int (c_var 6))) c_int) c_int) rfl (Or.inl rfl) rfl (.inl rfl))
      (cs_one (cs_expr (c_app (c_var 2) (c_op op_mod os_mod (c_op op_divNW os_div (c_var 3) c_int) c_int) rfl rfl rfl rfl) rfl))) rfl (fun _ => rfl))
      (cs_one (cs_retF (cf_sl (c_var 2) co_none (co_some (c_var 1)))))))))
abbrev s__law_names : Stmt := top 20
abbrev N__law_names : List Str := ["_law_d", "_law_many", "_law_letters", "_law_base", "_law_at", "_law_names_here", "_law_k", "_law_sign", "_law_name"]
theorem sc__law_names : FnScope N__law_names ["_law_d", "_law_many"] (defScope s__law_names) := ⟨rfl, rfl, rfl, by decide +kernel, rfl, by decide +kernel, by decide +kernel⟩
theorem t__law_names {f : Addr} {fd : FuncData} (T : Tx K mg) (FD : FunD K "_law_names" "_law_names" (defArgs s__law_names) (defBody s__law_names) (defScope s__law_names) [] [] f fd) (hm : mg "_law_names" = some (.ref f))  : Fn true P w K mg base "_law_names" 1 2 m__law_names := by
  have sc := sc__law_names
  refine fn_mk (n := 9) FD hm sc rfl rfl (fun _ _ _ _ _ _ us hl => match us, hl with | [_, _], _ => rfl) fun cdv A outer s H E hr => ?_
  have tk := takes_of (X := cxOf (L2.CX P w) P w K mg base N__law_names "_law_names" (defScope s__law_names) f cdv A outer s H E) rfl rfl rfl rfl
  have hp := passes_of (X := cxOf (L2.CX P w) P w K mg base N__law_names "_law_names" (defScope s__law_names) f cdv A outer s H E) rfl
  exact (cs_cons (cs_set (i := 2) sc.nd c_str rfl (Or.inr rfl) rfl (.inl rfl))
      (cs_cons (cs_set (i := 3) sc.nd (c_f (cf_join c_str (c_f (cf_lc sc.nd (blkOk_by (own := [("_law_k", 6)]) (N := N__law_names) (sc := defScope s__law_names) (by decide +kernel)) rfl (ci_ran1 T.range (c_op op_mod os_mod (c_ix (c_var 0) c_int (fun _ _ => rfl)) c_int) rfl rfl) (fun _ _ _ _ _ => (cg_name 6 sc.nd)) (fun _ _ _ _ _ => cts_nil) (fun _ _ _ _ _ => (c_ix (c_var 2) (c_op op_mod os_mod (c_op op_addA os_add (c_ix (c_var 0) c_int (fun _ _ => rfl)) (c_op op_mulA os_mul' (c_op op_addA os_add (c_var 6) c_int) (c_op op_divNW os_div (c_ix (c_var 0) c_int (fun _ _ => rfl)) c_int))) c_int) (fun _ _ => rfl))) rfl (fun _ => rfl))) rfl rfl rfl)) rfl (Or.inl rfl) rfl (.inl rfl))
      (cs_cons (cs_set (i := 4) sc.nd (c_op op_mod os_mod (c_ix (c_var 0) c_int (fun _ _ => rfl)) (c_op op_addA os_add (c_b1 call_lenA b_len T.len (c_var 3) (by decide +kernel) rfl (by decide) (by decide) rfl) c_int)) rfl (Or.inl rfl) rfl (.inl rfl))
      (cs_cons (cs_setO (i := 5) sc.nd (cf_lst ca_nil) rfl (Or.inl rfl) rfl (.inl rfl))
      (cs_cons (cs_for (tvs := [6]) hp (ci_ran1 T.range (c_var 1) rfl rfl) (cg_name 6 sc.nd) (cs_cons (cs_set (i := 7) sc.nd (c_ix (c_var 2) (c_op op_mod os_mod (c_op op_addA os_add (c_ix (c_var 0) c_int (fun _ _ => rfl)) (c_op op_mulA os_mul' c_int (c_var 6))) c_int) (fun _ _ => rfl)) rfl (Or.inl rfl) rfl (.inl rfl))
      (cs_cons (cs_set (i := 8) sc.nd (c_op op_addA os_add (c_op op_addA os_add (c_f (cf_sl (c_var 3) co_none (co_some (c_var 4)))) (c_var 7)) (c_f (cf_sl (c_var 3) (co_some (c_var 4)) co_none))) rfl (Or.inl rfl) rfl (.inl rfl))
      (cs_cons (cs_if (ct_cmp (op_eqA hr) os_eq (c_op op_mod os_mod (c_op op_divNW os_div (c_ix (c_var 0) c_int (fun _ _ => rfl)) c_int) c_int) c_int (nomark _)) (cs_one (cs_set (i := 8) sc.nd (c_op op_mulA os_mul' (c_var 7) (c_op op_addA os_add c_int (c_op op_mod os_mod (c_op op_addA os_add (c_ix (c_var 0) c_int (fun _ _ => rfl)) (c_op op_mulA os_mul' c_int (c_var 6))) c_int))) rfl (Or.inl rfl) rfl (.inl rfl))) cs_nil)
      (cs_one (cs_expr (c_app (c_var 5) (c_var 8) rfl rfl rfl rfl) rfl))))) rfl (fun _ => rfl))
      (cs_one (cs_retO 5)))))))
abbrev s__law_pools : Stmt := top 31
abbrev N__law_pools : List Str := ["_law_feed_here", "_law_wide", "_law_lands"]
theorem sc__law_pools : FnScope N__law_pools ["_law_feed_here"] (defScope s__law_pools) := ⟨rfl, rfl, rfl, by decide +kernel, rfl, by decide +kernel, by decide +kernel⟩
theorem t__law_pools {f : Addr} {fd : FuncData} (T : Tx K mg) (FD : FunD K "_law_pools" "_law_pools" (defArgs s__law_pools) (defBody s__law_pools) (defScope s__law_pools) [] [] f fd) (hm : mg "_law_pools" = some (.ref f)) (C__law_names : Fn true P w K mg base "_law_names" 1 2 m__law_names) : Fn false P w K mg base "_law_pools" 2 1 m__law_pools := by
  have sc := sc__law_pools
  refine fn_mk (n := 3) FD hm sc rfl rfl (fun _ _ _ _ _ _ us hl => match us, hl with | [_], _ => rfl) fun cdv A outer s H E hr => ?_
  have tk := takes_of (X := cxOf (L2.CX P w) P w K mg base N__law_pools "_law_pools" (defScope s__law_pools) f cdv A outer s H E) rfl rfl rfl rfl
  have hp := passes_of (X := cxOf (L2.CX P w) P w K mg base N__law_pools "_law_pools" (defScope s__law_pools) f cdv A outer s H E) rfl
  exact (cs_cons (cs_set (i := 1) sc.nd (c_ix (c_f (cf_lst (ca_cons (c_op op_addA os_add c_int (c_op op_mod os_mod (c_ix (c_var 0) c_int (fun _ _ => rfl)) c_int)) (ca_cons (c_op op_addA os_add c_int (c_op op_mod os_mod (c_ix (c_var 0) c_int (fun _ _ => rfl)) c_int)) (ca_cons (c_op op_sub os_sub c_int (c_op op_mod os_mod (c_ix (c_var 0) c_int (fun _ _ => rfl)) c_int)) (ca_cons c_int ca_nil rfl) rfl) rfl) rfl))) (c_op op_mod os_mod (c_ix (c_var 0) c_int (fun _ _ => rfl)) c_int) (fun _ _ => rfl)) rfl (Or.inl rfl) rfl (.inl rfl))
      (cs_cons (cs_set (i := 2) sc.nd (c_f (cf_call C__law_names tk hr (by omega) (ca_cons (c_f (cf_sl (c_var 0) (co_some c_int) (co_some c_int))) (ca_cons c_int ca_nil rfl) rfl) rfl rfl (by decide) rfl rfl (la_cons (la_cons la_nil)))) rfl (Or.inl rfl) rfl (.inl rfl))
      (cs_cons (cs_if (ct_cmp (op_eqA hr) os_eq (c_op op_mod os_mod (c_op op_divNW os_div (c_ix (c_var 0) c_int (fun _ _ => rfl)) c_int) c_int) c_int (nomark _)) (cs_one (cs_ret (c_tup (ca_cons (c_f (cf_sl3 (c_var 2) (co_some c_int) (co_some c_int) (co_some (c_neg c_int)))) (ca_cons (c_var 2) (ca_cons (c_var 1) ca_nil rfl) rfl) rfl)))) cs_nil)
      (cs_one (cs_ret (c_tup (ca_cons (c_f (cf_call C__law_names tk hr (by omega) (ca_cons (c_f (cf_sl (c_var 0) (co_some c_int) (co_some c_int))) (ca_cons c_int ca_nil rfl) rfl) rfl rfl (by decide) rfl rfl (la_cons (la_cons la_nil)))) (ca_cons (c_var 2) (ca_cons (c_var 1) ca_nil rfl) rfl) rfl)))))))
abbrev s_Land___init__ : Stmt := inClass (top 15) 0
abbrev N_Land___init__ : List Str := ["self", "acres"]
theorem sc_Land___init__ : FnScope N_Land___init__ ["self", "acres"] (defScope s_Land___init__) := ⟨rfl, rfl, rfl, by decide +kernel, rfl, by decide +kernel, by decide +kernel⟩
theorem t_Land___init__ {f : Addr} {fd : FuncData} (T : Tx K mg) (FD : FunD K "__init__" "Land.__init__" (defArgs s_Land___init__) (defBody s_Land___init__) (defScope s_Land___init__) [] [] f fd) (hg : mg "Land" = some (.ref (ca K "Land"))) (hM : Mk K (ca K "Land") f)  : MkD P w K mg base "Land" 1 2 m_Land___init__ := by
  have sc := sc_Land___init__
  refine mk_mk (n := 2) FD hg hM sc rfl rfl (fun _ _ _ _ _ _ us hl => match us, hl with | [_, _], _ => rfl) fun cdv A outer s H E hr => ?_
  have tk := takes_of (X := cxOf (L2.CX P w) P w K mg base N_Land___init__ "Land.__init__" (defScope s_Land___init__) f cdv A outer s H E) rfl rfl rfl rfl
  have hp := passes_of (X := cxOf (L2.CX P w) P w K mg base N_Land___init__ "Land.__init__" (defScope s_Land___init__) f cdv A outer s H E) rfl
  exact (cs_cons (cs_if (ct_not (ct_chain op_le os_le op_le os_le c_int (c_var 1) (c_gint T.MOST_ACRES) (by with_unfolding_all rfl))) (cs_one (cs_raise (c := "NoLand") T.x_NoLand tk rfl rfl (by decide))) cs_nil)
      (cs_cons (cs_fld (f := "lords") T.cf_Land_lords (c_var 0) (c_alloc (cf_disp (sp_cons (c_gstr T.CROWN) c_non sp_nil) rfl rfl (by simp) (by decide))) rfl)
      (cs_cons (cs_fld (f := "holders") T.cf_Land_holders (c_var 0) (c_alloc (cf_disp (sp_cons (c_gstr T.CROWN) (c_gstr T.CROWN) sp_nil) rfl rfl (by simp) (by decide))) rfl)
      (cs_cons (cs_fld (f := "acres_of") T.cf_Land_acres_of (c_var 0) (c_alloc (cf_disp (sp_cons (c_gstr T.CROWN) (c_var 1) sp_nil) rfl rfl (by simp) (by decide))) rfl)
      (cs_one (cs_fld (f := "services") T.cf_Land_services (c_var 0) (c_alloc (cf_disp (sp_cons (c_gstr T.CROWN) (c_gtup T.NOUGHT) sp_nil) rfl rfl (by simp) (by decide))) rfl))))))
abbrev s__law_book_v2 : Stmt := top 21
abbrev N__law_book_v2 : List Str := ["_law_acres"]
theorem sc__law_book_v2 : FnScope N__law_book_v2 ["_law_acres"] (defScope s__law_book_v2) := ⟨rfl, rfl, rfl, by decide +kernel, rfl, by decide +kernel, by decide +kernel⟩
theorem t__law_book_v2 {f : Addr} {fd : FuncData} (T : Tx K mg) (FD : FunD K "_law_book" "_law_book" (defArgs s__law_book_v2) (defBody s__law_book_v2) (defScope s__law_book_v2) [] [] f fd) (hm : mg "_law_book" = some (.ref f))  : Fn true P w K mg base "_law_book" 1 1 m__law_book_v2 := by
  have sc := sc__law_book_v2
  refine fn_mk (n := 1) FD hm sc rfl rfl (fun _ _ _ _ _ _ us hl => match us, hl with | [_], _ => rfl) fun cdv A outer s H E hr => ?_
  have tk := takes_of (X := cxOf (L2.CX P w) P w K mg base N__law_book_v2 "_law_book" (defScope s__law_book_v2) f cdv A outer s H E) rfl rfl rfl rfl
  have hp := passes_of (X := cxOf (L2.CX P w) P w K mg base N__law_book_v2 "_law_book" (defScope s__law_book_v2) f cdv A outer s H E) rfl
  exact (cs_one (cs_retF (cf_disp (sp_cons c_str (c_alloc (cf_disp (sp_cons c_str c_non sp_nil) rfl rfl (by simp) (by decide))) (sp_cons c_str (c_alloc (cf_disp (sp_cons c_str c_str sp_nil) rfl rfl (by simp) (by decide))) (sp_cons c_str (c_alloc (cf_disp (sp_cons c_str (c_var 0) sp_nil) rfl rfl (by simp) (by decide))) (sp_cons c_str (c_alloc (cf_disp (sp_cons c_str (c_tup (ca_cons c_int (ca_cons c_int ca_nil rfl) rfl)) sp_nil) rfl rfl (by simp) (by decide))) (sp_cons c_str (c_alloc (cf_lst ca_nil)) (sp_cons c_str (c_alloc cf_dnew) (sp_cons c_str (c_alloc (cf_lst ca_nil)) (sp_cons c_str (c_alloc cf_dnew) sp_nil)))))))) rfl rfl (by simp) (by decide))))
abbrev s__law_held : Stmt := top 24
abbrev N__law_held : List Str := ["_law_book_here", "_law_man", "_law_one"]
theorem sc__law_held : FnScope N__law_held ["_law_book_here", "_law_man"] (defScope s__law_held) := ⟨rfl, rfl, rfl, by decide +kernel, rfl, by decide +kernel, by decide +kernel⟩
theorem t__law_held {f : Addr} {fd : FuncData} (T : Tx K mg) (FD : FunD K "_law_held" "_law_held" (defArgs s__law_held) (defBody s__law_held) (defScope s__law_held) [] [] f fd) (hm : mg "_law_held" = some (.ref f))  : Fn true P w K mg base "_law_held" 1 2 m__law_held := by
  have sc := sc__law_held
  refine fn_mk (n := 3) FD hm sc rfl rfl (fun _ _ _ _ _ _ us hl => match us, hl with | [_, _], _ => rfl) fun cdv A outer s H E hr => ?_
  have tk := takes_of (X := cxOf (L2.CX P w) P w K mg base N__law_held "_law_held" (defScope s__law_held) f cdv A outer s H E) rfl rfl rfl rfl
  have hp := passes_of (X := cxOf (L2.CX P w) P w K mg base N__law_held "_law_held" (defScope s__law_held) f cdv A outer s H E) rfl
  exact (cs_one (cs_retF (cf_b1 call_sortedA bf_sorted T.sorted (c_f (cf_lock (fe := (d2 opGet (dVar 0) (dC (.str "holders")))) (cf_lc sc.nd (blkOk_by (own := [("_law_one", 2)]) (N := N__law_held) (sc := defScope s__law_held) (by decide +kernel)) rfl (ci_keys (c_get hr (c_var 0) c_str (fun _ _ => rfl) (fun _ _ => rfl))) (fun _ _ _ _ _ => (cg_name 2 sc.nd)) (fun _ _ _ _ _ => cts_one (ct_cmp (op_eqA hr) os_eq (c_get hr (c_get hr (c_var 0) c_str (fun _ _ => rfl) (fun _ _ => rfl)) (c_var 2) (fun _ _ => rfl) (fun _ _ => rfl)) (c_var 1) (nomark _))) (fun _ _ _ _ _ => (c_var 2)) rfl (fun _ => rfl)))) (by decide +kernel) rfl (by decide) (by decide) rfl)))
abbrev s__law_bound_to : Stmt := top 25
abbrev N__law_bound_to : List Str := ["_law_book_here", "_law_man", "_law_one"]
theorem sc__law_bound_to : FnScope N__law_bound_to ["_law_book_here", "_law_man"] (defScope s__law_bound_to) := ⟨rfl, rfl, rfl, by decide +kernel, rfl, by decide +kernel, by decide +kernel⟩
theorem t__law_bound_to {f : Addr} {fd : FuncData} (T : Tx K mg) (FD : FunD K "_law_bound_to" "_law_bound_to" (defArgs s__law_bound_to) (defBody s__law_bound_to) (defScope s__law_bound_to) [] [] f fd) (hm : mg "_law_bound_to" = some (.ref f)) (C__law_held : Fn true P w K mg base "_law_held" 1 2 m__law_held) : Fn true P w K mg base "_law_bound_to" 2 2 m__law_bound_to := by
  have sc := sc__law_bound_to
  refine fn_mk (n := 3) FD hm sc rfl rfl (fun _ _ _ _ _ _ us hl => match us, hl with | [_, _], _ => rfl) fun cdv A outer s H E hr => ?_
  have tk := takes_of (X := cxOf (L2.CX P w) P w K mg base N__law_bound_to "_law_bound_to" (defScope s__law_bound_to) f cdv A outer s H E) rfl rfl rfl rfl
  have hp := passes_of (X := cxOf (L2.CX P w) P w K mg base N__law_bound_to "_law_bound_to" (defScope s__law_bound_to) f cdv A outer s H E) rfl
  exact (cs_one (cs_retF (cf_lc sc.nd (blkOk_by (own := [("_law_one", 2)]) (N := N__law_bound_to) (sc := defScope s__law_bound_to) (by decide +kernel)) rfl (ci_list (c_f (cf_call C__law_held tk hr (by omega) (ca_cons (c_var 0) (ca_cons (c_var 1) ca_nil rfl) rfl) rfl rfl (by decide) rfl rfl (la_cons (la_cons la_nil))))) (fun _ _ _ _ _ => (cg_name 2 sc.nd)) (fun _ _ _ _ _ => cts_one (ct_cmp (op_neA hr) os_ne (c_var 2) c_str (nomark _))) (fun _ _ _ _ _ => (c_get hr (c_get hr (c_var 0) c_str (fun _ _ => rfl) (fun _ _ => rfl)) (c_get hr (c_get hr (c_var 0) c_str (fun _ _ => rfl) (fun _ _ => rfl)) (c_var 2) (fun _ _ => rfl) (fun _ _ => rfl)) (fun _ _ => rfl) (fun _ _ => rfl))) rfl (fun _ => rfl))))
abbrev s__law_lord_for : Stmt := top 32
abbrev N__law_lord_for : List Str := ["_law_book_here", "_law_men", "_law_man", "_law_number", "_law_some", "_law_one"]
theorem sc__law_lord_for : FnScope N__law_lord_for ["_law_book_here", "_law_men", "_law_man", "_law_number"] (defScope s__law_lord_for) := ⟨rfl, rfl, rfl, by decide +kernel, rfl, by decide +kernel, by decide +kernel⟩
theorem t__law_lord_for {f : Addr} {fd : FuncData} (T : Tx K mg) (FD : FunD K "_law_lord_for" "_law_lord_for" (defArgs s__law_lord_for) (defBody s__law_lord_for) (defScope s__law_lord_for) [] [] f fd) (hm : mg "_law_lord_for" = some (.ref f)) (C__law_bound_to : Fn true P w K mg base "_law_bound_to" 2 2 m__law_bound_to) : Fn false P w K mg base "_law_lord_for" 3 4 m__law_lord_for := by
  have sc := sc__law_lord_for
  refine fn_mk (n := 6) FD hm sc rfl rfl (fun _ _ _ _ _ _ us hl => match us, hl with | [_, _, _, _], _ => rfl) fun cdv A outer s H E hr => ?_
  have tk := takes_of (X := cxOf (L2.CX P w) P w K mg base N__law_lord_for "_law_lord_for" (defScope s__law_lord_for) f cdv A outer s H E) rfl rfl rfl rfl
  have hp := passes_of (X := cxOf (L2.CX P w) P w K mg base N__law_lord_for "_law_lord_for" (defScope s__law_lord_for) f cdv A outer s H E) rfl
  exact (cs_cons (cs_setLc (i := 4) sc.nd (blkOk_by (own := [("_law_one", 5)]) (N := N__law_lord_for) (sc := defScope s__law_lord_for) (by decide +kernel)) rfl (sw_true rfl rfl rfl (by decide +kernel)) (ci_list (c_op op_addA os_add (c_op op_addA os_add (c_op op_mulA os_mul' (c_f (cf_call C__law_bound_to tk hr (by omega) (ca_cons (c_var 0) (ca_cons (c_var 2) ca_nil rfl) rfl) rfl rfl (by decide) rfl rfl (la_cons (la_cons la_nil)))) c_int) (c_var 1)) (c_f (cf_lst (ca_cons c_str ca_nil rfl))))) (fun _ _ _ _ _ => (cg_name 5 sc.nd)) (fun _ _ _ _ _ => cts_one (ct_cmp (op_neA hr) os_ne (c_var 5) (c_var 2) (nomark _))) (fun _ _ _ _ _ => (c_var 5)) rfl rfl rfl (fun _ => rfl))
      (cs_one (cs_ret (c_ix (c_var 4) (c_op op_mod os_mod (c_var 3) (c_b1 call_lenA b_len T.len (c_var 4) (by decide +kernel) rfl (by decide) (by decide) rfl)) (fun _ _ => rfl)))))
abbrev s__law_row : Stmt := top 33
abbrev N__law_row : List Str := ["_law_book_here", "_law_pools_here", "_law_d", "_law_day", "_law_men", "_law_lands", "_law_there", "_law_estate", "_law_man", "_law_fresh", "_law_new_here", "_law_wide", "_law_many", "_law_way", "_law_others", "_law_one"]
theorem sc__law_row : FnScope N__law_row ["_law_book_here", "_law_pools_here", "_law_d", "_law_day"] (defScope s__law_row) := ⟨rfl, rfl, rfl, by decide +kernel, rfl, by decide +kernel, by decide +kernel⟩
theorem t__law_row {f : Addr} {fd : FuncData} (T : Tx K mg) (FD : FunD K "_law_row" "_law_row" (defArgs s__law_row) (defBody s__law_row) (defScope s__law_row) [] [] f fd) (hm : mg "_law_row" = some (.ref f)) (C__law_lord_for : Fn false P w K mg base "_law_lord_for" 3 4 m__law_lord_for) : Fn false P w K mg base "_law_row" 4 4 m__law_row := by
  have sc := sc__law_row
  refine fn_mk (n := 16) FD hm sc rfl rfl (fun _ _ _ _ _ _ us hl => match us, hl with | [_, _, _, _], _ => rfl) fun cdv A outer s H E hr => ?_
  have tk := takes_of (X := cxOf (L2.CX P w) P w K mg base N__law_row "_law_row" (defScope s__law_row) f cdv A outer s H E) rfl rfl rfl rfl
  have hp := passes_of (X := cxOf (L2.CX P w) P w K mg base N__law_row "_law_row" (defScope s__law_row) f cdv A outer s H E) rfl
  exact (cs_cons (cs_set (i := 4) sc.nd (c_ix (c_var 1) c_int (fun _ _ => rfl)) rfl (Or.inl rfl) rfl (.inl rfl))
      (cs_cons (cs_set (i := 5) sc.nd (c_ix (c_var 1) c_int (fun _ _ => rfl)) rfl (Or.inl rfl) rfl (.inl rfl))
      (cs_cons (cs_set (i := 6) sc.nd (c_f (cf_b1 call_sortedA bf_sorted T.sorted (c_f (cf_t1 (CallR.or call_list_of (call_listD rfl)) (bf_or bf_list bf_listD listA_or) T.list (c_get hr (c_var 0) c_str (fun _ _ => rfl) (fun _ _ => rfl)) (by decide +kernel) rfl (by decide) (by decide) rfl)) (by decide +kernel) rfl (by decide) (by decide) rfl)) rfl (Or.inl rfl) rfl (.inl rfl))
      (cs_cons (cs_set (i := 7) sc.nd (c_ix (c_var 6) (c_op op_mod os_mod (c_ix (c_var 2) c_int (fun _ _ => rfl)) (c_b1 call_lenA b_len T.len (c_var 6) (by decide +kernel) rfl (by decide) (by decide) rfl)) (fun _ _ => rfl)) rfl (Or.inl rfl) rfl (.inl rfl))
      (cs_cons (cs_set (i := 8) sc.nd (c_ix (c_var 4) (c_op op_mod os_mod (c_ix (c_var 2) c_int (fun _ _ => rfl)) (c_b1 call_lenA b_len T.len (c_var 4) (by decide +kernel) rfl (by decide) (by decide) rfl)) (fun _ _ => rfl)) rfl (Or.inr rfl) rfl (.inl rfl))
      (cs_cons (cs_setLc (i := 9) sc.nd (blkOk_by (own := [("_law_one", 15)]) (N := N__law_row) (sc := defScope s__law_row) (by decide +kernel)) rfl (sw_true rfl rfl rfl (by decide +kernel)) (ci_list (c_var 5)) (fun _ _ _ _ _ => (cg_name 15 sc.nd)) (fun _ _ _ _ _ => cts_one (ct_cmp (op_notInG hr) os_notInG (c_var 15) (c_get hr (c_var 0) c_str (fun _ _ => rfl) (fun _ _ => rfl)) rfl)) (fun _ _ _ _ _ => (c_var 15)) rfl rfl rfl (fun _ => rfl))
      (cs_cons (cs_set (i := 10) sc.nd (c_ix (c_op op_addA os_add (c_var 9) (c_var 5)) (c_op op_mod os_mod (c_ix (c_var 2) c_int (fun _ _ => rfl)) (c_b2 (call_max2 rfl) b_max T.max c_int (c_b1 call_lenA b_len T.len (c_var 9) (by decide +kernel) rfl (by decide) (by decide) rfl) (by decide +kernel) rfl (by decide) (by decide) rfl rfl rfl)) (fun _ _ => rfl)) rfl (Or.inl rfl) rfl (.inl rfl))
      (cs_cons (cs_if (ct_cmp op_gt os_gt (c_op op_mod os_mod (c_ix (c_var 2) c_int (fun _ _ => rfl)) c_int) c_int (nomark _)) (cs_cons (cs_set (i := 10) sc.nd (c_ix (c_var 5) (c_op op_mod os_mod (c_ix (c_var 2) c_int (fun _ _ => rfl)) (c_b1 call_lenA b_len T.len (c_var 5) (by decide +kernel) rfl (by decide) (by decide) rfl)) (fun _ _ => rfl)) rfl (Or.inl rfl) rfl (.inl rfl))
      (cs_one (cs_set (i := 7) sc.nd (c_ix (c_op op_addA os_add (c_f (cf_lst (ca_cons c_str ca_nil rfl))) (c_var 5)) (c_op op_mod os_mod (c_ix (c_var 2) c_int (fun _ _ => rfl)) c_int) (fun _ _ => rfl)) rfl (Or.inl rfl) rfl (.inl rfl)))) cs_nil)
      (cs_cons (cs_set (i := 11) sc.nd (c_dget2 hr (c_get hr (c_var 0) c_str (fun _ _ => rfl) (fun _ _ => rfl)) (c_var 7) c_int ⟨rfl, rfl, rfl, rfl⟩) rfl (Or.inl rfl) rfl (.inl rfl))
      (cs_cons (cs_set (i := 12) sc.nd (c_op op_addA os_add c_int (c_op op_mod os_mod (c_ix (c_var 2) c_int (fun _ _ => rfl)) (c_b2 (call_max2 rfl) b_max T.max c_int (c_var 11) (by decide +kernel) rfl (by decide) (by decide) rfl rfl rfl))) rfl (Or.inl rfl) rfl (.inl rfl))
      (cs_cons (cs_if (ct_cmp (op_eqA hr) os_eq (c_op op_mod os_mod (c_ix (c_var 2) c_int (fun _ _ => rfl)) c_int) c_int (nomark _)) (cs_one (cs_set (i := 12) sc.nd (c_b2 (call_min2 rfl) b_min T.min c_int (c_op op_addA os_add (c_op op_addA os_add (c_var 11) c_int) (c_op op_mod os_mod (c_ix (c_var 2) c_int (fun _ _ => rfl)) c_int)) (by decide +kernel) rfl (by decide) (by decide) rfl rfl rfl) rfl (Or.inl rfl) rfl (.inl rfl))) cs_nil)
      (cs_cons (cs_set (i := 13) sc.nd (c_op op_mod os_mod (c_ix (c_var 2) c_int (fun _ _ => rfl)) c_int) rfl (Or.inl rfl) rfl (.inl rfl))
      (cs_cons (cs_if (PW.pt (cw_or (ct_cmp op_lt os_lt (c_var 13) c_int (nomark _)) (cw_or1 (PW.pt (cw_and (ct_cmp (op_eqA hr) os_eq (c_var 7) c_str (nomark _)) (cw_and1 (ct_cmp (op_inG hr) os_inG (c_var 13) (c_tup (ca_cons c_int (ca_cons c_int (ca_cons c_int (ca_cons c_int (ca_cons c_int ca_nil rfl) rfl) rfl) rfl) rfl)) rfl))))))) (cs_one (cs_ret (c_tup (ca_cons c_str (ca_cons (c_var 3) (ca_cons (c_var 7) (ca_cons (c_var 10) (ca_cons (c_var 8) (ca_cons (c_var 12) (ca_cons (c_ix (c_f (cf_lst (ca_cons c_int (ca_cons c_int (ca_cons (c_op op_mod os_mod (c_ix (c_var 2) c_int (fun _ _ => rfl)) c_int) (ca_cons (c_op op_sub os_sub c_int (c_op op_mod os_mod (c_ix (c_var 2) c_int (fun _ _ => rfl)) c_int)) ca_nil rfl) rfl) rfl) rfl))) (c_op op_mod os_mod (c_ix (c_var 2) c_int (fun _ _ => rfl)) c_int) (fun _ _ => rfl)) ca_nil rfl) rfl) rfl) rfl) rfl) rfl) rfl)))) cs_nil)
      (cs_cons (cs_if (PW.pt (cw_or (ct_cmp (op_eqA hr) os_eq (c_var 13) c_int (nomark _)) (cw_or1 (ct_cmp (op_eqA hr) os_eq (c_var 13) c_int (nomark _))))) (cs_one (cs_ret (c_tup (ca_cons c_str (ca_cons (c_var 3) (ca_cons (c_var 7) (ca_cons (c_var 10) (ca_cons (c_var 8) (ca_cons (c_var 12) ca_nil rfl) rfl) rfl) rfl) rfl) rfl)))) cs_nil)
      (cs_cons (cs_if (ct_cmp op_lt os_lt (c_var 13) c_int (nomark _)) (cs_one (cs_ret (c_tup (ca_cons c_str (ca_cons (c_var 3) (ca_cons (c_var 7) (ca_cons (c_var 8) ca_nil rfl) rfl) rfl) rfl)))) cs_nil)
      (cs_cons (cs_if (PW.pt (cw_or (ct_cmp (op_eqA hr) os_eq (c_var 13) c_int (nomark _)) (cw_or1 (ct_cmp (op_eqA hr) os_eq (c_var 13) c_int (nomark _))))) (cs_cons (cs_setLc (i := 14) sc.nd (blkOk_by (own := [("_law_one", 15)]) (N := N__law_row) (sc := defScope s__law_row) (by decide +kernel)) rfl (sw_true rfl rfl rfl (by decide +kernel)) (ci_list (c_var 4)) (fun _ _ _ _ _ => (cg_name 15 sc.nd)) (fun _ _ _ _ _ => cts_one (ct_cmp (op_neA hr) os_ne (c_var 15) (c_var 8) (nomark _))) (fun _ _ _ _ _ => (c_var 15)) rfl rfl rfl (fun _ => rfl))
      (cs_one (cs_ret (c_tup (ca_cons c_str (ca_cons (c_var 3) (ca_cons (c_var 8) (ca_cons (c_ix (c_var 14) (c_op op_mod os_mod (c_ix (c_var 2) c_int (fun _ _ => rfl)) (c_b1 call_lenA b_len T.len (c_var 14) (by decide +kernel) rfl (by decide) (by decide) rfl)) (fun _ _ => rfl)) ca_nil rfl) rfl) rfl) rfl))))) cs_nil)
      (cs_cons (cs_if (ct_cmp (op_eqA hr) os_eq (c_var 13) c_int (nomark _)) (cs_one (cs_ret (c_tup (ca_cons c_str (ca_cons (c_var 3) (ca_cons (c_var 8) (ca_cons (c_e (c_call C__law_lord_for tk hr (by omega) (ca_cons (c_var 0) (ca_cons (c_var 4) (ca_cons (c_var 8) (ca_cons (c_ix (c_var 2) c_int (fun _ _ => rfl)) ca_nil rfl) rfl) rfl) rfl) rfl rfl (by decide) rfl rfl (la_cons (la_cons (la_cons (la_cons la_nil)))))) ca_nil rfl) rfl) rfl) rfl)))) cs_nil)
      (cs_cons (cs_if (ct_cmp (op_eqA hr) os_eq (c_var 13) c_int (nomark _)) (cs_one (cs_ret (c_tup (ca_cons c_str (ca_cons (c_var 3) (ca_cons (c_var 7) ca_nil rfl) rfl) rfl)))) cs_nil)
      (cs_one (cs_ret (c_tup (ca_cons c_str (ca_cons (c_var 3) (ca_cons (c_var 8) ca_nil rfl) rfl) rfl))))))))))))))))))))))
abbrev s__law_some_deed : Stmt := top 38
abbrev N__law_some_deed : List Str := ["_law_book_here", "_law_pools_here", "_law_d", "_law_row_here", "_law_fresh", "_law_one"]
theorem sc__law_some_deed : FnScope N__law_some_deed ["_law_book_here", "_law_pools_here", "_law_d"] (defScope s__law_some_deed) := ⟨rfl, rfl, rfl, by decide +kernel, rfl, by decide +kernel, by decide +kernel⟩
theorem t__law_some_deed {f : Addr} {fd : FuncData} (T : Tx K mg) (FD : FunD K "_law_some_deed" "_law_some_deed" (defArgs s__law_some_deed) (defBody s__law_some_deed) (defScope s__law_some_deed) [] [] f fd) (hm : mg "_law_some_deed" = some (.ref f)) (C__law_row : Fn false P w K mg base "_law_row" 4 4 m__law_row) : Fn false P w K mg base "_law_some_deed" 5 3 m__law_some_deed := by
  have sc := sc__law_some_deed
  refine fn_mk (n := 6) FD hm sc rfl rfl (fun _ _ _ _ _ _ us hl => match us, hl with | [_, _, _], _ => rfl) fun cdv A outer s H E hr => ?_
  have tk := takes_of (X := cxOf (L2.CX P w) P w K mg base N__law_some_deed "_law_some_deed" (defScope s__law_some_deed) f cdv A outer s H E) rfl rfl rfl rfl
  have hp := passes_of (X := cxOf (L2.CX P w) P w K mg base N__law_some_deed "_law_some_deed" (defScope s__law_some_deed) f cdv A outer s H E) rfl
  exact (cs_cons (cs_set (i := 3) sc.nd (c_e (c_call C__law_row tk hr (by omega) (ca_cons (c_var 0) (ca_cons (c_var 1) (ca_cons (c_var 2) (ca_cons c_int ca_nil rfl) rfl) rfl) rfl) rfl rfl (by decide) rfl rfl (la_cons (la_cons (la_cons (la_cons la_nil)))))) rfl (Or.inl rfl) rfl (.inl rfl))
      (cs_cons (cs_if (ct_cmp (op_inG hr) os_inG (c_ix (c_var 3) c_int (fun _ _ => rfl)) (c_tup (ca_cons c_str (ca_cons c_str (ca_cons c_str ca_nil rfl) rfl) rfl)) rfl) (cs_cons (cs_set (i := 3) sc.nd (c_tup (ca_cons c_str (ca_cons c_int (ca_cons (c_ix (c_f (cf_b1 call_sortedA bf_sorted T.sorted (c_f (cf_t1 (CallR.or call_list_of (call_listD rfl)) (bf_or bf_list bf_listD listA_or) T.list (c_get hr (c_var 0) c_str (fun _ _ => rfl) (fun _ _ => rfl)) (by decide +kernel) rfl (by decide) (by decide) rfl)) (by decide +kernel) rfl (by decide) (by decide) rfl)) (c_op op_mod os_mod (c_ix (c_var 2) c_int (fun _ _ => rfl)) (c_b1 call_lenA b_len T.len (c_get hr (c_var 0) c_str (fun _ _ => rfl) (fun _ _ => rfl)) (by decide +kernel) rfl (by decide) (by decide) rfl)) (fun _ _ => rfl)) (ca_cons (c_ix (c_var 3) c_int (fun _ _ => rfl)) (ca_cons (c_ix (c_ix (c_var 1) c_int (fun _ _ => rfl)) (c_op op_mod os_mod (c_ix (c_var 2) c_int (fun _ _ => rfl)) c_int) (fun _ _ => rfl)) (ca_cons c_int (ca_cons c_int ca_nil rfl) rfl) rfl) rfl) rfl) rfl) rfl)) rfl (Or.inl rfl) rfl (.inl rfl))
      (cs_cons (cs_setLc (i := 4) sc.nd (blkOk_by (own := [("_law_one", 5)]) (N := N__law_some_deed) (sc := defScope s__law_some_deed) (by decide +kernel)) rfl (sw_true rfl rfl rfl (by decide +kernel)) (ci_list (c_ix (c_var 1) c_int (fun _ _ => rfl))) (fun _ _ _ _ _ => (cg_name 5 sc.nd)) (fun _ _ _ _ _ => cts_one (ct_cmp (op_notInG hr) os_notInG (c_var 5) (c_get hr (c_var 0) c_str (fun _ _ => rfl) (fun _ _ => rfl)) rfl)) (fun _ _ _ _ _ => (c_var 5)) rfl rfl rfl (fun _ => rfl))
      (cs_one (cs_set (i := 3) sc.nd (c_op op_addA os_add (c_op op_addA os_add (c_f (cf_sl (c_var 3) co_none (co_some c_int))) (c_tup (ca_cons (c_ix (c_op op_addA os_add (c_var 4) (c_ix (c_var 1) c_int (fun _ _ => rfl))) c_int (fun _ _ => rfl)) ca_nil rfl))) (c_f (cf_sl (c_var 3) (co_some c_int) co_none))) rfl (Or.inl rfl) rfl (.inl rfl))))) cs_nil)
      (cs_one (cs_ret (c_var 3)))))
abbrev s__law_steered : Stmt := top 39
abbrev N__law_steered : List Str := ["_law_book_here", "_law_pools_here", "_law_d", "_law_kinds", "_law_fresh", "_law_there", "_law_row_here", "_law_estate", "_law_man", "_law_one"]
theorem sc__law_steered : FnScope N__law_steered ["_law_book_here", "_law_pools_here", "_law_d", "_law_kinds"] (defScope s__law_steered) := ⟨rfl, rfl, rfl, by decide +kernel, rfl, by decide +kernel, by decide +kernel⟩
theorem t__law_steered {f : Addr} {fd : FuncData} (T : Tx K mg) (FD : FunD K "_law_steered" "_law_steered" (defArgs s__law_steered) (defBody s__law_steered) (defScope s__law_steered) [] [] f fd) (hm : mg "_law_steered" = some (.ref f)) (C__law_some_deed : Fn false P w K mg base "_law_some_deed" 5 3 m__law_some_deed) : Fn false P w K mg base "_law_steered" 6 4 m__law_steered := by
  have sc := sc__law_steered
  refine fn_mk (n := 10) FD hm sc rfl rfl (fun _ _ _ _ _ _ us hl => match us, hl with | [_, _, _, _], _ => rfl) fun cdv A outer s H E hr => ?_
  have tk := takes_of (X := cxOf (L2.CX P w) P w K mg base N__law_steered "_law_steered" (defScope s__law_steered) f cdv A outer s H E) rfl rfl rfl rfl
  have hp := passes_of (X := cxOf (L2.CX P w) P w K mg base N__law_steered "_law_steered" (defScope s__law_steered) f cdv A outer s H E) rfl
  exact (cs_cons (cs_setLc (i := 4) sc.nd (blkOk_by (own := [("_law_one", 9)]) (N := N__law_steered) (sc := defScope s__law_steered) (by decide +kernel)) rfl (sw_true rfl rfl rfl (by decide +kernel)) (ci_list (c_ix (c_var 1) c_int (fun _ _ => rfl))) (fun _ _ _ _ _ => (cg_name 9 sc.nd)) (fun _ _ _ _ _ => cts_one (ct_cmp (op_notInG hr) os_notInG (c_var 9) (c_get hr (c_var 0) c_str (fun _ _ => rfl) (fun _ _ => rfl)) rfl)) (fun _ _ _ _ _ => (c_var 9)) rfl rfl rfl (fun _ => rfl))
      (cs_cons (cs_lock (fe := (d2 opGet (dVar 0) (dC (.str "lords")))) (cs_setLc (i := 5) sc.nd (blkOk_by (own := [("_law_one", 9)]) (N := N__law_steered) (sc := defScope s__law_steered) (by decide +kernel)) rfl (sw_true rfl rfl rfl (by decide +kernel)) (ci_keys (c_get hr (c_var 0) c_str (fun _ _ => rfl) (fun _ _ => rfl))) (fun _ _ _ _ _ => (cg_name 9 sc.nd)) (fun _ _ _ _ _ => cts_one (ct_cmp (op_neA hr) os_ne (c_var 9) c_str (nomark _))) (fun _ _ _ _ _ => (c_var 9)) rfl rfl rfl (fun _ => rfl)))
      (cs_cons (cs_set (i := 6) sc.nd (c_e (c_call C__law_some_deed tk hr (by omega) (ca_cons (c_var 0) (ca_cons (c_var 1) (ca_cons (c_var 2) ca_nil rfl) rfl) rfl) rfl rfl (by decide) rfl rfl (la_cons (la_cons (la_cons la_nil))))) rfl (Or.inl rfl) rfl (.inl rfl))
      (cs_cons (cs_if (PW.pt (cw_or (ct_cmp (op_inG hr) os_inG (c_ix (c_var 6) c_int (fun _ _ => rfl)) (c_var 3) rfl) (cw_or1 (ct_cmp (op_eqA hr) os_eq (c_var 5) (c_f (cf_lst ca_nil)) (nomark _))))) (cs_one (cs_ret (c_var 6))) cs_nil)
      (cs_cons (cs_set (i := 7) sc.nd (c_ix (c_var 5) (c_op op_mod os_mod (c_ix (c_var 2) c_int (fun _ _ => rfl)) (c_b1 call_lenA b_len T.len (c_var 5) (by decide +kernel) rfl (by decide) (by decide) rfl)) (fun _ _ => rfl)) rfl (Or.inl rfl) rfl (.inl rfl))
      (cs_cons (cs_set (i := 8) sc.nd (c_ix (c_ix (c_var 1) c_int (fun _ _ => rfl)) (c_op op_mod os_mod (c_ix (c_var 2) c_int (fun _ _ => rfl)) c_int) (fun _ _ => rfl)) rfl (Or.inl rfl) rfl (.inl rfl))
      (cs_cons (cs_if (PW.pt (cw_and (ct_cmp (op_eqA hr) os_eq (c_ix (c_var 3) (c_op op_mod os_mod (c_ix (c_var 2) c_int (fun _ _ => rfl)) (c_b1 call_lenA b_len T.len (c_var 3) (by decide +kernel) rfl (by decide) (by decide) rfl)) (fun _ _ => rfl)) c_str (nomark _)) (cw_and1 (ct_cmp (op_neA hr) os_ne (c_var 4) (c_f (cf_lst ca_nil)) (nomark _))))) (cs_one (cs_ret (c_tup (ca_cons c_str (ca_cons c_int (ca_cons (c_var 7) (ca_cons (c_ix (c_var 4) c_int (fun _ _ => rfl)) (ca_cons (c_var 8) (ca_cons (c_op op_addA os_add c_int (c_op op_mod os_mod (c_ix (c_var 2) c_int (fun _ _ => rfl)) (c_b2 (call_max2 rfl) b_max T.max c_int (c_get hr (c_get hr (c_var 0) c_str (fun _ _ => rfl) (fun _ _ => rfl)) (c_var 7) (fun _ _ => rfl) (fun _ _ => rfl)) (by decide +kernel) rfl (by decide) (by decide) rfl rfl rfl))) ca_nil rfl) rfl) rfl) rfl) rfl) rfl)))) cs_nil)
      (cs_cons (cs_if (ct_cmp (op_eqA hr) os_eq (c_ix (c_var 3) (c_op op_mod os_mod (c_ix (c_var 2) c_int (fun _ _ => rfl)) (c_b1 call_lenA b_len T.len (c_var 3) (by decide +kernel) rfl (by decide) (by decide) rfl)) (fun _ _ => rfl)) c_str (nomark _)) (cs_one (cs_ret (c_tup (ca_cons c_str (ca_cons c_int (ca_cons (c_var 7) (ca_cons (c_var 8) ca_nil rfl) rfl) rfl) rfl)))) cs_nil)
      (cs_cons (cs_if (ct_cmp (op_eqA hr) os_eq (c_ix (c_var 3) (c_op op_mod os_mod (c_ix (c_var 2) c_int (fun _ _ => rfl)) (c_b1 call_lenA b_len T.len (c_var 3) (by decide +kernel) rfl (by decide) (by decide) rfl)) (fun _ _ => rfl)) c_str (nomark _)) (cs_one (cs_ret (c_tup (ca_cons c_str (ca_cons c_int (ca_cons (c_var 7) ca_nil rfl) rfl) rfl)))) cs_nil)
      (cs_one (cs_ret (c_var 6))))))))))))
abbrev s__law_why : Stmt := top 26
abbrev N__law_why : List Str := ["_law_book_here", "_law_row_here", "_law_kind", "_law_man"]
theorem sc__law_why : FnScope N__law_why ["_law_book_here", "_law_row_here"] (defScope s__law_why) := ⟨rfl, rfl, rfl, by decide +kernel, rfl, by decide +kernel, by decide +kernel⟩
theorem t__law_why {f : Addr} {fd : FuncData} (T : Tx K mg) (FD : FunD K "_law_why" "_law_why" (defArgs s__law_why) (defBody s__law_why) (defScope s__law_why) [] [] f fd) (hm : mg "_law_why" = some (.ref f)) (C__law_bound_to : Fn true P w K mg base "_law_bound_to" 2 2 m__law_bound_to) : Fn false P w K mg base "_law_why" 3 2 m__law_why := by
  have sc := sc__law_why
  refine fn_mk (n := 4) FD hm sc rfl rfl (fun _ _ _ _ _ _ us hl => match us, hl with | [_, _], _ => rfl) fun cdv A outer s H E hr => ?_
  have tk := takes_of (X := cxOf (L2.CX P w) P w K mg base N__law_why "_law_why" (defScope s__law_why) f cdv A outer s H E) rfl rfl rfl rfl
  have hp := passes_of (X := cxOf (L2.CX P w) P w K mg base N__law_why "_law_why" (defScope s__law_why) f cdv A outer s H E) rfl
  exact (cs_cons (cs_set (i := 2) sc.nd (c_ix (c_var 1) c_int (fun _ _ => rfl)) rfl (Or.inl rfl) rfl (.inl rfl))
      (cs_cons (cs_if (PW.pt (cw_and (ct_cmp (op_inG hr) os_inG (c_var 2) (c_tup (ca_cons c_str (ca_cons c_str (ca_cons c_str (ca_cons c_str ca_nil rfl) rfl) rfl) rfl)) rfl) (cw_and1 (ct_cmp (op_notInG hr) os_notInG (c_ix (c_var 1) c_int (fun _ _ => rfl)) (c_get hr (c_var 0) c_str (fun _ _ => rfl) (fun _ _ => rfl)) rfl)))) (cs_one (cs_ret c_str)) cs_nil)
      (cs_cons (cs_if (PW.pt (cw_and (ct_cmp (op_inG hr) os_inG (c_var 2) (c_tup (ca_cons c_str (ca_cons c_str ca_nil rfl) rfl)) rfl) (cw_and1 (ct_cmp (op_inG hr) os_inG (c_ix (c_var 1) c_int (fun _ _ => rfl)) (c_get hr (c_var 0) c_str (fun _ _ => rfl) (fun _ _ => rfl)) rfl)))) (cs_one (cs_ret c_str)) cs_nil)
      (cs_cons (cs_set (i := 3) sc.nd (c_ix (c_var 1) c_int (fun _ _ => rfl)) rfl (Or.inl rfl) rfl (.inl rfl))
      (cs_cons (cs_if (ct_cmp (op_inG hr) os_inG (c_var 2) (c_tup (ca_cons c_str (ca_cons c_str ca_nil rfl) rfl)) rfl) (cs_one (cs_set (i := 3) sc.nd (c_ix (c_var 1) c_int (fun _ _ => rfl)) rfl (Or.inl rfl) rfl (.inl rfl))) cs_nil)
      (cs_cons (cs_if (ct_cmp (op_eqA hr) os_eq (c_var 2) c_str (nomark _)) (cs_one (cs_set (i := 3) sc.nd (c_ix (c_var 1) c_int (fun _ _ => rfl)) rfl (Or.inl rfl) rfl (.inl rfl))) cs_nil)
      (cs_cons (cs_if (PW.pt (cw_and (ct_cmp (op_neA hr) os_ne (c_var 2) c_str (nomark _)) (cw_and1 (ct_cmp (op_inG hr) os_inG (c_var 3) (c_get hr (c_var 0) c_str (fun _ _ => rfl) (fun _ _ => rfl)) rfl)))) (cs_one (cs_ret c_str)) cs_nil)
      (cs_cons (cs_if (PW.pt (cw_and (ct_cmp (op_inG hr) os_inG (c_var 2) (c_tup (ca_cons c_str (ca_cons c_str ca_nil rfl) rfl)) rfl) (cw_and1 (ct_cmp op_gt os_gt (c_ix (c_var 1) c_int (fun _ _ => rfl)) (c_get hr (c_get hr (c_var 0) c_str (fun _ _ => rfl) (fun _ _ => rfl)) (c_ix (c_var 1) c_int (fun _ _ => rfl)) (fun _ _ => rfl) (fun _ _ => rfl)) (nomark _))))) (cs_one (cs_ret c_str)) cs_nil)
      (cs_cons (cs_if (PW.pt (cw_and (ct_cmp (op_eqA hr) os_eq (c_var 2) c_str (nomark _)) (cw_and1 (ct_cmp (op_notInG hr) os_notInG (c_ix (c_var 1) c_int (fun _ _ => rfl)) (c_f (cf_call C__law_bound_to tk hr (by omega) (ca_cons (c_var 0) (ca_cons (c_var 3) ca_nil rfl) rfl) rfl rfl (by decide) rfl rfl (la_cons (la_cons la_nil)))) rfl)))) (cs_one (cs_ret c_str)) cs_nil)
      (cs_one (cs_ret c_str)))))))))))
abbrev s__law_let_by : Stmt := top 40
abbrev N__law_let_by : List Str := ["_law_book_here", "_law_row_here"]
theorem sc__law_let_by : FnScope N__law_let_by ["_law_book_here", "_law_row_here"] (defScope s__law_let_by) := ⟨rfl, rfl, rfl, by decide +kernel, rfl, by decide +kernel, by decide +kernel⟩
theorem t__law_let_by {f : Addr} {fd : FuncData} (T : Tx K mg) (FD : FunD K "_law_let_by" "_law_let_by" (defArgs s__law_let_by) (defBody s__law_let_by) (defScope s__law_let_by) [] [] f fd) (hm : mg "_law_let_by" = some (.ref f)) (C__law_why : Fn false P w K mg base "_law_why" 3 2 m__law_why) : Fn false P w K mg base "_law_let_by" 4 2 m__law_let_by := by
  have sc := sc__law_let_by
  refine fn_mk (n := 2) FD hm sc rfl rfl (fun _ _ _ _ _ _ us hl => match us, hl with | [_, _], _ => rfl) fun cdv A outer s H E hr => ?_
  have tk := takes_of (X := cxOf (L2.CX P w) P w K mg base N__law_let_by "_law_let_by" (defScope s__law_let_by) f cdv A outer s H E) rfl rfl rfl rfl
  have hp := passes_of (X := cxOf (L2.CX P w) P w K mg base N__law_let_by "_law_let_by" (defScope s__law_let_by) f cdv A outer s H E) rfl
  exact (cs_one (cs_ret (c_and (c_cmp (op_inG hr) os_inG (c_ix (c_var 1) c_int (fun _ _ => rfl)) (c_tup (ca_cons c_str (ca_cons c_str (ca_cons c_str (ca_cons c_str ca_nil rfl) rfl) rfl) rfl)) rfl) (c_one (c_cmp (op_eqA hr) os_eq (c_e (c_call C__law_why tk hr (by omega) (ca_cons (c_var 0) (ca_cons (c_var 1) ca_nil rfl) rfl) rfl rfl (by decide) rfl rfl (la_cons (la_cons la_nil)))) c_str (nomark _))))))
abbrev s_Land_grant : Stmt := inClass (top 15) 13
abbrev N_Land_grant : List Str := ["self", "estate", "new", "man", "acres", "service"]
theorem sc_Land_grant : FnScope N_Land_grant ["self", "estate", "new", "man", "acres", "service"] (defScope s_Land_grant) := ⟨rfl, rfl, rfl, by decide +kernel, rfl, by decide +kernel, by decide +kernel⟩
theorem t_Land_grant {f : Addr} {fd : FuncData} (T : Tx K mg) (FD : FunD K "grant" "Land.grant" (defArgs s_Land_grant) (defBody s_Land_grant) (defScope s_Land_grant) [] [] f fd) (hc : Cls K (ca K "Land")) (hm : Meth K (ca K "Land") "grant" f)  : Mt false P w K mg base "Land" "grant" 1 6 m_Land_grant := by
  have sc := sc_Land_grant
  refine mt_mk (n := 6) FD hc hm sc rfl rfl (fun _ _ _ _ _ _ us hl => match us, hl with | [_, _, _, _, _, _], _ => rfl) fun cdv A outer s H E hr => ?_
  have tk := takes_of (X := cxOf (L2.CX P w) P w K mg base N_Land_grant "Land.grant" (defScope s_Land_grant) f cdv A outer s H E) rfl rfl rfl rfl
  have hp := passes_of (X := cxOf (L2.CX P w) P w K mg base N_Land_grant "Land.grant" (defScope s_Land_grant) f cdv A outer s H E) rfl
  exact (cs_cons (cs_dput hr (c_fld (f := "lords") T.cf_Land_lords (c_var 0) rfl) (c_var 2) (c_var 1) rfl)
      (cs_cons (cs_dput hr (c_fld (f := "holders") T.cf_Land_holders (c_var 0) rfl) (c_var 2) (c_var 3) rfl)
      (cs_cons (cs_dput hr (c_fld (f := "acres_of") T.cf_Land_acres_of (c_var 0) rfl) (c_var 2) (c_var 4) rfl)
      (cs_cons (cs_dput hr (c_fld (f := "services") T.cf_Land_services (c_var 0) rfl) (c_var 2) (c_tup (ca_cons (c_var 5) (ca_cons c_int ca_nil rfl) rfl)) rfl)
      (cs_one (cs_daug in_sub hr (c_fld (f := "acres_of") T.cf_Land_acres_of (c_var 0) rfl) (c_var 1) (c_var 4) (fun _ _ _ => rfl)))))))
abbrev s_Land_look_at : Stmt := inClass (top 15) 2
abbrev N_Land_look_at : List Str := ["self", "estate"]
theorem sc_Land_look_at : FnScope N_Land_look_at ["self", "estate"] (defScope s_Land_look_at) := ⟨rfl, rfl, rfl, by decide +kernel, rfl, by decide +kernel, by decide +kernel⟩
theorem t_Land_look_at {f : Addr} {fd : FuncData} (T : Tx K mg) (FD : FunD K "look_at" "Land.look_at" (defArgs s_Land_look_at) (defBody s_Land_look_at) (defScope s_Land_look_at) [] [] f fd) (hc : Cls K (ca K "Land")) (hm : Meth K (ca K "Land") "look_at" f)  : Mt false P w K mg base "Land" "look_at" 1 2 m_Land_look_at := by
  have sc := sc_Land_look_at
  refine mt_mk (n := 2) FD hc hm sc rfl rfl (fun _ _ _ _ _ _ us hl => match us, hl with | [_, _], _ => rfl) fun cdv A outer s H E hr => ?_
  have tk := takes_of (X := cxOf (L2.CX P w) P w K mg base N_Land_look_at "Land.look_at" (defScope s_Land_look_at) f cdv A outer s H E) rfl rfl rfl rfl
  have hp := passes_of (X := cxOf (L2.CX P w) P w K mg base N_Land_look_at "Land.look_at" (defScope s_Land_look_at) f cdv A outer s H E) rfl
  exact (cs_one (cs_if (ct_cmp (op_notInG hr) os_notInG (c_var 1) (c_fld (f := "lords") T.cf_Land_lords (c_var 0) rfl) rfl) (cs_one (cs_raise (c := "NoEstate") T.x_NoEstate tk rfl rfl (by decide))) cs_nil))
abbrev s_Land_under : Stmt := inClass (top 15) 8
abbrev N_Land_under : List Str := ["self", "estate", "one"]
theorem sc_Land_under : FnScope N_Land_under ["self", "estate"] (defScope s_Land_under) := ⟨rfl, rfl, rfl, by decide +kernel, rfl, by decide +kernel, by decide +kernel⟩
theorem t_Land_under {f : Addr} {fd : FuncData} (T : Tx K mg) (FD : FunD K "under" "Land.under" (defArgs s_Land_under) (defBody s_Land_under) (defScope s_Land_under) [] [] f fd) (hc : Cls K (ca K "Land")) (hm : Meth K (ca K "Land") "under" f) (C_Land_look_at : Mt false P w K mg base "Land" "look_at" 1 2 m_Land_look_at) : Mt true P w K mg base "Land" "under" 2 2 m_Land_under := by
  have sc := sc_Land_under
  refine mt_mk (n := 3) FD hc hm sc rfl rfl (fun _ _ _ _ _ _ us hl => match us, hl with | [_, _], _ => rfl) fun cdv A outer s H E hr => ?_
  have tk := takes_of (X := cxOf (L2.CX P w) P w K mg base N_Land_under "Land.under" (defScope s_Land_under) f cdv A outer s H E) rfl rfl rfl rfl
  have hp := passes_of (X := cxOf (L2.CX P w) P w K mg base N_Land_under "Land.under" (defScope s_Land_under) f cdv A outer s H E) rfl
  exact (cs_cons (cs_expr (c_e (c_met (m := "look_at") (tbl := [("Land", m_Land_look_at)]) (mt_cons C_Land_look_at (by omega) mt_nil) (by simp) tk hr (c_var 0) (ca_cons (c_var 1) ca_nil rfl) (la_met (la_cons la_nil)) rfl rfl rfl)) rfl)
      (cs_one (cs_retF (cf_b1 call_sortedA bf_sorted T.sorted (c_f (cf_lock (fe := (dFld ["Land"] "lords" (dVar 0))) (cf_lc sc.nd (blkOk_by (own := [("one", 2)]) (N := N_Land_under) (sc := defScope s_Land_under) (by decide +kernel)) rfl (ci_keys (c_fld (f := "lords") T.cf_Land_lords (c_var 0) rfl)) (fun _ _ _ _ _ => (cg_name 2 sc.nd)) (fun _ _ _ _ _ => cts_one (ct_cmp (op_eqA hr) os_eq (c_get hr (c_fld (f := "lords") T.cf_Land_lords (c_var 0) rfl) (c_var 2) (fun _ _ => rfl) (fun _ _ => rfl)) (c_var 1) (nomark _))) (fun _ _ _ _ _ => (c_var 2)) rfl (fun _ => rfl)))) (by decide +kernel) rfl (by decide) (by decide) rfl))))
abbrev s_Land_breadth : Stmt := inClass (top 15) 9
abbrev N_Land_breadth : List Str := ["self", "estate", "found", "ahead", "one"]
theorem sc_Land_breadth : FnScope N_Land_breadth ["self", "estate"] (defScope s_Land_breadth) := ⟨rfl, rfl, rfl, by decide +kernel, rfl, by decide +kernel, by decide +kernel⟩
theorem t_Land_breadth {f : Addr} {fd : FuncData} (T : Tx K mg) (FD : FunD K "breadth" "Land.breadth" (defArgs s_Land_breadth) (defBody s_Land_breadth) (defScope s_Land_breadth) [] [] f fd) (hc : Cls K (ca K "Land")) (hm : Meth K (ca K "Land") "breadth" f) (C_Land_look_at : Mt false P w K mg base "Land" "look_at" 1 2 m_Land_look_at) (C_Land_under : Mt true P w K mg base "Land" "under" 2 2 m_Land_under) : Mt false P w K mg base "Land" "breadth" 3 2 m_Land_breadth := by
  have sc := sc_Land_breadth
  refine mt_mk (n := 5) FD hc hm sc rfl rfl (fun _ _ _ _ _ _ us hl => match us, hl with | [_, _], _ => rfl) fun cdv A outer s H E hr => ?_
  have tk := takes_of (X := cxOf (L2.CX P w) P w K mg base N_Land_breadth "Land.breadth" (defScope s_Land_breadth) f cdv A outer s H E) rfl rfl rfl rfl
  have hp := passes_of (X := cxOf (L2.CX P w) P w K mg base N_Land_breadth "Land.breadth" (defScope s_Land_breadth) f cdv A outer s H E) rfl
  exact (cs_cons (cs_expr (c_e (c_met (m := "look_at") (tbl := [("Land", m_Land_look_at)]) (mt_cons C_Land_look_at (by omega) mt_nil) (by simp) tk hr (c_var 0) (ca_cons (c_var 1) ca_nil rfl) (la_met (la_cons la_nil)) rfl rfl rfl)) rfl)
      (cs_cons (cs_set (i := 2) sc.nd c_int rfl (Or.inl rfl) rfl (.inl rfl))
      (cs_cons (cs_setO (i := 3) sc.nd (cf_lst (ca_cons (c_var 1) ca_nil rfl)) rfl (Or.inl rfl) rfl (.inl rfl))
      (cs_cons (cs_while fuel hp (ct_cmp (op_neA hr) os_ne (c_var 3) (c_f (cf_lst ca_nil)) (nomark _)) (cs_cons (cs_set (i := 4) sc.nd (c_lpop (c_var 3) rfl rfl) rfl (Or.inl rfl) rfl (.inl rfl))
      (cs_cons (cs_aug (i := 2) ip_add sc.nd (c_get hr (c_fld (f := "acres_of") T.cf_Land_acres_of (c_var 0) rfl) (c_var 4) (fun _ _ => rfl) (fun _ _ => rfl)) rfl (Or.inl rfl) (.inl rfl))
      (cs_one (cs_expr (c_ext (c_var 3) (c_f (cf_met (m := "under") (tbl := [("Land", m_Land_under)]) (mt_cons C_Land_under (by omega) mt_nil) (by simp) tk hr (c_var 0) (ca_cons (c_var 4) ca_nil rfl) (la_met (la_cons la_nil)) rfl rfl rfl)) ⟨rfl, rfl, rfl, rfl⟩) rfl)))))
      (cs_one (cs_ret (c_var 2)))))))
abbrev s_measure : Stmt := top 9
abbrev N_measure : List Str := ["one", "other"]
theorem sc_measure : FnScope N_measure ["one", "other"] (defScope s_measure) := ⟨rfl, rfl, rfl, by decide +kernel, rfl, by decide +kernel, by decide +kernel⟩
theorem t_measure {f : Addr} {fd : FuncData} (T : Tx K mg) (FD : FunD K "measure" "measure" (defArgs s_measure) (defBody s_measure) (defScope s_measure) [] [] f fd) (hm : mg "measure" = some (.ref f))  : Fn false P w K mg base "measure" 1 2 m_measure := by
  have sc := sc_measure
  refine fn_mk (n := 2) FD hm sc rfl rfl (fun _ _ _ _ _ _ us hl => match us, hl with | [_, _], _ => rfl) fun cdv A outer s H E hr => ?_
  have tk := takes_of (X := cxOf (L2.CX P w) P w K mg base N_measure "measure" (defScope s_measure) f cdv A outer s H E) rfl rfl rfl rfl
  have hp := passes_of (X := cxOf (L2.CX P w) P w K mg base N_measure "measure" (defScope s_measure) f cdv A outer s H E) rfl
  exact (cs_cons (cs_set (i := 0) sc.nd (c_b1 call_abs b_abs T.abs (c_var 0) (by decide +kernel) rfl (by decide) (by decide) rfl) rfl (Or.inl rfl) rfl (.inl rfl))
      (cs_cons (cs_set (i := 1) sc.nd (c_b1 call_abs b_abs T.abs (c_var 1) (by decide +kernel) rfl (by decide) (by decide) rfl) rfl (Or.inl rfl) rfl (.inl rfl))
      (cs_cons (cs_while fuel hp (ct_cmp (op_neA hr) os_ne (c_var 1) c_int (nomark _)) (cs_one (cs_par (i := 0) (j := 1) sc.nd (ca_cons (c_var 1) (ca_cons (c_op op_mod os_mod (c_var 0) (c_var 1)) ca_nil rfl) rfl) rfl rfl rfl (by decide) rfl rfl rfl)))
      (cs_one (cs_ret (c_var 0))))))
abbrev s_part : Stmt := top 10
abbrev N_part : List Str := ["top", "bottom", "by"]
theorem sc_part : FnScope N_part ["top", "bottom"] (defScope s_part) := ⟨rfl, rfl, rfl, by decide +kernel, rfl, by decide +kernel, by decide +kernel⟩
theorem t_part {f : Addr} {fd : FuncData} (T : Tx K mg) (FD : FunD K "part" "part" (defArgs s_part) (defBody s_part) (defScope s_part) [] [] f fd) (hm : mg "part" = some (.ref f)) (C_measure : Fn false P w K mg base "measure" 1 2 m_measure) : Fn false P w K mg base "part" 2 2 m_part := by
  have sc := sc_part
  refine fn_mk (n := 3) FD hm sc rfl rfl (fun _ _ _ _ _ _ us hl => match us, hl with | [_, _], _ => rfl) fun cdv A outer s H E hr => ?_
  have tk := takes_of (X := cxOf (L2.CX P w) P w K mg base N_part "part" (defScope s_part) f cdv A outer s H E) rfl rfl rfl rfl
  have hp := passes_of (X := cxOf (L2.CX P w) P w K mg base N_part "part" (defScope s_part) f cdv A outer s H E) rfl
  exact (cs_cons (cs_if (ct_cmp op_lt os_lt (c_var 1) c_int (nomark _)) (cs_cons (cs_set (i := 0) sc.nd (c_op op_sub os_sub c_int (c_var 0)) rfl (Or.inl rfl) rfl (.inl rfl))
      (cs_one (cs_set (i := 1) sc.nd (c_op op_sub os_sub c_int (c_var 1)) rfl (Or.inl rfl) rfl (.inl rfl)))) cs_nil)
      (cs_cons (cs_set (i := 2) sc.nd (c_e (c_call C_measure tk hr (by omega) (ca_cons (c_var 0) (ca_cons (c_var 1) ca_nil rfl) rfl) rfl rfl (by decide) rfl rfl (la_cons (la_cons la_nil)))) rfl (Or.inl rfl) rfl (.inl rfl))
      (cs_one (cs_ret (c_tup (ca_cons (c_op op_divNW os_div (c_var 0) (c_var 2)) (ca_cons (c_op op_divNW os_div (c_var 1) (c_var 2)) ca_nil rfl) rfl))))))
abbrev s_minus : Stmt := top 11
abbrev N_minus : List Str := ["a", "b"]
theorem sc_minus : FnScope N_minus ["a", "b"] (defScope s_minus) := ⟨rfl, rfl, rfl, by decide +kernel, rfl, by decide +kernel, by decide +kernel⟩
theorem t_minus {f : Addr} {fd : FuncData} (T : Tx K mg) (FD : FunD K "minus" "minus" (defArgs s_minus) (defBody s_minus) (defScope s_minus) [] [] f fd) (hm : mg "minus" = some (.ref f)) (C_part : Fn false P w K mg base "part" 2 2 m_part) : Fn false P w K mg base "minus" 3 2 m_minus := by
  have sc := sc_minus
  refine fn_mk (n := 2) FD hm sc rfl rfl (fun _ _ _ _ _ _ us hl => match us, hl with | [_, _], _ => rfl) fun cdv A outer s H E hr => ?_
  have tk := takes_of (X := cxOf (L2.CX P w) P w K mg base N_minus "minus" (defScope s_minus) f cdv A outer s H E) rfl rfl rfl rfl
  have hp := passes_of (X := cxOf (L2.CX P w) P w K mg base N_minus "minus" (defScope s_minus) f cdv A outer s H E) rfl
  exact (cs_one (cs_ret (c_e (c_call C_part tk hr (by omega) (ca_cons (c_op op_sub os_sub (c_op op_mulA os_mul' (c_ix (c_var 0) c_int (fun _ _ => rfl)) (c_ix (c_var 1) c_int (fun _ _ => rfl))) (c_op op_mulA os_mul' (c_ix (c_var 1) c_int (fun _ _ => rfl)) (c_ix (c_var 0) c_int (fun _ _ => rfl)))) (ca_cons (c_op op_mulA os_mul' (c_ix (c_var 0) c_int (fun _ _ => rfl)) (c_ix (c_var 1) c_int (fun _ _ => rfl))) ca_nil rfl) rfl) rfl rfl (by decide) rfl rfl (la_cons (la_cons la_nil))))))
abbrev s_Land_part_off : Stmt := inClass (top 15) 14
abbrev N_Land_part_off : List Str := ["self", "estate", "new", "man", "acres", "whole", "moved"]
theorem sc_Land_part_off : FnScope N_Land_part_off ["self", "estate", "new", "man", "acres"] (defScope s_Land_part_off) := ⟨rfl, rfl, rfl, by decide +kernel, rfl, by decide +kernel, by decide +kernel⟩
theorem t_Land_part_off {f : Addr} {fd : FuncData} (T : Tx K mg) (FD : FunD K "part_off" "Land.part_off" (defArgs s_Land_part_off) (defBody s_Land_part_off) (defScope s_Land_part_off) [] [] f fd) (hc : Cls K (ca K "Land")) (hm : Meth K (ca K "Land") "part_off" f) (C_Land_breadth : Mt false P w K mg base "Land" "breadth" 3 2 m_Land_breadth) (C_part : Fn false P w K mg base "part" 2 2 m_part) (C_minus : Fn false P w K mg base "minus" 3 2 m_minus) : Mt false P w K mg base "Land" "part_off" 4 5 m_Land_part_off := by
  have sc := sc_Land_part_off
  refine mt_mk (n := 7) FD hc hm sc rfl rfl (fun _ _ _ _ _ _ us hl => match us, hl with | [_, _, _, _, _], _ => rfl) fun cdv A outer s H E hr => ?_
  have tk := takes_of (X := cxOf (L2.CX P w) P w K mg base N_Land_part_off "Land.part_off" (defScope s_Land_part_off) f cdv A outer s H E) rfl rfl rfl rfl
  have hp := passes_of (X := cxOf (L2.CX P w) P w K mg base N_Land_part_off "Land.part_off" (defScope s_Land_part_off) f cdv A outer s H E) rfl
  exact (cs_cons (cs_set (i := 5) sc.nd (c_get hr (c_fld (f := "services") T.cf_Land_services (c_var 0) rfl) (c_var 1) (fun _ _ => rfl) (fun _ _ => rfl)) rfl (Or.inl rfl) rfl (.inl rfl))
      (cs_cons (cs_set (i := 6) sc.nd (c_e (c_call C_part tk hr (by omega) (ca_cons (c_op op_mulA os_mul' (c_ix (c_var 5) c_int (fun _ _ => rfl)) (c_var 4)) (ca_cons (c_op op_mulA os_mul' (c_ix (c_var 5) c_int (fun _ _ => rfl)) (c_e (c_met (m := "breadth") (tbl := [("Land", m_Land_breadth)]) (mt_cons C_Land_breadth (by omega) mt_nil) (by simp) tk hr (c_var 0) (ca_cons (c_var 1) ca_nil rfl) (la_met (la_cons la_nil)) rfl rfl rfl))) ca_nil rfl) rfl) rfl rfl (by decide) rfl rfl (la_cons (la_cons la_nil)))) rfl (Or.inl rfl) rfl (.inl rfl))
      (cs_cons (cs_dput hr (c_fld (f := "lords") T.cf_Land_lords (c_var 0) rfl) (c_var 2) (c_get hr (c_fld (f := "lords") T.cf_Land_lords (c_var 0) rfl) (c_var 1) (fun _ _ => rfl) (fun _ _ => rfl)) rfl)
      (cs_cons (cs_dput hr (c_fld (f := "holders") T.cf_Land_holders (c_var 0) rfl) (c_var 2) (c_var 3) rfl)
      (cs_cons (cs_dput hr (c_fld (f := "acres_of") T.cf_Land_acres_of (c_var 0) rfl) (c_var 2) (c_var 4) rfl)
      (cs_cons (cs_dput hr (c_fld (f := "services") T.cf_Land_services (c_var 0) rfl) (c_var 2) (c_var 6) rfl)
      (cs_cons (cs_dput hr (c_fld (f := "services") T.cf_Land_services (c_var 0) rfl) (c_var 1) (c_e (c_call C_minus tk hr (by omega) (ca_cons (c_var 5) (ca_cons (c_var 6) ca_nil rfl) rfl) rfl rfl (by decide) rfl rfl (la_cons (la_cons la_nil)))) rfl)
      (cs_one (cs_daug in_sub hr (c_fld (f := "acres_of") T.cf_Land_acres_of (c_var 0) rfl) (c_var 1) (c_var 4) (fun _ _ _ => rfl))))))))))
abbrev s_Land_convey : Stmt := inClass (top 15) 15
abbrev N_Land_convey : List Str := ["self", "estate", "man"]
theorem sc_Land_convey : FnScope N_Land_convey ["self", "estate", "man"] (defScope s_Land_convey) := ⟨rfl, rfl, rfl, by decide +kernel, rfl, by decide +kernel, by decide +kernel⟩
theorem t_Land_convey {f : Addr} {fd : FuncData} (T : Tx K mg) (FD : FunD K "convey" "Land.convey" (defArgs s_Land_convey) (defBody s_Land_convey) (defScope s_Land_convey) [] [] f fd) (hc : Cls K (ca K "Land")) (hm : Meth K (ca K "Land") "convey" f)  : Mt false P w K mg base "Land" "convey" 1 3 m_Land_convey := by
  have sc := sc_Land_convey
  refine mt_mk (n := 3) FD hc hm sc rfl rfl (fun _ _ _ _ _ _ us hl => match us, hl with | [_, _, _], _ => rfl) fun cdv A outer s H E hr => ?_
  have tk := takes_of (X := cxOf (L2.CX P w) P w K mg base N_Land_convey "Land.convey" (defScope s_Land_convey) f cdv A outer s H E) rfl rfl rfl rfl
  have hp := passes_of (X := cxOf (L2.CX P w) P w K mg base N_Land_convey "Land.convey" (defScope s_Land_convey) f cdv A outer s H E) rfl
  exact (cs_one (cs_dput hr (c_fld (f := "holders") T.cf_Land_holders (c_var 0) rfl) (c_var 1) (c_var 2) rfl))
abbrev s_Land_fall_back : Stmt := inClass (top 15) 16
abbrev N_Land_fall_back : List Str := ["self", "estate", "lord", "one"]
theorem sc_Land_fall_back : FnScope N_Land_fall_back ["self", "estate"] (defScope s_Land_fall_back) := ⟨rfl, rfl, rfl, by decide +kernel, rfl, by decide +kernel, by decide +kernel⟩
theorem t_Land_fall_back {f : Addr} {fd : FuncData} (T : Tx K mg) (FD : FunD K "fall_back" "Land.fall_back" (defArgs s_Land_fall_back) (defBody s_Land_fall_back) (defScope s_Land_fall_back) [] [] f fd) (hc : Cls K (ca K "Land")) (hm : Meth K (ca K "Land") "fall_back" f) (C_Land_under : Mt true P w K mg base "Land" "under" 2 2 m_Land_under) : Mt false P w K mg base "Land" "fall_back" 3 2 m_Land_fall_back := by
  have sc := sc_Land_fall_back
  refine mt_mk (n := 4) FD hc hm sc rfl rfl (fun _ _ _ _ _ _ us hl => match us, hl with | [_, _], _ => rfl) fun cdv A outer s H E hr => ?_
  have tk := takes_of (X := cxOf (L2.CX P w) P w K mg base N_Land_fall_back "Land.fall_back" (defScope s_Land_fall_back) f cdv A outer s H E) rfl rfl rfl rfl
  have hp := passes_of (X := cxOf (L2.CX P w) P w K mg base N_Land_fall_back "Land.fall_back" (defScope s_Land_fall_back) f cdv A outer s H E) rfl
  exact (cs_cons (cs_set (i := 2) sc.nd (c_get hr (c_fld (f := "lords") T.cf_Land_lords (c_var 0) rfl) (c_var 1) (fun _ _ => rfl) (fun _ _ => rfl)) rfl (Or.inl rfl) rfl (.inl rfl))
      (cs_cons (cs_for (tvs := [3]) hp (ci_list (c_f (cf_met (m := "under") (tbl := [("Land", m_Land_under)]) (mt_cons C_Land_under (by omega) mt_nil) (by simp) tk hr (c_var 0) (ca_cons (c_var 1) ca_nil rfl) (la_met (la_cons la_nil)) rfl rfl rfl))) (cg_name 3 sc.nd) (cs_one (cs_dput hr (c_fld (f := "lords") T.cf_Land_lords (c_var 0) rfl) (c_var 3) (c_var 2) rfl)) rfl (fun _ => rfl))
      (cs_cons (cs_daug in_add hr (c_fld (f := "acres_of") T.cf_Land_acres_of (c_var 0) rfl) (c_var 2) (c_dpop1 (c_fld (f := "acres_of") T.cf_Land_acres_of (c_var 0) rfl) (c_var 1) ⟨rfl, rfl, rfl, rfl⟩) (fun _ _ _ => rfl))
      (cs_cons (cs_expr (c_dpop1 (c_fld (f := "lords") T.cf_Land_lords (c_var 0) rfl) (c_var 1) ⟨rfl, rfl, rfl, rfl⟩) rfl)
      (cs_cons (cs_expr (c_dpop1 (c_fld (f := "holders") T.cf_Land_holders (c_var 0) rfl) (c_var 1) ⟨rfl, rfl, rfl, rfl⟩) rfl)
      (cs_one (cs_expr (c_dpop1 (c_fld (f := "services") T.cf_Land_services (c_var 0) rfl) (c_var 1) ⟨rfl, rfl, rfl, rfl⟩) rfl)))))))
abbrev s__law_land_do : Stmt := top 37
abbrev N__law_land_do : List Str := ["_law_land", "_law_row_here"]
theorem sc__law_land_do : FnScope N__law_land_do ["_law_land", "_law_row_here"] (defScope s__law_land_do) := ⟨rfl, rfl, rfl, by decide +kernel, rfl, by decide +kernel, by decide +kernel⟩
theorem t__law_land_do {f : Addr} {fd : FuncData} (T : Tx K mg) (FD : FunD K "_law_land_do" "_law_land_do" (defArgs s__law_land_do) (defBody s__law_land_do) (defScope s__law_land_do) [] [] f fd) (hm : mg "_law_land_do" = some (.ref f)) (C_Land_grant : Mt false P w K mg base "Land" "grant" 1 6 m_Land_grant) (C_Land_part_off : Mt false P w K mg base "Land" "part_off" 4 5 m_Land_part_off) (C_Land_convey : Mt false P w K mg base "Land" "convey" 1 3 m_Land_convey) (C_Land_fall_back : Mt false P w K mg base "Land" "fall_back" 3 2 m_Land_fall_back) : Fn false P w K mg base "_law_land_do" 5 2 m__law_land_do := by
  have sc := sc__law_land_do
  refine fn_mk (n := 2) FD hm sc rfl rfl (fun _ _ _ _ _ _ us hl => match us, hl with | [_, _], _ => rfl) fun cdv A outer s H E hr => ?_
  have tk := takes_of (X := cxOf (L2.CX P w) P w K mg base N__law_land_do "_law_land_do" (defScope s__law_land_do) f cdv A outer s H E) rfl rfl rfl rfl
  have hp := passes_of (X := cxOf (L2.CX P w) P w K mg base N__law_land_do "_law_land_do" (defScope s__law_land_do) f cdv A outer s H E) rfl
  exact (cs_cons (cs_if (ct_cmp (op_eqA hr) os_eq (c_ix (c_var 1) c_int (fun _ _ => rfl)) c_str (nomark _)) (cs_one (cs_ret (c_e (c_met (m := "grant") (tbl := [("Land", m_Land_grant)]) (mt_cons C_Land_grant (by omega) mt_nil) (by simp) tk hr (c_var 0) (ca_cons (c_ix (c_var 1) c_int (fun _ _ => rfl)) (ca_cons (c_ix (c_var 1) c_int (fun _ _ => rfl)) (ca_cons (c_ix (c_var 1) c_int (fun _ _ => rfl)) (ca_cons (c_ix (c_var 1) c_int (fun _ _ => rfl)) (ca_cons (c_ix (c_var 1) c_int (fun _ _ => rfl)) ca_nil rfl) rfl) rfl) rfl) rfl) (la_met (la_cons (la_cons (la_cons (la_cons (la_cons la_nil)))))) rfl rfl rfl)))) cs_nil)
      (cs_cons (cs_if (ct_cmp (op_eqA hr) os_eq (c_ix (c_var 1) c_int (fun _ _ => rfl)) c_str (nomark _)) (cs_one (cs_ret (c_e (c_met (m := "part_off") (tbl := [("Land", m_Land_part_off)]) (mt_cons C_Land_part_off (by omega) mt_nil) (by simp) tk hr (c_var 0) (ca_cons (c_ix (c_var 1) c_int (fun _ _ => rfl)) (ca_cons (c_ix (c_var 1) c_int (fun _ _ => rfl)) (ca_cons (c_ix (c_var 1) c_int (fun _ _ => rfl)) (ca_cons (c_ix (c_var 1) c_int (fun _ _ => rfl)) ca_nil rfl) rfl) rfl) rfl) (la_met (la_cons (la_cons (la_cons (la_cons la_nil))))) rfl rfl rfl)))) cs_nil)
      (cs_cons (cs_if (ct_cmp (op_eqA hr) os_eq (c_ix (c_var 1) c_int (fun _ _ => rfl)) c_str (nomark _)) (cs_one (cs_ret (c_e (c_met (m := "convey") (tbl := [("Land", m_Land_convey)]) (mt_cons C_Land_convey (by omega) mt_nil) (by simp) tk hr (c_var 0) (ca_cons (c_ix (c_var 1) c_int (fun _ _ => rfl)) (ca_cons (c_ix (c_var 1) c_int (fun _ _ => rfl)) ca_nil rfl) rfl) (la_met (la_cons (la_cons la_nil))) rfl rfl rfl)))) cs_nil)
      (cs_cons (cs_if (ct_cmp (op_eqA hr) os_eq (c_ix (c_var 1) c_int (fun _ _ => rfl)) c_str (nomark _)) (cs_one (cs_ret (c_e (c_met (m := "fall_back") (tbl := [("Land", m_Land_fall_back)]) (mt_cons C_Land_fall_back (by omega) mt_nil) (by simp) tk hr (c_var 0) (ca_cons (c_ix (c_var 1) c_int (fun _ _ => rfl)) ca_nil rfl) (la_met (la_cons la_nil)) rfl rfl rfl)))) cs_nil)
      (cs_one (cs_ret c_non))))))
abbrev s__law_new : Stmt := top 29
abbrev N__law_new : List Str := ["_law_book_here", "_law_row_here", "_law_lord", "_law_due"]
theorem sc__law_new : FnScope N__law_new ["_law_book_here", "_law_row_here", "_law_lord", "_law_due"] (defScope s__law_new) := ⟨rfl, rfl, rfl, by decide +kernel, rfl, by decide +kernel, by decide +kernel⟩
theorem t__law_new {f : Addr} {fd : FuncData} (T : Tx K mg) (FD : FunD K "_law_new" "_law_new" (defArgs s__law_new) (defBody s__law_new) (defScope s__law_new) [] [] f fd) (hm : mg "_law_new" = some (.ref f))  : Fn false P w K mg base "_law_new" 1 4 m__law_new := by
  have sc := sc__law_new
  refine fn_mk (n := 4) FD hm sc rfl rfl (fun _ _ _ _ _ _ us hl => match us, hl with | [_, _, _, _], _ => rfl) fun cdv A outer s H E hr => ?_
  have tk := takes_of (X := cxOf (L2.CX P w) P w K mg base N__law_new "_law_new" (defScope s__law_new) f cdv A outer s H E) rfl rfl rfl rfl
  have hp := passes_of (X := cxOf (L2.CX P w) P w K mg base N__law_new "_law_new" (defScope s__law_new) f cdv A outer s H E) rfl
  exact (cs_cons (cs_dput hr (c_get hr (c_var 0) c_str (fun _ _ => rfl) (fun _ _ => rfl)) (c_ix (c_var 1) c_int (fun _ _ => rfl)) (c_var 2) rfl)
      (cs_cons (cs_dput hr (c_get hr (c_var 0) c_str (fun _ _ => rfl) (fun _ _ => rfl)) (c_ix (c_var 1) c_int (fun _ _ => rfl)) (c_ix (c_var 1) c_int (fun _ _ => rfl)) rfl)
      (cs_cons (cs_dput hr (c_get hr (c_var 0) c_str (fun _ _ => rfl) (fun _ _ => rfl)) (c_ix (c_var 1) c_int (fun _ _ => rfl)) (c_ix (c_var 1) c_int (fun _ _ => rfl)) rfl)
      (cs_cons (cs_dput hr (c_get hr (c_var 0) c_str (fun _ _ => rfl) (fun _ _ => rfl)) (c_ix (c_var 1) c_int (fun _ _ => rfl)) (c_var 3) rfl)
      (cs_cons (cs_daug in_sub hr (c_get hr (c_var 0) c_str (fun _ _ => rfl) (fun _ _ => rfl)) (c_ix (c_var 1) c_int (fun _ _ => rfl)) (c_ix (c_var 1) c_int (fun _ _ => rfl)) (fun _ _ _ => rfl))
      (cs_one (cs_expr (c_app (c_get hr (c_var 0) c_str (fun _ _ => rfl) (fun _ _ => rfl)) (c_ix (c_var 1) c_int (fun _ _ => rfl)) rfl rfl rfl rfl) rfl)))))))
abbrev s__law_under : Stmt := top 22
abbrev N__law_under : List Str := ["_law_book_here", "_law_estate", "_law_one"]
theorem sc__law_under : FnScope N__law_under ["_law_book_here", "_law_estate"] (defScope s__law_under) := ⟨rfl, rfl, rfl, by decide +kernel, rfl, by decide +kernel, by decide +kernel⟩
theorem t__law_under {f : Addr} {fd : FuncData} (T : Tx K mg) (FD : FunD K "_law_under" "_law_under" (defArgs s__law_under) (defBody s__law_under) (defScope s__law_under) [] [] f fd) (hm : mg "_law_under" = some (.ref f))  : Fn true P w K mg base "_law_under" 1 2 m__law_under := by
  have sc := sc__law_under
  refine fn_mk (n := 3) FD hm sc rfl rfl (fun _ _ _ _ _ _ us hl => match us, hl with | [_, _], _ => rfl) fun cdv A outer s H E hr => ?_
  have tk := takes_of (X := cxOf (L2.CX P w) P w K mg base N__law_under "_law_under" (defScope s__law_under) f cdv A outer s H E) rfl rfl rfl rfl
  have hp := passes_of (X := cxOf (L2.CX P w) P w K mg base N__law_under "_law_under" (defScope s__law_under) f cdv A outer s H E) rfl
  exact (cs_one (cs_retF (cf_b1 call_sortedA bf_sorted T.sorted (c_f (cf_lock (fe := (d2 opGet (dVar 0) (dC (.str "lords")))) (cf_lc sc.nd (blkOk_by (own := [("_law_one", 2)]) (N := N__law_under) (sc := defScope s__law_under) (by decide +kernel)) rfl (ci_keys (c_get hr (c_var 0) c_str (fun _ _ => rfl) (fun _ _ => rfl))) (fun _ _ _ _ _ => (cg_name 2 sc.nd)) (fun _ _ _ _ _ => cts_one (ct_cmp (op_eqA hr) os_eq (c_get hr (c_get hr (c_var 0) c_str (fun _ _ => rfl) (fun _ _ => rfl)) (c_var 2) (fun _ _ => rfl) (fun _ _ => rfl)) (c_var 1) (nomark _))) (fun _ _ _ _ _ => (c_var 2)) rfl (fun _ => rfl)))) (by decide +kernel) rfl (by decide) (by decide) rfl)))
abbrev s__law_breadth : Stmt := top 23
abbrev N__law_breadth : List Str := ["_law_book_here", "_law_estate", "_law_found", "_law_ahead"]
theorem sc__law_breadth : FnScope N__law_breadth ["_law_book_here", "_law_estate"] (defScope s__law_breadth) := ⟨rfl, rfl, rfl, by decide +kernel, rfl, by decide +kernel, by decide +kernel⟩
theorem t__law_breadth {f : Addr} {fd : FuncData} (T : Tx K mg) (FD : FunD K "_law_breadth" "_law_breadth" (defArgs s__law_breadth) (defBody s__law_breadth) (defScope s__law_breadth) [] [] f fd) (hm : mg "_law_breadth" = some (.ref f)) (C__law_under : Fn true P w K mg base "_law_under" 1 2 m__law_under) : Fn false P w K mg base "_law_breadth" 2 2 m__law_breadth := by
  have sc := sc__law_breadth
  refine fn_mk (n := 4) FD hm sc rfl rfl (fun _ _ _ _ _ _ us hl => match us, hl with | [_, _], _ => rfl) fun cdv A outer s H E hr => ?_
  have tk := takes_of (X := cxOf (L2.CX P w) P w K mg base N__law_breadth "_law_breadth" (defScope s__law_breadth) f cdv A outer s H E) rfl rfl rfl rfl
  have hp := passes_of (X := cxOf (L2.CX P w) P w K mg base N__law_breadth "_law_breadth" (defScope s__law_breadth) f cdv A outer s H E) rfl
  exact (cs_cons (cs_set (i := 2) sc.nd (c_get hr (c_get hr (c_var 0) c_str (fun _ _ => rfl) (fun _ _ => rfl)) (c_var 1) (fun _ _ => rfl) (fun _ _ => rfl)) rfl (Or.inl rfl) rfl (.inl rfl))
      (cs_cons (cs_set (i := 3) sc.nd (c_f (cf_call C__law_under tk hr (by omega) (ca_cons (c_var 0) (ca_cons (c_var 1) ca_nil rfl) rfl) rfl rfl (by decide) rfl rfl (la_cons (la_cons la_nil)))) rfl (Or.inl rfl) rfl (.inl rfl))
      (cs_cons (cs_while fuel hp (ct_cmp (op_neA hr) os_ne (c_var 3) (c_f (cf_lst ca_nil)) (nomark _)) (cs_cons (cs_set (i := 2) sc.nd (c_op op_addA os_add (c_var 2) (c_get hr (c_get hr (c_var 0) c_str (fun _ _ => rfl) (fun _ _ => rfl)) (c_ix (c_var 3) c_int (fun _ _ => rfl)) (fun _ _ => rfl) (fun _ _ => rfl))) rfl (Or.inl rfl) rfl (.inl rfl))
      (cs_one (cs_set (i := 3) sc.nd (c_op op_addA os_add (c_f (cf_sl (c_var 3) (co_some c_int) co_none)) (c_f (cf_call C__law_under tk hr (by omega) (ca_cons (c_var 0) (ca_cons (c_ix (c_var 3) c_int (fun _ _ => rfl)) ca_nil rfl) rfl) rfl rfl (by decide) rfl rfl (la_cons (la_cons la_nil))))) rfl (Or.inl rfl) rfl (.inl rfl)))))
      (cs_one (cs_ret (c_var 2))))))
abbrev s__law_low : Stmt := top 19
abbrev N__law_low : List Str := ["_law_top", "_law_bottom", "_law_one", "_law_other"]
theorem sc__law_low : FnScope N__law_low ["_law_top", "_law_bottom"] (defScope s__law_low) := ⟨rfl, rfl, rfl, by decide +kernel, rfl, by decide +kernel, by decide +kernel⟩
theorem t__law_low {f : Addr} {fd : FuncData} (T : Tx K mg) (FD : FunD K "_law_low" "_law_low" (defArgs s__law_low) (defBody s__law_low) (defScope s__law_low) [] [] f fd) (hm : mg "_law_low" = some (.ref f))  : Fn false P w K mg base "_law_low" 1 2 m__law_low := by
  have sc := sc__law_low
  refine fn_mk (n := 4) FD hm sc rfl rfl (fun _ _ _ _ _ _ us hl => match us, hl with | [_, _], _ => rfl) fun cdv A outer s H E hr => ?_
  have tk := takes_of (X := cxOf (L2.CX P w) P w K mg base N__law_low "_law_low" (defScope s__law_low) f cdv A outer s H E) rfl rfl rfl rfl
  have hp := passes_of (X := cxOf (L2.CX P w) P w K mg base N__law_low "_law_low" (defScope s__law_low) f cdv A outer s H E) rfl
  exact (cs_cons (cs_set (i := 2) sc.nd (c_b1 call_abs b_abs T.abs (c_var 0) (by decide +kernel) rfl (by decide) (by decide) rfl) rfl (Or.inl rfl) rfl (.inl rfl))
      (cs_cons (cs_set (i := 3) sc.nd (c_b1 call_abs b_abs T.abs (c_var 1) (by decide +kernel) rfl (by decide) (by decide) rfl) rfl (Or.inl rfl) rfl (.inl rfl))
      (cs_cons (cs_while fuel hp (ct_cmp (op_neA hr) os_ne (c_var 3) c_int (nomark _)) (cs_one (cs_par (i := 2) (j := 3) sc.nd (ca_cons (c_var 3) (ca_cons (c_op op_mod os_mod (c_var 2) (c_var 3)) ca_nil rfl) rfl) rfl rfl rfl (by decide) rfl rfl rfl)))
      (cs_cons (cs_if (ct_cmp op_lt os_lt (c_var 1) c_int (nomark _)) (cs_one (cs_set (i := 2) sc.nd (c_op op_sub os_sub c_int (c_var 2)) rfl (Or.inl rfl) rfl (.inl rfl))) cs_nil)
      (cs_one (cs_ret (c_tup (ca_cons (c_op op_divNW os_div (c_var 0) (c_var 2)) (ca_cons (c_op op_divNW os_div (c_var 1) (c_var 2)) ca_nil rfl) rfl))))))))
abbrev s__law_fall : Stmt := top 27
abbrev N__law_fall : List Str := ["_law_book_here", "_law_estate", "_law_lord", "_law_one"]
theorem sc__law_fall : FnScope N__law_fall ["_law_book_here", "_law_estate"] (defScope s__law_fall) := ⟨rfl, rfl, rfl, by decide +kernel, rfl, by decide +kernel, by decide +kernel⟩
theorem t__law_fall {f : Addr} {fd : FuncData} (T : Tx K mg) (FD : FunD K "_law_fall" "_law_fall" (defArgs s__law_fall) (defBody s__law_fall) (defScope s__law_fall) [] [] f fd) (hm : mg "_law_fall" = some (.ref f)) (C__law_under : Fn true P w K mg base "_law_under" 1 2 m__law_under) : Fn false P w K mg base "_law_fall" 2 2 m__law_fall := by
  have sc := sc__law_fall
  refine fn_mk (n := 4) FD hm sc rfl rfl (fun _ _ _ _ _ _ us hl => match us, hl with | [_, _], _ => rfl) fun cdv A outer s H E hr => ?_
  have tk := takes_of (X := cxOf (L2.CX P w) P w K mg base N__law_fall "_law_fall" (defScope s__law_fall) f cdv A outer s H E) rfl rfl rfl rfl
  have hp := passes_of (X := cxOf (L2.CX P w) P w K mg base N__law_fall "_law_fall" (defScope s__law_fall) f cdv A outer s H E) rfl
  exact (cs_cons (cs_set (i := 2) sc.nd (c_dpop1 (c_get hr (c_var 0) c_str (fun _ _ => rfl) (fun _ _ => rfl)) (c_var 1) ⟨rfl, rfl, rfl, rfl⟩) rfl (Or.inl rfl) rfl (.inl rfl))
      (cs_cons (cs_daug in_add hr (c_get hr (c_var 0) c_str (fun _ _ => rfl) (fun _ _ => rfl)) (c_var 2) (c_dpop1 (c_get hr (c_var 0) c_str (fun _ _ => rfl) (fun _ _ => rfl)) (c_var 1) ⟨rfl, rfl, rfl, rfl⟩) (fun _ _ _ => rfl))
      (cs_cons (cs_expr (c_dpop1 (c_get hr (c_var 0) c_str (fun _ _ => rfl) (fun _ _ => rfl)) (c_var 1) ⟨rfl, rfl, rfl, rfl⟩) rfl)
      (cs_cons (cs_expr (c_dpop1 (c_get hr (c_var 0) c_str (fun _ _ => rfl) (fun _ _ => rfl)) (c_var 1) ⟨rfl, rfl, rfl, rfl⟩) rfl)
      (cs_one (cs_for (tvs := [3]) hp (ci_list (c_f (cf_call C__law_under tk hr (by omega) (ca_cons (c_var 0) (ca_cons (c_var 1) ca_nil rfl) rfl) rfl rfl (by decide) rfl rfl (la_cons (la_cons la_nil))))) (cg_name 3 sc.nd) (cs_one (cs_dput hr (c_get hr (c_var 0) c_str (fun _ _ => rfl) (fun _ _ => rfl)) (c_var 3) (c_var 2) rfl)) rfl (fun _ => rfl)))))))
abbrev s__law_taker : Stmt := top 28
abbrev N__law_taker : List Str := ["_law_book_here", "_law_man", "_law_met", "_law_one"]
theorem sc__law_taker : FnScope N__law_taker ["_law_book_here", "_law_man"] (defScope s__law_taker) := ⟨rfl, rfl, rfl, by decide +kernel, rfl, by decide +kernel, by decide +kernel⟩
theorem t__law_taker {f : Addr} {fd : FuncData} (T : Tx K mg) (FD : FunD K "_law_taker" "_law_taker" (defArgs s__law_taker) (defBody s__law_taker) (defScope s__law_taker) [] [] f fd) (hm : mg "_law_taker" = some (.ref f))  : Fn false P w K mg base "_law_taker" 1 2 m__law_taker := by
  have sc := sc__law_taker
  refine fn_mk (n := 4) FD hm sc rfl rfl (fun _ _ _ _ _ _ us hl => match us, hl with | [_, _], _ => rfl) fun cdv A outer s H E hr => ?_
  have tk := takes_of (X := cxOf (L2.CX P w) P w K mg base N__law_taker "_law_taker" (defScope s__law_taker) f cdv A outer s H E) rfl rfl rfl rfl
  have hp := passes_of (X := cxOf (L2.CX P w) P w K mg base N__law_taker "_law_taker" (defScope s__law_taker) f cdv A outer s H E) rfl
  exact (cs_cons (cs_setO (i := 2) sc.nd (cf_lst (ca_cons (c_var 1) ca_nil rfl)) rfl (Or.inl rfl) rfl (.inl rfl))
      (cs_cons (cs_while fuel hp (ct_cmp (op_inG hr) os_inG (c_ix (c_var 2) (c_neg c_int) (fun _ _ => rfl)) (c_get hr (c_var 0) c_str (fun _ _ => rfl) (fun _ _ => rfl)) rfl) (cs_cons (cs_set (i := 3) sc.nd (c_get hr (c_get hr (c_var 0) c_str (fun _ _ => rfl) (fun _ _ => rfl)) (c_ix (c_var 2) (c_neg c_int) (fun _ _ => rfl)) (fun _ _ => rfl) (fun _ _ => rfl)) rfl (Or.inl rfl) rfl (.inl rfl))
      (cs_cons (cs_if (ct_cmp (op_inG hr) os_inG (c_var 3) (c_var 2) rfl) (cs_one (cs_ret c_non)) cs_nil)
      (cs_cons (cs_if (ct_cmp (op_notInG hr) os_notInG (c_var 3) (c_get hr (c_var 0) c_str (fun _ _ => rfl) (fun _ _ => rfl)) rfl) (cs_one (cs_ret (c_var 3))) cs_nil)
      (cs_one (cs_expr (c_app (c_var 2) (c_var 3) rfl rfl rfl rfl) rfl))))))
      (cs_one (cs_ret c_non))))
abbrev s__law_do : Stmt := top 30
abbrev N__law_do : List Str := ["_law_book_here", "_law_row_here", "_law_whole", "_law_wide", "_law_taker_here", "_law_estate"]
theorem sc__law_do : FnScope N__law_do ["_law_book_here", "_law_row_here"] (defScope s__law_do) := ⟨rfl, rfl, rfl, by decide +kernel, rfl, by decide +kernel, by decide +kernel⟩
theorem t__law_do {f : Addr} {fd : FuncData} (T : Tx K mg) (FD : FunD K "_law_do" "_law_do" (defArgs s__law_do) (defBody s__law_do) (defScope s__law_do) [] [] f fd) (hm : mg "_law_do" = some (.ref f)) (C__law_new : Fn false P w K mg base "_law_new" 1 4 m__law_new) (C__law_breadth : Fn false P w K mg base "_law_breadth" 2 2 m__law_breadth) (C__law_low : Fn false P w K mg base "_law_low" 1 2 m__law_low) (C__law_fall : Fn false P w K mg base "_law_fall" 2 2 m__law_fall) (C__law_taker : Fn false P w K mg base "_law_taker" 1 2 m__law_taker) (C__law_held : Fn true P w K mg base "_law_held" 1 2 m__law_held) : Fn false P w K mg base "_law_do" 3 2 m__law_do := by
  have sc := sc__law_do
  refine fn_mk (n := 6) FD hm sc rfl rfl (fun _ _ _ _ _ _ us hl => match us, hl with | [_, _], _ => rfl) fun cdv A outer s H E hr => ?_
  have tk := takes_of (X := cxOf (L2.CX P w) P w K mg base N__law_do "_law_do" (defScope s__law_do) f cdv A outer s H E) rfl rfl rfl rfl
  have hp := passes_of (X := cxOf (L2.CX P w) P w K mg base N__law_do "_law_do" (defScope s__law_do) f cdv A outer s H E) rfl
  exact (cs_cons (cs_if (ct_cmp (op_eqA hr) os_eq (c_ix (c_var 1) c_int (fun _ _ => rfl)) c_str (nomark _)) (cs_one (cs_expr (c_e (c_call C__law_new tk hr (by omega) (ca_cons (c_var 0) (ca_cons (c_var 1) (ca_cons (c_ix (c_var 1) c_int (fun _ _ => rfl)) (ca_cons (c_tup (ca_cons (c_ix (c_var 1) c_int (fun _ _ => rfl)) (ca_cons c_int ca_nil rfl) rfl)) ca_nil rfl) rfl) rfl) rfl) rfl rfl (by decide) rfl rfl (la_cons (la_cons (la_cons (la_cons la_nil)))))) rfl)) cs_nil)
      (cs_cons (cs_if (ct_cmp (op_eqA hr) os_eq (c_ix (c_var 1) c_int (fun _ _ => rfl)) c_str (nomark _)) (cs_cons (cs_set (i := 2) sc.nd (c_get hr (c_get hr (c_var 0) c_str (fun _ _ => rfl) (fun _ _ => rfl)) (c_ix (c_var 1) c_int (fun _ _ => rfl)) (fun _ _ => rfl) (fun _ _ => rfl)) rfl (Or.inl rfl) rfl (.inl rfl))
      (cs_cons (cs_set (i := 3) sc.nd (c_e (c_call C__law_breadth tk hr (by omega) (ca_cons (c_var 0) (ca_cons (c_ix (c_var 1) c_int (fun _ _ => rfl)) ca_nil rfl) rfl) rfl rfl (by decide) rfl rfl (la_cons (la_cons la_nil)))) rfl (Or.inl rfl) rfl (.inl rfl))
      (cs_cons (cs_expr (c_e (c_call C__law_new tk hr (by omega) (ca_cons (c_var 0) (ca_cons (c_var 1) (ca_cons (c_get hr (c_get hr (c_var 0) c_str (fun _ _ => rfl) (fun _ _ => rfl)) (c_ix (c_var 1) c_int (fun _ _ => rfl)) (fun _ _ => rfl) (fun _ _ => rfl)) (ca_cons (c_e (c_call C__law_low tk hr (by omega) (ca_cons (c_op op_mulA os_mul' (c_ix (c_var 2) c_int (fun _ _ => rfl)) (c_ix (c_var 1) c_int (fun _ _ => rfl))) (ca_cons (c_op op_mulA os_mul' (c_ix (c_var 2) c_int (fun _ _ => rfl)) (c_var 3)) ca_nil rfl) rfl) rfl rfl (by decide) rfl rfl (la_cons (la_cons la_nil)))) ca_nil rfl) rfl) rfl) rfl) rfl rfl (by decide) rfl rfl (la_cons (la_cons (la_cons (la_cons la_nil)))))) rfl)
      (cs_one (cs_dput hr (c_get hr (c_var 0) c_str (fun _ _ => rfl) (fun _ _ => rfl)) (c_ix (c_var 1) c_int (fun _ _ => rfl)) (c_e (c_call C__law_low tk hr (by omega) (ca_cons (c_op op_mulA os_mul' (c_ix (c_var 2) c_int (fun _ _ => rfl)) (c_op op_sub os_sub (c_var 3) (c_ix (c_var 1) c_int (fun _ _ => rfl)))) (ca_cons (c_op op_mulA os_mul' (c_ix (c_var 2) c_int (fun _ _ => rfl)) (c_var 3)) ca_nil rfl) rfl) rfl rfl (by decide) rfl rfl (la_cons (la_cons la_nil)))) rfl))))) cs_nil)
      (cs_cons (cs_if (ct_cmp (op_eqA hr) os_eq (c_ix (c_var 1) c_int (fun _ _ => rfl)) c_str (nomark _)) (cs_one (cs_dput hr (c_get hr (c_var 0) c_str (fun _ _ => rfl) (fun _ _ => rfl)) (c_ix (c_var 1) c_int (fun _ _ => rfl)) (c_ix (c_var 1) c_int (fun _ _ => rfl)) rfl)) cs_nil)
      (cs_cons (cs_if (ct_cmp (op_eqA hr) os_eq (c_ix (c_var 1) c_int (fun _ _ => rfl)) c_str (nomark _)) (cs_one (cs_expr (c_e (c_call C__law_fall tk hr (by omega) (ca_cons (c_var 0) (ca_cons (c_ix (c_var 1) c_int (fun _ _ => rfl)) ca_nil rfl) rfl) rfl rfl (by decide) rfl rfl (la_cons (la_cons la_nil)))) rfl)) cs_nil)
      (cs_cons (cs_if (ct_cmp (op_eqA hr) os_eq (c_ix (c_var 1) c_int (fun _ _ => rfl)) c_str (nomark _)) (cs_one (cs_dput hr (c_get hr (c_var 0) c_str (fun _ _ => rfl) (fun _ _ => rfl)) (c_ix (c_var 1) c_int (fun _ _ => rfl)) (c_ix (c_var 1) c_int (fun _ _ => rfl)) rfl)) cs_nil)
      (cs_cons (cs_if (ct_cmp (op_eqA hr) os_eq (c_ix (c_var 1) c_int (fun _ _ => rfl)) c_str (nomark _)) (cs_one (cs_dput hr (c_get hr (c_var 0) c_str (fun _ _ => rfl) (fun _ _ => rfl)) (c_ix (c_var 1) c_int (fun _ _ => rfl)) (c_ix (c_var 1) c_int (fun _ _ => rfl)) rfl)) cs_nil)
      (cs_one (cs_if (ct_cmp (op_eqA hr) os_eq (c_ix (c_var 1) c_int (fun _ _ => rfl)) c_str (nomark _)) (cs_cons (cs_expr (c_app (c_get hr (c_var 0) c_str (fun _ _ => rfl) (fun _ _ => rfl)) (c_ix (c_var 1) c_int (fun _ _ => rfl)) rfl rfl rfl rfl) rfl)
      (cs_cons (cs_set (i := 4) sc.nd (c_e (c_call C__law_taker tk hr (by omega) (ca_cons (c_var 0) (ca_cons (c_ix (c_var 1) c_int (fun _ _ => rfl)) ca_nil rfl) rfl) rfl rfl (by decide) rfl rfl (la_cons (la_cons la_nil)))) rfl (Or.inl rfl) rfl (.inl rfl))
      (cs_one (cs_for (tvs := [5]) hp (ci_list (c_f (cf_call C__law_held tk hr (by omega) (ca_cons (c_var 0) (ca_cons (c_ix (c_var 1) c_int (fun _ _ => rfl)) ca_nil rfl) rfl) rfl rfl (by decide) rfl rfl (la_cons (la_cons la_nil))))) (cg_name 5 sc.nd) (cs_one (cs_if (ct_isN (c_var 4)) (cs_one (cs_expr (c_e (c_call C__law_fall tk hr (by omega) (ca_cons (c_var 0) (ca_cons (c_var 5) ca_nil rfl) rfl) rfl rfl (by decide) rfl rfl (la_cons (la_cons la_nil)))) rfl)) (cs_one (cs_dput hr (c_get hr (c_var 0) c_str (fun _ _ => rfl) (fun _ _ => rfl)) (c_var 5) (c_var 4) rfl)))) rfl (fun _ => rfl))))) cs_nil))))))))
abbrev s__law_played : Stmt := top 41
abbrev N__law_played : List Str := ["_law_land", "_law_book_here", "_law_pools_here", "_law_feed_here", "_law_at", "_law_many", "_law_kinds", "_law_k", "_law_row_here"]
theorem sc__law_played : FnScope N__law_played ["_law_land", "_law_book_here", "_law_pools_here", "_law_feed_here", "_law_at", "_law_many", "_law_kinds"] (defScope s__law_played) := ⟨rfl, rfl, rfl, by decide +kernel, rfl, by decide +kernel, by decide +kernel⟩
theorem t__law_played {f : Addr} {fd : FuncData} (T : Tx K mg) (FD : FunD K "_law_played" "_law_played" (defArgs s__law_played) (defBody s__law_played) (defScope s__law_played) [] [] f fd) (hm : mg "_law_played" = some (.ref f)) (C__law_steered : Fn false P w K mg base "_law_steered" 6 4 m__law_steered) (C__law_let_by : Fn false P w K mg base "_law_let_by" 4 2 m__law_let_by) (C__law_land_do : Fn false P w K mg base "_law_land_do" 5 2 m__law_land_do) (C__law_do : Fn false P w K mg base "_law_do" 3 2 m__law_do) : Fn false P w K mg base "_law_played" 7 7 m__law_played := by
  have sc := sc__law_played
  refine fn_mk (n := 9) FD hm sc rfl rfl (fun _ _ _ _ _ _ us hl => match us, hl with | [_, _, _, _, _, _, _], _ => rfl) fun cdv A outer s H E hr => ?_
  have tk := takes_of (X := cxOf (L2.CX P w) P w K mg base N__law_played "_law_played" (defScope s__law_played) f cdv A outer s H E) rfl rfl rfl rfl
  have hp := passes_of (X := cxOf (L2.CX P w) P w K mg base N__law_played "_law_played" (defScope s__law_played) f cdv A outer s H E) rfl
  exact (cs_cons (cs_for (tvs := [7]) hp (ci_ran1 T.range (c_var 5) rfl rfl) (cg_name 7 sc.nd) (cs_cons (cs_set (i := 8) sc.nd (c_e (c_call C__law_steered tk hr (by omega) (ca_cons (c_var 1) (ca_cons (c_var 2) (ca_cons (c_f (cf_sl (c_var 3) (co_some (c_op op_addA os_add (c_var 4) (c_op op_mulA os_mul' c_int (c_var 7)))) (co_some (c_op op_addA os_add (c_op op_addA os_add (c_var 4) (c_op op_mulA os_mul' c_int (c_var 7))) c_int)))) (ca_cons (c_var 6) ca_nil rfl) rfl) rfl) rfl) rfl rfl (by decide) rfl rfl (la_cons (la_cons (la_cons (la_cons la_nil)))))) rfl (Or.inl rfl) rfl (.inl rfl))
      (cs_one (cs_if (ct_val (c_e (c_call C__law_let_by tk hr (by omega) (ca_cons (c_var 1) (ca_cons (c_var 8) ca_nil rfl) rfl) rfl rfl (by decide) rfl rfl (la_cons (la_cons la_nil)))) (fun _ => rfl)) (cs_cons (cs_if (ct_notN (c_e (c_call C__law_land_do tk hr (by omega) (ca_cons (c_var 0) (ca_cons (c_var 8) ca_nil rfl) rfl) rfl rfl (by decide) rfl rfl (la_cons (la_cons la_nil))))) (cs_one (cs_ret c_bl)) cs_nil)
      (cs_one (cs_expr (c_e (c_call C__law_do tk hr (by omega) (ca_cons (c_var 1) (ca_cons (c_var 8) ca_nil rfl) rfl) rfl rfl (by decide) rfl rfl (la_cons (la_cons la_nil)))) rfl))) cs_nil))) rfl (fun _ => rfl))
      (cs_one (cs_ret c_bl)))
abbrev s__law_stranger : Stmt := top 42
abbrev N__law_stranger : List Str := ["_law_names_here", "_law_sign"]
theorem sc__law_stranger : FnScope N__law_stranger ["_law_names_here"] (defScope s__law_stranger) := ⟨rfl, rfl, rfl, by decide +kernel, rfl, by decide +kernel, by decide +kernel⟩
theorem t__law_stranger {f : Addr} {fd : FuncData} (T : Tx K mg) (FD : FunD K "_law_stranger" "_law_stranger" (defArgs s__law_stranger) (defBody s__law_stranger) (defScope s__law_stranger) [] [] f fd) (hm : mg "_law_stranger" = some (.ref f))  : Fn false P w K mg base "_law_stranger" 1 1 m__law_stranger := by
  have sc := sc__law_stranger
  refine fn_mk (n := 2) FD hm sc rfl rfl (fun _ _ _ _ _ _ us hl => match us, hl with | [_], _ => rfl) fun cdv A outer s H E hr => ?_
  have tk := takes_of (X := cxOf (L2.CX P w) P w K mg base N__law_stranger "_law_stranger" (defScope s__law_stranger) f cdv A outer s H E) rfl rfl rfl rfl
  have hp := passes_of (X := cxOf (L2.CX P w) P w K mg base N__law_stranger "_law_stranger" (defScope s__law_stranger) f cdv A outer s H E) rfl
  exact (cs_one (cs_ret (c_ix (c_f (cf_lc sc.nd (blkOk_by (own := [("_law_sign", 1)]) (N := N__law_stranger) (sc := defScope s__law_stranger) (by decide +kernel)) rfl (ci_str c_str) (fun _ _ _ _ _ => (cg_name 1 sc.nd)) (fun _ _ _ _ _ => cts_one (ct_cmp (op_notInG hr) os_notInG (c_var 1) (c_var 0) rfl)) (fun _ _ _ _ _ => (c_var 1)) rfl (fun _ => rfl))) c_int (fun _ _ => rfl))))
abbrev s_Land_there : Stmt := inClass (top 15) 1
abbrev N_Land_there : List Str := ["self", "estate"]
theorem sc_Land_there : FnScope N_Land_there ["self", "estate"] (defScope s_Land_there) := ⟨rfl, rfl, rfl, by decide +kernel, rfl, by decide +kernel, by decide +kernel⟩
theorem t_Land_there {f : Addr} {fd : FuncData} (T : Tx K mg) (FD : FunD K "there" "Land.there" (defArgs s_Land_there) (defBody s_Land_there) (defScope s_Land_there) [] [] f fd) (hc : Cls K (ca K "Land")) (hm : Meth K (ca K "Land") "there" f)  : Mt false P w K mg base "Land" "there" 1 2 m_Land_there := by
  have sc := sc_Land_there
  refine mt_mk (n := 2) FD hc hm sc rfl rfl (fun _ _ _ _ _ _ us hl => match us, hl with | [_, _], _ => rfl) fun cdv A outer s H E hr => ?_
  have tk := takes_of (X := cxOf (L2.CX P w) P w K mg base N_Land_there "Land.there" (defScope s_Land_there) f cdv A outer s H E) rfl rfl rfl rfl
  have hp := passes_of (X := cxOf (L2.CX P w) P w K mg base N_Land_there "Land.there" (defScope s_Land_there) f cdv A outer s H E) rfl
  exact (cs_one (cs_ret (c_cmp (op_inG hr) os_inG (c_var 1) (c_fld (f := "lords") T.cf_Land_lords (c_var 0) rfl) rfl)))
abbrev s__law_same : Stmt := top 18
abbrev N__law_same : List Str := ["_law_found", "_law_due", "_law_one", "_law_other"]
theorem sc__law_same : FnScope N__law_same ["_law_found", "_law_due"] (defScope s__law_same) := ⟨rfl, rfl, rfl, by decide +kernel, rfl, by decide +kernel, by decide +kernel⟩
theorem t__law_same_ {f : Addr} {fd : FuncData} (T : Tx K mg) (FD : FunD K "_law_same" "_law_same" (defArgs s__law_same) (defBody s__law_same) (defScope s__law_same) [] [] f fd) (hm : mg "_law_same" = some (.ref f))  : ∀ n : Nat, Fn false P w K mg base "_law_same" (0 + n) 2 (r__law_same n) := by
  have sc := sc__law_same
  intro n
  induction n with
  | zero => exact fn_zero FD hm (ps := ["_law_found", "_law_due"]) rfl (fun _ _ _ _ _ _ us hl => match us, hl with | [_, _], _ => rfl)
  | succ n C_self =>
    refine fn_mk (k := 0 + n) (n := 4) FD hm sc rfl rfl (fun _ _ _ _ _ _ us hl => match us, hl with | [_, _], _ => rfl) fun cdv A outer s H E hr => ?_
    have tk := takes_of (X := cxOf (L2.CX P w) P w K mg base N__law_same "_law_same" (defScope s__law_same) f cdv A outer s H E) rfl rfl rfl rfl
    have hp := passes_of (X := cxOf (L2.CX P w) P w K mg base N__law_same "_law_same" (defScope s__law_same) f cdv A outer s H E) rfl
    exact (cs_cons (cs_if (ct_isN (c_var 1)) (cs_one (cs_ret (c_isN (c_var 0)))) cs_nil)
        (cs_cons (cs_if (ct_val (c_isi .bool T.isinstance T.bool (c_var 1) (by decide +kernel) rfl rfl (by decide) (by decide) rfl rfl) (fun _ => rfl)) (cs_one (cs_ret (c_and (c_isi .bool T.isinstance T.bool (c_var 0) (by decide +kernel) rfl rfl (by decide) (by decide) rfl rfl) (c_one (c_cmp (op_eqA hr) os_eq (c_var 0) (c_var 1) (nomark _)))))) cs_nil)
        (cs_cons (cs_if (ct_val (c_isi .tuple T.isinstance T.tuple (c_var 1) (by decide +kernel) rfl rfl (by decide) (by decide) rfl rfl) (fun _ => rfl)) (cs_cons (cs_if (PW.pt (cw_or (ct_not (ct_val (c_isi .tuple T.isinstance T.tuple (c_var 0) (by decide +kernel) rfl rfl (by decide) (by decide) rfl rfl) (fun _ => rfl))) (cw_or1 (ct_cmp (op_neA hr) os_ne (c_b1 call_lenA b_len T.len (c_var 0) (by decide +kernel) rfl (by decide) (by decide) rfl) (c_b1 call_lenA b_len T.len (c_var 1) (by decide +kernel) rfl (by decide) (by decide) rfl) (nomark _))))) (cs_one (cs_ret c_bl)) cs_nil)
        (cs_one (cs_ret (c_b1 (cr_all rfl) b_all T.all (c_f (cf_lc sc.nd (blkOk_by (own := [("_law_one", 2), ("_law_other", 3)]) (N := N__law_same) (sc := defScope s__law_same) (by decide +kernel)) rfl (ci_zip T.zip (c_var 0) (c_var 1) rfl rfl rfl rfl) (fun _ _ _ _ _ => (cg_tup (cgs_cons (cg_name 2 sc.nd) (cgs_cons (cg_name 3 sc.nd) cgs_nil rfl) rfl) rfl rfl rfl)) (fun _ _ _ _ _ => cts_nil) (fun _ _ _ _ _ => (c_e (c_call C_self takes0 hr (Nat.le_refl _) (ca_cons (c_var 2) (ca_cons (c_var 3) ca_nil rfl) rfl) rfl rfl (by decide) rfl rfl (la_cons (la_cons la_nil))))) rfl (fun _ => rfl))) (by decide +kernel) rfl (by decide) (by decide) rfl)))) cs_nil)
        (cs_cons (cs_if (ct_val (c_isi .list T.isinstance T.list (c_var 1) (by decide +kernel) rfl rfl (by decide) (by decide) rfl rfl) (fun _ => rfl)) (cs_cons (cs_if (PW.pt (cw_or (ct_not (ct_val (c_isi .list T.isinstance T.list (c_var 0) (by decide +kernel) rfl rfl (by decide) (by decide) rfl rfl) (fun _ => rfl))) (cw_or1 (ct_cmp (op_neA hr) os_ne (c_b1 call_lenA b_len T.len (c_var 0) (by decide +kernel) rfl (by decide) (by decide) rfl) (c_b1 call_lenA b_len T.len (c_var 1) (by decide +kernel) rfl (by decide) (by decide) rfl) (nomark _))))) (cs_one (cs_ret c_bl)) cs_nil)
        (cs_one (cs_ret (c_b1 (cr_all rfl) b_all T.all (c_f (cf_lc sc.nd (blkOk_by (own := [("_law_one", 2), ("_law_other", 3)]) (N := N__law_same) (sc := defScope s__law_same) (by decide +kernel)) rfl (ci_zip T.zip (c_var 0) (c_var 1) rfl rfl rfl rfl) (fun _ _ _ _ _ => (cg_tup (cgs_cons (cg_name 2 sc.nd) (cgs_cons (cg_name 3 sc.nd) cgs_nil rfl) rfl) rfl rfl rfl)) (fun _ _ _ _ _ => cts_nil) (fun _ _ _ _ _ => (c_e (c_call C_self takes0 hr (Nat.le_refl _) (ca_cons (c_var 2) (ca_cons (c_var 3) ca_nil rfl) rfl) rfl rfl (by decide) rfl rfl (la_cons (la_cons la_nil))))) rfl (fun _ => rfl))) (by decide +kernel) rfl (by decide) (by decide) rfl)))) cs_nil)
        (cs_cons (cs_if (ct_val (c_isi .str T.isinstance T.str (c_var 1) (by decide +kernel) rfl rfl (by decide) (by decide) rfl rfl) (fun _ => rfl)) (cs_one (cs_ret (c_and (c_isi .str T.isinstance T.str (c_var 0) (by decide +kernel) rfl rfl (by decide) (by decide) rfl rfl) (c_one (c_cmp (op_eqA hr) os_eq (c_var 0) (c_var 1) (nomark _)))))) cs_nil)
        (cs_one (cs_ret (c_and (c_isi .int T.isinstance T.int (c_var 0) (by decide +kernel) rfl rfl (by decide) (by decide) rfl rfl) (c_and (c_not (c_isi .bool T.isinstance T.bool (c_var 0) (by decide +kernel) rfl rfl (by decide) (by decide) rfl rfl)) (c_one (c_cmp (op_eqA hr) os_eq (c_var 0) (c_var 1) (nomark _))))))))))))
theorem t__law_same {f : Addr} {fd : FuncData} (T : Tx K mg) (FD : FunD K "_law_same" "_law_same" (defArgs s__law_same) (defBody s__law_same) (defScope s__law_same) [] [] f fd) (hm : mg "_law_same" = some (.ref f))  : Fn false P w K mg base "_law_same" 8 2 m__law_same := t__law_same_ T FD hm  8
abbrev s_Land_holder : Stmt := inClass (top 15) 4
abbrev N_Land_holder : List Str := ["self", "estate"]
theorem sc_Land_holder : FnScope N_Land_holder ["self", "estate"] (defScope s_Land_holder) := ⟨rfl, rfl, rfl, by decide +kernel, rfl, by decide +kernel, by decide +kernel⟩
theorem t_Land_holder {f : Addr} {fd : FuncData} (T : Tx K mg) (FD : FunD K "holder" "Land.holder" (defArgs s_Land_holder) (defBody s_Land_holder) (defScope s_Land_holder) [] [] f fd) (hc : Cls K (ca K "Land")) (hm : Meth K (ca K "Land") "holder" f) (C_Land_look_at : Mt false P w K mg base "Land" "look_at" 1 2 m_Land_look_at) : Mt false P w K mg base "Land" "holder" 2 2 m_Land_holder := by
  have sc := sc_Land_holder
  refine mt_mk (n := 2) FD hc hm sc rfl rfl (fun _ _ _ _ _ _ us hl => match us, hl with | [_, _], _ => rfl) fun cdv A outer s H E hr => ?_
  have tk := takes_of (X := cxOf (L2.CX P w) P w K mg base N_Land_holder "Land.holder" (defScope s_Land_holder) f cdv A outer s H E) rfl rfl rfl rfl
  have hp := passes_of (X := cxOf (L2.CX P w) P w K mg base N_Land_holder "Land.holder" (defScope s_Land_holder) f cdv A outer s H E) rfl
  exact (cs_cons (cs_expr (c_e (c_met (m := "look_at") (tbl := [("Land", m_Land_look_at)]) (mt_cons C_Land_look_at (by omega) mt_nil) (by simp) tk hr (c_var 0) (ca_cons (c_var 1) ca_nil rfl) (la_met (la_cons la_nil)) rfl rfl rfl)) rfl)
      (cs_one (cs_ret (c_get hr (c_fld (f := "holders") T.cf_Land_holders (c_var 0) rfl) (c_var 1) (fun _ _ => rfl) (fun _ _ => rfl)))))
abbrev s_Land_lord : Stmt := inClass (top 15) 5
abbrev N_Land_lord : List Str := ["self", "estate"]
theorem sc_Land_lord : FnScope N_Land_lord ["self", "estate"] (defScope s_Land_lord) := ⟨rfl, rfl, rfl, by decide +kernel, rfl, by decide +kernel, by decide +kernel⟩
theorem t_Land_lord {f : Addr} {fd : FuncData} (T : Tx K mg) (FD : FunD K "lord" "Land.lord" (defArgs s_Land_lord) (defBody s_Land_lord) (defScope s_Land_lord) [] [] f fd) (hc : Cls K (ca K "Land")) (hm : Meth K (ca K "Land") "lord" f) (C_Land_look_at : Mt false P w K mg base "Land" "look_at" 1 2 m_Land_look_at) : Mt false P w K mg base "Land" "lord" 2 2 m_Land_lord := by
  have sc := sc_Land_lord
  refine mt_mk (n := 2) FD hc hm sc rfl rfl (fun _ _ _ _ _ _ us hl => match us, hl with | [_, _], _ => rfl) fun cdv A outer s H E hr => ?_
  have tk := takes_of (X := cxOf (L2.CX P w) P w K mg base N_Land_lord "Land.lord" (defScope s_Land_lord) f cdv A outer s H E) rfl rfl rfl rfl
  have hp := passes_of (X := cxOf (L2.CX P w) P w K mg base N_Land_lord "Land.lord" (defScope s_Land_lord) f cdv A outer s H E) rfl
  exact (cs_cons (cs_expr (c_e (c_met (m := "look_at") (tbl := [("Land", m_Land_look_at)]) (mt_cons C_Land_look_at (by omega) mt_nil) (by simp) tk hr (c_var 0) (ca_cons (c_var 1) ca_nil rfl) (la_met (la_cons la_nil)) rfl rfl rfl)) rfl)
      (cs_one (cs_ret (c_get hr (c_fld (f := "lords") T.cf_Land_lords (c_var 0) rfl) (c_var 1) (fun _ _ => rfl) (fun _ _ => rfl)))))
abbrev s_Land_own : Stmt := inClass (top 15) 6
abbrev N_Land_own : List Str := ["self", "estate"]
theorem sc_Land_own : FnScope N_Land_own ["self", "estate"] (defScope s_Land_own) := ⟨rfl, rfl, rfl, by decide +kernel, rfl, by decide +kernel, by decide +kernel⟩
theorem t_Land_own {f : Addr} {fd : FuncData} (T : Tx K mg) (FD : FunD K "own" "Land.own" (defArgs s_Land_own) (defBody s_Land_own) (defScope s_Land_own) [] [] f fd) (hc : Cls K (ca K "Land")) (hm : Meth K (ca K "Land") "own" f) (C_Land_look_at : Mt false P w K mg base "Land" "look_at" 1 2 m_Land_look_at) : Mt false P w K mg base "Land" "own" 2 2 m_Land_own := by
  have sc := sc_Land_own
  refine mt_mk (n := 2) FD hc hm sc rfl rfl (fun _ _ _ _ _ _ us hl => match us, hl with | [_, _], _ => rfl) fun cdv A outer s H E hr => ?_
  have tk := takes_of (X := cxOf (L2.CX P w) P w K mg base N_Land_own "Land.own" (defScope s_Land_own) f cdv A outer s H E) rfl rfl rfl rfl
  have hp := passes_of (X := cxOf (L2.CX P w) P w K mg base N_Land_own "Land.own" (defScope s_Land_own) f cdv A outer s H E) rfl
  exact (cs_cons (cs_expr (c_e (c_met (m := "look_at") (tbl := [("Land", m_Land_look_at)]) (mt_cons C_Land_look_at (by omega) mt_nil) (by simp) tk hr (c_var 0) (ca_cons (c_var 1) ca_nil rfl) (la_met (la_cons la_nil)) rfl rfl rfl)) rfl)
      (cs_one (cs_ret (c_get hr (c_fld (f := "acres_of") T.cf_Land_acres_of (c_var 0) rfl) (c_var 1) (fun _ _ => rfl) (fun _ _ => rfl)))))
abbrev s_Land_service : Stmt := inClass (top 15) 7
abbrev N_Land_service : List Str := ["self", "estate"]
theorem sc_Land_service : FnScope N_Land_service ["self", "estate"] (defScope s_Land_service) := ⟨rfl, rfl, rfl, by decide +kernel, rfl, by decide +kernel, by decide +kernel⟩
theorem t_Land_service {f : Addr} {fd : FuncData} (T : Tx K mg) (FD : FunD K "service" "Land.service" (defArgs s_Land_service) (defBody s_Land_service) (defScope s_Land_service) [] [] f fd) (hc : Cls K (ca K "Land")) (hm : Meth K (ca K "Land") "service" f) (C_Land_look_at : Mt false P w K mg base "Land" "look_at" 1 2 m_Land_look_at) : Mt false P w K mg base "Land" "service" 2 2 m_Land_service := by
  have sc := sc_Land_service
  refine mt_mk (n := 2) FD hc hm sc rfl rfl (fun _ _ _ _ _ _ us hl => match us, hl with | [_, _], _ => rfl) fun cdv A outer s H E hr => ?_
  have tk := takes_of (X := cxOf (L2.CX P w) P w K mg base N_Land_service "Land.service" (defScope s_Land_service) f cdv A outer s H E) rfl rfl rfl rfl
  have hp := passes_of (X := cxOf (L2.CX P w) P w K mg base N_Land_service "Land.service" (defScope s_Land_service) f cdv A outer s H E) rfl
  exact (cs_cons (cs_expr (c_e (c_met (m := "look_at") (tbl := [("Land", m_Land_look_at)]) (mt_cons C_Land_look_at (by omega) mt_nil) (by simp) tk hr (c_var 0) (ca_cons (c_var 1) ca_nil rfl) (la_met (la_cons la_nil)) rfl rfl rfl)) rfl)
      (cs_one (cs_ret (c_get hr (c_fld (f := "services") T.cf_Land_services (c_var 0) rfl) (c_var 1) (fun _ _ => rfl) (fun _ _ => rfl)))))
abbrev s_Land_chain : Stmt := inClass (top 15) 10
abbrev N_Land_chain : List Str := ["self", "estate", "found"]
theorem sc_Land_chain : FnScope N_Land_chain ["self", "estate"] (defScope s_Land_chain) := ⟨rfl, rfl, rfl, by decide +kernel, rfl, by decide +kernel, by decide +kernel⟩
theorem t_Land_chain {f : Addr} {fd : FuncData} (T : Tx K mg) (FD : FunD K "chain" "Land.chain" (defArgs s_Land_chain) (defBody s_Land_chain) (defScope s_Land_chain) [] [] f fd) (hc : Cls K (ca K "Land")) (hm : Meth K (ca K "Land") "chain" f) (C_Land_look_at : Mt false P w K mg base "Land" "look_at" 1 2 m_Land_look_at) : Mt true P w K mg base "Land" "chain" 2 2 m_Land_chain := by
  have sc := sc_Land_chain
  refine mt_mk (n := 3) FD hc hm sc rfl rfl (fun _ _ _ _ _ _ us hl => match us, hl with | [_, _], _ => rfl) fun cdv A outer s H E hr => ?_
  have tk := takes_of (X := cxOf (L2.CX P w) P w K mg base N_Land_chain "Land.chain" (defScope s_Land_chain) f cdv A outer s H E) rfl rfl rfl rfl
  have hp := passes_of (X := cxOf (L2.CX P w) P w K mg base N_Land_chain "Land.chain" (defScope s_Land_chain) f cdv A outer s H E) rfl
  exact (cs_cons (cs_expr (c_e (c_met (m := "look_at") (tbl := [("Land", m_Land_look_at)]) (mt_cons C_Land_look_at (by omega) mt_nil) (by simp) tk hr (c_var 0) (ca_cons (c_var 1) ca_nil rfl) (la_met (la_cons la_nil)) rfl rfl rfl)) rfl)
      (cs_cons (cs_setO (i := 2) sc.nd (cf_lst (ca_cons (c_var 1) ca_nil rfl)) rfl (Or.inl rfl) rfl (.inl rfl))
      (cs_cons (cs_while fuel hp (ct_notN (c_get hr (c_fld (f := "lords") T.cf_Land_lords (c_var 0) rfl) (c_ix (c_var 2) (c_neg c_int) (fun _ _ => rfl)) (fun _ _ => rfl) (fun _ _ => rfl))) (cs_one (cs_expr (c_app (c_var 2) (c_get hr (c_fld (f := "lords") T.cf_Land_lords (c_var 0) rfl) (c_ix (c_var 2) (c_neg c_int) (fun _ _ => rfl)) (fun _ _ => rfl) (fun _ _ => rfl)) rfl rfl rfl rfl) rfl)))
      (cs_one (cs_retO 2)))))
abbrev s__law_question : Stmt := top 43
abbrev N__law_question : List Str := ["_law_land", "_law_which", "_law_estate"]
theorem sc__law_question : FnScope N__law_question ["_law_land", "_law_which", "_law_estate"] (defScope s__law_question) := ⟨rfl, rfl, rfl, by decide +kernel, rfl, by decide +kernel, by decide +kernel⟩
theorem t__law_question {f : Addr} {fd : FuncData} (T : Tx K mg) (FD : FunD K "_law_question" "_law_question" (defArgs s__law_question) (defBody s__law_question) (defScope s__law_question) [] [] f fd) (hm : mg "_law_question" = some (.ref f)) (C_Land_holder : Mt false P w K mg base "Land" "holder" 2 2 m_Land_holder) (C_Land_lord : Mt false P w K mg base "Land" "lord" 2 2 m_Land_lord) (C_Land_own : Mt false P w K mg base "Land" "own" 2 2 m_Land_own) (C_Land_breadth : Mt false P w K mg base "Land" "breadth" 3 2 m_Land_breadth) (C_Land_service : Mt false P w K mg base "Land" "service" 2 2 m_Land_service) (C_Land_chain : Mt true P w K mg base "Land" "chain" 2 2 m_Land_chain) (C_Land_under : Mt true P w K mg base "Land" "under" 2 2 m_Land_under) : Fn false P w K mg base "_law_question" 4 3 m__law_question := by
  have sc := sc__law_question
  refine fn_mk (n := 3) FD hm sc rfl rfl (fun _ _ _ _ _ _ us hl => match us, hl with | [_, _, _], _ => rfl) fun cdv A outer s H E hr => ?_
  have tk := takes_of (X := cxOf (L2.CX P w) P w K mg base N__law_question "_law_question" (defScope s__law_question) f cdv A outer s H E) rfl rfl rfl rfl
  have hp := passes_of (X := cxOf (L2.CX P w) P w K mg base N__law_question "_law_question" (defScope s__law_question) f cdv A outer s H E) rfl
  exact (cs_cons (cs_if (ct_cmp (op_eqA hr) os_eq (c_var 1) c_int (nomark _)) (cs_one (cs_ret (c_e (c_met (m := "holder") (tbl := [("Land", m_Land_holder)]) (mt_cons C_Land_holder (by omega) mt_nil) (by simp) tk hr (c_var 0) (ca_cons (c_var 2) ca_nil rfl) (la_met (la_cons la_nil)) rfl rfl rfl)))) cs_nil)
      (cs_cons (cs_if (ct_cmp (op_eqA hr) os_eq (c_var 1) c_int (nomark _)) (cs_one (cs_ret (c_e (c_met (m := "lord") (tbl := [("Land", m_Land_lord)]) (mt_cons C_Land_lord (by omega) mt_nil) (by simp) tk hr (c_var 0) (ca_cons (c_var 2) ca_nil rfl) (la_met (la_cons la_nil)) rfl rfl rfl)))) cs_nil)
      (cs_cons (cs_if (ct_cmp (op_eqA hr) os_eq (c_var 1) c_int (nomark _)) (cs_one (cs_ret (c_e (c_met (m := "own") (tbl := [("Land", m_Land_own)]) (mt_cons C_Land_own (by omega) mt_nil) (by simp) tk hr (c_var 0) (ca_cons (c_var 2) ca_nil rfl) (la_met (la_cons la_nil)) rfl rfl rfl)))) cs_nil)
      (cs_cons (cs_if (ct_cmp (op_eqA hr) os_eq (c_var 1) c_int (nomark _)) (cs_one (cs_ret (c_e (c_met (m := "breadth") (tbl := [("Land", m_Land_breadth)]) (mt_cons C_Land_breadth (by omega) mt_nil) (by simp) tk hr (c_var 0) (ca_cons (c_var 2) ca_nil rfl) (la_met (la_cons la_nil)) rfl rfl rfl)))) cs_nil)
      (cs_cons (cs_if (ct_cmp (op_eqA hr) os_eq (c_var 1) c_int (nomark _)) (cs_one (cs_ret (c_e (c_met (m := "service") (tbl := [("Land", m_Land_service)]) (mt_cons C_Land_service (by omega) mt_nil) (by simp) tk hr (c_var 0) (ca_cons (c_var 2) ca_nil rfl) (la_met (la_cons la_nil)) rfl rfl rfl)))) cs_nil)
      (cs_cons (cs_if (ct_cmp (op_eqA hr) os_eq (c_var 1) c_int (nomark _)) (cs_one (cs_ret (c_f (cf_met (m := "chain") (tbl := [("Land", m_Land_chain)]) (mt_cons C_Land_chain (by omega) mt_nil) (by simp) tk hr (c_var 0) (ca_cons (c_var 2) ca_nil rfl) (la_met (la_cons la_nil)) rfl rfl rfl)))) cs_nil)
      (cs_one (cs_ret (c_f (cf_met (m := "under") (tbl := [("Land", m_Land_under)]) (mt_cons C_Land_under (by omega) mt_nil) (by simp) tk hr (c_var 0) (ca_cons (c_var 2) ca_nil rfl) (la_met (la_cons la_nil)) rfl rfl rfl))))))))))
abbrev s__law_why_asked : Stmt := top 44
abbrev N__law_why_asked : List Str := ["_law_land", "_law_which", "_law_estate", "_law_marks", "e"]
theorem sc__law_why_asked : FnScope N__law_why_asked ["_law_land", "_law_which", "_law_estate"] (defScope s__law_why_asked) := ⟨rfl, rfl, rfl, by decide +kernel, rfl, by decide +kernel, by decide +kernel⟩
theorem t__law_why_asked {f : Addr} {fd : FuncData} (T : Tx K mg) (FD : FunD K "_law_why_asked" "_law_why_asked" (defArgs s__law_why_asked) (defBody s__law_why_asked) (defScope s__law_why_asked) [] [] f fd) (hm : mg "_law_why_asked" = some (.ref f)) (C__law_question : Fn false P w K mg base "_law_question" 4 3 m__law_question) : Fn false P w K mg base "_law_why_asked" 5 3 m__law_why_asked := by
  have sc := sc__law_why_asked
  refine fn_mk (n := 5) FD hm sc rfl rfl (fun _ _ _ _ _ _ us hl => match us, hl with | [_, _, _], _ => rfl) fun cdv A outer s H E hr => ?_
  have tk := takes_of (X := cxOf (L2.CX P w) P w K mg base N__law_why_asked "_law_why_asked" (defScope s__law_why_asked) f cdv A outer s H E) rfl rfl rfl rfl
  have hp := passes_of (X := cxOf (L2.CX P w) P w K mg base N__law_why_asked "_law_why_asked" (defScope s__law_why_asked) f cdv A outer s H E) rfl
  exact (cs_cons (cs_set (i := 3) sc.nd (c_f (cf_lst ca_nil)) rfl (Or.inl rfl) rfl (.inl rfl))
      (cs_cons (cs_try (i := 4) (c := "LandError") rfl rfl sc.nd rfl rfl ⟨rfl, by decide, .inl T.g_LandError⟩ tk (al_cons (P := fun y => PySem.W.exmOne K (.ref (ca K y)) (.ref (ca K "LandError")) = some (excSub y "LandError")) (ex_b (by decide +kernel) T.m_NoEstate_LandError) (al_nil (P := fun y => PySem.W.exmOne K (.ref (ca K y)) (.ref (ca K "LandError")) = some (excSub y "LandError")))) (fun _ _ _ tk hp => (cs_one (cs_expr (c_e (c_call C__law_question tk hr (by omega) (ca_cons (c_var 0) (ca_cons (c_var 1) (ca_cons (c_var 2) ca_nil rfl) rfl) rfl) rfl rfl (by decide) rfl rfl (la_cons (la_cons (la_cons la_nil))))) rfl))) (fun a oe y pn hy hz hv => (cs_one (cs_set (i := 3) sc.nd (c_f (cf_lst (ca_cons (c_isEb (i := 4) (c := "ValueError") ((al_cons (P := fun y => ExcC K (ca K y)) T.q_NoEstate (al_nil (P := fun y => ExcC K (ca K y)))) y hy) hz hv ((al_cons (P := fun y => PySem.W.kitOne K (.ref (ca K y)) (.type "ValueError") = some (excSub y "ValueError")) (ex_b (by decide +kernel) T.kb_NoEstate_ValueError) (al_nil (P := fun y => PySem.W.kitOne K (.ref (ca K y)) (.type "ValueError") = some (excSub y "ValueError")))) y hy) T.isinstance T.ValueError) (ca_cons (c_isE (i := 4) (c := "NoEstate") ((al_cons (P := fun y => ExcC K (ca K y)) T.q_NoEstate (al_nil (P := fun y => ExcC K (ca K y)))) y hy) hz hv ((al_cons (P := fun y => PySem.W.kitOne K (.ref (ca K y)) (.ref (ca K "NoEstate")) = some (excSub y "NoEstate")) (ex_b (by decide +kernel) T.k_NoEstate_NoEstate) (al_nil (P := fun y => PySem.W.kitOne K (.ref (ca K y)) (.ref (ca K "NoEstate")) = some (excSub y "NoEstate")))) y hy) T.isinstance T.g_NoEstate) (ca_cons (c_isE (i := 4) (c := "NoMan") ((al_cons (P := fun y => ExcC K (ca K y)) T.q_NoEstate (al_nil (P := fun y => ExcC K (ca K y)))) y hy) hz hv ((al_cons (P := fun y => PySem.W.kitOne K (.ref (ca K y)) (.ref (ca K "NoMan")) = some (excSub y "NoMan")) (ex_b (by decide +kernel) T.k_NoEstate_NoMan) (al_nil (P := fun y => PySem.W.kitOne K (.ref (ca K y)) (.ref (ca K "NoMan")) = some (excSub y "NoMan")))) y hy) T.isinstance T.g_NoMan) (ca_cons (c_isE (i := 4) (c := "NoLand") ((al_cons (P := fun y => ExcC K (ca K y)) T.q_NoEstate (al_nil (P := fun y => ExcC K (ca K y)))) y hy) hz hv ((al_cons (P := fun y => PySem.W.kitOne K (.ref (ca K y)) (.ref (ca K "NoLand")) = some (excSub y "NoLand")) (ex_b (by decide +kernel) T.k_NoEstate_NoLand) (al_nil (P := fun y => PySem.W.kitOne K (.ref (ca K y)) (.ref (ca K "NoLand")) = some (excSub y "NoLand")))) y hy) T.isinstance T.g_NoLand) ca_nil rfl) rfl) rfl) rfl))) rfl (Or.inl rfl) rfl (.inl rfl)))))
      (cs_one (cs_ret (c_var 3)))))
abbrev s__law_why_land : Stmt := top 45
abbrev N__law_why_land : List Str := ["_law_acres", "_law_marks", "e"]
theorem sc__law_why_land : FnScope N__law_why_land ["_law_acres"] (defScope s__law_why_land) := ⟨rfl, rfl, rfl, by decide +kernel, rfl, by decide +kernel, by decide +kernel⟩
theorem t__law_why_land {f : Addr} {fd : FuncData} (T : Tx K mg) (FD : FunD K "_law_why_land" "_law_why_land" (defArgs s__law_why_land) (defBody s__law_why_land) (defScope s__law_why_land) [] [] f fd) (hm : mg "_law_why_land" = some (.ref f)) (C_Land___init__ : MkD P w K mg base "Land" 1 2 m_Land___init__) : Fn false P w K mg base "_law_why_land" 3 1 m__law_why_land := by
  have sc := sc__law_why_land
  refine fn_mk (n := 3) FD hm sc rfl rfl (fun _ _ _ _ _ _ us hl => match us, hl with | [_], _ => rfl) fun cdv A outer s H E hr => ?_
  have tk := takes_of (X := cxOf (L2.CX P w) P w K mg base N__law_why_land "_law_why_land" (defScope s__law_why_land) f cdv A outer s H E) rfl rfl rfl rfl
  have hp := passes_of (X := cxOf (L2.CX P w) P w K mg base N__law_why_land "_law_why_land" (defScope s__law_why_land) f cdv A outer s H E) rfl
  exact (cs_cons (cs_set (i := 1) sc.nd (c_f (cf_lst ca_nil)) rfl (Or.inl rfl) rfl (.inl rfl))
      (cs_cons (cs_try (i := 2) (c := "LandError") rfl rfl sc.nd rfl rfl ⟨rfl, by decide, .inl T.g_LandError⟩ tk (al_cons (P := fun y => PySem.W.exmOne K (.ref (ca K y)) (.ref (ca K "LandError")) = some (excSub y "LandError")) (ex_b (by decide +kernel) T.m_NoLand_LandError) (al_nil (P := fun y => PySem.W.exmOne K (.ref (ca K y)) (.ref (ca K "LandError")) = some (excSub y "LandError")))) (fun _ _ _ tk hp => (cs_one (cs_expr (c_e (c_make (c := "Land") C_Land___init__ tk hr (by omega) (ca_cons (c_var 0) ca_nil rfl) (la_met (la_cons la_nil)) rfl (by decide) rfl rfl)) rfl))) (fun a oe y pn hy hz hv => (cs_one (cs_set (i := 1) sc.nd (c_f (cf_lst (ca_cons (c_isE (i := 2) (c := "NoLand") ((al_cons (P := fun y => ExcC K (ca K y)) T.q_NoLand (al_nil (P := fun y => ExcC K (ca K y)))) y hy) hz hv ((al_cons (P := fun y => PySem.W.kitOne K (.ref (ca K y)) (.ref (ca K "NoLand")) = some (excSub y "NoLand")) (ex_b (by decide +kernel) T.k_NoLand_NoLand) (al_nil (P := fun y => PySem.W.kitOne K (.ref (ca K y)) (.ref (ca K "NoLand")) = some (excSub y "NoLand")))) y hy) T.isinstance T.g_NoLand) (ca_cons (c_isE (i := 2) (c := "NoEstate") ((al_cons (P := fun y => ExcC K (ca K y)) T.q_NoLand (al_nil (P := fun y => ExcC K (ca K y)))) y hy) hz hv ((al_cons (P := fun y => PySem.W.kitOne K (.ref (ca K y)) (.ref (ca K "NoEstate")) = some (excSub y "NoEstate")) (ex_b (by decide +kernel) T.k_NoLand_NoEstate) (al_nil (P := fun y => PySem.W.kitOne K (.ref (ca K y)) (.ref (ca K "NoEstate")) = some (excSub y "NoEstate")))) y hy) T.isinstance T.g_NoEstate) (ca_cons (c_isE (i := 2) (c := "NoForm") ((al_cons (P := fun y => ExcC K (ca K y)) T.q_NoLand (al_nil (P := fun y => ExcC K (ca K y)))) y hy) hz hv ((al_cons (P := fun y => PySem.W.kitOne K (.ref (ca K y)) (.ref (ca K "NoForm")) = some (excSub y "NoForm")) (ex_b (by decide +kernel) T.k_NoLand_NoForm) (al_nil (P := fun y => PySem.W.kitOne K (.ref (ca K y)) (.ref (ca K "NoForm")) = some (excSub y "NoForm")))) y hy) T.isinstance T.g_NoForm) ca_nil rfl) rfl) rfl))) rfl (Or.inl rfl) rfl (.inl rfl)))))
      (cs_one (cs_ret (c_var 1)))))
abbrev s_Land_held : Stmt := inClass (top 15) 11
abbrev N_Land_held : List Str := ["self", "man", "estate"]
theorem sc_Land_held : FnScope N_Land_held ["self", "man"] (defScope s_Land_held) := ⟨rfl, rfl, rfl, by decide +kernel, rfl, by decide +kernel, by decide +kernel⟩
theorem t_Land_held {f : Addr} {fd : FuncData} (T : Tx K mg) (FD : FunD K "held" "Land.held" (defArgs s_Land_held) (defBody s_Land_held) (defScope s_Land_held) [] [] f fd) (hc : Cls K (ca K "Land")) (hm : Meth K (ca K "Land") "held" f)  : Mt true P w K mg base "Land" "held" 1 2 m_Land_held := by
  have sc := sc_Land_held
  refine mt_mk (n := 3) FD hc hm sc rfl rfl (fun _ _ _ _ _ _ us hl => match us, hl with | [_, _], _ => rfl) fun cdv A outer s H E hr => ?_
  have tk := takes_of (X := cxOf (L2.CX P w) P w K mg base N_Land_held "Land.held" (defScope s_Land_held) f cdv A outer s H E) rfl rfl rfl rfl
  have hp := passes_of (X := cxOf (L2.CX P w) P w K mg base N_Land_held "Land.held" (defScope s_Land_held) f cdv A outer s H E) rfl
  exact (cs_one (cs_retF (cf_b1 call_sortedA bf_sorted T.sorted (c_f (cf_lock (fe := (dFld ["Land"] "holders" (dVar 0))) (cf_lc sc.nd (blkOk_by (own := [("estate", 2)]) (N := N_Land_held) (sc := defScope s_Land_held) (by decide +kernel)) rfl (ci_keys (c_fld (f := "holders") T.cf_Land_holders (c_var 0) rfl)) (fun _ _ _ _ _ => (cg_name 2 sc.nd)) (fun _ _ _ _ _ => cts_one (ct_cmp (op_eqA hr) os_eq (c_get hr (c_fld (f := "holders") T.cf_Land_holders (c_var 0) rfl) (c_var 2) (fun _ _ => rfl) (fun _ _ => rfl)) (c_var 1) (nomark _))) (fun _ _ _ _ _ => (c_var 2)) rfl (fun _ => rfl)))) (by decide +kernel) rfl (by decide) (by decide) rfl)))
abbrev s_Land_estates : Stmt := inClass (top 15) 3
abbrev N_Land_estates : List Str := ["self", "estate"]
theorem sc_Land_estates : FnScope N_Land_estates ["self"] (defScope s_Land_estates) := ⟨rfl, rfl, rfl, by decide +kernel, rfl, by decide +kernel, by decide +kernel⟩
theorem t_Land_estates {f : Addr} {fd : FuncData} (T : Tx K mg) (FD : FunD K "estates" "Land.estates" (defArgs s_Land_estates) (defBody s_Land_estates) (defScope s_Land_estates) [] [] f fd) (hc : Cls K (ca K "Land")) (hm : Meth K (ca K "Land") "estates" f)  : Mt true P w K mg base "Land" "estates" 1 1 m_Land_estates := by
  have sc := sc_Land_estates
  refine mt_mk (n := 2) FD hc hm sc rfl rfl (fun _ _ _ _ _ _ us hl => match us, hl with | [_], _ => rfl) fun cdv A outer s H E hr => ?_
  have tk := takes_of (X := cxOf (L2.CX P w) P w K mg base N_Land_estates "Land.estates" (defScope s_Land_estates) f cdv A outer s H E) rfl rfl rfl rfl
  have hp := passes_of (X := cxOf (L2.CX P w) P w K mg base N_Land_estates "Land.estates" (defScope s_Land_estates) f cdv A outer s H E) rfl
  exact (cs_one (cs_retF (cf_b1 call_sortedA bf_sorted T.sorted (c_f (cf_lock (fe := (dFld ["Land"] "lords" (dVar 0))) (cf_lc sc.nd (blkOk_by (own := [("estate", 1)]) (N := N_Land_estates) (sc := defScope s_Land_estates) (by decide +kernel)) rfl (ci_keys (c_fld (f := "lords") T.cf_Land_lords (c_var 0) rfl)) (fun _ _ _ _ _ => (cg_name 1 sc.nd)) (fun _ _ _ _ _ => cts_one (ct_cmp (op_neA hr) os_ne (c_var 1) (c_gstr T.CROWN) (nomark _))) (fun _ _ _ _ _ => (c_var 1)) rfl (fun _ => rfl)))) (by decide +kernel) rfl (by decide) (by decide) rfl)))
abbrev s_Land_folk : Stmt := inClass (top 15) 12
abbrev N_Land_folk : List Str := ["self"]
theorem sc_Land_folk : FnScope N_Land_folk ["self"] (defScope s_Land_folk) := ⟨rfl, rfl, rfl, by decide +kernel, rfl, by decide +kernel, by decide +kernel⟩
theorem t_Land_folk {f : Addr} {fd : FuncData} (T : Tx K mg) (FD : FunD K "folk" "Land.folk" (defArgs s_Land_folk) (defBody s_Land_folk) (defScope s_Land_folk) [] [] f fd) (hc : Cls K (ca K "Land")) (hm : Meth K (ca K "Land") "folk" f)  : Mt true P w K mg base "Land" "folk" 1 1 m_Land_folk := by
  have sc := sc_Land_folk
  refine mt_mk (n := 1) FD hc hm sc rfl rfl (fun _ _ _ _ _ _ us hl => match us, hl with | [_], _ => rfl) fun cdv A outer s H E hr => ?_
  have tk := takes_of (X := cxOf (L2.CX P w) P w K mg base N_Land_folk "Land.folk" (defScope s_Land_folk) f cdv A outer s H E) rfl rfl rfl rfl
  have hp := passes_of (X := cxOf (L2.CX P w) P w K mg base N_Land_folk "Land.folk" (defScope s_Land_folk) f cdv A outer s H E) rfl
  exact (cs_one (cs_retF (cf_sortSet T.sorted T.set (c_f (cf_listVals T.list (c_fld (f := "holders") T.cf_Land_holders (c_var 0) rfl) rfl rfl rfl rfl rfl)) rfl rfl rfl rfl rfl)))
abbrev s__law_chain : Stmt := top 34
abbrev N__law_chain : List Str := ["_law_book_here", "_law_estate", "_law_found"]
theorem sc__law_chain : FnScope N__law_chain ["_law_book_here", "_law_estate"] (defScope s__law_chain) := ⟨rfl, rfl, rfl, by decide +kernel, rfl, by decide +kernel, by decide +kernel⟩
theorem t__law_chain {f : Addr} {fd : FuncData} (T : Tx K mg) (FD : FunD K "_law_chain" "_law_chain" (defArgs s__law_chain) (defBody s__law_chain) (defScope s__law_chain) [] [] f fd) (hm : mg "_law_chain" = some (.ref f))  : Fn true P w K mg base "_law_chain" 1 2 m__law_chain := by
  have sc := sc__law_chain
  refine fn_mk (n := 3) FD hm sc rfl rfl (fun _ _ _ _ _ _ us hl => match us, hl with | [_, _], _ => rfl) fun cdv A outer s H E hr => ?_
  have tk := takes_of (X := cxOf (L2.CX P w) P w K mg base N__law_chain "_law_chain" (defScope s__law_chain) f cdv A outer s H E) rfl rfl rfl rfl
  have hp := passes_of (X := cxOf (L2.CX P w) P w K mg base N__law_chain "_law_chain" (defScope s__law_chain) f cdv A outer s H E) rfl
  exact (cs_cons (cs_setO (i := 2) sc.nd (cf_lst (ca_cons (c_var 1) ca_nil rfl)) rfl (Or.inl rfl) rfl (.inl rfl))
      (cs_cons (cs_while fuel hp (ct_cmp (op_neA hr) os_ne (c_ix (c_var 2) (c_neg c_int) (fun _ _ => rfl)) c_str (nomark _)) (cs_one (cs_expr (c_app (c_var 2) (c_get hr (c_get hr (c_var 0) c_str (fun _ _ => rfl) (fun _ _ => rfl)) (c_ix (c_var 2) (c_neg c_int) (fun _ _ => rfl)) (fun _ _ => rfl) (fun _ _ => rfl)) rfl rfl rfl rfl) rfl)))
      (cs_one (cs_retO 2))))
abbrev s__law_estate_is : Stmt := top 35
abbrev N__law_estate_is : List Str := ["_law_land", "_law_book_here", "_law_estate", "_law_told", "_law_due"]
theorem sc__law_estate_is : FnScope N__law_estate_is ["_law_land", "_law_book_here", "_law_estate"] (defScope s__law_estate_is) := ⟨rfl, rfl, rfl, by decide +kernel, rfl, by decide +kernel, by decide +kernel⟩
theorem t__law_estate_is {f : Addr} {fd : FuncData} (T : Tx K mg) (FD : FunD K "_law_estate_is" "_law_estate_is" (defArgs s__law_estate_is) (defBody s__law_estate_is) (defScope s__law_estate_is) [] [] f fd) (hm : mg "_law_estate_is" = some (.ref f)) (C_Land_service : Mt false P w K mg base "Land" "service" 2 2 m_Land_service) (C_Land_breadth : Mt false P w K mg base "Land" "breadth" 3 2 m_Land_breadth) (C_Land_own : Mt false P w K mg base "Land" "own" 2 2 m_Land_own) (C_Land_lord : Mt false P w K mg base "Land" "lord" 2 2 m_Land_lord) (C_Land_holder : Mt false P w K mg base "Land" "holder" 2 2 m_Land_holder) (C__law_breadth : Fn false P w K mg base "_law_breadth" 2 2 m__law_breadth) (C__law_same : Fn false P w K mg base "_law_same" 8 2 m__law_same) (C__law_chain : Fn true P w K mg base "_law_chain" 1 2 m__law_chain) (C_Land_chain : Mt true P w K mg base "Land" "chain" 2 2 m_Land_chain) (C_Land_there : Mt false P w K mg base "Land" "there" 1 2 m_Land_there) (C__law_under : Fn true P w K mg base "_law_under" 1 2 m__law_under) (C_Land_under : Mt true P w K mg base "Land" "under" 2 2 m_Land_under) : Fn false P w K mg base "_law_estate_is" 9 3 m__law_estate_is := by
  have sc := sc__law_estate_is
  refine fn_mk (n := 5) FD hm sc rfl rfl (fun _ _ _ _ _ _ us hl => match us, hl with | [_, _, _], _ => rfl) fun cdv A outer s H E hr => ?_
  have tk := takes_of (X := cxOf (L2.CX P w) P w K mg base N__law_estate_is "_law_estate_is" (defScope s__law_estate_is) f cdv A outer s H E) rfl rfl rfl rfl
  have hp := passes_of (X := cxOf (L2.CX P w) P w K mg base N__law_estate_is "_law_estate_is" (defScope s__law_estate_is) f cdv A outer s H E) rfl
  exact (cs_cons (cs_set (i := 3) sc.nd (c_tup (ca_cons (c_e (c_met (m := "holder") (tbl := [("Land", m_Land_holder)]) (mt_cons C_Land_holder (by omega) mt_nil) (by simp) tk hr (c_var 0) (ca_cons (c_var 2) ca_nil rfl) (la_met (la_cons la_nil)) rfl rfl rfl)) (ca_cons (c_e (c_met (m := "lord") (tbl := [("Land", m_Land_lord)]) (mt_cons C_Land_lord (by omega) mt_nil) (by simp) tk hr (c_var 0) (ca_cons (c_var 2) ca_nil rfl) (la_met (la_cons la_nil)) rfl rfl rfl)) (ca_cons (c_e (c_met (m := "own") (tbl := [("Land", m_Land_own)]) (mt_cons C_Land_own (by omega) mt_nil) (by simp) tk hr (c_var 0) (ca_cons (c_var 2) ca_nil rfl) (la_met (la_cons la_nil)) rfl rfl rfl)) (ca_cons (c_e (c_met (m := "breadth") (tbl := [("Land", m_Land_breadth)]) (mt_cons C_Land_breadth (by omega) mt_nil) (by simp) tk hr (c_var 0) (ca_cons (c_var 2) ca_nil rfl) (la_met (la_cons la_nil)) rfl rfl rfl)) (ca_cons (c_e (c_met (m := "service") (tbl := [("Land", m_Land_service)]) (mt_cons C_Land_service (by omega) mt_nil) (by simp) tk hr (c_var 0) (ca_cons (c_var 2) ca_nil rfl) (la_met (la_cons la_nil)) rfl rfl rfl)) ca_nil rfl) rfl) rfl) rfl) rfl)) rfl (Or.inl rfl) rfl (.inl rfl))
      (cs_cons (cs_set (i := 4) sc.nd (c_tup (ca_cons (c_get hr (c_get hr (c_var 1) c_str (fun _ _ => rfl) (fun _ _ => rfl)) (c_var 2) (fun _ _ => rfl) (fun _ _ => rfl)) (ca_cons (c_get hr (c_get hr (c_var 1) c_str (fun _ _ => rfl) (fun _ _ => rfl)) (c_var 2) (fun _ _ => rfl) (fun _ _ => rfl)) (ca_cons (c_get hr (c_get hr (c_var 1) c_str (fun _ _ => rfl) (fun _ _ => rfl)) (c_var 2) (fun _ _ => rfl) (fun _ _ => rfl)) (ca_cons (c_e (c_call C__law_breadth tk hr (by omega) (ca_cons (c_var 1) (ca_cons (c_var 2) ca_nil rfl) rfl) rfl rfl (by decide) rfl rfl (la_cons (la_cons la_nil)))) ca_nil rfl) rfl) rfl) rfl)) rfl (Or.inl rfl) rfl (.inl rfl))
      (cs_cons (cs_if (ct_not (ct_val (c_e (c_call C__law_same tk hr (by omega) (ca_cons (c_var 3) (ca_cons (c_op op_addA os_add (c_var 4) (c_tup (ca_cons (c_get hr (c_get hr (c_var 1) c_str (fun _ _ => rfl) (fun _ _ => rfl)) (c_var 2) (fun _ _ => rfl) (fun _ _ => rfl)) ca_nil rfl))) ca_nil rfl) rfl) rfl rfl (by decide) rfl rfl (la_cons (la_cons la_nil)))) (fun _ => rfl))) (cs_one (cs_ret c_bl)) cs_nil)
      (cs_cons (cs_if (PW.pt (cw_or (ct_not (ct_val (c_e (c_call C__law_same tk hr (by omega) (ca_cons (c_f (cf_met (m := "chain") (tbl := [("Land", m_Land_chain)]) (mt_cons C_Land_chain (by omega) mt_nil) (by simp) tk hr (c_var 0) (ca_cons (c_var 2) ca_nil rfl) (la_met (la_cons la_nil)) rfl rfl rfl)) (ca_cons (c_f (cf_call C__law_chain tk hr (by omega) (ca_cons (c_var 1) (ca_cons (c_var 2) ca_nil rfl) rfl) rfl rfl (by decide) rfl rfl (la_cons (la_cons la_nil)))) ca_nil rfl) rfl) rfl rfl (by decide) rfl rfl (la_cons (la_cons la_nil)))) (fun _ => rfl))) (cw_or1 (ct_not (ct_val (c_e (c_call C__law_same tk hr (by omega) (ca_cons (c_e (c_met (m := "there") (tbl := [("Land", m_Land_there)]) (mt_cons C_Land_there (by omega) mt_nil) (by simp) tk hr (c_var 0) (ca_cons (c_var 2) ca_nil rfl) (la_met (la_cons la_nil)) rfl rfl rfl)) (ca_cons c_bl ca_nil rfl) rfl) rfl rfl (by decide) rfl rfl (la_cons (la_cons la_nil)))) (fun _ => rfl)))))) (cs_one (cs_ret c_bl)) cs_nil)
      (cs_one (cs_ret (c_e (c_call C__law_same tk hr (by omega) (ca_cons (c_f (cf_met (m := "under") (tbl := [("Land", m_Land_under)]) (mt_cons C_Land_under (by omega) mt_nil) (by simp) tk hr (c_var 0) (ca_cons (c_var 2) ca_nil rfl) (la_met (la_cons la_nil)) rfl rfl rfl)) (ca_cons (c_f (cf_call C__law_under tk hr (by omega) (ca_cons (c_var 1) (ca_cons (c_var 2) ca_nil rfl) rfl) rfl rfl (by decide) rfl rfl (la_cons (la_cons la_nil)))) ca_nil rfl) rfl) rfl rfl (by decide) rfl rfl (la_cons (la_cons la_nil))))))))))
abbrev s__law_land_is : Stmt := top 36
abbrev N__law_land_is : List Str := ["_law_land", "_law_book_here", "_law_names_here", "_law_folk", "_law_one", "_law_man", "_law_estate"]
theorem sc__law_land_is : FnScope N__law_land_is ["_law_land", "_law_book_here"] (defScope s__law_land_is) := ⟨rfl, rfl, rfl, by decide +kernel, rfl, by decide +kernel, by decide +kernel⟩
theorem t__law_land_is {f : Addr} {fd : FuncData} (T : Tx K mg) (FD : FunD K "_law_land_is" "_law_land_is" (defArgs s__law_land_is) (defBody s__law_land_is) (defScope s__law_land_is) [] [] f fd) (hm : mg "_law_land_is" = some (.ref f)) (C_Land_estates : Mt true P w K mg base "Land" "estates" 1 1 m_Land_estates) (C__law_same : Fn false P w K mg base "_law_same" 8 2 m__law_same) (C_Land_folk : Mt true P w K mg base "Land" "folk" 1 1 m_Land_folk) (C__law_held : Fn true P w K mg base "_law_held" 1 2 m__law_held) (C_Land_held : Mt true P w K mg base "Land" "held" 1 2 m_Land_held) (C__law_estate_is : Fn false P w K mg base "_law_estate_is" 9 3 m__law_estate_is) : Fn false P w K mg base "_law_land_is" 10 2 m__law_land_is := by
  have sc := sc__law_land_is
  refine fn_mk (n := 7) FD hm sc rfl rfl (fun _ _ _ _ _ _ us hl => match us, hl with | [_, _], _ => rfl) fun cdv A outer s H E hr => ?_
  have tk := takes_of (X := cxOf (L2.CX P w) P w K mg base N__law_land_is "_law_land_is" (defScope s__law_land_is) f cdv A outer s H E) rfl rfl rfl rfl
  have hp := passes_of (X := cxOf (L2.CX P w) P w K mg base N__law_land_is "_law_land_is" (defScope s__law_land_is) f cdv A outer s H E) rfl
  exact (cs_cons (cs_set (i := 2) sc.nd (c_f (cf_b1 call_sortedA bf_sorted T.sorted (c_f (cf_lock (fe := (d2 opGet (dVar 1) (dC (.str "lords")))) (cf_lc sc.nd (blkOk_by (own := [("_law_one", 4)]) (N := N__law_land_is) (sc := defScope s__law_land_is) (by decide +kernel)) rfl (ci_keys (c_get hr (c_var 1) c_str (fun _ _ => rfl) (fun _ _ => rfl))) (fun _ _ _ _ _ => (cg_name 4 sc.nd)) (fun _ _ _ _ _ => cts_one (ct_cmp (op_neA hr) os_ne (c_var 4) c_str (nomark _))) (fun _ _ _ _ _ => (c_var 4)) rfl (fun _ => rfl)))) (by decide +kernel) rfl (by decide) (by decide) rfl)) rfl (Or.inl rfl) rfl (.inl rfl))
      (cs_cons (cs_set (i := 3) sc.nd (c_f (cf_sortSet T.sorted T.set (c_f (cf_listVals T.list (c_get hr (c_var 1) c_str (fun _ _ => rfl) (fun _ _ => rfl)) rfl rfl rfl rfl rfl)) rfl rfl rfl rfl rfl)) rfl (Or.inl rfl) rfl (.inl rfl))
      (cs_cons (cs_if (PW.pt (cw_or (ct_not (ct_val (c_e (c_call C__law_same tk hr (by omega) (ca_cons (c_f (cf_met0 (m := "estates") (tbl := [("Land", m_Land_estates)]) (mt_cons C_Land_estates (by omega) mt_nil) (by simp) tk hr (c_var 0) rfl rfl)) (ca_cons (c_var 2) ca_nil rfl) rfl) rfl rfl (by decide) rfl rfl (la_cons (la_cons la_nil)))) (fun _ => rfl))) (cw_or1 (ct_not (ct_val (c_e (c_call C__law_same tk hr (by omega) (ca_cons (c_f (cf_met0 (m := "folk") (tbl := [("Land", m_Land_folk)]) (mt_cons C_Land_folk (by omega) mt_nil) (by simp) tk hr (c_var 0) rfl rfl)) (ca_cons (c_var 3) ca_nil rfl) rfl) rfl rfl (by decide) rfl rfl (la_cons (la_cons la_nil)))) (fun _ => rfl)))))) (cs_one (cs_ret c_bl)) cs_nil)
      (cs_cons (cs_if (ct_not (ct_val (c_b1 (cr_all rfl) b_all T.all (c_f (cf_lc sc.nd (blkOk_by (own := [("_law_man", 5)]) (N := N__law_land_is) (sc := defScope s__law_land_is) (by decide +kernel)) rfl (ci_list (c_var 3)) (fun _ _ _ _ _ => (cg_name 5 sc.nd)) (fun _ _ _ _ _ => cts_nil) (fun _ _ _ _ _ => (c_e (c_call C__law_same takes0 hr (by omega) (ca_cons (c_f (cf_met (m := "held") (tbl := [("Land", m_Land_held)]) (mt_cons C_Land_held (by omega) mt_nil) (by simp) takes0 hr (c_var 0) (ca_cons (c_var 5) ca_nil rfl) (la_met (la_cons la_nil)) rfl rfl rfl)) (ca_cons (c_f (cf_call C__law_held takes0 hr (by omega) (ca_cons (c_var 1) (ca_cons (c_var 5) ca_nil rfl) rfl) rfl rfl (by decide) rfl rfl (la_cons (la_cons la_nil)))) ca_nil rfl) rfl) rfl rfl (by decide) rfl rfl (la_cons (la_cons la_nil))))) rfl (fun _ => rfl))) (by decide +kernel) rfl (by decide) (by decide) rfl) (fun _ => rfl))) (cs_one (cs_ret c_bl)) cs_nil)
      (cs_one (cs_ret (c_b1 (cr_all rfl) b_all T.all (c_f (cf_lc sc.nd (blkOk_by (own := [("_law_estate", 6)]) (N := N__law_land_is) (sc := defScope s__law_land_is) (by decide +kernel)) rfl (ci_list (c_op op_addA os_add (c_f (cf_lst (ca_cons c_str ca_nil rfl))) (c_var 2))) (fun _ _ _ _ _ => (cg_name 6 sc.nd)) (fun _ _ _ _ _ => cts_nil) (fun _ _ _ _ _ => (c_e (c_call C__law_estate_is takes0 hr (by omega) (ca_cons (c_var 0) (ca_cons (c_var 1) (ca_cons (c_var 6) ca_nil rfl) rfl) rfl) rfl rfl (by decide) rfl rfl (la_cons (la_cons (la_cons la_nil)))))) rfl (fun _ => rfl))) (by decide +kernel) rfl (by decide) (by decide) rfl)))))))
abbrev s_law : Stmt := top 46
abbrev N_law : List Str := ["_law_script", "_law_feed_here", "_law_pools_here", "_law_land", "_law_book_here", "_law_estate", "_law_there", "_law_which", "_law_acres"]
theorem sc_law : FnScope N_law ["_law_script"] (defScope s_law) := ⟨rfl, rfl, rfl, by decide +kernel, rfl, by decide +kernel, by decide +kernel⟩
theorem o_law {f : Addr} {fd : FuncData} (T : Tx K mg) (FD : FunD K "law" "law" (defArgs s_law) (defBody s_law) (defScope s_law) [] [] f fd) (C__law_feed : Fn true P w K mg base "_law_feed" 1 2 m__law_feed) (C__law_pools : Fn false P w K mg base "_law_pools" 2 1 m__law_pools) (C_Land___init__ : MkD P w K mg base "Land" 1 2 m_Land___init__) (C__law_book_v2 : Fn true P w K mg base "_law_book" 1 1 m__law_book_v2) (C__law_played : Fn false P w K mg base "_law_played" 7 7 m__law_played) (C__law_stranger : Fn false P w K mg base "_law_stranger" 1 1 m__law_stranger) (C_Land_there : Mt false P w K mg base "Land" "there" 1 2 m_Land_there) (C__law_same : Fn false P w K mg base "_law_same" 8 2 m__law_same) (C__law_why_asked : Fn false P w K mg base "_law_why_asked" 5 3 m__law_why_asked) (C__law_why_land : Fn false P w K mg base "_law_why_land" 3 1 m__law_why_land) (C_Land_held : Mt true P w K mg base "Land" "held" 1 2 m_Land_held) (C__law_land_is : Fn false P w K mg base "_law_land_is" 10 2 m__law_land_is) : FnOk P w K mg base (L2.CX P w) 11 f fd ["_law_script"] (spD false K 1 m_law) := by
  have sc := sc_law
  refine def_ok (n := 9) FD sc rfl fun cdv A outer s H E hr => ?_
  have tk := takes_of (X := cxOf (L2.CX P w) P w K mg base N_law "law" (defScope s_law) f cdv A outer s H E) rfl rfl rfl rfl
  have hp := passes_of (X := cxOf (L2.CX P w) P w K mg base N_law "law" (defScope s_law) f cdv A outer s H E) rfl
  exact (cs_cons (cs_set (i := 1) sc.nd (c_f (cf_call C__law_feed tk hr (by omega) (ca_cons (c_var 0) (ca_cons c_int ca_nil rfl) rfl) rfl rfl (by decide) rfl rfl (la_cons (la_cons la_nil)))) rfl (Or.inl rfl) rfl (.inl rfl))
      (cs_cons (cs_set (i := 2) sc.nd (c_e (c_call C__law_pools tk hr (by omega) (ca_cons (c_var 1) ca_nil rfl) rfl rfl (by decide) rfl rfl (la_cons la_nil))) rfl (Or.inl rfl) rfl (.inl rfl))
      (cs_cons (cs_set (i := 3) sc.nd (c_e (c_make (c := "Land") C_Land___init__ tk hr (by omega) (ca_cons (c_ix (c_var 2) c_int (fun _ _ => rfl)) ca_nil rfl) (la_met (la_cons la_nil)) rfl (by decide) rfl rfl)) rfl (Or.inl rfl) rfl (.inl rfl))
      (cs_cons (cs_set (i := 4) sc.nd (c_alloc (cf_call C__law_book_v2 tk hr (by omega) (ca_cons (c_ix (c_var 2) c_int (fun _ _ => rfl)) ca_nil rfl) rfl rfl (by decide) rfl rfl (la_cons la_nil))) rfl (Or.inl rfl) rfl (.inl rfl))
      (cs_cons (cs_if (ct_not (ct_val (c_e (c_call C__law_played tk hr (by omega) (ca_cons (c_var 3) (ca_cons (c_var 4) (ca_cons (c_var 2) (ca_cons (c_var 1) (ca_cons c_int (ca_cons (c_op op_mod os_mod (c_ix (c_var 1) c_int (fun _ _ => rfl)) c_int) (ca_cons (c_f (cf_lst (ca_cons c_str (ca_cons c_str ca_nil rfl) rfl))) ca_nil rfl) rfl) rfl) rfl) rfl) rfl) rfl) rfl rfl (by decide) rfl rfl (la_cons (la_cons (la_cons (la_cons (la_cons (la_cons (la_cons la_nil))))))))) (fun _ => rfl))) (cs_one (cs_ret c_bl)) cs_nil)
      (cs_cons (cs_for (tvs := [5]) hp (ci_list (c_op op_addA os_add (c_op op_addA os_add (c_f (cf_lst (ca_cons c_str ca_nil rfl))) (c_ix (c_var 2) c_int (fun _ _ => rfl))) (c_f (cf_lst (ca_cons (c_e (c_call C__law_stranger tk hr (by omega) (ca_cons (c_ix (c_var 2) c_int (fun _ _ => rfl)) ca_nil rfl) rfl rfl (by decide) rfl rfl (la_cons la_nil))) ca_nil rfl))))) (cg_name 5 sc.nd) (cs_cons (cs_set (i := 6) sc.nd (c_cmp (op_inG hr) os_inG (c_var 5) (c_get hr (c_var 4) c_str (fun _ _ => rfl) (fun _ _ => rfl)) rfl) rfl (Or.inl rfl) rfl (.inl rfl))
      (cs_cons (cs_if (ct_not (ct_val (c_e (c_call C__law_same tk hr (by omega) (ca_cons (c_e (c_met (m := "there") (tbl := [("Land", m_Land_there)]) (mt_cons C_Land_there (by omega) mt_nil) (by simp) tk hr (c_var 3) (ca_cons (c_var 5) ca_nil rfl) (la_met (la_cons la_nil)) rfl rfl rfl)) (ca_cons (c_var 6) ca_nil rfl) rfl) rfl rfl (by decide) rfl rfl (la_cons (la_cons la_nil)))) (fun _ => rfl))) (cs_one (cs_ret c_bl)) cs_nil)
      (cs_one (cs_for (tvs := [7]) hp (ci_ran1 T.range c_int rfl rfl) (cg_name 7 sc.nd) (cs_one (cs_if (ct_cmp (op_neA hr) os_ne (c_e (c_call C__law_why_asked tk hr (by omega) (ca_cons (c_var 3) (ca_cons (c_var 7) (ca_cons (c_var 5) ca_nil rfl) rfl) rfl) rfl rfl (by decide) rfl rfl (la_cons (la_cons (la_cons la_nil))))) (c_get hr (c_f (cf_lst (ca_cons (c_f (cf_lst (ca_cons c_bl (ca_cons c_bl (ca_cons c_bl (ca_cons c_bl ca_nil rfl) rfl) rfl) rfl))) (ca_cons (c_f (cf_lst ca_nil)) ca_nil rfl) rfl))) (c_t1 call_intA b_int T.int (c_var 6) (by decide +kernel) rfl (by decide) (by decide) rfl) (fun _ _ => rfl) (fun _ _ => rfl)) (nomark _)) (cs_one (cs_ret c_bl)) cs_nil)) rfl (fun _ => rfl))))) rfl (fun _ => rfl))
      (cs_cons (cs_for (tvs := [8]) hp (ci_list (c_f (cf_lst (ca_cons (c_neg c_int) (ca_cons c_int (ca_cons c_int (ca_cons c_int (ca_cons c_int (ca_cons (c_op op_sub os_sub (c_op op_mod os_mod (c_ix (c_var 1) c_int (fun _ _ => rfl)) c_int) c_int) (ca_cons (c_op op_sub os_sub c_int (c_op op_pow os_pow c_int c_int)) (ca_cons (c_op op_pow os_pow c_int c_int) ca_nil rfl) rfl) rfl) rfl) rfl) rfl) rfl) rfl)))) (cg_name 8 sc.nd) (cs_one (cs_if (ct_cmp (op_neA hr) os_ne (c_e (c_call C__law_why_land tk hr (by omega) (ca_cons (c_var 8) ca_nil rfl) rfl rfl (by decide) rfl rfl (la_cons la_nil))) (c_get hr (c_f (cf_lst (ca_cons (c_f (cf_lst (ca_cons c_bl (ca_cons c_bl (ca_cons c_bl ca_nil rfl) rfl) rfl))) (ca_cons (c_f (cf_lst ca_nil)) ca_nil rfl) rfl))) (c_t1 call_intA b_int T.int (c_chain op_le os_le op_le os_le c_int (c_var 8) c_int (by with_unfolding_all rfl)) (by decide +kernel) rfl (by decide) (by decide) rfl) (fun _ _ => rfl) (fun _ _ => rfl)) (nomark _)) (cs_one (cs_ret c_bl)) cs_nil)) rfl (fun _ => rfl))
      (cs_one (cs_ret (c_and (c_e (c_call C__law_same tk hr (by omega) (ca_cons (c_f (cf_met (m := "held") (tbl := [("Land", m_Land_held)]) (mt_cons C_Land_held (by omega) mt_nil) (by simp) tk hr (c_var 3) (ca_cons (c_e (c_call C__law_stranger tk hr (by omega) (ca_cons (c_ix (c_var 2) c_int (fun _ _ => rfl)) ca_nil rfl) rfl rfl (by decide) rfl rfl (la_cons la_nil))) ca_nil rfl) (la_met (la_cons la_nil)) rfl rfl rfl)) (ca_cons (c_f (cf_lst ca_nil)) ca_nil rfl) rfl) rfl rfl (by decide) rfl rfl (la_cons (la_cons la_nil)))) (c_one (c_e (c_call C__law_land_is tk hr (by omega) (ca_cons (c_var 3) (ca_cons (c_var 4) ca_nil rfl) rfl) rfl rfl (by decide) rfl rfl (la_cons (la_cons la_nil)))))))))))))))
end
def fns : List He.DefD := [⟨("_law_feed", none), "_law_feed", "_law_feed", defArgs s__law_feed, defBody s__law_feed, defScope s__law_feed, [], []⟩,
  ⟨("_law_names", none), "_law_names", "_law_names", defArgs s__law_names, defBody s__law_names, defScope s__law_names, [], []⟩,
  ⟨("_law_pools", none), "_law_pools", "_law_pools", defArgs s__law_pools, defBody s__law_pools, defScope s__law_pools, [], []⟩,
  ⟨("Land", some "__init__"), "__init__", "Land.__init__", defArgs s_Land___init__, defBody s_Land___init__, defScope s_Land___init__, [], []⟩,
  ⟨("_law_book", none), "_law_book", "_law_book", defArgs s__law_book_v2, defBody s__law_book_v2, defScope s__law_book_v2, [], []⟩,
  ⟨("_law_held", none), "_law_held", "_law_held", defArgs s__law_held, defBody s__law_held, defScope s__law_held, [], []⟩,
  ⟨("_law_bound_to", none), "_law_bound_to", "_law_bound_to", defArgs s__law_bound_to, defBody s__law_bound_to, defScope s__law_bound_to, [], []⟩,
  ⟨("_law_lord_for", none), "_law_lord_for", "_law_lord_for", defArgs s__law_lord_for, defBody s__law_lord_for, defScope s__law_lord_for, [], []⟩,
  ⟨("_law_row", none), "_law_row", "_law_row", defArgs s__law_row, defBody s__law_row, defScope s__law_row, [], []⟩,
  ⟨("_law_some_deed", none), "_law_some_deed", "_law_some_deed", defArgs s__law_some_deed, defBody s__law_some_deed, defScope s__law_some_deed, [], []⟩,
  ⟨("_law_steered", none), "_law_steered", "_law_steered", defArgs s__law_steered, defBody s__law_steered, defScope s__law_steered, [], []⟩,
  ⟨("_law_why", none), "_law_why", "_law_why", defArgs s__law_why, defBody s__law_why, defScope s__law_why, [], []⟩,
  ⟨("_law_let_by", none), "_law_let_by", "_law_let_by", defArgs s__law_let_by, defBody s__law_let_by, defScope s__law_let_by, [], []⟩,
  ⟨("Land", some "grant"), "grant", "Land.grant", defArgs s_Land_grant, defBody s_Land_grant, defScope s_Land_grant, [], []⟩,
  ⟨("Land", some "look_at"), "look_at", "Land.look_at", defArgs s_Land_look_at, defBody s_Land_look_at, defScope s_Land_look_at, [], []⟩,
  ⟨("Land", some "under"), "under", "Land.under", defArgs s_Land_under, defBody s_Land_under, defScope s_Land_under, [], []⟩,
  ⟨("Land", some "breadth"), "breadth", "Land.breadth", defArgs s_Land_breadth, defBody s_Land_breadth, defScope s_Land_breadth, [], []⟩,
  ⟨("measure", none), "measure", "measure", defArgs s_measure, defBody s_measure, defScope s_measure, [], []⟩,
  ⟨("part", none), "part", "part", defArgs s_part, defBody s_part, defScope s_part, [], []⟩,
  ⟨("minus", none), "minus", "minus", defArgs s_minus, defBody s_minus, defScope s_minus, [], []⟩,
  ⟨("Land", some "part_off"), "part_off", "Land.part_off", defArgs s_Land_part_off, defBody s_Land_part_off, defScope s_Land_part_off, [], []⟩,
  ⟨("Land", some "convey"), "convey", "Land.convey", defArgs s_Land_convey, defBody s_Land_convey, defScope s_Land_convey, [], []⟩,
  ⟨("Land", some "fall_back"), "fall_back", "Land.fall_back", defArgs s_Land_fall_back, defBody s_Land_fall_back, defScope s_Land_fall_back, [], []⟩,
  ⟨("_law_land_do", none), "_law_land_do", "_law_land_do", defArgs s__law_land_do, defBody s__law_land_do, defScope s__law_land_do, [], []⟩,
  ⟨("_law_new", none), "_law_new", "_law_new", defArgs s__law_new, defBody s__law_new, defScope s__law_new, [], []⟩,
  ⟨("_law_under", none), "_law_under", "_law_under", defArgs s__law_under, defBody s__law_under, defScope s__law_under, [], []⟩,
  ⟨("_law_breadth", none), "_law_breadth", "_law_breadth", defArgs s__law_breadth, defBody s__law_breadth, defScope s__law_breadth, [], []⟩,
  ⟨("_law_low", none), "_law_low", "_law_low", defArgs s__law_low, defBody s__law_low, defScope s__law_low, [], []⟩,
  ⟨("_law_fall", none), "_law_fall", "_law_fall", defArgs s__law_fall, defBody s__law_fall, defScope s__law_fall, [], []⟩,
  ⟨("_law_taker", none), "_law_taker", "_law_taker", defArgs s__law_taker, defBody s__law_taker, defScope s__law_taker, [], []⟩,
  ⟨("_law_do", none), "_law_do", "_law_do", defArgs s__law_do, defBody s__law_do, defScope s__law_do, [], []⟩,
  ⟨("_law_played", none), "_law_played", "_law_played", defArgs s__law_played, defBody s__law_played, defScope s__law_played, [], []⟩,
  ⟨("_law_stranger", none), "_law_stranger", "_law_stranger", defArgs s__law_stranger, defBody s__law_stranger, defScope s__law_stranger, [], []⟩,
  ⟨("Land", some "there"), "there", "Land.there", defArgs s_Land_there, defBody s_Land_there, defScope s_Land_there, [], []⟩,
  ⟨("_law_same", none), "_law_same", "_law_same", defArgs s__law_same, defBody s__law_same, defScope s__law_same, [], []⟩,
  ⟨("Land", some "holder"), "holder", "Land.holder", defArgs s_Land_holder, defBody s_Land_holder, defScope s_Land_holder, [], []⟩,
  ⟨("Land", some "lord"), "lord", "Land.lord", defArgs s_Land_lord, defBody s_Land_lord, defScope s_Land_lord, [], []⟩,
  ⟨("Land", some "own"), "own", "Land.own", defArgs s_Land_own, defBody s_Land_own, defScope s_Land_own, [], []⟩,
  ⟨("Land", some "service"), "service", "Land.service", defArgs s_Land_service, defBody s_Land_service, defScope s_Land_service, [], []⟩,
  ⟨("Land", some "chain"), "chain", "Land.chain", defArgs s_Land_chain, defBody s_Land_chain, defScope s_Land_chain, [], []⟩,
  ⟨("_law_question", none), "_law_question", "_law_question", defArgs s__law_question, defBody s__law_question, defScope s__law_question, [], []⟩,
  ⟨("_law_why_asked", none), "_law_why_asked", "_law_why_asked", defArgs s__law_why_asked, defBody s__law_why_asked, defScope s__law_why_asked, [], []⟩,
  ⟨("_law_why_land", none), "_law_why_land", "_law_why_land", defArgs s__law_why_land, defBody s__law_why_land, defScope s__law_why_land, [], []⟩,
  ⟨("Land", some "held"), "held", "Land.held", defArgs s_Land_held, defBody s_Land_held, defScope s_Land_held, [], []⟩,
  ⟨("Land", some "estates"), "estates", "Land.estates", defArgs s_Land_estates, defBody s_Land_estates, defScope s_Land_estates, [], []⟩,
  ⟨("Land", some "folk"), "folk", "Land.folk", defArgs s_Land_folk, defBody s_Land_folk, defScope s_Land_folk, [], []⟩,
  ⟨("_law_chain", none), "_law_chain", "_law_chain", defArgs s__law_chain, defBody s__law_chain, defScope s__law_chain, [], []⟩,
  ⟨("_law_estate_is", none), "_law_estate_is", "_law_estate_is", defArgs s__law_estate_is, defBody s__law_estate_is, defScope s__law_estate_is, [], []⟩,
  ⟨("_law_land_is", none), "_law_land_is", "_law_land_is", defArgs s__law_land_is, defBody s__law_land_is, defScope s__law_land_is, [], []⟩,
  ⟨("law", none), "law", "law", defArgs s_law, defBody s_law, defScope s_law, [], []⟩]
def fas : List He.Fa := [.cls "Land", .noat "Land" "acres_of", .noat "Land" "holders", .noat "Land" "lords", .noat "Land" "services", .free "ValueError", .free "abs", .free "all", .free "bool", .free "int", .free "isinstance", .free "len", .free "list", .free "max", .free "min", .free "range", .free "set", .free "sorted", .free "str", .free "tuple", .free "zip", .str "CROWN" "", .int "MOST_ACRES" (9999), .glo "NOUGHT", .glo "NoEstate", .exc "NoEstate", .glo "NoLand", .exc "NoLand", .glo "LandError", .glo "NoForm", .glo "NoMan", .exm "NoEstate" "LandError" true, .exm "NoLand" "LandError" true, .glo "_law_feed", .glo "_law_names", .glo "_law_pools", .glo "Land", .mkr "Land", .glo "_law_book", .glo "_law_held", .glo "_law_bound_to", .glo "_law_lord_for", .glo "_law_row", .glo "_law_some_deed", .glo "_law_steered", .glo "_law_why", .glo "_law_let_by", .meth "Land" "grant", .meth "Land" "look_at", .meth "Land" "under", .meth "Land" "breadth", .glo "measure", .glo "part", .glo "minus", .meth "Land" "part_off", .meth "Land" "convey", .meth "Land" "fall_back", .glo "_law_land_do", .glo "_law_new", .glo "_law_under", .glo "_law_breadth", .glo "_law_low", .glo "_law_fall", .glo "_law_taker", .glo "_law_do", .glo "_law_played", .glo "_law_stranger", .meth "Land" "there", .glo "_law_same", .meth "Land" "holder", .meth "Land" "lord", .meth "Land" "own", .meth "Land" "service", .meth "Land" "chain", .glo "_law_question", .glo "_law_why_asked", .glo "_law_why_land", .meth "Land" "held", .meth "Land" "estates", .meth "Land" "folk", .glo "_law_chain", .glo "_law_estate_is", .glo "_law_land_is", .glo "law"]
abbrev R : PySem.W.OpenRow := PySem.W.OpenLaw.row PySem.Challenge.rw_manrent_k10_estates_not_there
def tbs : Tups := [("NOUGHT", [.int 0, .int 1])]
def xfs : List Xf := [.exq "NoEstate", .exq "NoLand", .kit "NoEstate" "NoEstate" true, .kit "NoEstate" "NoLand" false, .kit "NoEstate" "NoMan" false, .kit "NoLand" "NoEstate" false, .kit "NoLand" "NoForm" false, .kit "NoLand" "NoLand" true, .kitb "NoEstate" "ValueError" true]
abbrev hk : PySem.W.Hook := hookX 5 fas fns tbs xfs
def ob (s : PySem.W.SharedT) : AlM := obsX 5 fas fns tbs xfs (HandSHeadRun.getT s)
theorem ob_eq (s : PySem.W.SharedT) : ob s = hk.obs s.abs := obsX_eq (HandSHeadRun.getT_eq s)
def loose : List Str := [("_wall" : Str), ("LandError" : Str), ("NoForm" : Str), ("NoEstate" : Str), ("NoMan" : Str), ("NoLand" : Str), ("NOUGHT" : Str), ("measure" : Str), ("part" : Str), ("minus" : Str), ("CROWN" : Str), ("MOST_ACRES" : Str), ("Land" : Str), ("_law_feed" : Str), ("_law_same" : Str), ("_law_low" : Str), ("_law_names" : Str), ("_law_book" : Str), ("_law_under" : Str), ("_law_breadth" : Str), ("_law_held" : Str), ("_law_bound_to" : Str), ("_law_why" : Str), ("_law_fall" : Str), ("_law_taker" : Str), ("_law_new" : Str), ("_law_do" : Str), ("_law_pools" : Str), ("_law_lord_for" : Str), ("_law_row" : Str), ("_law_chain" : Str), ("_law_estate_is" : Str), ("_law_land_is" : Str), ("_law_land_do" : Str), ("_law_some_deed" : Str), ("_law_steered" : Str), ("_law_let_by" : Str), ("_law_played" : Str), ("_law_stranger" : Str), ("_law_question" : Str), ("_law_why_asked" : Str), ("_law_why_land" : Str)]
theorem run (w : World) : HandSHeadRun.RunEq R (PySem.W.view R.prog [46]) hk ob 4000 loose w := by
  intro os
  kernel_rfl
theorem facts {P : Program} {w : World} {K : PySem.W.Frag} {h : Heap} {mg : Str → Option Value} {f : Addr} (X : K.In h) (G : h.Ns mainGlobals mg) (hfa : mg ("law" : Str) = some (.ref f)) (cx : SaysX fas fns tbs xfs K) :
    ∃ fd : FuncData, (∀ (s : Shared) (v : Value), BindsTo s fd ⟨[v], []⟩ [("_law_script", v)]) ∧ ∀ base : Heap, K.In base → base.Ns mainGlobals mg → FnOk P w K mg base (L2.CX P w) 11 f fd ["_law_script"] (spD false K 1 m_law) := by
  have c0 := cx.m
  have c := c0.d
  have T : Tx K mg := ⟨(clsF_cons (He.cls_ok (c.fact 0 rfl)) (He.noat_ok (c.fact 1 rfl)) clsF_nil), (clsF_cons (He.cls_ok (c.fact 0 rfl)) (He.noat_ok (c.fact 2 rfl)) clsF_nil), (clsF_cons (He.cls_ok (c.fact 0 rfl)) (He.noat_ok (c.fact 3 rfl)) clsF_nil), (clsF_cons (He.cls_ok (c.fact 0 rfl)) (He.noat_ok (c.fact 4 rfl)) clsF_nil), He.free_ok X G (c.fact 5 rfl), He.free_ok X G (c.fact 6 rfl), He.free_ok X G (c.fact 7 rfl), He.free_ok X G (c.fact 8 rfl), He.free_ok X G (c.fact 9 rfl), He.free_ok X G (c.fact 10 rfl), He.free_ok X G (c.fact 11 rfl), He.free_ok X G (c.fact 12 rfl), He.free_ok X G (c.fact 13 rfl), He.free_ok X G (c.fact 14 rfl), He.free_ok X G (c.fact 15 rfl), He.free_ok X G (c.fact 16 rfl), He.free_ok X G (c.fact 17 rfl), He.free_ok X G (c.fact 18 rfl), He.free_ok X G (c.fact 19 rfl), He.free_ok X G (c.fact 20 rfl), He.str_ok X G (c.fact 21 rfl), He.int_ok X G (c.fact 22 rfl), gtup_mk (He.glo_ok X G (c.fact 23 rfl)) (c0.tup 0 rfl) (by rfl), ⟨He.glo_ok X G (c.fact 24 rfl), He.exc_ok (c.fact 25 rfl)⟩, ⟨He.glo_ok X G (c.fact 26 rfl), He.exc_ok (c.fact 27 rfl)⟩, He.glo_ok X G (c.fact 28 rfl), He.glo_ok X G (c.fact 24 rfl), He.glo_ok X G (c.fact 29 rfl), He.glo_ok X G (c.fact 26 rfl), He.glo_ok X G (c.fact 30 rfl), He.exm_ok (c.fact 31 rfl), He.exm_ok (c.fact 32 rfl), exq_ok (cx.x 0 rfl), exq_ok (cx.x 1 rfl), kit_ok (cx.x 2 rfl), kit_ok (cx.x 3 rfl), kit_ok (cx.x 4 rfl), kit_ok (cx.x 5 rfl), kit_ok (cx.x 6 rfl), kit_ok (cx.x 7 rfl), kitb_ok (cx.x 8 rfl)⟩
  obtain ⟨fd__law_feed, F__law_feed⟩ := c.def_ 0 rfl
  have C__law_feed : ∀ base : Heap, Fn true P w K mg base "_law_feed" 1 2 m__law_feed := fun base => t__law_feed T F__law_feed (He.glo_ok X G (c.fact 33 rfl)) 
  obtain ⟨fd__law_names, F__law_names⟩ := c.def_ 1 rfl
  have C__law_names : ∀ base : Heap, Fn true P w K mg base "_law_names" 1 2 m__law_names := fun base => t__law_names T F__law_names (He.glo_ok X G (c.fact 34 rfl)) 
  obtain ⟨fd__law_pools, F__law_pools⟩ := c.def_ 2 rfl
  have C__law_pools : ∀ base : Heap, Fn false P w K mg base "_law_pools" 2 1 m__law_pools := fun base => t__law_pools T F__law_pools (He.glo_ok X G (c.fact 35 rfl)) (C__law_names base)
  obtain ⟨fd_Land___init__, F_Land___init__⟩ := c.def_ 3 rfl
  have C_Land___init__ : ∀ base : Heap, MkD P w K mg base "Land" 1 2 m_Land___init__ := fun base => t_Land___init__ T F_Land___init__ (He.glo_ok X G (c.fact 36 rfl)) (He.mkr_ok (c.fact 37 rfl)) 
  obtain ⟨fd__law_book_v2, F__law_book_v2⟩ := c.def_ 4 rfl
  have C__law_book_v2 : ∀ base : Heap, Fn true P w K mg base "_law_book" 1 1 m__law_book_v2 := fun base => t__law_book_v2 T F__law_book_v2 (He.glo_ok X G (c.fact 38 rfl)) 
  obtain ⟨fd__law_held, F__law_held⟩ := c.def_ 5 rfl
  have C__law_held : ∀ base : Heap, Fn true P w K mg base "_law_held" 1 2 m__law_held := fun base => t__law_held T F__law_held (He.glo_ok X G (c.fact 39 rfl)) 
  obtain ⟨fd__law_bound_to, F__law_bound_to⟩ := c.def_ 6 rfl
  have C__law_bound_to : ∀ base : Heap, Fn true P w K mg base "_law_bound_to" 2 2 m__law_bound_to := fun base => t__law_bound_to T F__law_bound_to (He.glo_ok X G (c.fact 40 rfl)) (C__law_held base)
  obtain ⟨fd__law_lord_for, F__law_lord_for⟩ := c.def_ 7 rfl
  have C__law_lord_for : ∀ base : Heap, Fn false P w K mg base "_law_lord_for" 3 4 m__law_lord_for := fun base => t__law_lord_for T F__law_lord_for (He.glo_ok X G (c.fact 41 rfl)) (C__law_bound_to base)
  obtain ⟨fd__law_row, F__law_row⟩ := c.def_ 8 rfl
  have C__law_row : ∀ base : Heap, Fn false P w K mg base "_law_row" 4 4 m__law_row := fun base => t__law_row T F__law_row (He.glo_ok X G (c.fact 42 rfl)) (C__law_lord_for base)
  obtain ⟨fd__law_some_deed, F__law_some_deed⟩ := c.def_ 9 rfl
  have C__law_some_deed : ∀ base : Heap, Fn false P w K mg base "_law_some_deed" 5 3 m__law_some_deed := fun base => t__law_some_deed T F__law_some_deed (He.glo_ok X G (c.fact 43 rfl)) (C__law_row base)
  obtain ⟨fd__law_steered, F__law_steered⟩ := c.def_ 10 rfl
  have C__law_steered : ∀ base : Heap, Fn false P w K mg base "_law_steered" 6 4 m__law_steered := fun base => t__law_steered T F__law_steered (He.glo_ok X G (c.fact 44 rfl)) (C__law_some_deed base)
  obtain ⟨fd__law_why, F__law_why⟩ := c.def_ 11 rfl
  have C__law_why : ∀ base : Heap, Fn false P w K mg base "_law_why" 3 2 m__law_why := fun base => t__law_why T F__law_why (He.glo_ok X G (c.fact 45 rfl)) (C__law_bound_to base)
  obtain ⟨fd__law_let_by, F__law_let_by⟩ := c.def_ 12 rfl
  have C__law_let_by : ∀ base : Heap, Fn false P w K mg base "_law_let_by" 4 2 m__law_let_by := fun base => t__law_let_by T F__law_let_by (He.glo_ok X G (c.fact 46 rfl)) (C__law_why base)
  obtain ⟨fd_Land_grant, F_Land_grant⟩ := c.def_ 13 rfl
  have C_Land_grant : ∀ base : Heap, Mt false P w K mg base "Land" "grant" 1 6 m_Land_grant := fun base => t_Land_grant T F_Land_grant (He.cls_ok (c.fact 0 rfl)) (He.meth_ok (c.fact 47 rfl)) 
  obtain ⟨fd_Land_look_at, F_Land_look_at⟩ := c.def_ 14 rfl
  have C_Land_look_at : ∀ base : Heap, Mt false P w K mg base "Land" "look_at" 1 2 m_Land_look_at := fun base => t_Land_look_at T F_Land_look_at (He.cls_ok (c.fact 0 rfl)) (He.meth_ok (c.fact 48 rfl)) 
  obtain ⟨fd_Land_under, F_Land_under⟩ := c.def_ 15 rfl
  have C_Land_under : ∀ base : Heap, Mt true P w K mg base "Land" "under" 2 2 m_Land_under := fun base => t_Land_under T F_Land_under (He.cls_ok (c.fact 0 rfl)) (He.meth_ok (c.fact 49 rfl)) (C_Land_look_at base)
  obtain ⟨fd_Land_breadth, F_Land_breadth⟩ := c.def_ 16 rfl
  have C_Land_breadth : ∀ base : Heap, Mt false P w K mg base "Land" "breadth" 3 2 m_Land_breadth := fun base => t_Land_breadth T F_Land_breadth (He.cls_ok (c.fact 0 rfl)) (He.meth_ok (c.fact 50 rfl)) (C_Land_look_at base) (C_Land_under base)
  obtain ⟨fd_measure, F_measure⟩ := c.def_ 17 rfl
  have C_measure : ∀ base : Heap, Fn false P w K mg base "measure" 1 2 m_measure := fun base => t_measure T F_measure (He.glo_ok X G (c.fact 51 rfl)) 
  obtain ⟨fd_part, F_part⟩ := c.def_ 18 rfl
  have C_part : ∀ base : Heap, Fn false P w K mg base "part" 2 2 m_part := fun base => t_part T F_part (He.glo_ok X G (c.fact 52 rfl)) (C_measure base)
  obtain ⟨fd_minus, F_minus⟩ := c.def_ 19 rfl
  have C_minus : ∀ base : Heap, Fn false P w K mg base "minus" 3 2 m_minus := fun base => t_minus T F_minus (He.glo_ok X G (c.fact 53 rfl)) (C_part base)
  obtain ⟨fd_Land_part_off, F_Land_part_off⟩ := c.def_ 20 rfl
  have C_Land_part_off : ∀ base : Heap, Mt false P w K mg base "Land" "part_off" 4 5 m_Land_part_off := fun base => t_Land_part_off T F_Land_part_off (He.cls_ok (c.fact 0 rfl)) (He.meth_ok (c.fact 54 rfl)) (C_Land_breadth base) (C_part base) (C_minus base)
  obtain ⟨fd_Land_convey, F_Land_convey⟩ := c.def_ 21 rfl
  have C_Land_convey : ∀ base : Heap, Mt false P w K mg base "Land" "convey" 1 3 m_Land_convey := fun base => t_Land_convey T F_Land_convey (He.cls_ok (c.fact 0 rfl)) (He.meth_ok (c.fact 55 rfl)) 
  obtain ⟨fd_Land_fall_back, F_Land_fall_back⟩ := c.def_ 22 rfl
  have C_Land_fall_back : ∀ base : Heap, Mt false P w K mg base "Land" "fall_back" 3 2 m_Land_fall_back := fun base => t_Land_fall_back T F_Land_fall_back (He.cls_ok (c.fact 0 rfl)) (He.meth_ok (c.fact 56 rfl)) (C_Land_under base)
  obtain ⟨fd__law_land_do, F__law_land_do⟩ := c.def_ 23 rfl
  have C__law_land_do : ∀ base : Heap, Fn false P w K mg base "_law_land_do" 5 2 m__law_land_do := fun base => t__law_land_do T F__law_land_do (He.glo_ok X G (c.fact 57 rfl)) (C_Land_grant base) (C_Land_part_off base) (C_Land_convey base) (C_Land_fall_back base)
  obtain ⟨fd__law_new, F__law_new⟩ := c.def_ 24 rfl
  have C__law_new : ∀ base : Heap, Fn false P w K mg base "_law_new" 1 4 m__law_new := fun base => t__law_new T F__law_new (He.glo_ok X G (c.fact 58 rfl)) 
  obtain ⟨fd__law_under, F__law_under⟩ := c.def_ 25 rfl
  have C__law_under : ∀ base : Heap, Fn true P w K mg base "_law_under" 1 2 m__law_under := fun base => t__law_under T F__law_under (He.glo_ok X G (c.fact 59 rfl)) 
  obtain ⟨fd__law_breadth, F__law_breadth⟩ := c.def_ 26 rfl
  have C__law_breadth : ∀ base : Heap, Fn false P w K mg base "_law_breadth" 2 2 m__law_breadth := fun base => t__law_breadth T F__law_breadth (He.glo_ok X G (c.fact 60 rfl)) (C__law_under base)
  obtain ⟨fd__law_low, F__law_low⟩ := c.def_ 27 rfl
  have C__law_low : ∀ base : Heap, Fn false P w K mg base "_law_low" 1 2 m__law_low := fun base => t__law_low T F__law_low (He.glo_ok X G (c.fact 61 rfl)) 
  obtain ⟨fd__law_fall, F__law_fall⟩ := c.def_ 28 rfl
  have C__law_fall : ∀ base : Heap, Fn false P w K mg base "_law_fall" 2 2 m__law_fall := fun base => t__law_fall T F__law_fall (He.glo_ok X G (c.fact 62 rfl)) (C__law_under base)
  obtain ⟨fd__law_taker, F__law_taker⟩ := c.def_ 29 rfl
  have C__law_taker : ∀ base : Heap, Fn false P w K mg base "_law_taker" 1 2 m__law_taker := fun base => t__law_taker T F__law_taker (He.glo_ok X G (c.fact 63 rfl)) 
  obtain ⟨fd__law_do, F__law_do⟩ := c.def_ 30 rfl
  have C__law_do : ∀ base : Heap, Fn false P w K mg base "_law_do" 3 2 m__law_do := fun base => t__law_do T F__law_do (He.glo_ok X G (c.fact 64 rfl)) (C__law_new base) (C__law_breadth base) (C__law_low base) (C__law_fall base) (C__law_taker base) (C__law_held base)
  obtain ⟨fd__law_played, F__law_played⟩ := c.def_ 31 rfl
  have C__law_played : ∀ base : Heap, Fn false P w K mg base "_law_played" 7 7 m__law_played := fun base => t__law_played T F__law_played (He.glo_ok X G (c.fact 65 rfl)) (C__law_steered base) (C__law_let_by base) (C__law_land_do base) (C__law_do base)
  obtain ⟨fd__law_stranger, F__law_stranger⟩ := c.def_ 32 rfl
  have C__law_stranger : ∀ base : Heap, Fn false P w K mg base "_law_stranger" 1 1 m__law_stranger := fun base => t__law_stranger T F__law_stranger (He.glo_ok X G (c.fact 66 rfl)) 
  obtain ⟨fd_Land_there, F_Land_there⟩ := c.def_ 33 rfl
  have C_Land_there : ∀ base : Heap, Mt false P w K mg base "Land" "there" 1 2 m_Land_there := fun base => t_Land_there T F_Land_there (He.cls_ok (c.fact 0 rfl)) (He.meth_ok (c.fact 67 rfl)) 
  obtain ⟨fd__law_same, F__law_same⟩ := c.def_ 34 rfl
  have C__law_same : ∀ base : Heap, Fn false P w K mg base "_law_same" 8 2 m__law_same := fun base => t__law_same T F__law_same (He.glo_ok X G (c.fact 68 rfl)) 
  obtain ⟨fd_Land_holder, F_Land_holder⟩ := c.def_ 35 rfl
  have C_Land_holder : ∀ base : Heap, Mt false P w K mg base "Land" "holder" 2 2 m_Land_holder := fun base => t_Land_holder T F_Land_holder (He.cls_ok (c.fact 0 rfl)) (He.meth_ok (c.fact 69 rfl)) (C_Land_look_at base)
  obtain ⟨fd_Land_lord, F_Land_lord⟩ := c.def_ 36 rfl
  have C_Land_lord : ∀ base : Heap, Mt false P w K mg base "Land" "lord" 2 2 m_Land_lord := fun base => t_Land_lord T F_Land_lord (He.cls_ok (c.fact 0 rfl)) (He.meth_ok (c.fact 70 rfl)) (C_Land_look_at base)
  obtain ⟨fd_Land_own, F_Land_own⟩ := c.def_ 37 rfl
  have C_Land_own : ∀ base : Heap, Mt false P w K mg base "Land" "own" 2 2 m_Land_own := fun base => t_Land_own T F_Land_own (He.cls_ok (c.fact 0 rfl)) (He.meth_ok (c.fact 71 rfl)) (C_Land_look_at base)
  obtain ⟨fd_Land_service, F_Land_service⟩ := c.def_ 38 rfl
  have C_Land_service : ∀ base : Heap, Mt false P w K mg base "Land" "service" 2 2 m_Land_service := fun base => t_Land_service T F_Land_service (He.cls_ok (c.fact 0 rfl)) (He.meth_ok (c.fact 72 rfl)) (C_Land_look_at base)
  obtain ⟨fd_Land_chain, F_Land_chain⟩ := c.def_ 39 rfl
  have C_Land_chain : ∀ base : Heap, Mt true P w K mg base "Land" "chain" 2 2 m_Land_chain := fun base => t_Land_chain T F_Land_chain (He.cls_ok (c.fact 0 rfl)) (He.meth_ok (c.fact 73 rfl)) (C_Land_look_at base)
  obtain ⟨fd__law_question, F__law_question⟩ := c.def_ 40 rfl
  have C__law_question : ∀ base : Heap, Fn false P w K mg base "_law_question" 4 3 m__law_question := fun base => t__law_question T F__law_question (He.glo_ok X G (c.fact 74 rfl)) (C_Land_holder base) (C_Land_lord base) (C_Land_own base) (C_Land_breadth base) (C_Land_service base) (C_Land_chain base) (C_Land_under base)
  obtain ⟨fd__law_why_asked, F__law_why_asked⟩ := c.def_ 41 rfl
  have C__law_why_asked : ∀ base : Heap, Fn false P w K mg base "_law_why_asked" 5 3 m__law_why_asked := fun base => t__law_why_asked T F__law_why_asked (He.glo_ok X G (c.fact 75 rfl)) (C__law_question base)
  obtain ⟨fd__law_why_land, F__law_why_land⟩ := c.def_ 42 rfl
  have C__law_why_land : ∀ base : Heap, Fn false P w K mg base "_law_why_land" 3 1 m__law_why_land := fun base => t__law_why_land T F__law_why_land (He.glo_ok X G (c.fact 76 rfl)) (C_Land___init__ base)
  obtain ⟨fd_Land_held, F_Land_held⟩ := c.def_ 43 rfl
  have C_Land_held : ∀ base : Heap, Mt true P w K mg base "Land" "held" 1 2 m_Land_held := fun base => t_Land_held T F_Land_held (He.cls_ok (c.fact 0 rfl)) (He.meth_ok (c.fact 77 rfl)) 
  obtain ⟨fd_Land_estates, F_Land_estates⟩ := c.def_ 44 rfl
  have C_Land_estates : ∀ base : Heap, Mt true P w K mg base "Land" "estates" 1 1 m_Land_estates := fun base => t_Land_estates T F_Land_estates (He.cls_ok (c.fact 0 rfl)) (He.meth_ok (c.fact 78 rfl)) 
  obtain ⟨fd_Land_folk, F_Land_folk⟩ := c.def_ 45 rfl
  have C_Land_folk : ∀ base : Heap, Mt true P w K mg base "Land" "folk" 1 1 m_Land_folk := fun base => t_Land_folk T F_Land_folk (He.cls_ok (c.fact 0 rfl)) (He.meth_ok (c.fact 79 rfl)) 
  obtain ⟨fd__law_chain, F__law_chain⟩ := c.def_ 46 rfl
  have C__law_chain : ∀ base : Heap, Fn true P w K mg base "_law_chain" 1 2 m__law_chain := fun base => t__law_chain T F__law_chain (He.glo_ok X G (c.fact 80 rfl)) 
  obtain ⟨fd__law_estate_is, F__law_estate_is⟩ := c.def_ 47 rfl
  have C__law_estate_is : ∀ base : Heap, Fn false P w K mg base "_law_estate_is" 9 3 m__law_estate_is := fun base => t__law_estate_is T F__law_estate_is (He.glo_ok X G (c.fact 81 rfl)) (C_Land_service base) (C_Land_breadth base) (C_Land_own base) (C_Land_lord base) (C_Land_holder base) (C__law_breadth base) (C__law_same base) (C__law_chain base) (C_Land_chain base) (C_Land_there base) (C__law_under base) (C_Land_under base)
  obtain ⟨fd__law_land_is, F__law_land_is⟩ := c.def_ 48 rfl
  have C__law_land_is : ∀ base : Heap, Fn false P w K mg base "_law_land_is" 10 2 m__law_land_is := fun base => t__law_land_is T F__law_land_is (He.glo_ok X G (c.fact 82 rfl)) (C_Land_estates base) (C__law_same base) (C_Land_folk base) (C__law_held base) (C_Land_held base) (C__law_estate_is base)
  obtain ⟨fd_law, F_law⟩ := c.def_ 49 rfl
  have e := hfa.symm.trans (He.glo_ok X G (c.fact 83 rfl))
  cases e
  have b := FunD.bindsA (ps := ["_law_script"]) F_law fun _ _ _ _ _ _ us hl => match us, hl with | [_], _ => rfl
  refine ⟨fd_law, fun s v => b s [v] rfl, fun base _ _ => ?_⟩
  exact o_law (P := P) (w := w) (base := base) T F_law (C__law_feed base) (C__law_pools base) (C_Land___init__ base) (C__law_book_v2 base) (C__law_played base) (C__law_stranger base) (C_Land_there base) (C__law_same base) (C__law_why_asked base) (C__law_why_land base) (C_Land_held base) (C__law_land_is base)
end MR
open PySem PySem.W PySem.Calls PyProof.Rows
theorem PySem.Challenge.cw_manrent_k10_estates_not_there_holds : PySem.Challenge.rw_manrent_k10_estates_not_there.Holds := by
  w_on; o_law
  refine HandSHeadRun.head_any (r := MR.R) (q := view MR.R.prog [46]) (H := MR.hk) (ob := MR.ob) (M := 4000) (loose := MR.loose) (d := HandSHeadRun.topDef MR.R.prog 46) (kwd := []) MR.ob_eq
    (by kernel_rfl) (fun s => by kernel_rfl) MR.run (by kernel_rfl) (by kernel_rfl) (by kernel_rfl) (by rfl) (by first | assumption | decide +kernel) (by decide +kernel) ⟨rfl, rfl, rfl, rfl, rfl, by decide +kernel⟩ ?hw ?hc
  case hw => w_witness2
  case hc =>
    refine L2.walk_ofE (l := PySem.Challenge.rw_manrent_k10_estates_not_there) (n := 63) (k := 11) (x := "_law_script") (CX := fun a b c d e f => ∃ w, L2.CX (PySem.Challenge.rw_manrent_k10_estates_not_there).prog w a b c d e f) rfl (by decide) (by kernel_rfl) ⟨rfl, by decide, by decide⟩ ?F ?G
    case F =>
      intro w mg fa h Y G hmg0
      obtain ⟨K, KX, c⟩ := Y
      have hmg : mg ("law" : PySem.Str) = some (.ref fa) := by
        have e : (HandSHeadRun.topDef MR.R.prog 46).name = ("law" : PySem.Str) := by kernel_rfl
        rw [← e]
        exact hmg0
      obtain ⟨fd, hb, hF⟩ := MR.facts (P := (PySem.Challenge.rw_manrent_k10_estates_not_there).prog) (w := w) KX G hmg c
      exact ⟨K, fd, MR.spD false K 1 MR.m_law, KX, hb, fun H a ns hl _ hS => MR.law_sp MR.law_true H a ns hl hS, fun base k1 k2 => MR.fnok_w (hF base k1 k2)⟩
    case G =>
      intro H s e s' ⟨w, z⟩
      exact MR.cx_no z
