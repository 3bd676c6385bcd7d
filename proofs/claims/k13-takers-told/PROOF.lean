import PyProof.Rows.All
import Wide.All
import OpenK.AllK
import Wide.FinOn
import HandS.ForMost
import HandS.ForExc
import HandS.HeadHook1
import HandS.CallSlots
import HandS.Wide
import HandS.IsInst
import HandS.Zip
import HandS.Defaults
import HandS.HeadHook2
import HandS.ExcOwn
import HandS.Head0
import HandS.Head1
import HandS.Head2
import HandS.HeadEnd
import KE.KStateDown
import PySem.Challenge.RW_manrent_k13_takers_told
set_option Elab.async false
set_option linter.all false
set_option maxRecDepth 100000
/-! MR0: the shallow semantics: values as trees, frames of slots, a store of objects; one combinator a construct. -/
namespace MR
open PySem

abbrev Kk := Sum Int Str

/-- a datum. scr: the script (read only). obj: an object or container of the store. loc: the container that the frame's slot owns -/
inductive D where
  | non | bl (b : Bool) | int (i : Int) | str (x : Str)
  | tup (l : List D) | lst (l : List D)
  | dK (l : List (Kk × D)) | dT (l : List (List Kk × D))
  | obj (r : Nat) | loc (i : Nat) | scr (l : List Int)

inductive Slot where
  | emp | val (w : D) | own (w : D)
abbrev Sl := List Slot
inductive Ob where
  | ins (c : String) (fs : List (String × D))
  | con (lk : Bool) (w : D)
abbrev Sto := List Ob

/-- an exception: its class, its field (of NoText) -/
structure Exn where
  c : String
  x : Option Int

inductive Res (α : Type) where
  | ok (a : α) (σ : Sl) (S : Sto)
  | exc (e : Exn) (σ : Sl) (S : Sto)
  | fail

def Res.bind {α β : Type} (r : Res α) (k : α → Sl → Sto → Res β) : Res β := match r with
  | .ok a σ S => k a σ S
  | .exc e σ S => .exc e σ S
  | .fail => .fail
@[simp] theorem Res.bind_ok {α β : Type} {a : α} {σ : Sl} {S : Sto} {k : α → Sl → Sto → Res β} : (Res.ok a σ S).bind k = k a σ S := rfl
@[simp] theorem Res.bind_exc {α β : Type} {e : Exn} {σ : Sl} {S : Sto} {k : α → Sl → Sto → Res β} : (Res.exc e σ S).bind k = .exc e σ S := rfl
@[simp] theorem Res.bind_fail {α β : Type} {k : α → Sl → Sto → Res β} : (Res.fail : Res α).bind k = .fail := rfl

abbrev DE := Sl → Sto → Res D
abbrev DT := Sl → Sto → Res Bool
abbrev DA := Sl → Sto → Res (List D)
inductive Fl where
  | next | ret (w : D) | brk | cnt
abbrev DS := Sl → Sto → Res Fl
/-- a def as a function of data and the store -/
inductive Out where
  | ok (w : D) (S : Sto)
  | exc (e : Exn) (S : Sto)
  | fail
abbrev Den := List D → Sto → Out

/-- what stands behind a value: a container by place, or itself -/
def deref (σ : Sl) (S : Sto) : D → Option D
  | .loc i => (match σ[i]? with
    | some (.own c) => some c
    | _ => none)
  | .obj r => (match S[r]? with
    | some (.con _ c) => some c
    | _ => none)
  | w => some w
/-- a slot's container is frozen: a value from here on -/
def frz (w : D) (σ : Sl) (S : Sto) : Res D := match w with
  | .loc i => (match σ[i]? with
    | some (.own c) => .ok c (σ.set i (.val c)) S
    | _ => .fail)
  | w => .ok w σ S
def ofOpt {α : Type} (o : Option α) (σ : Sl) (S : Sto) : Res α := match o with
  | some a => .ok a σ S
  | none => .fail

/-! ### names, constants -/
def dVar (i : Nat) : DE := fun σ S => match σ[i]? with
  | some (.val w) => .ok w σ S
  | some (.own _) => .ok (.loc i) σ S
  | _ => .fail
def dC (w : D) : DE := fun σ S => .ok w σ S
/-- as a value that may be kept -/
def dV (f : DE) : DE := fun σ S => (f σ S).bind frz

/-! ### operations on values -/
def d1 (op : D → Option D) (f : DE) : DE := fun σ S => (f σ S).bind fun x σ S => ofOpt ((deref σ S x).bind op) σ S
def d2 (op : D → D → Option D) (f g : DE) : DE := fun σ S => (f σ S).bind fun x σ S => (g σ S).bind fun y σ S => ofOpt ((deref σ S x).bind fun a => (deref σ S y).bind fun b => op a b) σ S

def most : Nat := 16777216
def opAdd : D → D → Option D
  | .int i, .int j => some (.int (i + j))
  | .str x, .str y => if x.length + y.length ≤ most then some (.str (x ++ y)) else none
  | .lst x, .lst y => if x.length + y.length ≤ most then some (.lst (x ++ y)) else none
  | _, _ => none
def opSub : D → D → Option D
  | .int i, .int j => some (.int (i - j))
  | _, _ => none
def mulOk (i j : Int) : Prop := i.natAbs.log2 + j.natAbs.log2 < 1000000
instance (i j : Int) : Decidable (mulOk i j) := by unfold mulOk; infer_instance
def opMul : D → D → Option D
  | .int i, .int j => if mulOk i j then some (.int (i * j)) else none
  | _, _ => none
def opMod : D → D → Option D
  | .int i, .int j => if 0 < j then some (.int (i % j)) else none
  | _, _ => none
def divOk (j : Int) : Prop := j ≠ 0 ∧ j.natAbs.log2 < 9000
instance (j : Int) : Decidable (divOk j) := by unfold divOk; infer_instance
def opDiv : D → D → Option D
  | .int i, .int j => if divOk j then some (.int (i.fdiv j)) else none
  | _, _ => none
def opLt : D → D → Option D
  | .int i, .int j => some (.bl (decide (i < j)))
  | _, _ => none
def opLe : D → D → Option D
  | .int i, .int j => some (.bl (decide (i ≤ j)))
  | _, _ => none
def opGt : D → D → Option D
  | .int i, .int j => some (.bl (decide (j < i)))
  | _, _ => none
def opGe : D → D → Option D
  | .int i, .int j => some (.bl (decide (j ≤ i)))
  | _, _ => none
/-- == of two flat things of one kind -/
def opEq : D → D → Option D
  | .int i, .int j => some (.bl (decide (i = j)))
  | .str i, .str j => some (.bl (decide (i = j)))
  | .bl i, .bl j => some (.bl (decide (i = j)))
  | _, _ => none
def opNe : D → D → Option D
  | .int i, .int j => some (.bl (!decide (i = j)))
  | .str i, .str j => some (.bl (!decide (i = j)))
  | .bl i, .bl j => some (.bl (!decide (i = j)))
  | _, _ => none

/-! ### tests -/
def tVal (f : DE) : DT := fun σ S => (f σ S).bind fun x σ S => match x with
  | .bl b => .ok b σ S
  | _ => .fail
def tAnd (f g : DT) : DT := fun σ S => (f σ S).bind fun b σ S => if b = true then g σ S else .ok false σ S
def tOr (f g : DT) : DT := fun σ S => (f σ S).bind fun b σ S => if b = true then .ok true σ S else g σ S
def tNot (f : DT) : DT := fun σ S => (f σ S).bind fun b σ S => .ok (!b) σ S
/-- a test as a value -/
def eT (f : DT) : DE := fun σ S => (f σ S).bind fun b σ S => .ok (.bl b) σ S

/-! ### arguments, displays, calls -/
def aNil : DA := fun σ S => .ok [] σ S
def aCons (f : DE) (r : DA) : DA := fun σ S => (dV f σ S).bind fun x σ S => (r σ S).bind fun xs σ S => .ok (x :: xs) σ S
def dTup (r : DA) : DE := fun σ S => (r σ S).bind fun xs σ S => if xs.length ≤ most then .ok (.tup xs) σ S else .fail
def dLst (r : DA) : DE := fun σ S => (r σ S).bind fun xs σ S => if xs.length ≤ most then .ok (.lst xs) σ S else .fail
def dCall (d : Den) (r : DA) : DE := fun σ S => (r σ S).bind fun xs σ S => match d xs S with
  | .ok w S' => .ok w σ S'
  | .exc e S' => .exc e σ S'
  | .fail => .fail

/-! ### statements -/
def sNil : DS := fun σ S => .ok .next σ S
def sSeq (f g : DS) : DS := fun σ S => (f σ S).bind fun x σ S => match x with
  | .next => g σ S
  | x => .ok x σ S
def sSet (i : Nat) (f : DE) : DS := fun σ S => (dV f σ S).bind fun w σ S => .ok .next (σ.set i (.val w)) S
def sRet (f : DE) : DS := fun σ S => (dV f σ S).bind fun w σ S => .ok (.ret w) σ S
def sIf (c : DT) (f g : DS) : DS := fun σ S => (c σ S).bind fun b σ S => if b = true then f σ S else g σ S
def sExpr (f : DE) : DS := fun σ S => (f σ S).bind fun _ σ S => .ok .next σ S
/-- a, b = e1, e2 -/
def sPar (i j : Nat) (r : DA) : DS := fun σ S => (r σ S).bind fun xs σ S => match xs with
  | [v, w] => .ok .next ((σ.set i (.val v)).set j (.val w)) S
  | _ => .fail

/-- a def's body as a function: n slots, its arguments first -/
def dDef (n : Nat) (f : DS) : Den := fun ws S => match f (ws.map Slot.val ++ List.replicate (n - ws.length) .emp) S with
  | .ok .next _ S' => .ok .non S'
  | .ok (.ret w) _ S' => .ok w S'
  | .ok _ _ _ => .fail
  | .exc e _ S' => .exc e S'
  | .fail => .fail

/-- while, at most n turns -/
def sWhile (c : DT) (f : DS) : Nat → DS
  | 0 => fun _ _ => .fail
  | n + 1 => fun σ S => (c σ S).bind fun b σ S => if b = true then (f σ S).bind fun x σ S => (match x with
      | .next => sWhile c f n σ S
      | .cnt => sWhile c f n σ S
      | .brk => .ok .next σ S
      | .ret w => .ok (.ret w) σ S) else .ok .next σ S
end MR

set_option Elab.async false
set_option linter.all false
set_option maxRecDepth 100000
/-! MR1: what a datum stands for in the abstract heap; the relation between states; the meaning of a denotation as a reading of the hand layer. -/
namespace MR
open PySem PySem.Spec PyProof.Rows L2

def isDc : HO → Prop
  | .dK _ => True
  | .dT _ => True
  | _ => False
/-- I: what is frozen (a dict may be locked by a loop) -/
def Sub (I H : Hp) : Prop := ∀ a o, I a = some o → H a = some o ∨ (isDc o ∧ ∃ ob, H a = some (.frz ob o))

mutual
inductive Rep (K : PySem.W.Frag) (ρ : List Addr) (I : Hp) : V → D → Prop
  | non : Rep K ρ I .non .non
  | bl {b : Bool} : Rep K ρ I (.bl b) (.bl b)
  | int {i : Int} : Rep K ρ I (.int i) (.int i)
  | str {x : Str} : Rep K ρ I (.str x) (.str x)
  | tup {a : Addr} {vs : List V} {ws : List D} (h : SqT K I a vs) (r : Reps K ρ I vs ws) : Rep K ρ I (.ref a) (.tup ws)
  | lst {a : Addr} {vs : List V} {ws : List D} (h : I a = some (.lst vs)) (r : Reps K ρ I vs ws) : Rep K ρ I (.ref a) (.lst ws)
  | dK {a : Addr} {kvs : List (Key × V)} {kws : List (Kk × D)} (h : I a = some (.dK kvs)) (e : kvs.map (·.1) = kws.map (·.1)) (r : Reps K ρ I (kvs.map (·.2)) (kws.map (·.2))) : Rep K ρ I (.ref a) (.dK kws)
  | dT {a : Addr} {kvs : List (List Key × V)} {kws : List (List Kk × D)} (h : I a = some (.dT kvs)) (e : kvs.map (·.1) = kws.map (·.1)) (r : Reps K ρ I (kvs.map (·.2)) (kws.map (·.2))) : Rep K ρ I (.ref a) (.dT kws)
  | obj {r : Nat} {a : Addr} (h : ρ[r]? = some a) : Rep K ρ I (.ref a) (.obj r)
  | scr {a : Addr} {ns : List Int} (h : SqL K I a (ns.map V.int)) : Rep K ρ I (.ref a) (.scr ns)
inductive Reps (K : PySem.W.Frag) (ρ : List Addr) (I : Hp) : List V → List D → Prop
  | nil : Reps K ρ I [] []
  | cons {v : V} {vs : List V} {w : D} {ws : List D} (h : Rep K ρ I v w) (r : Reps K ρ I vs ws) : Reps K ρ I (v :: vs) (w :: ws)
end

/-- more is frozen, more objects are there -/
structure Gr (ρ : List Addr) (I : Hp) (ρ' : List Addr) (I' : Hp) : Prop where
  ex : ∀ a o, I a = some o → I' a = some o
  pre : ∀ (r : Nat) (a : Addr), ρ[r]? = some a → ρ'[r]? = some a
theorem Gr.refl {ρ : List Addr} {I : Hp} : Gr ρ I ρ I := ⟨fun _ _ h => h, fun _ _ h => h⟩
theorem Gr.trans {ρ ρ' ρ'' : List Addr} {I I' I'' : Hp} (a : Gr ρ I ρ' I') (b : Gr ρ' I' ρ'' I'') : Gr ρ I ρ'' I'' := ⟨fun x o h => b.ex x o (a.ex x o h), fun r x h => b.pre r x (a.pre r x h)⟩
theorem SqT.gr {K : PySem.W.Frag} {ρ ρ' : List Addr} {I I' : Hp} {a : Addr} {vs : List V} (g : Gr ρ I ρ' I') (h : SqT K I a vs) : SqT K I' a vs := by
  rcases h with (h | ⟨o, h⟩) | h
  · exact .inl (.inl (g.ex _ _ h))
  · exact .inl (.inr ⟨o, g.ex _ _ h⟩)
  · exact .inr h
theorem SqL.gr {K : PySem.W.Frag} {ρ ρ' : List Addr} {I I' : Hp} {a : Addr} {vs : List V} (g : Gr ρ I ρ' I') (h : SqL K I a vs) : SqL K I' a vs := by
  rcases h with (h | ⟨o, h⟩) | h
  · exact .inl (.inl (g.ex _ _ h))
  · exact .inl (.inr ⟨o, g.ex _ _ h⟩)
  · exact .inr h
mutual
theorem Rep.gr {K : PySem.W.Frag} {ρ ρ' : List Addr} {I I' : Hp} (g : Gr ρ I ρ' I') : ∀ {v : V} {w : D}, Rep K ρ I v w → Rep K ρ' I' v w
  | _, _, .non => .non
  | _, _, .bl => .bl
  | _, _, .int => .int
  | _, _, .str => .str
  | _, _, .tup h r => .tup (SqT.gr g h) (Reps.gr g r)
  | _, _, .lst h r => .lst (g.ex _ _ h) (Reps.gr g r)
  | _, _, .dK h e r => .dK (g.ex _ _ h) e (Reps.gr g r)
  | _, _, .dT h e r => .dT (g.ex _ _ h) e (Reps.gr g r)
  | _, _, .obj h => .obj (g.pre _ _ h)
  | _, _, .scr h => .scr (SqL.gr g h)
theorem Reps.gr {K : PySem.W.Frag} {ρ ρ' : List Addr} {I I' : Hp} (g : Gr ρ I ρ' I') : ∀ {vs : List V} {ws : List D}, Reps K ρ I vs ws → Reps K ρ' I' vs ws
  | _, _, .nil => .nil
  | _, _, .cons h r => .cons (Rep.gr g h) (Reps.gr g r)
end
section
variable {K : PySem.W.Frag} {ρ : List Addr} {I : Hp}
theorem Reps.length : ∀ {vs : List V} {ws : List D}, Reps K ρ I vs ws → vs.length = ws.length
  | _, _, .nil => rfl
  | _, _, .cons _ r => congrArg (· + 1) r.length
theorem Reps.get : ∀ {vs : List V} {ws : List D} {i : Nat} {w : D}, Reps K ρ I vs ws → ws[i]? = some w → ∃ v, vs[i]? = some v ∧ Rep K ρ I v w
  | _, _, _, _, .nil, e => by cases e
  | _, _, 0, _, .cons h _, e => by cases e; exact ⟨_, rfl, h⟩
  | _, _, i + 1, _, .cons _ r, e => Reps.get (i := i) r e
theorem Reps.get' : ∀ {vs : List V} {ws : List D} {i : Nat} {v : V}, Reps K ρ I vs ws → vs[i]? = some v → ∃ w, ws[i]? = some w ∧ Rep K ρ I v w
  | _, _, _, _, .nil, e => by cases e
  | _, _, 0, _, .cons h _, e => by cases e; exact ⟨_, rfl, h⟩
  | _, _, i + 1, _, .cons _ r, e => Reps.get' (i := i) r e
theorem Reps.append : ∀ {vs vs' : List V} {ws ws' : List D}, Reps K ρ I vs ws → Reps K ρ I vs' ws' → Reps K ρ I (vs ++ vs') (ws ++ ws')
  | _, _, _, _, .nil, q => q
  | _, _, _, _, .cons h r, q => .cons h (Reps.append r q)
theorem Reps.take : ∀ {vs : List V} {ws : List D} (n : Nat), Reps K ρ I vs ws → Reps K ρ I (vs.take n) (ws.take n)
  | _, _, 0, _ => .nil
  | _, _, _ + 1, .nil => .nil
  | _, _, n + 1, .cons h r => .cons h (Reps.take n r)
theorem Reps.drop : ∀ {vs : List V} {ws : List D} (n : Nat), Reps K ρ I vs ws → Reps K ρ I (vs.drop n) (ws.drop n)
  | _, _, 0, r => r
  | _, _, _ + 1, .nil => .nil
  | _, _, n + 1, .cons _ r => Reps.drop n r
theorem Reps.set {v : V} {w : D} (h : Rep K ρ I v w) : ∀ {vs : List V} {ws : List D} (n : Nat), Reps K ρ I vs ws → Reps K ρ I (vs.set n v) (ws.set n w)
  | _, _, _, .nil => .nil
  | _, _, 0, .cons _ r => .cons h r
  | _, _, n + 1, .cons q r => .cons q (Reps.set h n r)
end

/-- a container that can be written, at a -/
def OwnAt (K : PySem.W.Frag) (ρ : List Addr) (I H : Hp) (a : Addr) : D → Prop
  | .lst ws => ∃ vs, H a = some (.lst vs) ∧ Reps K ρ I vs ws
  | .dK kws => ∃ kvs, H a = some (.dK kvs) ∧ kvs.map (·.1) = kws.map (·.1) ∧ Reps K ρ I (kvs.map (·.2)) (kws.map (·.2))
  | .dT kws => ∃ kvs, H a = some (.dT kvs) ∧ kvs.map (·.1) = kws.map (·.1) ∧ Reps K ρ I (kvs.map (·.2)) (kws.map (·.2))
  | _ => False
/-- .. while a loop walks it -/
def LockAt (K : PySem.W.Frag) (ρ : List Addr) (I H : Hp) (a : Addr) : D → Prop
  | .lst ws => ∃ vs, H a = some (.lst vs) ∧ Reps K ρ I vs ws
  | .dK kws => ∃ ob kvs, H a = some (.frz ob (.dK kvs)) ∧ kvs.map (·.1) = kws.map (·.1) ∧ Reps K ρ I (kvs.map (·.2)) (kws.map (·.2))
  | .dT kws => ∃ ob kvs, H a = some (.frz ob (.dT kvs)) ∧ kvs.map (·.1) = kws.map (·.1) ∧ Reps K ρ I (kvs.map (·.2)) (kws.map (·.2))
  | _ => False
/-- the class's address -/
abbrev ca (K : PySem.W.Frag) (c : String) : Addr := He.ga K (Str.ofString c)
def CellAt (K : PySem.W.Frag) (ρ : List Addr) (I H : Hp) (a : Addr) : Ob → Prop
  | .ins c fs => ∃ dx fsV, H a = some (.ins (ca K c) dx fsV) ∧ fsV.map (·.1) = fs.map (fun p => Str.ofString p.1) ∧ Reps K ρ I (fsV.map (·.2)) (fs.map (·.2))
  | .con false c => OwnAt K ρ I H a c
  | .con true c => LockAt K ρ I H a c
def SlotAt (K : PySem.W.Frag) (ρ : List Addr) (I F H : Hp) (σV : L2.St) (i : Nat) : Slot → Prop
  | .emp => True
  | .val w => ∃ v, σV[i]? = some (some v) ∧ Rep K ρ I v w
  | .own c => ∃ a, σV[i]? = some (some (.ref a)) ∧ F a = none ∧ I a = none ∧ a ∉ ρ ∧ OwnAt K ρ I H a c
/-- the states of the two worlds: F what the callers want kept, I what is frozen, ρ where the store's objects stand -/
structure RB (K : PySem.W.Frag) (F I : Hp) (ρ : List Addr) (S : Sto) (H : Hp) (σV : L2.St) (σ : Sl) : Prop where
  fr : ∀ a o, F a = some o → H a = some o
  sub : Sub I H
  dis : ∀ a o, F a = some o → I a = none
  store : ∀ (r : Nat) (o : Ob), S[r]? = some o → ∃ a, ρ[r]? = some a ∧ F a = none ∧ I a = none ∧ CellAt K ρ I H a o
  nd : ∀ (r r' : Nat) (a : Addr), ρ[r]? = some a → ρ[r']? = some a → r = r'
  rl : ρ.length = S.length
  len : σ.length = σV.length
  slot : ∀ (i : Nat) (s : Slot), σ[i]? = some s → SlotAt K ρ I F H σV i s
  inj : ∀ (i j : Nat) (c c' : D) (v : V), σ[i]? = some (.own c) → σ[j]? = some (.own c') → σV[i]? = some (some v) → σV[j]? = some (some v) → i = j

/-- a value of an expression, a slot's own container among them -/
def TRep (K : PySem.W.Frag) (ρ : List Addr) (I : Hp) (σV : L2.St) (v : V) (w : D) : Prop := (∃ i, w = .loc i ∧ σV[i]? = some (some v)) ∨ Rep K ρ I v w
theorem TRep.gr {K : PySem.W.Frag} {ρ ρ' : List Addr} {I I' : Hp} {σV : L2.St} {v : V} {w : D} (g : Gr ρ I ρ' I') (h : TRep K ρ I σV v w) : TRep K ρ' I' σV v w := by
  rcases h with h | h
  · exact .inl h
  · exact .inr (h.gr g)

/-- the exception's own dict, where its class has a field -/
def ExcAt (e : Exn) (d : Option Addr) (H : Hp) : Prop := match e.x with
  | none => d = none
  | some n => ∃ a, d = some a ∧ H a = some (.xd [(Str.ofString "at", .int n)])

/-! ### the meaning of a denotation -/
def postR {α β : Type} (K : PySem.W.Frag) (Wx : WX) (T : List Addr → Hp → L2.St → β → α → Prop) (F I : Hp) (ρ : List Addr) (σV : L2.St) (r : Res α) (Q : β → Hp → Prop) : Prop := match r with
  | .ok a σ' S' => ∀ I' ρ' H' b, Gr ρ I ρ' I' → RB K F I' ρ' S' H' σV σ' → T ρ' I' σV b a → Q b H'
  | .exc e σ' S' => ∀ I' ρ' H' d, Gr ρ I ρ' I' → RB K F I' ρ' S' H' σV σ' → ExcAt e d H' → Wx (.ref (ca K e.c)) d σV H'
  | .fail => False
def semR {α β : Type} (K : PySem.W.Frag) (Wx : WX) (T : List Addr → Hp → L2.St → β → α → Prop) (f : Sl → Sto → Res α) (σV : L2.St) (H : Hp) (Q : β → Hp → Prop) : Prop :=
  ∃ F I ρ σ S, RB K F I ρ S H σV σ ∧ postR K Wx T F I ρ σV (f σ S) Q
abbrev semE (K : PySem.W.Frag) (Wx : WX) (f : DE) : TE := semR K Wx (TRep K) f
abbrev semT (K : PySem.W.Frag) (Wx : WX) (f : DT) : TT := semR K Wx (fun _ _ _ b a => b = a) f
abbrev semA (K : PySem.W.Frag) (Wx : WX) (f : DA) : TA := semR K Wx (fun ρ I _ vs ws => Reps K ρ I vs ws) f
/-- the value of a kept kind: no slot's own container -/
abbrev semV (K : PySem.W.Frag) (Wx : WX) (f : DE) : TE := semR K Wx (fun ρ I _ v w => Rep K ρ I v w) f

section
variable {K : PySem.W.Frag} {Wx : WX} {F I : Hp} {ρ : List Addr} {σV : L2.St} {H : Hp}
theorem post_gr {α β : Type} {T : List Addr → Hp → L2.St → β → α → Prop} {r : Res α} {Q : β → Hp → Prop} {I1 : Hp} {ρ1 : List Addr} (g : Gr ρ I ρ1 I1) (h : postR K Wx T F I ρ σV r Q) : postR K Wx T F I1 ρ1 σV r Q := by
  cases r with
  | ok a σ S => exact fun I' ρ' H' b g' => h I' ρ' H' b (g.trans g')
  | exc e σ S => exact fun I' ρ' H' d g' => h I' ρ' H' d (g.trans g')
  | fail => exact h
theorem post_bind {α α2 β β2 : Type} {T : List Addr → Hp → L2.St → β → α → Prop} {T2 : List Addr → Hp → L2.St → β2 → α2 → Prop} {r : Res α} {k : α → Sl → Sto → Res α2} {Q : β2 → Hp → Prop} {Q1 : β → Hp → Prop}
    (h : postR K Wx T2 F I ρ σV (r.bind k) Q)
    (q : ∀ I1 ρ1 σ1 S1 H1 a b, r = .ok a σ1 S1 → Gr ρ I ρ1 I1 → RB K F I1 ρ1 S1 H1 σV σ1 → T ρ1 I1 σV b a → postR K Wx T2 F I1 ρ1 σV (k a σ1 S1) Q → Q1 b H1) : postR K Wx T F I ρ σV r Q1 := by
  cases r with
  | ok a σ S => exact fun I' ρ' H' b g rb t => q I' ρ' σ S H' a b rfl g rb t (post_gr g h)
  | exc e σ S => exact h
  | fail => exact h
theorem post_ok {α β : Type} {T : List Addr → Hp → L2.St → β → α → Prop} {a : α} {b : β} {σ : Sl} {S : Sto} {Q : β → Hp → Prop} {I' : Hp} {ρ' : List Addr} {H' : Hp} (h : postR K Wx T F I ρ σV (.ok a σ S) Q) (g : Gr ρ I ρ' I') (rb : RB K F I' ρ' S H' σV σ) (t : T ρ' I' σV b a) : Q b H' := h I' ρ' H' b g rb t
theorem post_opt {α β : Type} {T : List Addr → Hp → L2.St → β → α → Prop} {o : Option α} {σ : Sl} {S : Sto} {Q : β → Hp → Prop} (h : postR K Wx T F I ρ σV (ofOpt o σ S) Q) : ∃ a, o = some a ∧ postR K Wx T F I ρ σV (.ok a σ S) Q := by
  cases o with
  | none => exact h.elim
  | some a => exact ⟨a, rfl, h⟩
end

/-! ### the content of a value, as it stands now -/
def At (K : PySem.W.Frag) (ρ : List Addr) (I H : Hp) (v : V) : D → Prop
  | .non => v = .non
  | .bl b => v = .bl b
  | .int i => v = .int i
  | .str x => v = .str x
  | .tup ws => ∃ a vs, v = .ref a ∧ SqT K H a vs ∧ Reps K ρ I vs ws
  | .lst ws => ∃ a vs, v = .ref a ∧ H a = some (.lst vs) ∧ Reps K ρ I vs ws
  | .dK kws => ∃ a kvs, v = .ref a ∧ Rd H a (.dK kvs) ∧ kvs.map (·.1) = kws.map (·.1) ∧ Reps K ρ I (kvs.map (·.2)) (kws.map (·.2))
  | .dT kws => ∃ a kvs, v = .ref a ∧ Rd H a (.dT kvs) ∧ kvs.map (·.1) = kws.map (·.1) ∧ Reps K ρ I (kvs.map (·.2)) (kws.map (·.2))
  | .obj r => ∃ a, v = .ref a ∧ ρ[r]? = some a
  | .loc _ => False
  | .scr ns => ∃ a, v = .ref a ∧ SqL K H a (ns.map V.int)
theorem Sub.rd {I H : Hp} (s : Sub I H) {a : Addr} {o : HO} (h : I a = some o) : Rd H a o := by
  rcases s a o h with h | ⟨_, ob, h⟩
  · exact .inl h
  · exact .inr ⟨ob, h⟩
theorem Sub.sqT {K : PySem.W.Frag} {I H : Hp} (s : Sub I H) {a : Addr} {vs : List V} (h : SqT K I a vs) : SqT K H a vs := by
  rcases h with (h | ⟨o, h⟩) | h
  · rcases s a _ h with h | ⟨d, _⟩
    · exact .inl (.inl h)
    · exact d.elim
  · rcases s a _ h with h | ⟨d, _⟩
    · exact .inl (.inr ⟨o, h⟩)
    · exact d.elim
  · exact .inr h
theorem Sub.sqL {K : PySem.W.Frag} {I H : Hp} (s : Sub I H) {a : Addr} {vs : List V} (h : SqL K I a vs) : SqL K H a vs := by
  rcases h with (h | ⟨o, h⟩) | h
  · rcases s a _ h with h | ⟨d, _⟩
    · exact .inl (.inl h)
    · exact d.elim
  · rcases s a _ h with h | ⟨d, _⟩
    · exact .inl (.inr ⟨o, h⟩)
    · exact d.elim
  · exact .inr h
theorem Rep.at {K : PySem.W.Frag} {ρ : List Addr} {I H : Hp} (s : Sub I H) {v : V} {w : D} (h : Rep K ρ I v w) : At K ρ I H v w := by
  cases h with
  | non => rfl
  | bl => rfl
  | int => rfl
  | str => rfl
  | tup h r => exact ⟨_, _, rfl, s.sqT h, r⟩
  | lst h r =>
    rcases s _ _ h with h | ⟨d, _⟩
    · exact ⟨_, _, rfl, h, r⟩
    · exact d.elim
  | dK h e r => exact ⟨_, _, rfl, s.rd h, e, r⟩
  | dT h e r => exact ⟨_, _, rfl, s.rd h, e, r⟩
  | obj h => exact ⟨_, rfl, h⟩
  | scr h => exact ⟨_, rfl, s.sqL h⟩
theorem OwnAt.at {K : PySem.W.Frag} {ρ : List Addr} {I H : Hp} {a : Addr} {c : D} (h : OwnAt K ρ I H a c) : At K ρ I H (.ref a) c := by
  cases c with
  | lst ws => obtain ⟨vs, h, r⟩ := h; exact ⟨a, vs, rfl, h, r⟩
  | dK kws => obtain ⟨kvs, h, e, r⟩ := h; exact ⟨a, kvs, rfl, .inl h, e, r⟩
  | dT kws => obtain ⟨kvs, h, e, r⟩ := h; exact ⟨a, kvs, rfl, .inl h, e, r⟩
  | _ => exact h.elim
theorem LockAt.at {K : PySem.W.Frag} {ρ : List Addr} {I H : Hp} {a : Addr} {c : D} (h : LockAt K ρ I H a c) : At K ρ I H (.ref a) c := by
  cases c with
  | lst ws => obtain ⟨vs, h, r⟩ := h; exact ⟨a, vs, rfl, h, r⟩
  | dK kws => obtain ⟨ob, kvs, h, e, r⟩ := h; exact ⟨a, kvs, rfl, .inr ⟨ob, h⟩, e, r⟩
  | dT kws => obtain ⟨ob, kvs, h, e, r⟩ := h; exact ⟨a, kvs, rfl, .inr ⟨ob, h⟩, e, r⟩
  | _ => exact h.elim
section
variable {K : PySem.W.Frag} {F I : Hp} {ρ : List Addr} {S : Sto} {H : Hp} {σV : L2.St} {σ : Sl}
theorem RB.at (rb : RB K F I ρ S H σV σ) {v : V} {x a : D} (t : TRep K ρ I σV v x) (e : deref σ S x = some a) : At K ρ I H v a := by
  rcases t with ⟨i, rfl, hv⟩ | r
  · unfold deref at e
    split at e
    · rename_i i' h1
      injection h1 with h1
      subst h1
      split at e
      · rename_i c hc
        cases e
        obtain ⟨b, hb, _, _, _, ho⟩ := rb.slot _ _ hc
        rw [hv] at hb
        cases hb
        exact ho.at
      · cases e
    · rename_i h1; cases h1
    · rename_i h1 h2; exact absurd rfl (h1 _)
  · cases r with
    | obj h =>
      unfold deref at e
      simp only at e
      split at e
      · rename_i lk c hc
        cases e
        obtain ⟨b, hb, _, _, ho⟩ := rb.store _ _ hc
        rw [h] at hb
        cases hb
        cases lk with
        | false => exact OwnAt.at ho
        | true => exact LockAt.at ho
      · cases e
    | non => cases e; exact Rep.at rb.sub .non
    | bl => cases e; exact Rep.at rb.sub .bl
    | int => cases e; exact Rep.at rb.sub .int
    | str => cases e; exact Rep.at rb.sub .str
    | tup h r => cases e; exact Rep.at rb.sub (.tup h r)
    | lst h r => cases e; exact Rep.at rb.sub (.lst h r)
    | dK h k r => cases e; exact Rep.at rb.sub (.dK h k r)
    | dT h k r => cases e; exact Rep.at rb.sub (.dT h k r)
    | scr h => cases e; exact Rep.at rb.sub (.scr h)

/-! ### changes of the states -/
theorem Sub.none_of (s : Sub I H) {p : Addr} (h : H p = none) : I p = none := by
  cases e : I p with
  | none => rfl
  | some o =>
    rcases s p o e with q | ⟨_, _, q⟩
    · rw [h] at q; cases q
    · rw [h] at q; cases q
theorem OwnAt.gr {ρ' : List Addr} {I' H' : Hp} {a : Addr} {c : D} (g : Gr ρ I ρ' I') (k : ∀ o, H a = some o → H' a = some o) (h : OwnAt K ρ I H a c) : OwnAt K ρ' I' H' a c := by
  cases c with
  | lst ws => obtain ⟨vs, h, r⟩ := h; exact ⟨vs, k _ h, r.gr g⟩
  | dK kws => obtain ⟨kvs, h, e, r⟩ := h; exact ⟨kvs, k _ h, e, r.gr g⟩
  | dT kws => obtain ⟨kvs, h, e, r⟩ := h; exact ⟨kvs, k _ h, e, r.gr g⟩
  | _ => exact h.elim
theorem LockAt.gr {ρ' : List Addr} {I' H' : Hp} {a : Addr} {c : D} (g : Gr ρ I ρ' I') (k : ∀ o, H a = some o → H' a = some o) (h : LockAt K ρ I H a c) : LockAt K ρ' I' H' a c := by
  cases c with
  | lst ws => obtain ⟨vs, h, r⟩ := h; exact ⟨vs, k _ h, r.gr g⟩
  | dK kws => obtain ⟨ob, kvs, h, e, r⟩ := h; exact ⟨ob, kvs, k _ h, e, r.gr g⟩
  | dT kws => obtain ⟨ob, kvs, h, e, r⟩ := h; exact ⟨ob, kvs, k _ h, e, r.gr g⟩
  | _ => exact h.elim
theorem CellAt.gr {ρ' : List Addr} {I' H' : Hp} {a : Addr} {c : Ob} (g : Gr ρ I ρ' I') (k : ∀ o, H a = some o → H' a = some o) (h : CellAt K ρ I H a c) : CellAt K ρ' I' H' a c := by
  cases c with
  | ins c fs => obtain ⟨dx, fsV, h, e, r⟩ := h; exact ⟨dx, fsV, k _ h, e, r.gr g⟩
  | con lk c =>
    cases lk with
    | false => exact OwnAt.gr g k h
    | true => exact LockAt.gr g k h
theorem OwnAt.there {a : Addr} {c : D} (h : OwnAt K ρ I H a c) : ∃ o, H a = some o := by
  cases c with
  | lst ws => obtain ⟨vs, h, r⟩ := h; exact ⟨_, h⟩
  | dK kws => obtain ⟨kvs, h, e, r⟩ := h; exact ⟨_, h⟩
  | dT kws => obtain ⟨kvs, h, e, r⟩ := h; exact ⟨_, h⟩
  | _ => exact h.elim
theorem LockAt.there {a : Addr} {c : D} (h : LockAt K ρ I H a c) : ∃ o, H a = some o := by
  cases c with
  | lst ws => obtain ⟨vs, h, r⟩ := h; exact ⟨_, h⟩
  | dK kws => obtain ⟨ob, kvs, h, e, r⟩ := h; exact ⟨_, h⟩
  | dT kws => obtain ⟨ob, kvs, h, e, r⟩ := h; exact ⟨_, h⟩
  | _ => exact h.elim
theorem CellAt.there {a : Addr} {c : Ob} (h : CellAt K ρ I H a c) : ∃ o, H a = some o := by
  cases c with
  | ins c fs => obtain ⟨dx, fsV, h, e, r⟩ := h; exact ⟨_, h⟩
  | con lk c =>
    cases lk with
    | false => exact OwnAt.there h
    | true => exact LockAt.there h
/-- a place that is free is no object's -/
theorem RB.nρ (rb : RB K F I ρ S H σV σ) {p : Addr} (hp : H p = none) : p ∉ ρ := fun hm => by
  obtain ⟨r, hr⟩ := List.getElem?_of_mem hm
  have lt : r < S.length := by rw [← rb.rl]; exact (List.getElem?_eq_some_iff.mp hr).1
  obtain ⟨a, ha, _, _, hc⟩ := rb.store r _ (List.getElem?_eq_getElem lt)
  rw [hr] at ha
  cases ha
  obtain ⟨o, ho⟩ := hc.there
  rw [hp] at ho
  cases ho
/-- a new frozen thing -/
theorem RB.new (rb : RB K F I ρ S H σV σ) {p : Addr} {o : HO} (hp : H p = none) : Gr ρ I ρ (upd I p o) ∧ RB K F (upd I p o) ρ S (upd H p o) σV σ := by
  have ip := rb.sub.none_of hp
  have g : Gr ρ I ρ (upd I p o) := ⟨fun a u h => by rw [upd_ne (ne_of_none h ip)]; exact h, fun _ _ h => h⟩
  refine ⟨g, ⟨fun a u h => ?_, fun a u h => ?_, fun a u h => ?_, fun r c h => ?_, rb.nd, rb.rl, rb.len, fun i s h => ?_, rb.inj⟩⟩
  · have q := rb.fr a u h
    rw [upd_ne (ne_of_none q hp)]
    exact q
  · by_cases e : a = p
    · subst e
      rw [upd_same] at h ⊢
      exact .inl h
    · rw [upd_ne e] at h ⊢
      exact rb.sub a u h
  · rw [upd_ne (ne_of_none (rb.fr a u h) hp)]
    exact rb.dis a u h
  · obtain ⟨a, ha, hf, hi, hc⟩ := rb.store r c h
    obtain ⟨u, hu⟩ := hc.there
    have ne := ne_of_none hu hp
    exact ⟨a, ha, hf, by rw [upd_ne ne]; exact hi, hc.gr g fun u hu => by rw [upd_ne ne]; exact hu⟩
  · have q := rb.slot i s h
    cases s with
    | emp => trivial
    | val w => obtain ⟨v, hv, r⟩ := q; exact ⟨v, hv, r.gr g⟩
    | own c =>
      obtain ⟨a, ha, hf, hi, hr, ho⟩ := q
      obtain ⟨u, hu⟩ := ho.there
      have ne := ne_of_none hu hp
      exact ⟨a, ha, hf, by rw [upd_ne ne]; exact hi, hr, ho.gr g fun u hu => by rw [upd_ne ne]; exact hu⟩
/-- a slot is set to a value -/
theorem RB.setV (rb : RB K F I ρ S H σV σ) {i : Nat} {v : V} {w : D} (r : Rep K ρ I v w) : RB K F I ρ S H (σV.set i (some v)) (σ.set i (.val w)) := by
  refine ⟨rb.fr, rb.sub, rb.dis, rb.store, rb.nd, rb.rl, by rw [List.length_set, List.length_set]; exact rb.len, fun j s h => ?_, fun j k c c' u h1 h2 h3 h4 => ?_⟩
  · by_cases e : i = j
    · subst e
      have lt : i < (σ.set i (.val w)).length := (List.getElem?_eq_some_iff.mp h).1
      rw [List.length_set] at lt
      rw [List.getElem?_set_self lt] at h
      cases h
      exact ⟨v, List.getElem?_set_self (by rw [← rb.len]; exact lt), r⟩
    · rw [List.getElem?_set_ne e] at h
      have q := rb.slot j s h
      cases s with
      | emp => trivial
      | val w => obtain ⟨v, hv, r⟩ := q; exact ⟨v, by rw [List.getElem?_set_ne e]; exact hv, r⟩
      | own c => obtain ⟨a, ha, q⟩ := q; exact ⟨a, by rw [List.getElem?_set_ne e]; exact ha, q⟩
  · have ne : ∀ {j : Nat} {c : D}, (σ.set i (.val w))[j]? = some (.own c) → i ≠ j := fun {j c} h e => by
      subst e
      have lt : i < (σ.set i (.val w)).length := (List.getElem?_eq_some_iff.mp h).1
      rw [List.length_set] at lt
      rw [List.getElem?_set_self lt] at h
      cases h
    have n1 := ne h1
    have n2 := ne h2
    rw [List.getElem?_set_ne n1] at h1 h3
    rw [List.getElem?_set_ne n2] at h2 h4
    exact rb.inj j k c c' u h1 h2 h3 h4
/-- a slot's own container is frozen -/
theorem RB.frz (rb : RB K F I ρ S H σV σ) {i : Nat} {c : D} {v : V} (hc : σ[i]? = some (.own c)) (hv : σV[i]? = some (some v)) : ∃ I', Gr ρ I ρ I' ∧ RB K F I' ρ S H σV (σ.set i (.val c)) ∧ Rep K ρ I' v c := by
  obtain ⟨a, ha, hf, hi, hr, ho⟩ := rb.slot i _ hc
  rw [hv] at ha
  cases ha
  obtain ⟨o, hao⟩ := ho.there
  have g : Gr ρ I ρ (upd I a o) := ⟨fun b u h => by rw [upd_ne (ne_of_none h hi)]; exact h, fun _ _ h => h⟩
  have rep : Rep K ρ (upd I a o) (.ref a) c := by
    cases c with
    | lst ws =>
      obtain ⟨vs, h, r⟩ := ho
      rw [hao] at h; cases h
      exact .lst upd_same (r.gr g)
    | dK kws =>
      obtain ⟨kvs, h, e, r⟩ := ho
      rw [hao] at h; cases h
      exact .dK upd_same e (r.gr g)
    | dT kws =>
      obtain ⟨kvs, h, e, r⟩ := ho
      rw [hao] at h; cases h
      exact .dT upd_same e (r.gr g)
    | _ => exact ho.elim
  have lt : i < σ.length := (List.getElem?_eq_some_iff.mp hc).1
  have ne : ∀ {j : Nat} {c' : D}, (σ.set i (.val c))[j]? = some (.own c') → i ≠ j := fun {j c'} h e => by
    subst e
    rw [List.getElem?_set_self lt] at h
    cases h
  refine ⟨upd I a o, g, ⟨rb.fr, fun b u h => ?_, fun b u h => ?_, fun r ob h => ?_, rb.nd, rb.rl, by rw [List.length_set]; exact rb.len, fun j s h => ?_, fun j k c1 c2 u h1 h2 h3 h4 => ?_⟩, rep⟩
  · by_cases e : b = a
    · subst e
      rw [upd_same] at h
      exact .inl (hao.trans h)
    · rw [upd_ne e] at h
      exact rb.sub b u h
  · rw [upd_ne (ne_of_none h hf)]
    exact rb.dis b u h
  · obtain ⟨b, hb, hfb, hib, hcb⟩ := rb.store r ob h
    have n : b ≠ a := fun e => hr (e ▸ List.mem_of_getElem? hb)
    exact ⟨b, hb, hfb, by rw [upd_ne n]; exact hib, hcb.gr g fun _ z => z⟩
  · by_cases e : i = j
    · subst e
      rw [List.getElem?_set_self lt] at h
      cases h
      exact ⟨_, hv, rep⟩
    · rw [List.getElem?_set_ne e] at h
      have q := rb.slot j s h
      cases s with
      | emp => trivial
      | val w => obtain ⟨v, hv, r⟩ := q; exact ⟨v, hv, r.gr g⟩
      | own c' =>
        obtain ⟨b, hb, hfb, hib, hrb, hob⟩ := q
        have n : b ≠ a := fun z => by
          subst z
          exact e (rb.inj i j c c' _ hc h hv hb)
        exact ⟨b, hb, hfb, by rw [upd_ne n]; exact hib, hrb, hob.gr g fun _ z => z⟩
  · have n1 := ne h1
    have n2 := ne h2
    rw [List.getElem?_set_ne n1] at h1
    rw [List.getElem?_set_ne n2] at h2
    exact rb.inj j k c1 c2 u h1 h2 h3 h4
end
end MR

set_option Elab.async false
set_option linter.all false
set_option maxRecDepth 100000
/-! MR2: soundness of names, operations, tests, displays, calls, plain statements, defs. -/
namespace MR
open PySem PySem.Spec PyProof.Rows L2

theorem _root_.L2.PE.imp {X : Cx} {e : Expr} {t t' : TE} (h : PE X e t) (i : ∀ σ H Q, t' σ H Q → t σ H Q) : PE X e t' := ⟨fun pins s σ H Q I q => h.run pins s σ H Q I (i _ _ _ q)⟩
theorem _root_.L2.PT.imp {X : Cx} {e : Expr} {t t' : TT} (h : PT X e t) (i : ∀ σ H Q, t' σ H Q → t σ H Q) : PT X e t' := ⟨fun pins s σ H Q I q => h.run pins s σ H Q I (i _ _ _ q)⟩
theorem _root_.L2.PW.imp {X : Cx} {e : Expr} {t t' : TT} (h : PW X e t) (i : ∀ σ H Q, t' σ H Q → t σ H Q) : PW X e t' := ⟨fun wh pins s σ H Q I q => h.run wh pins s σ H Q I (i _ _ _ q)⟩
theorem _root_.L2.PA.imp {X : Cx} {e : List Expr} {t t' : TA} (h : PA X e t) (i : ∀ σ H Q, t' σ H Q → t σ H Q) : PA X e t' := ⟨fun pos pins s σ H Q I q => h.run pos pins s σ H Q I (i _ _ _ q)⟩
theorem _root_.L2.PS.imp {X : Cx} {e : Stmt} {t t' : TS} (h : PS X e t) (i : ∀ D σ H, t' D σ H → t D σ H) : PS X e t' := ⟨fun pins s σ H D I q => h.run pins s σ H D I (i _ _ _ q)⟩
theorem _root_.L2.PSs.imp {X : Cx} {e : List Stmt} {t t' : TS} (h : PSs X e t) (i : ∀ D σ H, t' D σ H → t D σ H) : PSs X e t' := ⟨fun pins s σ H D I q => h.run pins s σ H D I (i _ _ _ q)⟩

abbrev SE (X : Cx) (Wx : WX) (e : Expr) (f : DE) : Prop := PE X e (semE X.K Wx f)
abbrev SV (X : Cx) (Wx : WX) (e : Expr) (f : DE) : Prop := PE X e (semV X.K Wx f)
abbrev ST (X : Cx) (Wx : WX) (e : Expr) (f : DT) : Prop := PT X e (semT X.K Wx f)
abbrev SW (X : Cx) (Wx : WX) (e : Expr) (f : DT) : Prop := PW X e (semT X.K Wx f)
abbrev SA (X : Cx) (Wx : WX) (es : List Expr) (f : DA) : Prop := PA X es (semA X.K Wx f)

section
variable {X : Cx} {Wx : WX}
/-! ### names and constants -/
theorem c_var (i : Nat) {x : Str} {pos : Pos} (hN : X.N[i]? = some x := by rfl) (hv : Vis X.env.scope x := by first | exact Or.inl rfl | exact Or.inr (Or.inl rfl) | exact Or.inr (Or.inr rfl)) (hd : (x == ("__debug__" : Str)) = false := by decide)
    (hcd : (x == ("__classdict__" : Str)) = false := by decide) : SE X Wx (.Name x pos) (dVar i) := by
  refine PE.imp (pe_var hN hv hd hcd) fun σV H Q h => ?_
  obtain ⟨F, I, ρ, σ, S, rb, h⟩ := h
  unfold dVar at h
  split at h
  · rename_i w hw
    obtain ⟨v, hv, r⟩ := rb.slot i _ hw
    exact ⟨v, hv, h I ρ H v Gr.refl rb (.inr r)⟩
  · rename_i c hc
    obtain ⟨a, ha, _⟩ := rb.slot i _ hc
    exact ⟨_, ha, h I ρ H _ Gr.refl rb (.inl ⟨i, rfl, ha⟩)⟩
  · exact h.elim
theorem sem_c {v : V} {w : D} {σV : L2.St} {H : Hp} {Q : VK} (r : ∀ ρ I, Sub I H → Rep X.K ρ I v w) (h : semE X.K Wx (dC w) σV H Q) : Q v H := by
  obtain ⟨F, I, ρ, σ, S, rb, h⟩ := h
  exact h I ρ H v Gr.refl rb (.inr (r ρ I rb.sub))
theorem c_int {i : Int} {j : Nat} {pos : Pos} : SE X Wx (.Constant (.int i) j pos) (dC (.int i)) := PE.imp pe_int fun _ _ _ h => sem_c (fun _ _ _ => .int) h
theorem c_bl {i : Bool} {j : Nat} {pos : Pos} : SE X Wx (.Constant (.bool i) j pos) (dC (.bl i)) := PE.imp pe_bl fun _ _ _ h => sem_c (fun _ _ _ => .bl) h
theorem c_non {j : Nat} {pos : Pos} : SE X Wx (.Constant .none j pos) (dC .non) := PE.imp pe_non fun _ _ _ h => sem_c (fun _ _ _ => .non) h
theorem c_str {x : Str} {j : Nat} {pos : Pos} : SE X Wx (.Constant (.str x) j pos) (dC (.str x)) := PE.imp pe_str fun _ _ _ h => sem_c (fun _ _ _ => .str) h
/-- a constant of the module: v its value, of which w is told whatever stands in the heap -/
theorem c_glob {x : Str} {v : V} {u : Value} {w : D} {pos : Pos} (hm : X.mg x = some u) (r : RelV v u) (t : ∀ ρ I, Rep X.K ρ I v w) (hg : Gl X x := by rfl) (hd : (x == ("__debug__" : Str)) = false := by decide) : SE X Wx (.Name x pos) (dC w) :=
  PE.imp (pe_glob hg hm r hd) fun _ _ _ h => sem_c (fun ρ I _ => t ρ I) h

/-- kept -/
theorem c_v {e : Expr} {f : DE} (h : SE X Wx e f) : SV X Wx e (dV f) := by
  refine PE.imp h fun σV H Q h => ?_
  obtain ⟨F, I, ρ, σ, S, rb, h⟩ := h
  refine ⟨F, I, ρ, σ, S, rb, post_bind h fun I1 ρ1 σ1 S1 H1 a b _ g rb1 t hp => ?_⟩
  rcases t with ⟨i, rfl, hv⟩ | r
  · unfold frz at hp
    simp only at hp
    split at hp
    · rename_i c hc
      obtain ⟨I2, g2, rb2, r2⟩ := rb1.frz hc hv
      exact hp I2 ρ1 H1 b g2 rb2 r2
    · exact hp.elim
  · have e : frz a σ1 S1 = .ok a σ1 S1 := by cases r <;> rfl
    rw [e] at hp
    exact hp I1 ρ1 H1 b Gr.refl rb1 r
theorem c_e {e : Expr} {f : DE} (h : SV X Wx e f) : SE X Wx e f := by
  refine PE.imp h fun σV H Q h => ?_
  obtain ⟨F, I, ρ, σ, S, rb, h⟩ := h
  refine ⟨F, I, ρ, σ, S, rb, ?_⟩
  cases e : f σ S with
  | ok a σ' S' =>
    rw [e] at h
    exact fun I' ρ' H' b g rb r => h I' ρ' H' b g rb (.inr r)
  | exc e' σ' S' =>
    rw [e] at h
    exact h
  | fail =>
    rw [e] at h
    exact h

/-! ### two-place operations -/
/-- what an operation's rule asks is met where the datum operation succeeds -/
def OpS (K : PySem.W.Frag) (r : R2) (op : D → D → Option D) : Prop := ∀ (F I : Hp) (ρ : List Addr) (S : Sto) (H : Hp) (σV : L2.St) (σ : Sl) (v1 v2 : V) (a b z : D) (Q : VK), RB K F I ρ S H σV σ → At K ρ I H v1 a → At K ρ I H v2 b → op a b = some z →
  (∀ I' H' v, Gr ρ I ρ I' → RB K F I' ρ S H' σV σ → Rep K ρ I' v z → Q v H') → r v1 v2 H Q
theorem sem_op {r : R2} {op : D → D → Option D} {f g : DE} (ho : OpS X.K r op) {σV : L2.St} {H : Hp} {Q : VK} (h : semE X.K Wx (d2 op f g) σV H Q) : tOp r (semE X.K Wx f) (semE X.K Wx g) σV H Q := by
  obtain ⟨F, I, ρ, σ, S, rb, h⟩ := h
  refine ⟨F, I, ρ, σ, S, rb, post_bind h fun I1 ρ1 σ1 S1 H1 x v1 _ g1 rb1 t1 h1 => ?_⟩
  refine ⟨F, I1, ρ1, σ1, S1, rb1, post_bind h1 fun I2 ρ2 σ2 S2 H2 y v2 _ g2 rb2 t2 h2 => ?_⟩
  obtain ⟨z, ez, h3⟩ := post_opt h2
  obtain ⟨a, ea, ez⟩ := Option.bind_eq_some_iff.mp ez
  obtain ⟨b, eb, ez⟩ := Option.bind_eq_some_iff.mp ez
  exact ho F I2 ρ2 S2 H2 σV σ2 v1 v2 a b z Q rb2 (rb2.at (t1.gr g2) ea) (rb2.at t2 eb) ez fun I' H' v g' rb' r' => h3 I' ρ2 H' v g' rb' (.inr r')
theorem c_op {a b : Expr} {o : Operator} {pos : Pos} {r : R2} {op : D → D → Option D} {f g : DE} (hr : OpR X (binaryOp o) r) (hs : OpS X.K r op) (ha : SE X Wx a f) (hb : SE X Wx b g) : SE X Wx (.BinOp a o b pos) (d2 op f g) :=
  PE.imp (pe_op hr ha hb) fun _ _ _ h => sem_op hs h
theorem c_cmp {a b : Expr} {o : CmpOp} {pos : Pos} {r : R2} {op : D → D → Option D} {f g : DE} (hr : OpR X (compareOp o) r) (hs : OpS X.K r op) (ha : SE X Wx a f) (hb : SE X Wx b g) (hm : behindInMarks o b = false) : SE X Wx (.Compare a [o] [b] pos) (d2 op f g) :=
  PE.imp (pe_cmpR hr ha hb hm) fun _ _ _ h => sem_op hs h
theorem sem_tval {f : DE} {σV : L2.St} {H : Hp} {Q : Bool → Hp → Prop} (h : semT X.K Wx (tVal f) σV H Q) : semE X.K Wx f σV H fun x H' => ∃ k, x = .bl k ∧ Q k H' := by
  obtain ⟨F, I, ρ, σ, S, rb, h⟩ := h
  refine ⟨F, I, ρ, σ, S, rb, post_bind h fun I1 ρ1 σ1 S1 H1 x v1 _ g1 rb1 t1 h1 => ?_⟩
  rcases t1 with ⟨i, rfl, _⟩ | t1
  · exact h1.elim
  · cases t1 with
    | bl => exact ⟨_, rfl, h1 I1 ρ1 H1 _ Gr.refl rb1 rfl⟩
    | _ => exact h1.elim
theorem ct_cmp {a b : Expr} {o : CmpOp} {pos : Pos} {r : R2} {op : D → D → Option D} {f g : DE} (hr : OpR X (compareOp o) r) (hs : OpS X.K r op) (ha : SE X Wx a f) (hb : SE X Wx b g) (hm : behindInMarks o b = false) : ST X Wx (.Compare a [o] [b] pos) (tVal (d2 op f g)) :=
  PT.imp (pt_cmpR hr ha hb hm) fun _ _ _ h => sem_op hs (sem_tval h)
theorem ct_val {e : Expr} {f : DE} (h : SE X Wx e f) (he : ∀ whole, isTrue e X.env whole = (do let v ← whole; standAt e.pos; holding [v] (truthy v)) := by intro _; rfl) : ST X Wx e (tVal f) :=
  PT.imp (pt_val h he) fun _ _ _ h => sem_tval h

/-! ### and, or, not -/
theorem ct_not {a : Expr} {pos : Pos} {f : DT} (h : ST X Wx a f) : ST X Wx (.UnaryOp .Not a pos) (tNot f) := by
  refine PT.imp (pt_not h) fun σV H Q h => ?_
  obtain ⟨F, I, ρ, σ, S, rb, h⟩ := h
  exact ⟨F, I, ρ, σ, S, rb, post_bind h fun I1 ρ1 σ1 S1 H1 x v1 _ g1 rb1 t1 h1 => h1 I1 ρ1 H1 _ Gr.refl rb1 (by rw [t1])⟩
theorem cw_and1 {a : Expr} {pos : Pos} {f : DT} (h : ST X Wx a f) : SW X Wx (.BoolOp .And [a] pos) f := pw_and1 h
theorem cw_or1 {a : Expr} {pos : Pos} {f : DT} (h : ST X Wx a f) : SW X Wx (.BoolOp .Or [a] pos) f := pw_or1 h
theorem cw_and {a b : Expr} {rest : List Expr} {pos : Pos} {f g : DT} (h : ST X Wx a f) (k : SW X Wx (.BoolOp .And (b :: rest) pos) g) : SW X Wx (.BoolOp .And (a :: b :: rest) pos) (tAnd f g) := by
  refine PW.imp (pw_and h k) fun σV H Q h => ?_
  obtain ⟨F, I, ρ, σ, S, rb, h⟩ := h
  refine ⟨F, I, ρ, σ, S, rb, post_bind h fun I1 ρ1 σ1 S1 H1 x v1 _ g1 rb1 t1 h1 => ?_⟩
  subst t1
  cases v1 with
  | true => exact ⟨F, I1, ρ1, σ1, S1, rb1, h1⟩
  | false => exact h1 I1 ρ1 H1 _ Gr.refl rb1 rfl
theorem cw_or {a b : Expr} {rest : List Expr} {pos : Pos} {f g : DT} (h : ST X Wx a f) (k : SW X Wx (.BoolOp .Or (b :: rest) pos) g) : SW X Wx (.BoolOp .Or (a :: b :: rest) pos) (tOr f g) := by
  refine PW.imp (pw_or h k) fun σV H Q h => ?_
  obtain ⟨F, I, ρ, σ, S, rb, h⟩ := h
  refine ⟨F, I, ρ, σ, S, rb, post_bind h fun I1 ρ1 σ1 S1 H1 x v1 _ g1 rb1 t1 h1 => ?_⟩
  subst t1
  cases v1 with
  | true => exact h1 I1 ρ1 H1 _ Gr.refl rb1 rfl
  | false => exact ⟨F, I1, ρ1, σ1, S1, rb1, h1⟩
/-- .. as values -/
theorem sem_vbl {f : DE} {g : Bool → DE} {σV : L2.St} {H : Hp} {Q : VK} (h : semE X.K Wx (fun σ S => (tVal f σ S).bind fun b σ S => g b σ S) σV H Q) : semE X.K Wx f σV H fun x H1 => ∃ c, x = .bl c ∧ semE X.K Wx (g c) σV H1 Q := by
  obtain ⟨F, I, ρ, σ, S, rb, h⟩ := h
  refine ⟨F, I, ρ, σ, S, rb, ?_⟩
  have h2 : postR X.K Wx (TRep X.K) F I ρ σV ((f σ S).bind fun x σ S => ((match x with
    | .bl b => Res.ok b σ S
    | _ => .fail) : Res Bool).bind fun b σ S => g b σ S) Q := by
    unfold tVal at h
    dsimp only at h
    cases e : f σ S with
    | ok a σ' S' => rw [e] at h; exact h
    | exc a σ' S' => rw [e] at h; exact h
    | fail => rw [e] at h; exact h
  refine post_bind h2 fun I1 ρ1 σ1 S1 H1 x v1 _ g1 rb1 t1 h1 => ?_
  rcases t1 with ⟨i, rfl, _⟩ | t1
  · exact h1.elim
  · cases t1 with
    | bl => exact ⟨_, rfl, F, I1, ρ1, σ1, S1, rb1, h1⟩
    | _ => exact h1.elim
def vAnd (f g : DE) : DE := fun σ S => (tVal f σ S).bind fun b σ S => (if b = true then g else dC (.bl false)) σ S
def vOr (f g : DE) : DE := fun σ S => (tVal f σ S).bind fun b σ S => (if b = true then dC (.bl true) else g) σ S
def vNot (f : DE) : DE := fun σ S => (tVal f σ S).bind fun b σ S => (dC (.bl (!b))) σ S
theorem c_one {a : Expr} {op : BoolOp} {pos : Pos} {f : DE} (h : SE X Wx a f) : SE X Wx (.BoolOp op [a] pos) f := pe_one h
theorem c_and {a b : Expr} {rest : List Expr} {pos : Pos} {f g : DE} (h : SE X Wx a f) (k : SE X Wx (.BoolOp .And (b :: rest) pos) g) : SE X Wx (.BoolOp .And (a :: b :: rest) pos) (vAnd f g) := by
  refine PE.imp (pe_and h k) fun σV H Q h => ?_
  obtain ⟨F, I, ρ, σ, S, rb, h⟩ := sem_vbl (g := fun b => if b = true then g else dC (.bl false)) h
  refine ⟨F, I, ρ, σ, S, rb, ?_⟩
  cases e : f σ S with
  | ok a σ' S' =>
    rw [e] at h
    intro I' ρ' H' v gr rb' t
    obtain ⟨c, rfl, q⟩ := h I' ρ' H' v gr rb' t
    refine ⟨c, rfl, ?_⟩
    cases c with
    | true => exact q
    | false => exact sem_c (fun _ _ _ => .bl) q
  | exc a σ' S' => rw [e] at h; exact h
  | fail => rw [e] at h; exact h
theorem c_or {a b : Expr} {rest : List Expr} {pos : Pos} {f g : DE} (h : SE X Wx a f) (k : SE X Wx (.BoolOp .Or (b :: rest) pos) g) : SE X Wx (.BoolOp .Or (a :: b :: rest) pos) (vOr f g) := by
  refine PE.imp (pe_or h k) fun σV H Q h => ?_
  obtain ⟨F, I, ρ, σ, S, rb, h⟩ := sem_vbl (g := fun b => if b = true then dC (.bl true) else g) h
  refine ⟨F, I, ρ, σ, S, rb, ?_⟩
  cases e : f σ S with
  | ok a σ' S' =>
    rw [e] at h
    intro I' ρ' H' v gr rb' t
    obtain ⟨c, rfl, q⟩ := h I' ρ' H' v gr rb' t
    refine ⟨c, rfl, ?_⟩
    cases c with
    | true => exact sem_c (fun _ _ _ => .bl) q
    | false => exact q
  | exc a σ' S' => rw [e] at h; exact h
  | fail => rw [e] at h; exact h
theorem c_not {a : Expr} {pos : Pos} {f : DE} (h : SE X Wx a f) : SE X Wx (.UnaryOp .Not a pos) (vNot f) := by
  refine PE.imp (pe_not h) fun σV H Q h => ?_
  obtain ⟨F, I, ρ, σ, S, rb, h⟩ := sem_vbl (g := fun b => dC (.bl (!b))) h
  refine ⟨F, I, ρ, σ, S, rb, ?_⟩
  cases e : f σ S with
  | ok a σ' S' =>
    rw [e] at h
    intro I' ρ' H' v gr rb' t
    obtain ⟨c, rfl, q⟩ := h I' ρ' H' v gr rb' t
    exact ⟨c, rfl, sem_c (fun _ _ _ => .bl) q⟩
  | exc a σ' S' => rw [e] at h; exact h
  | fail => rw [e] at h; exact h

/-! ### arguments, displays -/
theorem ca_nil : SA X Wx [] aNil := by
  refine PA.imp pa_nil fun σV H Q h => ?_
  obtain ⟨F, I, ρ, σ, S, rb, h⟩ := h
  exact h I ρ H [] Gr.refl rb .nil
theorem ca_cons {e : Expr} {es : List Expr} {f : DE} {r : DA} (h : SE X Wx e f) (k : SA X Wx es r) (hs : starEach (e :: es) X.env = (false, eval e X.env) :: starEach es X.env := by rfl) : SA X Wx (e :: es) (aCons f r) := by
  refine PA.imp (pa_cons (c_v h) k hs) fun σV H Q h => ?_
  obtain ⟨F, I, ρ, σ, S, rb, h⟩ := h
  refine ⟨F, I, ρ, σ, S, rb, post_bind h fun I1 ρ1 σ1 S1 H1 x v1 _ g1 rb1 t1 h1 => ?_⟩
  exact ⟨F, I1, ρ1, σ1, S1, rb1, post_bind h1 fun I2 ρ2 σ2 S2 H2 y v2 _ g2 rb2 t2 h2 => h2 I2 ρ2 H2 _ Gr.refl rb2 (.cons (t1.gr g2) t2)⟩
theorem most_eq : most = sizeLine := by decide
theorem c_tup {es : List Expr} {x1} {pos : Pos} {r : DA} (h : SA X Wx es r) : SE X Wx (.Tuple es x1 pos) (dTup r) := by
  refine PE.imp (pe_tup h) fun σV H Q h => ?_
  obtain ⟨F, I, ρ, σ, S, rb, h⟩ := h
  refine ⟨F, I, ρ, σ, S, rb, post_bind h fun I1 ρ1 σ1 S1 H1 x v1 _ g1 rb1 t1 h1 => ?_⟩
  split at h1
  · rename_i hl
    refine ⟨by rw [t1.length, ← most_eq]; exact hl, fun p hp => ?_⟩
    obtain ⟨g2, rb2⟩ := rb1.new (o := .tup v1) hp
    exact h1 _ ρ1 _ _ g2 rb2 (.inr (.tup (.inl (.inl upd_same)) (t1.gr g2)))
  · exact h1.elim
theorem c_lst {es : List Expr} {pos : Pos} {r : DA} (h : SA X Wx es r) : SE X Wx (.List es pos) (dLst r) := by
  refine PE.imp (pe_lst h) fun σV H Q h => ?_
  obtain ⟨F, I, ρ, σ, S, rb, h⟩ := h
  refine ⟨F, I, ρ, σ, S, rb, post_bind h fun I1 ρ1 σ1 S1 H1 x v1 _ g1 rb1 t1 h1 => ?_⟩
  split at h1
  · rename_i hl
    refine ⟨by rw [t1.length, ← most_eq]; exact hl, fun p hp => ?_⟩
    obtain ⟨g2, rb2⟩ := rb1.new (o := .lst v1) hp
    exact h1 _ ρ1 _ _ g2 rb2 (.inr (.lst upd_same (t1.gr g2)))
  · exact h1.elim
end

/-! ### the operations -/
section
variable {K : PySem.W.Frag}
theorem ops_int0 {g : Int → Int → V} {op : D → D → Option D} (h : ∀ a b z, op a b = some z → ∃ i j, a = .int i ∧ b = .int j ∧ ∀ ρ I, Rep K ρ I (g i j) z) : OpS K (rI0 g) op := by
  intro F I ρ S H σV σ v1 v2 a b z Q rb h1 h2 ez q
  obtain ⟨i, j, rfl, rfl, r⟩ := h a b z ez
  exact ⟨i, j, h1, h2, q I H _ Gr.refl rb (r ρ I)⟩
theorem ops_int {C : Int → Int → Prop} {g : Int → Int → V} {op : D → D → Option D} (h : ∀ a b z, op a b = some z → ∃ i j, a = .int i ∧ b = .int j ∧ C i j ∧ ∀ ρ I, Rep K ρ I (g i j) z) : OpS K (rI C g) op := by
  intro F I ρ S H σV σ v1 v2 a b z Q rb h1 h2 ez q
  obtain ⟨i, j, rfl, rfl, c, r⟩ := h a b z ez
  exact ⟨i, j, h1, h2, c, q I H _ Gr.refl rb (r ρ I)⟩
theorem os_sub : OpS K (rI0 fun i j => .int (i - j)) opSub := ops_int0 fun a b z e => by
  unfold opSub at e; split at e
  · cases e; exact ⟨_, _, rfl, rfl, fun _ _ => .int⟩
  · cases e
theorem os_mod : OpS K (rI (fun _ j => 0 < j) fun i j => .int (i % j)) opMod := ops_int fun a b z e => by
  unfold opMod at e; split at e
  · split at e
    · cases e; exact ⟨_, _, rfl, rfl, by assumption, fun _ _ => .int⟩
    · cases e
  · cases e
def CDivNW (_ j : Int) : Prop := divOk j
theorem op_divNW {X : Cx} : OpR X (binaryOp .FloorDiv) (rI CDivNW fun i j => .int (i.fdiv j)) := opI fun i j _ _ _ _ _ hc q => floordiv_int hc.1 q (.inl (PyProof.noPylong_of_log2 hc.2))
theorem os_div : OpS K (rI CDivNW fun i j => .int (i.fdiv j)) opDiv := ops_int fun a b z e => by
  unfold opDiv at e; split at e
  · split at e
    · cases e; exact ⟨_, _, rfl, rfl, by assumption, fun _ _ => .int⟩
    · cases e
  · cases e
theorem os_lt : OpS K (rI0 fun i j => .bl (decide (i < j))) opLt := ops_int0 fun a b z e => by
  unfold opLt at e; split at e
  · cases e; exact ⟨_, _, rfl, rfl, fun _ _ => .bl⟩
  · cases e
theorem os_le : OpS K (rI0 fun i j => .bl (decide (i ≤ j))) opLe := ops_int0 fun a b z e => by
  unfold opLe at e; split at e
  · cases e; exact ⟨_, _, rfl, rfl, fun _ _ => .bl⟩
  · cases e
theorem os_gt : OpS K (rI0 fun i j => .bl (decide (j < i))) opGt := ops_int0 fun a b z e => by
  unfold opGt at e; split at e
  · cases e; exact ⟨_, _, rfl, rfl, fun _ _ => .bl⟩
  · cases e
theorem os_ge : OpS K (rI0 fun i j => .bl (decide (j ≤ i))) opGe := ops_int0 fun a b z e => by
  unfold opGe at e; split at e
  · cases e; exact ⟨_, _, rfl, rfl, fun _ _ => .bl⟩
  · cases e
end
end MR

set_option Elab.async false
set_option linter.all false
set_option maxRecDepth 100000
/-! MR3: statements, defs, calls. -/
namespace MR
open PySem PySem.Spec PyProof.Rows L2

/-- what a def hands back: a kept value; or (fresh) a container that nobody else holds, or a scalar -/
def scalar : D → Bool
  | .non => true | .bl _ => true | .int _ => true | .str _ => true | .tup _ => true
  | _ => false
def RetAt (fr : Bool) (K : PySem.W.Frag) (F I : Hp) (ρ : List Addr) (H : Hp) (v : V) (w : D) : Prop := match fr with
  | false => Rep K ρ I v w
  | true => (∃ a, v = .ref a ∧ F a = none ∧ I a = none ∧ a ∉ ρ ∧ OwnAt K ρ I H a w) ∨ (scalar w = true ∧ Rep K ρ I v w)
def postS (fr : Bool) (K : PySem.W.Frag) (Wx : WX) (F I : Hp) (ρ : List Addr) (r : Res Fl) (D : Ends) : Prop := match r with
  | .ok .next σ' S' => ∀ I' ρ' H' σV', Gr ρ I ρ' I' → RB K F I' ρ' S' H' σV' σ' → D.nx σV' H'
  | .ok (.ret w) _ S' => ∀ I' ρ' H' v, Gr ρ I ρ' I' → RB K F I' ρ' S' H' [] [] → RetAt fr K F I' ρ' H' v w → D.rt v H'
  | .ok .brk σ' S' => ∀ I' ρ' H' σV', Gr ρ I ρ' I' → RB K F I' ρ' S' H' σV' σ' → D.bk σV' H'
  | .ok .cnt σ' S' => ∀ I' ρ' H' σV', Gr ρ I ρ' I' → RB K F I' ρ' S' H' σV' σ' → D.ct σV' H'
  | .exc e σ' S' => ∀ I' ρ' H' d σV', Gr ρ I ρ' I' → RB K F I' ρ' S' H' σV' σ' → ExcAt e d H' → Wx (.ref (ca K e.c)) d σV' H'
  | .fail => False
def semS (fr : Bool) (K : PySem.W.Frag) (Wx : WX) (f : DS) : TS := fun D σV H => ∃ F I ρ σ S, RB K F I ρ S H σV σ ∧ postS fr K Wx F I ρ (f σ S) D
abbrev SS (fr : Bool) (X : Cx) (Wx : WX) (st : Stmt) (f : DS) : Prop := PS X st (semS fr X.K Wx f)
abbrev SSs (fr : Bool) (X : Cx) (Wx : WX) (st : List Stmt) (f : DS) : Prop := PSs X st (semS fr X.K Wx f)

section
variable {fr : Bool} {K : PySem.W.Frag} {Wx : WX} {F I : Hp} {ρ : List Addr} {σV : L2.St} {H : Hp}
theorem postS_gr {r : Res Fl} {D : Ends} {I1 : Hp} {ρ1 : List Addr} (g : Gr ρ I ρ1 I1) (h : postS fr K Wx F I ρ r D) : postS fr K Wx F I1 ρ1 r D := by
  cases r with
  | ok a σ S =>
    cases a with
    | next => exact fun I' ρ' H' b g' => h I' ρ' H' b (g.trans g')
    | ret w => exact fun I' ρ' H' b g' => h I' ρ' H' b (g.trans g')
    | brk => exact fun I' ρ' H' b g' => h I' ρ' H' b (g.trans g')
    | cnt => exact fun I' ρ' H' b g' => h I' ρ' H' b (g.trans g')
  | exc e σ S => exact fun I' ρ' H' d s g' => h I' ρ' H' d s (g.trans g')
  | fail => exact h
theorem postS_bind {α β : Type} {T : List Addr → Hp → L2.St → β → α → Prop} {r : Res α} {k : α → Sl → Sto → Res Fl} {D : Ends} {Q1 : β → Hp → Prop}
    (h : postS fr K Wx F I ρ (r.bind k) D)
    (q : ∀ I1 ρ1 σ1 S1 H1 a b, r = .ok a σ1 S1 → Gr ρ I ρ1 I1 → RB K F I1 ρ1 S1 H1 σV σ1 → T ρ1 I1 σV b a → postS fr K Wx F I1 ρ1 (k a σ1 S1) D → Q1 b H1) : postR K Wx T F I ρ σV r Q1 := by
  cases r with
  | ok a σ S => exact fun I' ρ' H' b g rb t => q I' ρ' σ S H' a b rfl g rb t (postS_gr g h)
  | exc e σ S => exact fun I' ρ' H' d => h I' ρ' H' d σV
  | fail => exact h
theorem RB.drop {S : Sto} {σ : Sl} (rb : RB K F I ρ S H σV σ) : RB K F I ρ S H [] [] := ⟨rb.fr, rb.sub, rb.dis, rb.store, rb.nd, rb.rl, rfl, fun i s h => by simp at h, fun i j c c' v h => by simp at h⟩
end

section
variable {fr : Bool} {X : Cx} {Wx : WX}
theorem cs_nil : SSs fr X Wx [] sNil := by
  refine PSs.imp pss_nil fun D σV H h => ?_
  obtain ⟨F, I, ρ, σ, S, rb, h⟩ := h
  exact h I ρ H σV Gr.refl rb
theorem sem_seq {f g : DS} {D : Ends} {σV : L2.St} {H : Hp} (h : semS fr X.K Wx (sSeq f g) D σV H) : tSeq (semS fr X.K Wx f) (semS fr X.K Wx g) D σV H := by
  obtain ⟨F, I, ρ, σ, S, rb, h⟩ := h
  refine ⟨F, I, ρ, σ, S, rb, ?_⟩
  unfold sSeq at h
  cases e : f σ S with
  | ok a σ' S' =>
    rw [e] at h
    cases a with
    | next => exact fun I' ρ' H' σV' g' rb' => ⟨F, I', ρ', σ', S', rb', postS_gr g' h⟩
    | ret w => exact h
    | brk => exact h
    | cnt => exact h
  | exc a σ' S' => rw [e] at h; exact h
  | fail => rw [e] at h; exact h
theorem cs_cons {st : Stmt} {rest : List Stmt} {f g : DS} (h : SS fr X Wx st f) (k : SSs fr X Wx rest g) : SSs fr X Wx (st :: rest) (sSeq f g) := PSs.imp (pss_cons h k) fun _ _ _ h => sem_seq h
theorem cs_one {st : Stmt} {f : DS} (h : SS fr X Wx st f) : SSs fr X Wx [st] f := pss_one h
theorem cs_ret {e : Expr} {pos : Pos} {f : DE} (h : SE X Wx e f) : SS false X Wx (.Return (some e) pos) (sRet f) := by
  refine PS.imp (ps_ret (c_v h)) fun D σV H h => ?_
  obtain ⟨F, I, ρ, σ, S, rb, h⟩ := h
  exact ⟨F, I, ρ, σ, S, rb, postS_bind h fun I1 ρ1 σ1 S1 H1 x v1 _ g1 rb1 t1 h1 => h1 I1 ρ1 H1 v1 Gr.refl rb1.drop t1⟩
theorem cs_set {i : Nat} {x : Str} {e : Expr} {f : DE} {pos pos' : Pos} (hN : X.N.Nodup) (h : SE X Wx e f) (hi : X.N[i]? = some x := by rfl) (hx : Loc X.env.scope x := by first | exact Or.inl rfl | exact Or.inr rfl)
    (hs : swapsWith e (some (.Name x pos')) pos.line X.env = pure false := by rfl) (hf : X.fn x = true ∨ X.env.scope.names.lookup x = some .local := by first | exact .inl rfl | exact .inr rfl | assumption) : SS fr X Wx (.Assign [.Name x pos'] e pos) (sSet i f) := by
  refine PS.imp (ps_set hN hi hx (c_v h) hs hf) fun D σV H h => ?_
  obtain ⟨F, I, ρ, σ, S, rb, h⟩ := h
  exact ⟨F, I, ρ, σ, S, rb, postS_bind h fun I1 ρ1 σ1 S1 H1 x v1 _ g1 rb1 t1 h1 => h1 I1 ρ1 H1 _ Gr.refl (rb1.setV t1)⟩
theorem cs_expr {e : Expr} {f : DE} {pos : Pos} (h : SE X Wx e f) (hs : swapsWith e none pos.line X.env = pure false := by rfl) : SS fr X Wx (.Expr e pos) (sExpr f) := by
  refine PS.imp (ps_expr h hs) fun D σV H h => ?_
  obtain ⟨F, I, ρ, σ, S, rb, h⟩ := h
  exact ⟨F, I, ρ, σ, S, rb, postS_bind h fun I1 ρ1 σ1 S1 H1 x v1 _ g1 rb1 t1 h1 => h1 I1 ρ1 H1 _ Gr.refl rb1⟩
theorem cs_if {c : Expr} {a b : List Stmt} {pos : Pos} {t : DT} {f g : DS} (hc : ST X Wx c t) (ha : SSs fr X Wx a f) (hb : SSs fr X Wx b g) : SS fr X Wx (.If c a b pos) (sIf t f g) := by
  refine PS.imp (ps_if hc ha hb) fun D σV H h => ?_
  obtain ⟨F, I, ρ, σ, S, rb, h⟩ := h
  refine ⟨F, I, ρ, σ, S, rb, postS_bind h fun I1 ρ1 σ1 S1 H1 x v1 _ g1 rb1 t1 h1 => ?_⟩
  subst t1
  cases v1 with
  | true => exact ⟨F, I1, ρ1, σ1, S1, rb1, h1⟩
  | false => exact ⟨F, I1, ρ1, σ1, S1, rb1, h1⟩
theorem cs_par {i j : Nat} {x y : Str} {a b : Expr} {r : DA} {px py pt pos : Pos} {kt k2 pt2} (hN : X.N.Nodup) (h : SA X Wx [a, b] r) (hc : X.calm = true := by rfl) (hi : X.N[i]? = some x := by rfl) (hj : X.N[j]? = some y := by rfl) (hij : i ≠ j := by decide)
    (hx : X.env.scope.names.lookup x = some .local := by rfl) (hy : X.env.scope.names.lookup y = some .local := by rfl) (hs : swappedStores [Expr.Tuple [Expr.Name x px, Expr.Name y py] kt pt] (Expr.Tuple [a, b] k2 pt2) X.env = pure (some [x, y]) := by rfl) :
    SS fr X Wx (.Assign [.Tuple [.Name x px, .Name y py] kt pt] (.Tuple [a, b] k2 pt2) pos) (sPar i j r) := by
  refine PS.imp (ps_par hc hN hi hj hij hx hy h hs) fun D σV H h => ?_
  obtain ⟨F, I, ρ, σ, S, rb, h⟩ := h
  refine ⟨F, I, ρ, σ, S, rb, postS_bind h fun I1 ρ1 σ1 S1 H1 ws vs _ g1 rb1 t1 h1 => ?_⟩
  cases t1 with
  | nil => exact h1.elim
  | cons q1 t1 => cases t1 with
    | nil => exact h1.elim
    | cons q2 t1 => cases t1 with
      | nil => exact ⟨_, _, rfl, h1 I1 ρ1 H1 _ Gr.refl ((rb1.setV q1).setV q2)⟩
      | cons q3 t1 => exact h1.elim

/-! ### while -/
theorem cs_while {c : Expr} {body : List Stmt} {pos : Pos} {t : DT} {f : DS} (n : Nat) (hp : PassesOwn (model X.prog X.w) X.A X.env X.xe) (hc : ST X Wx c t) (hb : SSs fr X Wx body f) : SS fr X Wx (.While c body [] pos) (sWhile t f n) := by
  refine PS.imp (ps_while hp hc hb) fun D σV H h => ?_
  obtain ⟨F, I, ρ, σ, S, rb, h⟩ := h
  refine ⟨fun m σV H => ∃ I' ρ' σ S, Gr ρ I ρ' I' ∧ RB X.K F I' ρ' S H σV σ ∧ postS fr X.K Wx F I' ρ' (sWhile t f m σ S) D, ⟨n, I, ρ, σ, S, Gr.refl, rb, h⟩, ?_⟩
  intro m σV' H' ⟨I1, ρ1, σ1, S1, g1, rb1, h1⟩
  cases m with
  | zero => exact h1.elim
  | succ m =>
    refine ⟨F, I1, ρ1, σ1, S1, rb1, postS_bind h1 fun I2 ρ2 σ2 S2 H2 x v1 _ g2 rb2 t2 h2 => ?_⟩
    subst t2
    cases v1 with
    | false => exact h2 I2 ρ2 H2 _ Gr.refl rb2
    | true =>
      refine ⟨fun σV2 H2 => ∃ I' ρ' σ S, Gr ρ I ρ' I' ∧ RB X.K F I' ρ' S H2 σV2 σ ∧ postS fr X.K Wx F I' ρ' (sWhile t f m σ S) D, fun σ' H' q => ⟨m, Nat.lt_succ_self m, q⟩, F, I2, ρ2, σ2, S2, rb2, ?_⟩
      have h2' : postS fr X.K Wx F I2 ρ2 ((f σ2 S2).bind fun x σ S => (match x with
        | .next => sWhile t f m σ S
        | .cnt => sWhile t f m σ S
        | .brk => .ok .next σ S
        | .ret w => .ok (.ret w) σ S)) D := h2
      cases e : f σ2 S2 with
      | ok a σ3 S3 =>
        rw [e] at h2'
        cases a with
        | next => exact fun I' ρ' H' σV' g' rb' => ⟨I', ρ', σ3, S3, (g1.trans g2).trans g', rb', postS_gr g' h2'⟩
        | cnt => exact fun I' ρ' H' σV' g' rb' => ⟨I', ρ', σ3, S3, (g1.trans g2).trans g', rb', postS_gr g' h2'⟩
        | brk => exact h2'
        | ret w => exact h2'
      | exc a σ' S' => rw [e] at h2'; exact h2'
      | fail => rw [e] at h2'; exact h2'
end

/-! ### defs -/
def postD (fr : Bool) (K : PySem.W.Frag) (F I : Hp) (ρ : List Addr) (r : Out) (Q : VK) (E : XK) : Prop := match r with
  | .ok w S' => ∀ I' ρ' H' v, Gr ρ I ρ' I' → RB K F I' ρ' S' H' [] [] → RetAt fr K F I' ρ' H' v w → Q v H'
  | .exc e S' => ∀ I' ρ' H' d, Gr ρ I ρ' I' → RB K F I' ρ' S' H' [] [] → ExcAt e d H' → E (.ref (ca K e.c)) d H'
  | .fail => False
/-- a def's promise: as its denotation says -/
def spD (fr : Bool) (K : PySem.W.Frag) (n : Nat) (d : Den) : Sp := fun vs H Q E => vs.length = n ∧ ∃ F I ρ S ws, RB K F I ρ S H [] [] ∧ Reps K ρ I vs ws ∧ postD fr K F I ρ (d ws S) Q E
theorem RB.start {K : PySem.W.Frag} {F I : Hp} {ρ : List Addr} {S : Sto} {H : Hp} {vs : List V} {ws : List D} (rb : RB K F I ρ S H [] []) (r : Reps K ρ I vs ws) (N : List Str) : RB K F I ρ S H (start N vs) (ws.map Slot.val ++ List.replicate (N.length - ws.length) .emp) := by
  have no : ∀ {i : Nat} {c : D}, ¬ (ws.map Slot.val ++ List.replicate (N.length - ws.length) Slot.emp)[i]? = some (Slot.own c) := fun {i c} h => by
    have hm := List.mem_of_getElem? h
    rcases List.mem_append.mp hm with hm | hm
    · obtain ⟨w, _, e⟩ := List.mem_map.mp hm
      cases e
    · have := List.eq_of_mem_replicate hm
      cases this
  refine ⟨rb.fr, rb.sub, rb.dis, rb.store, rb.nd, rb.rl, ?_, fun i s h => ?_, fun i j c c' v h => absurd h no⟩
  · unfold L2.start
    simp only [List.length_append, List.length_map, List.length_replicate, r.length]
  · cases s with
    | emp => trivial
    | own c => exact absurd h no
    | val w =>
      by_cases hi : i < ws.length
      · rw [List.getElem?_append_left (by rw [List.length_map]; exact hi), List.getElem?_map] at h
        obtain ⟨w', hw, e⟩ := Option.map_eq_some_iff.mp h
        cases e
        obtain ⟨v, hv, rv⟩ := r.get hw
        refine ⟨v, ?_, rv⟩
        unfold L2.start
        rw [List.getElem?_append_left (by rw [List.length_map, r.length]; exact hi), List.getElem?_map, hv]
        rfl
      · rw [List.getElem?_append_right (by rw [List.length_map]; omega)] at h
        have := List.eq_of_mem_replicate (List.mem_of_getElem? h)
        cases this
/-- THE RULE for a def -/
theorem def_ok {fr : Bool} {P : Program} {w : World} {K : PySem.W.Frag} {mg : Str → Option Value} {base : Heap} {x qual : Str} {params : Arguments} {body : List Stmt} {scope : Scope} {f : Addr} {fd : FuncData} {N ps : List Str} {k n : Nat} {d : DS}
    (F : FunD K x qual params body scope [] [] f fd) (S : FnScope N ps scope) (hn : N.length = n)
    (hb : ∀ (cdv : Value) (A : Around) (outer : List Env) (s : Shared) (H : Hp) (E : XK), Room k (A.deeper (envOfC qual scope s.heap.objs.size f cdv)) →
      SSs fr (cxOf (L2.CX P w) P w K mg base N qual scope f cdv A outer s H E) (fun cls d _ H => E cls d H) body d) :
    FnOk P w K mg base (L2.CX P w) (k + 1) f fd ps (spD fr K ps.length (dDef n d)) := by
  refine F.ok S (fun vs H Q E h => h.1) fun cdv A outer s H vs Q E hr h => ?_
  obtain ⟨hl, F0, I, ρ, S0, ws, rb, r, h⟩ := h
  refine ⟨_, hb cdv A outer s H E hr, F0, I, ρ, _, S0, rb.start r N, ?_⟩
  unfold dDef at h
  rw [hn]
  cases e : d (ws.map Slot.val ++ List.replicate (n - ws.length) .emp) S0 with
  | ok a σ' S' =>
    rw [e] at h
    cases a with
    | next =>
      intro I' ρ' H' σV' g rb'
      cases fr with
      | false => exact h I' ρ' H' .non g rb'.drop .non
      | true => exact h I' ρ' H' .non g rb'.drop (.inr ⟨rfl, .non⟩)
    | ret w => exact h
    | brk => exact h.elim
    | cnt => exact h.elim
  | exc a σ' S' =>
    rw [e] at h
    exact fun I' ρ' H' d σV' g rb' he => h I' ρ' H' d g rb'.drop he
  | fail => rw [e] at h; exact h

/-- a def of the module as callers take it -/
structure Fn (fr : Bool) (P : Program) (w : World) (K : PySem.W.Frag) (mg : Str → Option Value) (base : Heap) (x : Str) (k n : Nat) (d : Den) : Prop where
  ex : ∃ (f : Addr) (fd : FuncData) (ps : List Str), mg x = some (.ref f) ∧ PySem.W.keepIn K (.ref f) = true ∧ Binds K fd ps [] ∧ ps.length = n ∧ FnOk P w K mg base (L2.CX P w) k f fd ps (spD fr K n d)

section
variable {fr : Bool} {X : Cx} {Wx : WX}
open Classical in
/-- what a callee must leave as it is: the frame's wish, and what the slots own -/
noncomputable def fr1 (F H : Hp) (σV : L2.St) (σ : Sl) : Hp := fun a => if ∃ (i : Nat) (c : D), σ[i]? = some (.own c) ∧ σV[i]? = some (some (.ref a)) then H a else F a
theorem RB.callee {K : PySem.W.Frag} {F I : Hp} {ρ : List Addr} {S : Sto} {H : Hp} {σV : L2.St} {σ : Sl} (rb : RB K F I ρ S H σV σ) : RB K (fr1 F H σV σ) I ρ S H [] [] := by
  refine ⟨fun a o h => ?_, rb.sub, fun a o h => ?_, fun r o h => ?_, rb.nd, rb.rl, rfl, fun i s h => by simp at h, fun i j c c' v h => by simp at h⟩
  · unfold fr1 at h
    split at h
    · exact h
    · exact rb.fr a o h
  · unfold fr1 at h
    split at h
    · rename_i q
      obtain ⟨i, c, h1, h2⟩ := q
      obtain ⟨b, hb, _, hib, _⟩ := rb.slot i _ h1
      rw [h2] at hb
      cases hb
      exact hib
    · exact rb.dis a o h
  · obtain ⟨a, ha, hf, hi, hc⟩ := rb.store r o h
    refine ⟨a, ha, ?_, hi, hc⟩
    unfold fr1
    split
    · rename_i q
      obtain ⟨i, c, h1, h2⟩ := q
      obtain ⟨b, hb, _, _, nb, _⟩ := rb.slot i _ h1
      rw [h2] at hb
      cases hb
      exact absurd (List.mem_of_getElem? ha) nb
    · exact hf
theorem RB.back {K : PySem.W.Frag} {F I I' : Hp} {ρ ρ' : List Addr} {S S' : Sto} {H H' : Hp} {σV : L2.St} {σ : Sl} (rb : RB K F I ρ S H σV σ) (g : Gr ρ I ρ' I') (rb' : RB K (fr1 F H σV σ) I' ρ' S' H' [] []) : RB K F I' ρ' S' H' σV σ := by
  have own1 : ∀ {i : Nat} {c : D} {a : Addr}, σ[i]? = some (.own c) → σV[i]? = some (some (.ref a)) → fr1 F H σV σ a = H a := fun {i c a} h1 h2 => by
    unfold fr1
    rw [if_pos ⟨i, c, h1, h2⟩]
  have oth : ∀ {a : Addr} {o : HO}, F a = some o → fr1 F H σV σ a = some o := fun {a o} h => by
    unfold fr1
    split
    · exact rb.fr a o h
    · exact h
  have Fn : ∀ {a : Addr}, fr1 F H σV σ a = none → F a = none := fun {a} h => by
    cases e : F a with
    | none => rfl
    | some o =>
      rw [oth e] at h
      cases h
  refine ⟨fun a o h => rb'.fr a o (oth h), rb'.sub, fun a o h => rb'.dis a o (oth h), fun r o h => ?_, rb'.nd, rb'.rl, rb.len, fun i s h => ?_, rb.inj⟩
  · obtain ⟨a, ha, hf, hi, hc⟩ := rb'.store r o h
    exact ⟨a, ha, Fn hf, hi, hc⟩
  · have q := rb.slot i s h
    cases s with
    | emp => trivial
    | val w => obtain ⟨v, hv, r⟩ := q; exact ⟨v, hv, r.gr g⟩
    | own c =>
      obtain ⟨a, ha, hf, hi, hr, ho⟩ := q
      obtain ⟨o, hao⟩ := ho.there
      have fa : fr1 F H σV σ a = some o := (own1 h ha).trans hao
      have keep : H' a = some o := rb'.fr a o fa
      refine ⟨a, ha, hf, ?_, ?_, ho.gr g fun u hu => ?_⟩
      · exact rb'.dis a o fa
      · intro hm
        obtain ⟨r, hr'⟩ := List.getElem?_of_mem hm
        have lt : r < S'.length := by rw [← rb'.rl]; exact (List.getElem?_eq_some_iff.mp hr').1
        obtain ⟨b, hb, hfb, _⟩ := rb'.store r _ (List.getElem?_eq_getElem lt)
        rw [hr'] at hb
        cases hb
        rw [fa] at hfb
        cases hfb
      · rw [hao] at hu
        cases hu
        exact keep
end
end MR

set_option Elab.async false
set_option linter.all false
set_option maxRecDepth 100000
/-! MR4: calls, fresh containers, containers that are changed. -/
namespace MR
open PySem PySem.Spec PyProof.Rows L2

section
variable {K : PySem.W.Frag} {F I : Hp} {ρ : List Addr} {S : Sto} {H : Hp} {σV : L2.St} {σ : Sl}
/-- no slot owns what stands at a -/
def NoOwn (σV : L2.St) (σ : Sl) (a : Addr) : Prop := ∀ (i : Nat) (c : D), σ[i]? = some (.own c) → σV[i]? ≠ some (some (.ref a))
/-- a container at a that nobody else holds -/
structure Fresh (K : PySem.W.Frag) (F I : Hp) (ρ : List Addr) (H : Hp) (σV : L2.St) (σ : Sl) (a : Addr) (c : D) : Prop where
  nf : F a = none
  ni : I a = none
  nr : a ∉ ρ
  no : NoOwn σV σ a
  own : OwnAt K ρ I H a c
theorem fr1_none {a : Addr} (h : fr1 F H σV σ a = none) (hH : ∃ o, H a = some o) : F a = none ∧ NoOwn σV σ a := by
  have no : NoOwn σV σ a := fun i c h1 h2 => by
    unfold fr1 at h
    rw [if_pos ⟨i, c, h1, h2⟩] at h
    obtain ⟨o, e⟩ := hH
    rw [e] at h
    cases h
  refine ⟨?_, no⟩
  unfold fr1 at h
  rw [if_neg (fun ⟨i, c, h1, h2⟩ => no i c h1 h2)] at h
  exact h
/-- it is frozen -/
theorem RB.frzA (rb : RB K F I ρ S H σV σ) {a : Addr} {c : D} (f : Fresh K F I ρ H σV σ a c) : ∃ I', Gr ρ I ρ I' ∧ RB K F I' ρ S H σV σ ∧ Rep K ρ I' (.ref a) c := by
  obtain ⟨hf, hi, hr, no, ho⟩ := f
  obtain ⟨o, hao⟩ := ho.there
  have g : Gr ρ I ρ (upd I a o) := ⟨fun b u h => by rw [upd_ne (ne_of_none h hi)]; exact h, fun _ _ h => h⟩
  have rep : Rep K ρ (upd I a o) (.ref a) c := by
    cases c with
    | lst ws =>
      obtain ⟨vs, h, r⟩ := ho
      rw [hao] at h; cases h
      exact .lst upd_same (r.gr g)
    | dK kws =>
      obtain ⟨kvs, h, e, r⟩ := ho
      rw [hao] at h; cases h
      exact .dK upd_same e (r.gr g)
    | dT kws =>
      obtain ⟨kvs, h, e, r⟩ := ho
      rw [hao] at h; cases h
      exact .dT upd_same e (r.gr g)
    | _ => exact ho.elim
  refine ⟨upd I a o, g, ⟨rb.fr, fun b u h => ?_, fun b u h => ?_, fun r ob h => ?_, rb.nd, rb.rl, rb.len, fun j s h => ?_, rb.inj⟩, rep⟩
  · by_cases e : b = a
    · subst e
      rw [upd_same] at h
      exact .inl (hao.trans h)
    · rw [upd_ne e] at h
      exact rb.sub b u h
  · rw [upd_ne (ne_of_none h hf)]
    exact rb.dis b u h
  · obtain ⟨b, hb, hfb, hib, hcb⟩ := rb.store r ob h
    have n : b ≠ a := fun e => hr (e ▸ List.mem_of_getElem? hb)
    exact ⟨b, hb, hfb, by rw [upd_ne n]; exact hib, hcb.gr g fun _ z => z⟩
  · have q := rb.slot j s h
    cases s with
    | emp => trivial
    | val w => obtain ⟨v, hv, r⟩ := q; exact ⟨v, hv, r.gr g⟩
    | own c' =>
      obtain ⟨b, hb, hfb, hib, hrb, hob⟩ := q
      have n : b ≠ a := fun z => no j c' h (z ▸ hb)
      exact ⟨b, hb, hfb, by rw [upd_ne n]; exact hib, hrb, hob.gr g fun _ z => z⟩
/-- a slot takes it -/
theorem RB.setO (rb : RB K F I ρ S H σV σ) {i : Nat} {a : Addr} {c : D} (f : Fresh K F I ρ H σV σ a c) : RB K F I ρ S H (σV.set i (some (.ref a))) (σ.set i (.own c)) := by
  refine ⟨rb.fr, rb.sub, rb.dis, rb.store, rb.nd, rb.rl, by rw [List.length_set, List.length_set]; exact rb.len, fun j s h => ?_, fun j k c1 c2 u h1 h2 h3 h4 => ?_⟩
  · by_cases e : i = j
    · subst e
      have lt : i < (σ.set i (.own c)).length := (List.getElem?_eq_some_iff.mp h).1
      rw [List.length_set] at lt
      rw [List.getElem?_set_self lt] at h
      cases h
      exact ⟨a, List.getElem?_set_self (by rw [← rb.len]; exact lt), f.nf, f.ni, f.nr, f.own⟩
    · rw [List.getElem?_set_ne e] at h
      have q := rb.slot j s h
      cases s with
      | emp => trivial
      | val w => obtain ⟨v, hv, r⟩ := q; exact ⟨v, by rw [List.getElem?_set_ne e]; exact hv, r⟩
      | own c => obtain ⟨a, ha, q⟩ := q; exact ⟨a, by rw [List.getElem?_set_ne e]; exact ha, q⟩
  · have at_i : ∀ {c1 : D} {u : V}, (σV.set i (some (.ref a)))[i]? = some (some u) → u = .ref a := fun {c1 u} h => by
      have lt : i < (σV.set i (some (.ref a))).length := (List.getElem?_eq_some_iff.mp h).1
      rw [List.length_set] at lt
      rw [List.getElem?_set_self lt] at h
      cases h
      rfl
    by_cases e1 : i = j
    · by_cases e2 : i = k
      · exact e1.symm.trans e2
      · subst e1
        have := at_i (c1 := c1) h3
        subst this
        rw [List.getElem?_set_ne e2] at h2 h4
        exact absurd h4 (f.no k c2 h2)
    · rw [List.getElem?_set_ne e1] at h1 h3
      by_cases e2 : i = k
      · subst e2
        have := at_i (c1 := c1) h4
        subst this
        exact absurd h3 (f.no j c1 h1)
      · rw [List.getElem?_set_ne e2] at h2 h4
        exact rb.inj j k c1 c2 u h1 h2 h3 h4
/-- a new container, fresh -/
theorem RB.newO (rb : RB K F I ρ S H σV σ) {p : Addr} {o : HO} (hp : H p = none) : RB K F I ρ S (upd H p o) σV σ ∧ F p = none ∧ I p = none ∧ p ∉ ρ ∧ NoOwn σV σ p := by
  have ip := rb.sub.none_of hp
  have k : ∀ b u, H b = some u → upd H p o b = some u := fun b u h => by rw [upd_ne (ne_of_none h hp)]; exact h
  refine ⟨⟨fun a u h => k a u (rb.fr a u h), fun a u h => ?_, rb.dis, fun r c h => ?_, rb.nd, rb.rl, rb.len, fun i s h => ?_, rb.inj⟩, ?_, ip, rb.nρ hp, fun i c h1 h2 => ?_⟩
  · rcases rb.sub a u h with q | ⟨d, ob, q⟩
    · exact .inl (k _ _ q)
    · exact .inr ⟨d, ob, k _ _ q⟩
  · obtain ⟨a, ha, hf, hi, hc⟩ := rb.store r c h
    exact ⟨a, ha, hf, hi, hc.gr Gr.refl (k a)⟩
  · have q := rb.slot i s h
    cases s with
    | emp => trivial
    | val w => exact q
    | own c => obtain ⟨a, ha, hf, hi, hr, ho⟩ := q; exact ⟨a, ha, hf, hi, hr, ho.gr Gr.refl (k a)⟩
  · cases e : F p with
    | none => rfl
    | some u =>
      have := rb.fr p u e
      rw [hp] at this
      cases this
  · obtain ⟨a, ha, _, _, _, ho⟩ := rb.slot i _ h1
    rw [h2] at ha
    cases ha
    obtain ⟨u, hu⟩ := ho.there
    rw [hp] at hu
    cases hu
end

/-! ### fresh results -/
def postF (K : PySem.W.Frag) (Wx : WX) (F I : Hp) (ρ : List Addr) (σV : L2.St) (r : Res D) (Q : VK) : Prop := match r with
  | .ok w σ' S' => ∀ I' ρ' H' v, Gr ρ I ρ' I' → RB K F I' ρ' S' H' σV σ' → ((∃ a, v = .ref a ∧ Fresh K F I' ρ' H' σV σ' a w) ∨ (scalar w = true ∧ Rep K ρ' I' v w)) → Q v H'
  | .exc e σ' S' => ∀ I' ρ' H' d, Gr ρ I ρ' I' → RB K F I' ρ' S' H' σV σ' → ExcAt e d H' → Wx (.ref (ca K e.c)) d σV H'
  | .fail => False
def semF (K : PySem.W.Frag) (Wx : WX) (f : DE) : TE := fun σV H Q => ∃ F I ρ σ S, RB K F I ρ S H σV σ ∧ postF K Wx F I ρ σV (f σ S) Q
abbrev SF (X : Cx) (Wx : WX) (e : Expr) (f : DE) : Prop := PE X e (semF X.K Wx f)
section
variable {fr : Bool} {X : Cx} {Wx : WX}
theorem postF_gr {K : PySem.W.Frag} {F I : Hp} {ρ : List Addr} {σV : L2.St} {r : Res D} {Q : VK} {I1 : Hp} {ρ1 : List Addr} (g : Gr ρ I ρ1 I1) (h : postF K Wx F I ρ σV r Q) : postF K Wx F I1 ρ1 σV r Q := by
  cases r with
  | ok a σ S => exact fun I' ρ' H' b g' => h I' ρ' H' b (g.trans g')
  | exc e σ S => exact fun I' ρ' H' d g' => h I' ρ' H' d (g.trans g')
  | fail => exact h
theorem postF_bind {K : PySem.W.Frag} {F I : Hp} {ρ : List Addr} {σV : L2.St} {α β : Type} {T : List Addr → Hp → L2.St → β → α → Prop} {r : Res α} {k : α → Sl → Sto → Res D} {Q : VK} {Q1 : β → Hp → Prop}
    (h : postF K Wx F I ρ σV (r.bind k) Q)
    (q : ∀ I1 ρ1 σ1 S1 H1 a b, r = .ok a σ1 S1 → Gr ρ I ρ1 I1 → RB K F I1 ρ1 S1 H1 σV σ1 → T ρ1 I1 σV b a → postF K Wx F I1 ρ1 σV (k a σ1 S1) Q → Q1 b H1) : postR K Wx T F I ρ σV r Q1 := by
  cases r with
  | ok a σ S => exact fun I' ρ' H' b g rb t => q I' ρ' σ S H' a b rfl g rb t (postF_gr g h)
  | exc e σ S => exact h
  | fail => exact h
/-- fresh, then kept as a value -/
theorem c_f {e : Expr} {f : DE} (h : SF X Wx e f) : SE X Wx e f := by
  refine PE.imp h fun σV H Q h => ?_
  obtain ⟨F, I, ρ, σ, S, rb, h⟩ := h
  refine ⟨F, I, ρ, σ, S, rb, ?_⟩
  cases e : f σ S with
  | ok a σ' S' =>
    rw [e] at h
    intro I' ρ' H' v g rb' t
    rcases t with ⟨b, rfl, fr⟩ | ⟨_, r⟩
    · obtain ⟨I2, g2, rb2, r2⟩ := rb'.frzA fr
      exact h I2 ρ' H' _ (g.trans g2) rb2 (.inr r2)
    · exact h I' ρ' H' v g rb' (.inr r)
  | exc a σ' S' => rw [e] at h; exact h
  | fail => rw [e] at h; exact h
def sSetO (i : Nat) (f : DE) : DS := fun σ S => (f σ S).bind fun w σ S => .ok .next (σ.set i (if scalar w then .val w else .own w)) S
theorem sem_setO {fr : Bool} {i : Nat} {f : DE} {D : Ends} {σV : L2.St} {H : Hp} (h : semS fr X.K Wx (sSetO i f) D σV H) : semF X.K Wx f σV H fun v H' => D.nx (σV.set i (some v)) H' := by
  obtain ⟨F, I, ρ, σ, S, rb, h⟩ := h
  refine ⟨F, I, ρ, σ, S, rb, ?_⟩
  unfold sSetO at h
  cases e : f σ S with
  | ok a σ' S' =>
    rw [e] at h
    intro I' ρ' H' v g rb' t
    have h2 : postS fr X.K Wx F I ρ (.ok .next (σ'.set i (if scalar a then .val a else .own a)) S') D := h
    rcases t with ⟨b, rfl, fr⟩ | ⟨hs, r⟩
    · have ns : scalar a = false := by
        have := fr.own
        cases a <;> first | rfl | exact this.elim
      rw [ns] at h2
      exact h2 I' ρ' H' _ g (rb'.setO fr)
    · rw [hs] at h2
      exact h2 I' ρ' H' _ g (rb'.setV r)
  | exc a σ' S' => rw [e] at h; exact fun I' ρ' H' d => h I' ρ' H' d σV
  | fail => rw [e] at h; exact h
/-- a fresh container kept as a value by a slot -/
theorem sem_setF {fr : Bool} {i : Nat} {f : DE} {D : Ends} {σV : L2.St} {H : Hp} (hf : ∀ σ S w σ' S', f σ S = .ok w σ' S' → ∀ j, w ≠ .loc j := by intros; assumption) (h : semS fr X.K Wx (sSet i f) D σV H) : semF X.K Wx f σV H fun v H' => D.nx (σV.set i (some v)) H' := by
  obtain ⟨F, I, ρ, σ, S, rb, h⟩ := h
  refine ⟨F, I, ρ, σ, S, rb, ?_⟩
  unfold sSet dV at h
  cases e : f σ S with
  | ok a σ' S' =>
    rw [e] at h
    intro I' ρ' H' v g rb' t
    have ez : frz a σ' S' = .ok a σ' S' := by
      cases a with
      | loc j => exact absurd rfl (hf _ _ _ _ _ e j)
      | _ => rfl
    have h2 : postS fr X.K Wx F I ρ ((frz a σ' S').bind fun w σ S => .ok .next (σ.set i (.val w)) S) D := h
    rw [ez] at h2
    rcases t with ⟨b, rfl, fr⟩ | ⟨hs, r⟩
    · obtain ⟨I2, g2, rb2, r2⟩ := rb'.frzA fr
      exact h2 I2 ρ' H' _ (g.trans g2) (rb2.setV r2)
    · exact h2 I' ρ' H' _ g (rb'.setV r)
  | exc a σ' S' => rw [e] at h; exact fun I' ρ' H' d => h I' ρ' H' d σV
  | fail => rw [e] at h; exact h
theorem cs_setO {i : Nat} {x : Str} {e : Expr} {f : DE} {pos pos' : Pos} (hN : X.N.Nodup) (h : SF X Wx e f) (hi : X.N[i]? = some x := by rfl) (hx : Loc X.env.scope x := by first | exact Or.inl rfl | exact Or.inr rfl)
    (hs : swapsWith e (some (.Name x pos')) pos.line X.env = pure false := by rfl) (hf : X.fn x = true ∨ X.env.scope.names.lookup x = some .local := by first | exact .inl rfl | exact .inr rfl | assumption) : SS fr X Wx (.Assign [.Name x pos'] e pos) (sSetO i f) :=
  PS.imp (ps_set hN hi hx h hs hf) fun D σV H h => sem_setO h
/-- return of a fresh container -/
def sRetF (f : DE) : DS := fun σ S => (f σ S).bind fun w σ S => .ok (.ret w) σ S
theorem cs_retF {e : Expr} {pos : Pos} {f : DE} (h : SF X Wx e f) : SS true X Wx (.Return (some e) pos) (sRetF f) := by
  refine PS.imp (ps_ret h) fun D σV H h => ?_
  obtain ⟨F, I, ρ, σ, S, rb, h⟩ := h
  refine ⟨F, I, ρ, σ, S, rb, ?_⟩
  unfold sRetF at h
  cases e : f σ S with
  | ok a σ' S' =>
    rw [e] at h
    intro I' ρ' H' v g rb' t
    rcases t with ⟨b, rfl, fr⟩ | t
    · exact h I' ρ' H' _ g rb'.drop (.inl ⟨b, rfl, fr.nf, fr.ni, fr.nr, fr.own⟩)
    · exact h I' ρ' H' _ g rb'.drop (.inr t)
  | exc a σ' S' => rw [e] at h; exact fun I' ρ' H' d => h I' ρ' H' d σV
  | fail => rw [e] at h; exact h
/-- return x, x's slot owning its container (or holding a scalar) -/
def sRetO (i : Nat) : DS := fun σ S => match σ[i]? with
  | some (.own c) => .ok (.ret c) σ S
  | some (.val w) => if scalar w then .ok (.ret w) σ S else .fail
  | _ => .fail
theorem cs_retO (i : Nat) {x : Str} {pos pos' : Pos} (hN : X.N[i]? = some x := by rfl) (hv : Vis X.env.scope x := by first | exact Or.inl rfl | exact Or.inr (Or.inl rfl) | exact Or.inr (Or.inr rfl)) (hd : (x == ("__debug__" : Str)) = false := by decide)
    (hcd : (x == ("__classdict__" : Str)) = false := by decide) : SS true X Wx (.Return (some (.Name x pos')) pos) (sRetO i) := by
  refine PS.imp (ps_ret (pe_var hN hv hd hcd)) fun D σV H h => ?_
  obtain ⟨F, I, ρ, σ, S, rb, h⟩ := h
  unfold sRetO at h
  split at h
  · rename_i c hc
    obtain ⟨a, ha, hf, hi, hr, ho⟩ := rb.slot i _ hc
    exact ⟨_, ha, h I ρ H _ Gr.refl rb.drop (.inl ⟨a, rfl, hf, hi, hr, ho⟩)⟩
  · rename_i w hw
    split at h
    · rename_i hs
      obtain ⟨v, hv, r⟩ := rb.slot i _ hw
      exact ⟨v, hv, h I ρ H _ Gr.refl rb.drop (.inr ⟨hs, r⟩)⟩
    · exact h.elim
  · exact h.elim
/-- return None and other scalars in a def that hands back fresh containers -/
def sRetS (f : DE) : DS := fun σ S => (f σ S).bind fun w σ S => if scalar w then .ok (.ret w) σ S else .fail
theorem cs_retS {e : Expr} {pos : Pos} {f : DE} (h : SE X Wx e f) : SS true X Wx (.Return (some e) pos) (sRetS f) := by
  refine PS.imp (ps_ret h) fun D σV H h => ?_
  obtain ⟨F, I, ρ, σ, S, rb, h⟩ := h
  refine ⟨F, I, ρ, σ, S, rb, postS_bind h fun I1 ρ1 σ1 S1 H1 x v1 _ g1 rb1 t1 h1 => ?_⟩
  split at h1
  · rename_i hs
    rcases t1 with ⟨i, rfl, _⟩ | t1
    · cases hs
    · exact h1 I1 ρ1 H1 v1 Gr.refl rb1.drop (.inr ⟨hs, t1⟩)
  · exact h1.elim
theorem cf_lst {es : List Expr} {pos : Pos} {r : DA} (h : SA X Wx es r) : SF X Wx (.List es pos) (dLst r) := by
  refine PE.imp (pe_lst h) fun σV H Q h => ?_
  obtain ⟨F, I, ρ, σ, S, rb, h⟩ := h
  refine ⟨F, I, ρ, σ, S, rb, postF_bind h fun I1 ρ1 σ1 S1 H1 x v1 _ g1 rb1 t1 h1 => ?_⟩
  split at h1
  · rename_i hl
    refine ⟨by rw [t1.length, ← most_eq]; exact hl, fun p hp => ?_⟩
    obtain ⟨rb2, nf, ni, nr, no⟩ := rb1.newO (o := .lst v1) hp
    exact h1 _ ρ1 _ _ Gr.refl rb2 (.inl ⟨p, rfl, nf, ni, nr, no, v1, upd_same, t1⟩)
  · exact h1.elim

/-! ### the call of a def -/
theorem post_call {K : PySem.W.Frag} {F I : Hp} {ρ : List Addr} {S : Sto} {H : Hp} {σV : L2.St} {σ : Sl} {vs : List V} {ws : List D} {d : Den} {n : Nat} {Q : VK} (rb : RB K F I ρ S H σV σ) (r : Reps K ρ I vs ws) (hn : vs.length = n)
    (h : postR K Wx (fun ρ I _ v w => Rep K ρ I v w) F I ρ σV (match d ws S with
      | .ok w S' => .ok w σ S'
      | .exc e S' => .exc e σ S'
      | .fail => .fail) Q) : spD false K n d vs H Q (WE Wx σV) := by
  refine ⟨hn, fr1 F H σV σ, I, ρ, S, ws, rb.callee, r, ?_⟩
  cases e : d ws S with
  | ok w S' =>
    rw [e] at h
    exact fun I' ρ' H' v g rb' t => h I' ρ' H' v g (rb.back g rb') t
  | exc x S' =>
    rw [e] at h
    exact fun I' ρ' H' v g rb' t => h I' ρ' H' v g (rb.back g rb') t
  | fail => rw [e] at h; exact h
theorem post_callF {K : PySem.W.Frag} {F I : Hp} {ρ : List Addr} {S : Sto} {H : Hp} {σV : L2.St} {σ : Sl} {vs : List V} {ws : List D} {d : Den} {n : Nat} {Q : VK} (rb : RB K F I ρ S H σV σ) (r : Reps K ρ I vs ws) (hn : vs.length = n)
    (h : postF K Wx F I ρ σV (match d ws S with
      | .ok w S' => .ok w σ S'
      | .exc e S' => .exc e σ S'
      | .fail => .fail) Q) : spD true K n d vs H Q (WE Wx σV) := by
  refine ⟨hn, fr1 F H σV σ, I, ρ, S, ws, rb.callee, r, ?_⟩
  cases e : d ws S with
  | ok w S' =>
    rw [e] at h
    intro I' ρ' H' v g rb' t
    rcases t with ⟨a, rfl, nf, ni, nr, ho⟩ | t
    · have rb2 := rb.back g rb'
      have no : F a = none ∧ NoOwn σV σ a := by
        have no1 : NoOwn σV σ a := fun i c h1 h2 => by
          obtain ⟨b, hb, _, _, _, hob⟩ := rb.slot i _ h1
          obtain ⟨u, hu⟩ := hob.there
          rw [h2] at hb
          cases hb
          unfold fr1 at nf
          rw [if_pos ⟨i, c, h1, h2⟩, hu] at nf
          cases nf
        refine ⟨?_, no1⟩
        unfold fr1 at nf
        rw [if_neg (fun ⟨i, c, h1, h2⟩ => no1 i c h1 h2)] at nf
        exact nf
      exact h I' ρ' H' _ g rb2 (.inl ⟨a, rfl, no.1, ni, nr, no.2, ho⟩)
    · exact h I' ρ' H' v g (rb.back g rb') (.inr t)
  | exc x S' =>
    rw [e] at h
    exact fun I' ρ' H' v g rb' t => h I' ρ' H' v g (rb.back g rb') t
  | fail => rw [e] at h; exact h
variable {k n m : Nat} {x : Str} {d : Den} {p pos : Pos} {e : Expr} {es : List Expr} {r : DA}
theorem c_call (C : Fn false X.prog X.w X.K X.mg X.base x k n d) (tk : Takes X Wx) (hr : Room m X.A) (hkm : k ≤ m) (ha : SA X Wx (e :: es) r) (hn : (e :: es).length = n := by rfl) (hg : Gl X x := by rfl) (hdb : (x == ("__debug__" : Str)) = false := by decide)
    (he : starEach (e :: es) X.env = (false, eval e X.env) :: starEach es X.env := by rfl) (hpl : (backTo pos (starEach es X.env)).any (·.1) = false := by rfl) (hlen : ∀ σ S ws σ' S', r σ S = .ok ws σ' S' → ws.length = n) : SV X Wx (.Call (.Name x p) (e :: es) [] pos) (dCall d r) := by
  obtain ⟨f, fd, ps, hm, hk, hb, hp, ok⟩ := C.ex
  refine PE.imp (pe_callSD (E := WE Wx) ok (hr.mono hkm) hg hm hk hb .nil (fun σ => passAt tk σ) ha hdb he hpl) fun σV H Q h => ?_
  obtain ⟨F, I, ρ, σ, S, rb, h⟩ := h
  refine ⟨F, I, ρ, σ, S, rb, post_bind h fun I1 ρ1 σ1 S1 H1 ws vs er g1 rb1 t1 h1 => ?_⟩
  rw [List.append_nil]
  exact post_call rb1 t1 (by rw [t1.length]; exact hlen _ _ _ _ _ er) h1
theorem cf_call (C : Fn true X.prog X.w X.K X.mg X.base x k n d) (tk : Takes X Wx) (hr : Room m X.A) (hkm : k ≤ m) (ha : SA X Wx (e :: es) r) (hn : (e :: es).length = n := by rfl) (hg : Gl X x := by rfl) (hdb : (x == ("__debug__" : Str)) = false := by decide)
    (he : starEach (e :: es) X.env = (false, eval e X.env) :: starEach es X.env := by rfl) (hpl : (backTo pos (starEach es X.env)).any (·.1) = false := by rfl) (hlen : ∀ σ S ws σ' S', r σ S = .ok ws σ' S' → ws.length = n) : SF X Wx (.Call (.Name x p) (e :: es) [] pos) (dCall d r) := by
  obtain ⟨f, fd, ps, hm, hk, hb, hp, ok⟩ := C.ex
  refine PE.imp (pe_callSD (E := WE Wx) ok (hr.mono hkm) hg hm hk hb .nil (fun σ => passAt tk σ) ha hdb he hpl) fun σV H Q h => ?_
  obtain ⟨F, I, ρ, σ, S, rb, h⟩ := h
  refine ⟨F, I, ρ, σ, S, rb, postF_bind h fun I1 ρ1 σ1 S1 H1 ws vs er g1 rb1 t1 h1 => ?_⟩
  rw [List.append_nil]
  exact post_callF rb1 t1 (by rw [t1.length]; exact hlen _ _ _ _ _ er) h1
end

/-! ### a container is changed -/
def chg (σ : Sl) (S : Sto) (x c' : D) : Option (Sl × Sto) := match x with
  | .loc i => (match σ[i]? with
    | some (.own _) => some (σ.set i (.own c'), S)
    | _ => none)
  | .obj r => (match S[r]? with
    | some (.con false _) => some (σ, S.set r (.con false c'))
    | _ => none)
  | _ => none
def ofMut {α : Type} (a : α) (o : Option (Sl × Sto)) : Res α := match o with
  | some (σ, S) => .ok a σ S
  | none => .fail
section
variable {K : PySem.W.Frag} {F I : Hp} {ρ : List Addr} {S : Sto} {H : Hp} {σV : L2.St} {σ : Sl}
/-- the place of a container that may be changed, and what comes of a change -/
theorem RB.chg (rb : RB K F I ρ S H σV σ) {v : V} {x c c' : D} {σ' : Sl} {S' : Sto} (t : TRep K ρ I σV v x) (e : deref σ S x = some c) (em : chg σ S x c' = some (σ', S')) : ∃ a, v = .ref a ∧ OwnAt K ρ I H a c ∧ ∀ o, OwnAt K ρ I (upd H a o) a c' → RB K F I ρ S' (upd H a o) σV σ' := by
  rcases t with ⟨i, rfl, hv⟩ | t
  · unfold MR.chg at em
    dsimp only at em
    split at em
    · rename_i c0 hc
      cases em
      unfold deref at e
      dsimp only at e
      rw [hc] at e
      cases e
      obtain ⟨a, ha, hf, hi, hr, ho⟩ := rb.slot i _ hc
      rw [hv] at ha
      cases ha
      have lt : i < σ.length := (List.getElem?_eq_some_iff.mp hc).1
      refine ⟨a, rfl, ho, fun o new => ?_⟩
      have k : ∀ b u, b ≠ a → H b = some u → upd H a o b = some u := fun b u n h => by rw [upd_ne n]; exact h
      refine ⟨fun b u h => k b u (ne_of_none h hf) (rb.fr b u h), fun b u h => ?_, rb.dis, fun r ob h => ?_, rb.nd, rb.rl, by rw [List.length_set]; exact rb.len, fun j s h => ?_, fun j q c1 c2 u h1 h2 h3 h4 => ?_⟩
      · have n := ne_of_none h hi
        rcases rb.sub b u h with z | ⟨d, ob, z⟩
        · exact .inl (k _ _ n z)
        · exact .inr ⟨d, ob, k _ _ n z⟩
      · obtain ⟨b, hb, hfb, hib, hcb⟩ := rb.store r ob h
        have n : b ≠ a := fun z => hr (z ▸ List.mem_of_getElem? hb)
        exact ⟨b, hb, hfb, hib, hcb.gr Gr.refl fun u => k b u n⟩
      · by_cases ij : i = j
        · subst ij
          rw [List.getElem?_set_self lt] at h
          cases h
          exact ⟨a, hv, hf, hi, hr, new⟩
        · rw [List.getElem?_set_ne ij] at h
          have q := rb.slot j s h
          cases s with
          | emp => trivial
          | val w => exact q
          | own c2 =>
            obtain ⟨b, hb, hfb, hib, hrb, hob⟩ := q
            have n : b ≠ a := fun z => ij (rb.inj i j _ c2 _ hc h hv (z ▸ hb))
            exact ⟨b, hb, hfb, hib, hrb, hob.gr Gr.refl fun u => k b u n⟩
      · have own_of : ∀ {j : Nat} {c1 : D}, (σ.set i (.own c'))[j]? = some (.own c1) → ∃ c3, σ[j]? = some (.own c3) := fun {j c1} h => by
          by_cases ij : i = j
          · subst ij; exact ⟨_, hc⟩
          · rw [List.getElem?_set_ne ij] at h; exact ⟨_, h⟩
        obtain ⟨c3, h1⟩ := own_of h1
        obtain ⟨c4, h2⟩ := own_of h2
        exact rb.inj j q c3 c4 u h1 h2 h3 h4
    · cases em
  · cases t with
    | @obj r a hra =>
      unfold MR.chg at em
      dsimp only at em
      split at em
      · rename_i _ c0 hc
        cases em
        unfold deref at e
        dsimp only at e
        rw [hc] at e
        cases e
        obtain ⟨b, hb, hf, hi, ho⟩ := rb.store _ _ hc
        rw [hra] at hb
        cases hb
        have lt : r < S.length := (List.getElem?_eq_some_iff.mp hc).1
        refine ⟨a, rfl, ho, fun o new => ?_⟩
        have k : ∀ b u, b ≠ a → H b = some u → upd H a o b = some u := fun b u n h => by rw [upd_ne n]; exact h
        refine ⟨fun b u h => k b u (ne_of_none h hf) (rb.fr b u h), fun b u h => ?_, rb.dis, fun r2 ob h => ?_, rb.nd, by rw [List.length_set]; exact rb.rl, rb.len, fun j s h => ?_, rb.inj⟩
        · have n := ne_of_none h hi
          rcases rb.sub b u h with z | ⟨d, ob, z⟩
          · exact .inl (k _ _ n z)
          · exact .inr ⟨d, ob, k _ _ n z⟩
        · by_cases er : r = r2
          · subst er
            rw [List.getElem?_set_self lt] at h
            cases h
            exact ⟨a, hra, hf, hi, new⟩
          · rw [List.getElem?_set_ne er] at h
            obtain ⟨b, hb, hfb, hib, hcb⟩ := rb.store r2 ob h
            have n : b ≠ a := fun z => er (rb.nd r r2 a hra (z ▸ hb))
            exact ⟨b, hb, hfb, hib, hcb.gr Gr.refl fun u => k b u n⟩
        · have q := rb.slot j s h
          cases s with
          | emp => trivial
          | val w => exact q
          | own c2 =>
            obtain ⟨b, hb, hfb, hib, hrb, hob⟩ := q
            have n : b ≠ a := fun z => hrb (z ▸ List.mem_of_getElem? hra)
            exact ⟨b, hb, hfb, hib, hrb, hob.gr Gr.refl fun u => k b u n⟩
      · cases em
    | _ => cases em
end
/-! ### xs.append(e) -/
def isLst : D → Bool
  | .lst _ => true
  | _ => false
/-- a method of a list: the list is looked up ahead of the arguments, and again behind them -/
def dMeth (is : D → Bool) (k : D → D → List D → Sl → Sto → Res D) (fo : DE) (fa : DA) : DE := fun σ S => (fo σ S).bind fun x σ S => if ((deref σ S x).map is) = some true then (fa σ S).bind fun ws σ S => (match deref σ S x with
  | some c => k x c ws σ S
  | none => .fail) else .fail
def kApp : D → D → List D → Sl → Sto → Res D := fun x c ws σ S => match c, ws with
  | .lst xs, [w] => if xs.length < most then ofMut .non (chg σ S x (.lst (xs ++ [w]))) else .fail
  | _, _ => .fail
section
variable {X : Cx} {Wx : WX}
theorem SqL_at {K : PySem.W.Frag} {H : Hp} {a : Addr} {xs : List V} (h : H a = some (.lst xs)) : SqL K H a xs := .inl (.inl h)
/-- what a method's rule asks is met where its datum step succeeds -/
def MtS (K : PySem.W.Frag) (r : V → List V → Hp → VK → Prop) (k : D → D → List D → Sl → Sto → Res D) : Prop := ∀ (Wx : WX) (F I : Hp) (ρ : List Addr) (S : Sto) (H : Hp) (σV : L2.St) (σ : Sl) (v : V) (vs : List V) (x c : D) (ws : List D) (Q : VK), RB K F I ρ S H σV σ → TRep K ρ I σV v x → deref σ S x = some c →
  Reps K ρ I vs ws → postR K Wx (TRep K) F I ρ σV (k x c ws σ S) Q → r v vs H Q
def TyS (K : PySem.W.Frag) (T : String) (is : D → Bool) : Prop := ∀ (ρ : List Addr) (I H : Hp) (v : V) (c : D), At K ρ I H v c → is c = true → tyV K T v H
theorem ty_list {K : PySem.W.Frag} : TyS K "list" isLst := fun ρ I H v c h e => by
  cases c with
  | lst ws => obtain ⟨a, vs, rfl, h, _⟩ := h; exact .inl ⟨rfl, vs, SqL_at h⟩
  | _ => cases e
theorem sem_meth {T : String} {is : D → Bool} {r : V → List V → Hp → VK → Prop} {k : D → D → List D → Sl → Sto → Res D} {fo : DE} {fa : DA} (ht : TyS X.K T is) (hs : MtS X.K r k) {σV : L2.St} {H : Hp} {Q : VK} (h : semE X.K Wx (dMeth is k fo fa) σV H Q) :
    tBM X.K T r (semE X.K Wx fo) (semA X.K Wx fa) σV H Q := by
  obtain ⟨F, I, ρ, σ, S, rb, h⟩ := h
  refine ⟨F, I, ρ, σ, S, rb, post_bind h fun I1 ρ1 σ1 S1 H1 x v1 _ g1 rb1 t1 h1 => ?_⟩
  split at h1
  · rename_i hi
    obtain ⟨c, hc, hic⟩ := Option.map_eq_some_iff.mp hi
    refine ⟨ht ρ1 I1 H1 v1 c (rb1.at t1 hc) hic, F, I1, ρ1, σ1, S1, rb1, post_bind h1 fun I2 ρ2 σ2 S2 H2 ws vs _ g2 rb2 t2 h2 => ?_⟩
    split at h2
    · rename_i c2 hc2
      exact hs Wx F I2 ρ2 S2 H2 σV σ2 v1 vs x c2 ws Q rb2 (t1.gr g2) hc2 t2 h2
    · exact h2.elim
  · exact h1.elim
theorem post_mut {K : PySem.W.Frag} {F I : Hp} {ρ : List Addr} {S : Sto} {H : Hp} {σV : L2.St} {σ : Sl} {v y : V} {x c c' z : D} {Q : VK} (rb : RB K F I ρ S H σV σ) (t : TRep K ρ I σV v x) (e : deref σ S x = some c) (ry : Rep K ρ I y z)
    (h : postR K Wx (TRep K) F I ρ σV (ofMut z (chg σ S x c')) Q) : ∃ a, v = .ref a ∧ OwnAt K ρ I H a c ∧ ∀ o, OwnAt K ρ I (upd H a o) a c' → Q y (upd H a o) := by
  cases em : chg σ S x c' with
  | none => rw [em] at h; exact h.elim
  | some q =>
    obtain ⟨σ', S'⟩ := q
    rw [em] at h
    obtain ⟨a, rfl, ho, k⟩ := rb.chg t e em
    exact ⟨a, rfl, ho, fun o new => h I ρ _ y Gr.refl (k o new) (.inr ry)⟩
theorem ms_app {K : PySem.W.Frag} : MtS K rAppend kApp := by
  intro Wx F I ρ S H σV σ v vs x c ws Q rb t e r h
  unfold kApp at h
  split at h
  · rename_i xs w
    split at h
    · rename_i hl
      obtain ⟨a, rfl, ⟨vs0, hv, rv⟩, k⟩ := post_mut rb t e .non h
      cases r with
      | cons r1 r2 =>
        cases r2
        refine ⟨a, vs0, _, rfl, rfl, hv, by rw [rv.length, ← most_eq]; exact hl, k _ ⟨_, upd_same, rv.append (.cons r1 .nil)⟩⟩
    · exact h.elim
  · exact h.elim
theorem c_app {o e : Expr} {apos cpos : Pos} {fo fe : DE} (ho : SE X Wx o fo) (he : SE X Wx e fe) (hbase : attributeBase o "append" X.env (eval o X.env) = eval o X.env := by rfl)
    (hfew : ((backTo cpos (starEach [e] X.env)).all (fun x => !x.1) && (backToKw cpos (keywordEach [] X.env)).all (fun x => x.1.isSome) && decide ([e].length + ([] : List Keyword).length + (if ([] : List Keyword).isEmpty then 0 else 1) < 30)) = true := by rfl)
    (hline : (apos.endLine == cpos.line) = true := by rfl) (hs : starEach [e] X.env = (false, eval e X.env) :: starEach [] X.env := by rfl) : SE X Wx (.Call (.Attribute o "append" apos) [e] [] cpos) (dMeth isLst kApp fo (aCons fe aNil)) :=
  PE.imp (pe_bm PySem.F.plainAttrs_list PySem.F.slot_list_append PySem.F.type_list_append mt_append ho (ca_cons he ca_nil hs) hbase hfew hline hs) fun _ _ _ h => sem_meth ty_list ms_app h
end
end MR

set_option Elab.async false
set_option linter.all false
set_option maxRecDepth 100000
/-! MR5: one-place operations, built-ins, subscripts, slices; what is walked; for, comprehensions. -/
namespace MR
open PySem PySem.Spec PyProof.Rows L2

section
variable {X : Cx} {Wx : WX}
/-! ### built-ins of one and of two values -/
def B1 (K : PySem.W.Frag) (r : List V → Hp → VK → Prop) (op : D → Option D) : Prop := ∀ (F I : Hp) (ρ : List Addr) (S : Sto) (H : Hp) (σV : L2.St) (σ : Sl) (v : V) (a z : D) (Q : VK), RB K F I ρ S H σV σ → At K ρ I H v a → op a = some z →
  (∀ I' H' v, Gr ρ I ρ I' → RB K F I' ρ S H' σV σ → Rep K ρ I' v z → Q v H') → r [v] H Q
def B2 (K : PySem.W.Frag) (r : List V → Hp → VK → Prop) (op : D → D → Option D) : Prop := OpS K (fun x y => r [x, y]) op
theorem sem_b1 {r : List V → Hp → VK → Prop} {op : D → Option D} {f : DE} (ho : B1 X.K r op) {σV : L2.St} {H : Hp} {Q : VK} (h : semE X.K Wx (d1 op f) σV H Q) : tCB r (tCons (semE X.K Wx f) tNil) σV H Q := by
  obtain ⟨F, I, ρ, σ, S, rb, h⟩ := h
  refine ⟨F, I, ρ, σ, S, rb, post_bind h fun I1 ρ1 σ1 S1 H1 x v1 _ g1 rb1 t1 h1 => ?_⟩
  obtain ⟨z, ez, h3⟩ := post_opt h1
  obtain ⟨a, ea, ez⟩ := Option.bind_eq_some_iff.mp ez
  exact ho F I1 ρ1 S1 H1 σV σ1 v1 a z Q rb1 (rb1.at t1 ea) ez fun I' H' v g' rb' r' => h3 I' ρ1 H' v g' rb' (.inr r')
theorem c_b1 {x : Str} {id : String} {e : Expr} {p pos : Pos} {f : DE} {r : List V → Hp → VK → Prop} {op : D → Option D} (hc : CallR X (.builtin id) r) (hs : B1 X.K r op) (hm : X.mg x = none) (h : SE X Wx e f) (hv : bootBuiltins x = some (.builtin id) := by decide +kernel) (hg : Gl X x := by rfl) (hn : x ≠ "__name__" := by decide) (hdb : (x == ("__debug__" : Str)) = false := by decide)
    (he : starEach [e] X.env = (false, eval e X.env) :: starEach [] X.env := by rfl) : SE X Wx (.Call (.Name x p) [e] [] pos) (d1 op f) :=
  PE.imp (pe_callB hc hg hm hv (pa_cons h pa_nil he) hn hdb he rfl) fun _ _ _ h => sem_b1 hs h
theorem c_t1 {x : Str} {id : String} {e : Expr} {p pos : Pos} {f : DE} {r : List V → Hp → VK → Prop} {op : D → Option D} (hc : CallR X (.type id) r) (hs : B1 X.K r op) (hm : X.mg x = none) (h : SE X Wx e f) (hv : bootBuiltins x = some (.type id) := by decide +kernel) (hg : Gl X x := by rfl) (hn : x ≠ "__name__" := by decide) (hdb : (x == ("__debug__" : Str)) = false := by decide)
    (he : starEach [e] X.env = (false, eval e X.env) :: starEach [] X.env := by rfl) : SE X Wx (.Call (.Name x p) [e] [] pos) (d1 op f) :=
  PE.imp (pe_callTy hc hg hm hv (pa_cons h pa_nil he) hn hdb he rfl) fun _ _ _ h => sem_b1 hs h
theorem c_b2 {x : Str} {id : String} {e e2 : Expr} {p pos : Pos} {f g : DE} {r : List V → Hp → VK → Prop} {op : D → D → Option D} (hc : CallR X (.builtin id) r) (hs : B2 X.K r op) (hm : X.mg x = none) (h : SE X Wx e f) (k : SE X Wx e2 g) (hv : bootBuiltins x = some (.builtin id) := by decide +kernel) (hg : Gl X x := by rfl) (hn : x ≠ "__name__" := by decide) (hdb : (x == ("__debug__" : Str)) = false := by decide)
    (he : starEach [e, e2] X.env = (false, eval e X.env) :: starEach [e2] X.env := by rfl) (he2 : starEach [e2] X.env = (false, eval e2 X.env) :: starEach [] X.env := by rfl) (hpl : (backTo pos (starEach [e2] X.env)).any (·.1) = false := by rfl) : SE X Wx (.Call (.Name x p) [e, e2] [] pos) (d2 op f g) :=
  PE.imp (pe_callB hc hg hm hv (pa_cons h (pa_cons k pa_nil he2) he) hn hdb he hpl) fun σ H Q h => (sem_op (r := fun x y => r [x, y]) hs h : tOp (fun x y => r [x, y]) _ _ σ H Q)

/-! ### fresh results of one value -/
def B1F (K : PySem.W.Frag) (r : List V → Hp → VK → Prop) (op : D → Option D) : Prop := ∀ (F I : Hp) (ρ : List Addr) (S : Sto) (H : Hp) (σV : L2.St) (σ : Sl) (v : V) (a z : D) (Q : VK), RB K F I ρ S H σV σ → At K ρ I H v a → op a = some z →
  (∀ I' H' v, Gr ρ I ρ I' → RB K F I' ρ S H' σV σ → ((∃ a, v = .ref a ∧ Fresh K F I' ρ H' σV σ a z) ∨ (scalar z = true ∧ Rep K ρ I' v z)) → Q v H') → r [v] H Q
theorem sem_b1F {r : List V → Hp → VK → Prop} {op : D → Option D} {f : DE} (ho : B1F X.K r op) {σV : L2.St} {H : Hp} {Q : VK} (h : semF X.K Wx (d1 op f) σV H Q) : tCB r (tCons (semE X.K Wx f) tNil) σV H Q := by
  obtain ⟨F, I, ρ, σ, S, rb, h⟩ := h
  refine ⟨F, I, ρ, σ, S, rb, postF_bind h fun I1 ρ1 σ1 S1 H1 x v1 _ g1 rb1 t1 h1 => ?_⟩
  cases ez : (deref σ1 S1 x).bind op with
  | none => rw [ez] at h1; exact h1.elim
  | some z =>
    rw [ez] at h1
    obtain ⟨a, ea, ez⟩ := Option.bind_eq_some_iff.mp ez
    exact ho F I1 ρ1 S1 H1 σV σ1 v1 a z Q rb1 (rb1.at t1 ea) ez fun I' H' v g' rb' r' => h1 I' ρ1 H' v g' rb' r'
theorem cf_b1 {x : Str} {id : String} {e : Expr} {p pos : Pos} {f : DE} {r : List V → Hp → VK → Prop} {op : D → Option D} (hc : CallR X (.builtin id) r) (hs : B1F X.K r op) (hm : X.mg x = none) (h : SE X Wx e f) (hv : bootBuiltins x = some (.builtin id) := by decide +kernel) (hg : Gl X x := by rfl) (hn : x ≠ "__name__" := by decide) (hdb : (x == ("__debug__" : Str)) = false := by decide)
    (he : starEach [e] X.env = (false, eval e X.env) :: starEach [] X.env := by rfl) : SF X Wx (.Call (.Name x p) [e] [] pos) (d1 op f) :=
  PE.imp (pe_callB hc hg hm hv (pa_cons h pa_nil he) hn hdb he rfl) fun _ _ _ h => sem_b1F hs h
theorem cf_t1 {x : Str} {id : String} {e : Expr} {p pos : Pos} {f : DE} {r : List V → Hp → VK → Prop} {op : D → Option D} (hc : CallR X (.type id) r) (hs : B1F X.K r op) (hm : X.mg x = none) (h : SE X Wx e f) (hv : bootBuiltins x = some (.type id) := by decide +kernel) (hg : Gl X x := by rfl) (hn : x ≠ "__name__" := by decide) (hdb : (x == ("__debug__" : Str)) = false := by decide)
    (he : starEach [e] X.env = (false, eval e X.env) :: starEach [] X.env := by rfl) : SF X Wx (.Call (.Name x p) [e] [] pos) (d1 op f) :=
  PE.imp (pe_callTy hc hg hm hv (pa_cons h pa_nil he) hn hdb he rfl) fun _ _ _ h => sem_b1F hs h
end

/-! ### + * == != in -/
def toData : D → Option PyData
  | .non => some .none
  | .bl b => some (.bool b)
  | .int i => some (.int i)
  | .str x => some (.str x)
  | .tup l => (toDatas l).map .tuple
  | .lst l => (toDatas l).map .list
  | _ => none
where toDatas : List D → Option (List PyData)
  | [] => some []
  | d :: ds => (toData d).bind fun x => (toDatas ds).map fun xs => x :: xs
def deepEq (a b : D) : Option Bool := (toData a).bind fun d => (toData b).bind fun e => if SeqAt.shaped d && SeqAt.shaped e then some (PyData.eqv d e) else none
def eqD : D → D → Option Bool
  | .int i, .int j => some (decide (i = j))
  | .str i, .str j => some (decide (i = j))
  | .bl i, .bl j => some (decide (i = j))
  | .non, .non => some true
  | .non, .int _ => some false | .int _, .non => some false | .non, .str _ => some false | .str _, .non => some false | .non, .bl _ => some false | .bl _, .non => some false
  | .int _, .str _ => some false | .str _, .int _ => some false | .bl _, .str _ => some false | .str _, .bl _ => some false
  | a, b => deepEq a b
def opEq' (a b : D) : Option D := (eqD a b).map D.bl
def opNe' (a b : D) : Option D := (eqD a b).map fun x => D.bl (!x)
section
variable {K : PySem.W.Frag}
mutual
theorem Rep.dp {ρ : List Addr} {I H : Hp} (s : Sub I H) : ∀ {v : V} {w : D} {d : PyData}, Rep K ρ I v w → toData w = some d → Dp K H v d
  | _, _, _, .non, e => by cases e; exact .non
  | _, _, _, .bl, e => by cases e; exact .bl _
  | _, _, _, .int, e => by cases e; exact .int _
  | _, _, _, .str, e => by cases e; exact .str _
  | _, _, _, .tup h r, e => by
    obtain ⟨ds, e1, e2⟩ := Option.map_eq_some_iff.mp (show (toData.toDatas _).map PyData.tuple = some _ from e)
    subst e2
    exact .tup (s.sqT h) (Reps.dp s r e1)
  | _, _, _, .lst h r, e => by
    obtain ⟨ds, e1, e2⟩ := Option.map_eq_some_iff.mp (show (toData.toDatas _).map PyData.list = some _ from e)
    subst e2
    exact .lst (s.sqL (.inl (.inl h))) (Reps.dp s r e1)
  | _, _, _, .dK _ _ _, e => by cases e
  | _, _, _, .dT _ _ _, e => by cases e
  | _, _, _, .obj _, e => by cases e
  | _, _, _, .scr _, e => by cases e
theorem Reps.dp {ρ : List Addr} {I H : Hp} (s : Sub I H) : ∀ {vs : List V} {ws : List D} {ds : List PyData}, Reps K ρ I vs ws → toData.toDatas ws = some ds → DpAll K H vs ds
  | _, _, _, .nil, e => by cases e; exact .nil
  | _, _, _, .cons h r, e => by
    obtain ⟨x, e1, e2⟩ := Option.bind_eq_some_iff.mp (show (toData _).bind _ = some _ from e)
    obtain ⟨xs, e3, e4⟩ := Option.map_eq_some_iff.mp e2
    subst e4
    exact .cons (Rep.dp s h e1) (Reps.dp s r e3)
end
theorem At.dp {ρ : List Addr} {I H : Hp} (s : Sub I H) {v : V} {a : D} {d : PyData} (h : At K ρ I H v a) (e : toData a = some d) : Dp K H v d := by
  cases a with
  | non => cases h; cases e; exact .non
  | bl b => cases h; cases e; exact .bl _
  | int i => cases h; cases e; exact .int _
  | str x => cases h; cases e; exact .str _
  | tup ws =>
    obtain ⟨a, vs, rfl, h, r⟩ := h
    obtain ⟨ds, e1, e2⟩ := Option.map_eq_some_iff.mp (show (toData.toDatas _).map PyData.tuple = some _ from e)
    subst e2
    exact .tup h (Reps.dp s r e1)
  | lst ws =>
    obtain ⟨a, vs, rfl, h, r⟩ := h
    obtain ⟨ds, e1, e2⟩ := Option.map_eq_some_iff.mp (show (toData.toDatas _).map PyData.list = some _ from e)
    subst e2
    exact .lst (.inl (.inl h)) (Reps.dp s r e1)
  | _ => cases e
def rEqA (K : PySem.W.Frag) : R2 := fun x y H Q => rEq x y H Q ∨ rEqD K x y H Q
def rNeA (K : PySem.W.Frag) : R2 := fun x y H Q => rNe x y H Q ∨ rNeD K x y H Q
theorem eqD_cases {ρ : List Addr} {I H : Hp} {v1 v2 : V} {a b : D} {x : Bool} (h1 : At K ρ I H v1 a) (h2 : At K ρ I H v2 b) (e : eqD a b = some x) : (scal v1 v2 = true ∧ decide (v1 = v2) = x) ∨ deepEq a b = some x := by
  unfold eqD at e
  split at e
  all_goals first
    | (cases h1; cases h2; cases e; refine .inl ⟨rfl, ?_⟩; first | rfl | (simp))
    | exact .inr e
theorem os_eq : OpS K (rEqA K) opEq' := by
  intro F I ρ S H σV σ v1 v2 a b z Q rb h1 h2 ez q
  obtain ⟨x, e, rfl⟩ := Option.map_eq_some_iff.mp ez
  rcases eqD_cases h1 h2 e with ⟨hs, hx⟩ | hd
  · refine .inl ⟨hs, ?_⟩
    rw [hx]
    exact q I H _ Gr.refl rb .bl
  · obtain ⟨d, ed, hd⟩ := Option.bind_eq_some_iff.mp hd
    obtain ⟨d', ed', hd⟩ := Option.bind_eq_some_iff.mp hd
    split at hd
    · rename_i hsh
      obtain ⟨s1, s2⟩ := Bool.and_eq_true_iff.mp hsh
      cases hd
      exact .inr ⟨d, d', h1.dp rb.sub ed, h2.dp rb.sub ed', s1, s2, q I H _ Gr.refl rb .bl⟩
    · cases hd
theorem os_ne : OpS K (rNeA K) opNe' := by
  intro F I ρ S H σV σ v1 v2 a b z Q rb h1 h2 ez q
  obtain ⟨x, e, rfl⟩ := Option.map_eq_some_iff.mp ez
  rcases eqD_cases h1 h2 e with ⟨hs, hx⟩ | hd
  · refine .inl ⟨hs, ?_⟩
    rw [hx]
    exact q I H _ Gr.refl rb .bl
  · obtain ⟨d, ed, hd⟩ := Option.bind_eq_some_iff.mp hd
    obtain ⟨d', ed', hd⟩ := Option.bind_eq_some_iff.mp hd
    split at hd
    · rename_i hsh
      obtain ⟨s1, s2⟩ := Bool.and_eq_true_iff.mp hsh
      cases hd
      exact .inr ⟨d, d', h1.dp rb.sub ed, h2.dp rb.sub ed', s1, s2, q I H _ Gr.refl rb .bl⟩
    · cases hd
/-- a + b -/
def rAddA : R2 := fun x y H Q => rI0 (fun i j => .int (i + j)) x y H Q ∨ ((∃ i j, x = .str i ∧ y = .str j ∧ i.length + j.length ≤ sizeLine ∧ Q (.str (i ++ j)) H) ∨ rCat x y H Q)
theorem op_addA {X : Cx} : OpR X (binaryOp .Add) rAddA := op_add.or (op_add_str.or op_cat)
theorem os_add : OpS K rAddA opAdd := by
  intro F I ρ S H σV σ v1 v2 a b z Q rb h1 h2 ez q
  unfold opAdd at ez
  split at ez
  · cases h1; cases h2; cases ez
    exact .inl ⟨_, _, rfl, rfl, q I H _ Gr.refl rb .int⟩
  · cases h1; cases h2
    split at ez
    · rename_i hl
      cases ez
      exact .inr (.inl ⟨_, _, rfl, rfl, by rw [← most_eq]; exact hl, q I H _ Gr.refl rb .str⟩)
    · cases ez
  · obtain ⟨a, vs, rfl, ha, ra⟩ := h1
    obtain ⟨b, ws, rfl, hb, rb'⟩ := h2
    split at ez
    · rename_i hl
      cases ez
      refine .inr (.inr ⟨a, b, vs, ws, rfl, rfl, ha, hb, by rw [ra.length, rb'.length, ← most_eq]; exact hl, fun p hp => ?_⟩)
      obtain ⟨g, rb2⟩ := rb.new (o := .lst (vs ++ ws)) hp
      exact q _ _ _ g rb2 (.lst upd_same ((ra.append rb').gr g))
    · cases ez
  · cases ez
theorem os_mul : OpS K (rI CMulW fun i j => .int (i * j)) opMul := ops_int fun a b z e => by
  unfold opMul at e; split at e
  · split at e
    · cases e; exact ⟨_, _, rfl, rfl, by assumption, fun _ _ => .int⟩
    · cases e
  · cases e
def opPow : D → D → Option D
  | .int i, .int j => if 0 ≤ j ∧ j ≤ 1000000 ∧ i.natAbs < 2 ^ 64 then some (.int (i ^ j.toNat)) else none
  | _, _ => none
theorem os_pow : OpS K (rI CPow fun i j => .int (i ^ j.toNat)) opPow := ops_int fun a b z e => by
  unfold opPow at e; split at e
  · split at e
    · cases e; exact ⟨_, _, rfl, rfl, by assumption, fun _ _ => .int⟩
    · cases e
  · cases e
/-! ### subscripts -/
def opIx : D → D → Option D
  | .lst xs, .int i => atI xs i
  | .tup xs, .int i => atI xs i
  | .str z, .int i => if z.length ≤ most then (atI z.cps.toList i).map fun c => .str ⟨#[c]⟩ else none
  | _, _ => none
theorem Reps.atI {ρ : List Addr} {I : Hp} {vs : List V} {ws : List D} {i : Int} {w : D} (r : Reps K ρ I vs ws) (e : L2.atI ws i = some w) : ∃ v, L2.atI vs i = some v ∧ Rep K ρ I v w := by
  unfold L2.atI at e ⊢
  rw [r.length]
  obtain ⟨j, e1, e2⟩ := Option.bind_eq_some_iff.mp e
  obtain ⟨v, e3, rv⟩ := r.get e2
  exact ⟨v, by rw [e1]; exact e3, rv⟩
theorem os_ix : OpS K (rIx K) opIx := by
  intro F I ρ S H σV σ v1 v2 a b z Q rb h1 h2 ez q
  unfold opIx at ez
  split at ez
  · obtain ⟨a, vs, rfl, ha, ra⟩ := h1
    cases h2
    obtain ⟨v, ev, rv⟩ := ra.atI ez
    exact .inl ⟨a, vs, _, v, rfl, rfl, SqL_at ha, ev, q I H v Gr.refl rb rv⟩
  · obtain ⟨a, vs, rfl, ha, ra⟩ := h1
    cases h2
    obtain ⟨v, ev, rv⟩ := ra.atI ez
    exact .inr (.inl ⟨a, vs, _, v, rfl, rfl, ha, ev, q I H v Gr.refl rb rv⟩)
  · cases h1; cases h2
    split at ez
    · rename_i hl
      obtain ⟨c, ec, rfl⟩ := Option.map_eq_some_iff.mp ez
      exact .inr (.inr ⟨_, _, c, rfl, rfl, by rw [← most_eq]; exact hl, ec, q I H _ Gr.refl rb .str⟩)
    · cases ez
  · cases ez
theorem c_ix {X : Cx} {Wx : WX} {a b : Expr} {pos : Pos} {f g : DE} (ha : SE X Wx a f) (hb : SE X Wx b g) (hs : PlainIx b := by intro _ _; rfl) : SE X Wx (.Subscript a b pos) (d2 opIx f g) :=
  PE.imp (pe_ix ix_seq ha hb hs) fun _ _ _ h => sem_op os_ix h
/-! ### built-ins -/
def opLen : D → Option D
  | .lst xs => some (.int xs.length)
  | .tup xs => some (.int xs.length)
  | .str z => if z.length ≤ most then some (.int z.length) else none
  | _ => none
theorem b_len : B1 K (fun xs H Q => ∃ x n, xs = [x] ∧ LenV K x H n ∧ Q (.int n) H) opLen := by
  intro F I ρ S H σV σ v a z Q rb h ez q
  unfold opLen at ez
  split at ez
  · obtain ⟨a, vs, rfl, ha, ra⟩ := h
    cases ez
    exact ⟨_, _, rfl, .inl ⟨vs, SqL_at ha, rfl⟩, q I H _ Gr.refl rb (by rw [ra.length]; exact .int)⟩
  · obtain ⟨a, vs, rfl, ha, ra⟩ := h
    cases ez
    exact ⟨_, _, rfl, .inr ⟨vs, ha, rfl⟩, q I H _ Gr.refl rb (by rw [ra.length]; exact .int)⟩
  · cases h
    split at ez
    · rename_i hl
      cases ez
      exact ⟨_, _, rfl, ⟨by rw [← most_eq]; exact hl, rfl⟩, q I H _ Gr.refl rb .int⟩
    · cases ez
  · cases ez
def opAbs : D → Option D
  | .int i => some (.int (if i < 0 then -i else i))
  | _ => none
theorem b_abs : B1 K (fun xs H Q => ∃ i, xs = [.int i] ∧ Q (.int (if i < 0 then -i else i)) H) opAbs := by
  intro F I ρ S H σV σ v a z Q rb h ez q
  unfold opAbs at ez
  split at ez
  · cases h; cases ez
    exact ⟨_, rfl, q I H _ Gr.refl rb .int⟩
  · cases ez
def opMin : D → D → Option D
  | .int i, .int j => some (.int (if j < i then j else i))
  | _, _ => none
def opMax : D → D → Option D
  | .int i, .int j => some (.int (if j > i then j else i))
  | _, _ => none
theorem b_min : B2 K (fun xs H Q => ∃ i j, xs = [.int i, .int j] ∧ Q (.int (if j < i then j else i)) H) opMin := by
  intro F I ρ S H σV σ v1 v2 a b z Q rb h1 h2 ez q
  unfold opMin at ez
  split at ez
  · cases h1; cases h2; cases ez
    exact ⟨_, _, rfl, q I H _ Gr.refl rb .int⟩
  · cases ez
theorem b_max : B2 K (fun xs H Q => ∃ i j, xs = [.int i, .int j] ∧ Q (.int (if j > i then j else i)) H) opMax := by
  intro F I ρ S H σV σ v1 v2 a b z Q rb h1 h2 ez q
  unfold opMax at ez
  split at ez
  · cases h1; cases h2; cases ez
    exact ⟨_, _, rfl, q I H _ Gr.refl rb .int⟩
  · cases ez
def bools : List D → Option (List Bool)
  | [] => some []
  | .bl b :: r => (bools r).map fun bs => b :: bs
  | _ => none
theorem Reps.bools {ρ : List Addr} {I : Hp} : ∀ {vs : List V} {ws : List D} {bs : List Bool}, Reps K ρ I vs ws → MR.bools ws = some bs → vs = bs.map V.bl
  | _, _, _, .nil, e => by cases e; rfl
  | _, _, _, .cons h r, e => by
    unfold MR.bools at e
    split at e
    · rename_i h1; cases h1
    · rename_i b rest h1
      cases h1
      obtain ⟨bs, e1, rfl⟩ := Option.map_eq_some_iff.mp e
      cases h
      rw [Reps.bools r e1]
      rfl
    · cases e
def opAll : D → Option D
  | .lst xs => (bools xs).map fun bs => .bl (bs.all id)
  | _ => none
def opAny : D → Option D
  | .lst xs => (bools xs).map fun bs => .bl (bs.any id)
  | _ => none
theorem b_all : B1 K (rAll K) opAll := by
  intro F I ρ S H σV σ v a z Q rb h ez q
  unfold opAll at ez
  split at ez
  · obtain ⟨a, vs, rfl, ha, ra⟩ := h
    obtain ⟨bs, e, rfl⟩ := Option.map_eq_some_iff.mp ez
    have := ra.bools e
    subst this
    exact ⟨a, bs, rfl, SqL_at ha, q I H _ Gr.refl rb .bl⟩
  · cases ez
theorem b_any : B1 K (rAny K) opAny := by
  intro F I ρ S H σV σ v a z Q rb h ez q
  unfold opAny at ez
  split at ez
  · obtain ⟨a, vs, rfl, ha, ra⟩ := h
    obtain ⟨bs, e, rfl⟩ := Option.map_eq_some_iff.mp ez
    have := ra.bools e
    subst this
    exact ⟨a, bs, rfl, SqL_at ha, q I H _ Gr.refl rb .bl⟩
  · cases ez
/-- int(text) -/
def opIntS : D → Option D
  | .str a => if a.length ≤ 640 then (PySem.intText? a).map D.int else none
  | .int i => some (.int i)
  | .bl k => some (.int (if k then 1 else 0))
  | _ => none
def rIntA : List V → Hp → VK → Prop := fun xs H Q => (∃ a n, xs = [.str a] ∧ PySem.intText? a = some n ∧ a.length ≤ 640 ∧ Q (.int n) H) ∨ ((∃ i, xs = [.int i] ∧ Q (.int i) H) ∨ ∃ k, xs = [.bl k] ∧ Q (.int (if k then 1 else 0)) H)
theorem call_intA {X : Cx} : CallR X (.type "int") rIntA := by
  intro pins s σ H xs us Q I r h
  rcases h with h | h
  · exact call_int_str pins s σ H xs us Q I r h
  · exact call_int1 pins s σ H xs us Q I r h
theorem b_int : B1 K rIntA opIntS := by
  intro F I ρ S H σV σ v a z Q rb h ez q
  unfold opIntS at ez
  split at ez
  · cases h
    split at ez
    · rename_i hl
      obtain ⟨n, e, rfl⟩ := Option.map_eq_some_iff.mp ez
      exact .inl ⟨_, n, rfl, e, hl, q I H _ Gr.refl rb .int⟩
    · cases ez
  · cases h; cases ez
    exact .inr (.inl ⟨_, rfl, q I H _ Gr.refl rb .int⟩)
  · cases h; cases ez
    exact .inr (.inr ⟨_, rfl, q I H _ Gr.refl rb .int⟩)
  · cases ez
end
end MR

set_option Elab.async false
set_option linter.all false
set_option maxRecDepth 100000
/-! MR6: is None, isinstance, slices; targets; what is walked; for; comprehensions. -/
namespace MR
open PySem PySem.Spec PyProof.Rows L2

section
variable {X : Cx} {Wx : WX}
/-! ### is None -/
def isN : D → Bool
  | .non => true
  | _ => false
def dIsN (f : DE) : DE := fun σ S => (f σ S).bind fun x σ S => .ok (.bl (isN x)) σ S
def dNotN (f : DE) : DE := fun σ S => (f σ S).bind fun x σ S => .ok (.bl (!isN x)) σ S
theorem TRep.isN {K : PySem.W.Frag} {F I : Hp} {ρ : List Addr} {S : Sto} {H : Hp} {σV : L2.St} {σ : Sl} {v : V} {x : D} (rb : RB K F I ρ S H σV σ) (t : TRep K ρ I σV v x) (hl : ∀ i, x = .loc i → ∃ c, σ[i]? = some (.own c)) : decide (v = V.non) = MR.isN x := by
  rcases t with ⟨i, rfl, hv⟩ | t
  · obtain ⟨c, hc⟩ := hl i rfl
    obtain ⟨a, ha, _⟩ := rb.slot i _ hc
    rw [hv] at ha
    cases ha
    rfl
  · cases t <;> rfl
theorem sem_isN {f : DE} {σV : L2.St} {H : Hp} {Q : VK} (h : semE X.K Wx (dIsN (dV f)) σV H Q) : tIsN (semV X.K Wx (dV f)) σV H Q := by
  obtain ⟨F, I, ρ, σ, S, rb, h⟩ := h
  refine ⟨F, I, ρ, σ, S, rb, post_bind h fun I1 ρ1 σ1 S1 H1 x v1 _ g1 rb1 t1 h1 => ?_⟩
  have e : decide (v1 = V.non) = MR.isN x := by cases t1 <;> rfl
  rw [e]
  exact h1 I1 ρ1 H1 _ Gr.refl rb1 (.inr .bl)
theorem sem_notN {f : DE} {σV : L2.St} {H : Hp} {Q : VK} (h : semE X.K Wx (dNotN (dV f)) σV H Q) : tNotN (semV X.K Wx (dV f)) σV H Q := by
  obtain ⟨F, I, ρ, σ, S, rb, h⟩ := h
  refine ⟨F, I, ρ, σ, S, rb, post_bind h fun I1 ρ1 σ1 S1 H1 x v1 _ g1 rb1 t1 h1 => ?_⟩
  have e : decide (v1 = V.non) = MR.isN x := by cases t1 <;> rfl
  rw [e]
  exact h1 I1 ρ1 H1 _ Gr.refl rb1 (.inr .bl)
theorem c_isN {a : Expr} {j : Nat} {pos pos' : Pos} {f : DE} (h : SE X Wx a f) : SE X Wx (.Compare a [.Is] [.Constant .none j pos'] pos) (dIsN (dV f)) := PE.imp (pe_cmp (pc_isN (c_v h))) fun _ _ _ h => sem_isN h
theorem c_notN {a : Expr} {j : Nat} {pos pos' : Pos} {f : DE} (h : SE X Wx a f) : SE X Wx (.Compare a [.IsNot] [.Constant .none j pos'] pos) (dNotN (dV f)) := PE.imp (pe_cmp (pc_notN (c_v h))) fun _ _ _ h => sem_notN h
theorem ct_isN {a : Expr} {j : Nat} {pos pos' : Pos} {f : DE} (h : SE X Wx a f) : ST X Wx (.Compare a [.Is] [.Constant .none j pos'] pos) (tVal (dIsN (dV f))) := PT.imp (pt_cmp (pc_isN (c_v h))) fun _ _ _ h => sem_isN (sem_tval h)
theorem ct_notN {a : Expr} {j : Nat} {pos pos' : Pos} {f : DE} (h : SE X Wx a f) : ST X Wx (.Compare a [.IsNot] [.Constant .none j pos'] pos) (tVal (dNotN (dV f))) := PT.imp (pt_cmp (pc_notN (c_v h))) fun _ _ _ h => sem_notN (sem_tval h)

/-! ### isinstance(e, T), T a built-in class -/
inductive Kd where
  | int | bool | str | tuple | list | dict
def Kd.nm : Kd → String
  | .int => "int" | .bool => "bool" | .str => "str" | .tuple => "tuple" | .list => "list" | .dict => "dict"
def isiD : Kd → D → Option Bool
  | .int, .int _ => some true | .int, .bl _ => some true
  | .bool, .bl _ => some true
  | .str, .str _ => some true
  | .tuple, .tup _ => some true
  | .list, .lst _ => some true
  | .dict, .dK _ => some true
  | _, .non => some false | _, .bl _ => some false | _, .int _ => some false | _, .str _ => some false | _, .tup _ => some false | _, .lst _ => some false | _, .dK _ => some false
  | _, _ => none
def opIsi (k : Kd) (a : D) : Option D := (isiD k a).map D.bl
def rIsi1 (K : PySem.W.Frag) (c : V) : V → Hp → VK → Prop := fun x H Q => rIsi K [x, c] H Q
theorem SqT_ty {K : PySem.W.Frag} {H : Hp} {a : Addr} {vs : List V} (h : SqT K H a vs) : TyX K H (.ref a) (.type "tuple") := by
  rcases h with (h | ⟨o, h⟩) | h
  · exact .base (.tup h)
  · exact .fTuple h
  · obtain ⟨o, its, n, h1, h2, _⟩ := h
    exact .kTuple h1 h2
theorem os_isi {K : PySem.W.Frag} (k : Kd) {F I : Hp} {ρ : List Addr} {S : Sto} {H : Hp} {σV : L2.St} {σ : Sl} {v : V} {a z : D} {Q : VK} (rb : RB K F I ρ S H σV σ) (h : At K ρ I H v a) (ez : opIsi k a = some z) (q : ∀ v, Rep K ρ I v z → Q v H) : rIsi K [v, .ty k.nm] H Q := by
  obtain ⟨b, eb, rfl⟩ := Option.map_eq_some_iff.mp ez
  cases a with
  | non => cases h; cases k <;> cases eb <;> exact ⟨_, _, _, _, _, rfl, .ty _, .base .non, kit_ty (by decide +kernel), q _ .bl⟩
  | bl b => cases h; cases k <;> cases eb <;> exact ⟨_, _, _, _, _, rfl, .ty _, .base (.bl _), kit_ty (by decide +kernel), q _ .bl⟩
  | int i => cases h; cases k <;> cases eb <;> exact ⟨_, _, _, _, _, rfl, .ty _, .base (.int _), kit_ty (by decide +kernel), q _ .bl⟩
  | str x => cases h; cases k <;> cases eb <;> exact ⟨_, _, _, _, _, rfl, .ty _, .base (.str _), kit_ty (by decide +kernel), q _ .bl⟩
  | tup ws => obtain ⟨a, vs, rfl, h, _⟩ := h; cases k <;> cases eb <;> exact ⟨_, _, _, _, _, rfl, .ty _, SqT_ty h, kit_ty (by decide +kernel), q _ .bl⟩
  | lst ws => obtain ⟨a, vs, rfl, h, _⟩ := h; cases k <;> cases eb <;> exact ⟨_, _, _, _, _, rfl, .ty _, .base (.lst h), kit_ty (by decide +kernel), q _ .bl⟩
  | dK ws =>
    obtain ⟨a, kvs, rfl, h, _⟩ := h
    have ty : TyX K H (.ref a) (.type "dict") := by
      rcases h with h | ⟨o, h⟩
      · exact .base (.dK h)
      · exact .fDict h
    cases k <;> cases eb <;> exact ⟨_, _, _, _, _, rfl, .ty _, ty, kit_ty (by decide +kernel), q _ .bl⟩
  | _ => cases k <;> cases eb
theorem sem_isi {k : Kd} {f : DE} {σV : L2.St} {H : Hp} {Q : VK} (h : semE X.K Wx (d1 (opIsi k) f) σV H Q) : tCB (rIsi X.K) (tCons (semE X.K Wx f) (tCons (tC (.ty k.nm)) tNil)) σV H Q := by
  obtain ⟨F, I, ρ, σ, S, rb, h⟩ := h
  refine ⟨F, I, ρ, σ, S, rb, post_bind h fun I1 ρ1 σ1 S1 H1 x v1 _ g1 rb1 t1 h1 => ?_⟩
  obtain ⟨z, ez, h3⟩ := post_opt h1
  obtain ⟨a, ea, ez⟩ := Option.bind_eq_some_iff.mp ez
  exact os_isi k rb1 (rb1.at t1 ea) ez fun v r => h3 I1 ρ1 H1 v Gr.refl rb1 (.inr r)
theorem c_isi (k : Kd) {e : Expr} {p q pos : Pos} {f : DE} (hm : X.mg "isinstance" = none) (hk : X.mg (Str.ofString k.nm) = none) (h : SE X Wx e f) (hv : bootBuiltins (Str.ofString k.nm) = some (.type k.nm) := by decide +kernel) (hg : Gl X "isinstance" := by rfl) (hg2 : Gl X (Str.ofString k.nm) := by rfl) (hn : (Str.ofString k.nm) ≠ "__name__" := by decide) (hdb : (Str.ofString k.nm == ("__debug__" : Str)) = false := by decide)
    (he : starEach [e, .Name (Str.ofString k.nm) q] X.env = (false, eval e X.env) :: starEach [.Name (Str.ofString k.nm) q] X.env := by rfl) (hpl : (backTo pos (starEach [.Name (Str.ofString k.nm) q] X.env)).any (·.1) = false := by rfl) :
    SE X Wx (.Call (.Name "isinstance" p) [e, .Name (Str.ofString k.nm) q] [] pos) (d1 (opIsi k) f) :=
  PE.imp (pe_callB call_isi hg hm (by decide +kernel) (pa_cons h (pa_cons (pe_bltn (v := .ty k.nm) hg2 hk hv rfl hn hdb) pa_nil) he) (by decide) (by decide) he hpl) fun _ _ _ h => sem_isi h

/-! ### slices -/
def cutL {α : Type} (xs : List α) (lo hi : Option Int) : List α := (xs.drop (HT.sIx xs.length 0 lo)).take (HT.sIx xs.length xs.length hi - HT.sIx xs.length 0 lo)
theorem cutL_len {α : Type} (xs : List α) (lo hi : Option Int) : (cutL xs lo hi).length ≤ xs.length := by
  unfold cutL
  rw [List.length_take, List.length_drop]
  omega
def opSl : D → Option Int → Option Int → Option D
  | .lst xs, lo, hi => some (.lst (cutL xs lo hi))
  | .scr ns, lo, hi => some (.lst ((cutL ns lo hi).map D.int))
  | .tup xs, lo, hi => if HT.sIx xs.length 0 lo = 0 ∧ HT.sIx xs.length xs.length hi = xs.length then none else some (.tup (cutL xs lo hi))
  | .str z, lo, hi => if z.length ≤ most then some (.str (cutS z lo hi)) else none
  | _, _, _ => none
/-- a slice's part: left out, or an int -/
abbrev DO := Sl → Sto → Res (Option Int)
def oNone : DO := fun σ S => .ok none σ S
def oSome (f : DE) : DO := fun σ S => (f σ S).bind fun x σ S => match x with
  | .int i => .ok (some i) σ S
  | _ => .fail
abbrev semO (K : PySem.W.Frag) (Wx : WX) (f : DO) : TO := semR K Wx (fun _ _ _ b a => b = a) f
abbrev SO (X : Cx) (Wx : WX) (e : Option Expr) (f : DO) : Prop := PO X e (semO X.K Wx f)
theorem _root_.L2.PO.imp {X : Cx} {e : Option Expr} {t t' : TO} (h : PO X e t) (i : ∀ σ H Q, t' σ H Q → t σ H Q) : PO X e t' := ⟨fun pins s σ H Q I q => h.run pins s σ H Q I (i _ _ _ q)⟩
theorem co_none : SO X Wx none oNone := PO.imp po_none fun σV H Q h => by
  obtain ⟨F, I, ρ, σ, S, rb, h⟩ := h
  exact h I ρ H none Gr.refl rb rfl
theorem co_some {e : Expr} {f : DE} (h : SE X Wx e f) : SO X Wx (some e) (oSome f) := PO.imp (po_some h) fun σV H Q h => by
  obtain ⟨F, I, ρ, σ, S, rb, h⟩ := h
  refine ⟨F, I, ρ, σ, S, rb, post_bind h fun I1 ρ1 σ1 S1 H1 x v1 _ g1 rb1 t1 h1 => ?_⟩
  rcases t1 with ⟨i, rfl, _⟩ | t1
  · exact h1.elim
  · cases t1 with
    | int => exact ⟨_, rfl, h1 I1 ρ1 H1 _ Gr.refl rb1 rfl⟩
    | _ => exact h1.elim
def dSl (f : DE) (lo hi : DO) : DE := fun σ S => (f σ S).bind fun x σ S => (lo σ S).bind fun l σ S => (hi σ S).bind fun u σ S => ofOpt ((deref σ S x).bind fun a => opSl a l u) σ S
def rSlA (K : PySem.W.Frag) : V → Option Int → Option Int → Hp → VK → Prop := fun x lo hi H Q => rSlL K x lo hi H Q ∨ (rSlT K x lo hi H Q ∨ (∃ z, x = .str z ∧ z.length ≤ sizeLine ∧ Q (.str (cutS z lo hi)) H))
theorem Reps.cut {K : PySem.W.Frag} {ρ : List Addr} {I : Hp} {vs : List V} {ws : List D} (r : Reps K ρ I vs ws) (lo hi : Option Int) : Reps K ρ I (cutV vs lo hi) (cutL ws lo hi) := by
  unfold cutV cutL
  rw [r.length]
  exact (r.drop _).take _
theorem cutV_map (ns : List Int) (lo hi : Option Int) : cutV (ns.map V.int) lo hi = (cutL ns lo hi).map V.int := by
  unfold cutV cutL
  rw [List.length_map, List.map_take, List.map_drop]
theorem Reps.ints {K : PySem.W.Frag} {ρ : List Addr} {I : Hp} : ∀ ns : List Int, Reps K ρ I (ns.map V.int) (ns.map D.int)
  | [] => .nil
  | _ :: r => .cons .int (Reps.ints r)
theorem sl_all : SlR X (rSlA X.K) := sl_list.or (sl_tup.or sl_str)
theorem cf_sl {e : Expr} {lo hi : Option Expr} {p2 pos : Pos} {f : DE} {l u : DO} (h : SE X Wx e f) (hl : SO X Wx lo l) (hu : SO X Wx hi u) : SF X Wx (.Subscript e (.Slice lo hi none p2) pos) (dSl f l u) := by
  refine PE.imp (pe_slice sl_all h hl hu) fun σV H Q h => ?_
  obtain ⟨F, I, ρ, σ, S, rb, h⟩ := h
  refine ⟨F, I, ρ, σ, S, rb, postF_bind h fun I1 ρ1 σ1 S1 H1 x v1 _ g1 rb1 t1 h1 => ?_⟩
  refine ⟨F, I1, ρ1, σ1, S1, rb1, postF_bind h1 fun I2 ρ2 σ2 S2 H2 a2 b2 _ g2 rb2 t2 h2 => ?_⟩
  subst t2
  refine ⟨F, I2, ρ2, σ2, S2, rb2, postF_bind h2 fun I3 ρ3 σ3 S3 H3 a3 b3 _ g3 rb3 t3 h3 => ?_⟩
  subst t3
  cases ez : (deref σ3 S3 x).bind fun a => opSl a b2 b3 with
  | none => rw [ez] at h3; exact h3.elim
  | some z =>
    rw [ez] at h3
    obtain ⟨a, ea, ez⟩ := Option.bind_eq_some_iff.mp ez
    have hat := rb3.at ((t1.gr g2).gr g3) ea
    unfold opSl at ez
    split at ez
    · cases ez
      obtain ⟨a, vs, rfl, ha, ra⟩ := hat
      refine .inl ⟨a, vs, rfl, SqL_at ha, fun p hp => ?_⟩
      obtain ⟨rb4, nf, ni, nr, no⟩ := rb3.newO (o := .lst (cutV vs b2 b3)) hp
      exact h3 _ ρ3 _ _ Gr.refl rb4 (.inl ⟨p, rfl, nf, ni, nr, no, _, upd_same, ra.cut _ _⟩)
    · cases ez
      obtain ⟨a, rfl, ha⟩ := hat
      refine .inl ⟨a, _, rfl, ha, fun p hp => ?_⟩
      obtain ⟨rb4, nf, ni, nr, no⟩ := rb3.newO (o := .lst (cutV _ b2 b3)) hp
      exact h3 _ ρ3 _ _ Gr.refl rb4 (.inl ⟨p, rfl, nf, ni, nr, no, _, upd_same, by rw [cutV_map]; exact Reps.ints _⟩)
    · split at ez
      · cases ez
      · rename_i hw
        cases ez
        obtain ⟨a, vs, rfl, ha, ra⟩ := hat
        refine .inr (.inl ⟨a, vs, rfl, ha, by rw [ra.length]; exact hw, fun p hp => ?_⟩)
        obtain ⟨g4, rb4⟩ := rb3.new (o := .tup (cutV vs b2 b3)) hp
        exact h3 _ ρ3 _ _ g4 rb4 (.inr ⟨rfl, .tup (.inl (.inl upd_same)) ((ra.cut _ _).gr g4)⟩)
    · cases hat
      split at ez
      · rename_i hl
        cases ez
        exact .inr (.inr ⟨_, rfl, by rw [← most_eq]; exact hl, h3 I3 ρ3 H3 _ Gr.refl rb3 (.inr ⟨rfl, .str⟩)⟩)
      · cases ez
    · cases ez

/-! ### targets -/
abbrev DG := D → Sl → Option Sl
abbrev DGs := List D → Sl → Option Sl
def gN (i : Nat) : DG := fun d σ => some (σ.set i (.val d))
def gsNil : DGs := fun ds σ => match ds with
  | [] => some σ
  | _ => none
def gsCons (g : DG) (gs : DGs) : DGs := fun ds σ => match ds with
  | d :: r => (g d σ).bind fun σ' => gs r σ'
  | [] => none
def gT (n : Nat) (gs : DGs) : DG := fun d σ => match d with
  | .tup ws => if ws.length = n then gs ws σ else none
  | _ => none
end
end MR

set_option Elab.async false
set_option linter.all false
set_option maxRecDepth 100000
/-! MR7: targets; what is walked; for; comprehensions. -/
namespace MR
open PySem PySem.Spec PyProof.Rows L2

theorem _root_.L2.PG.imp {X : Cx} {e : Expr} {t t' : TG} (h : PG X e t) (i : ∀ v σ H Q, t' v σ H Q → t v σ H Q) : PG X e t' := ⟨fun pins s σ H v u Q I r q => h.run pins s σ H v u Q I r (i _ _ _ _ q)⟩
theorem _root_.L2.PGs.imp {X : Cx} {e : List Expr} {t t' : TGs} (h : PGs X e t) (i : ∀ v σ H Q, t' v σ H Q → t v σ H Q) : PGs X e t' := ⟨fun pins s σ H v u Q I r q => h.run pins s σ H v u Q I r (i _ _ _ _ q)⟩
theorem _root_.L2.PI.imp {X : Cx} {tg e : Expr} {t t' : TI} (h : PI X tg e t) (i : ∀ σ H Q, t' σ H Q → t σ H Q) : PI X tg e t' := ⟨fun pins s σ H Q I q => h.run pins s σ H Q I (i _ _ _ q)⟩
theorem _root_.L2.PTs.imp {X : Cx} {e : List Expr} {t t' : TT} (h : PTs X e t) (i : ∀ σ H Q, t' σ H Q → t σ H Q) : PTs X e t' := ⟨fun pins s σ H Q I q => h.run pins s σ H Q I (i _ _ _ q)⟩
section
variable {X : Cx} {Wx : WX}
theorem wipe_get (σ : L2.St) : ∀ (vs : List Nat) (j : Nat), (wipe σ vs)[j]? = if j ∈ vs then (σ[j]?).map (fun _ => none) else σ[j]?
  | [], j => by simp [wipe]
  | v :: vs, j => by
    unfold wipe
    by_cases e : v = j
    · subst e
      rw [if_pos (List.mem_cons_self ..)]
      by_cases lt : v < (wipe σ vs).length
      · rw [List.getElem?_set_self lt]
        rw [wipe_length] at lt
        rw [List.getElem?_eq_getElem lt]
        rfl
      · rw [List.getElem?_eq_none (by rw [List.length_set]; omega)]
        rw [wipe_length] at lt
        rw [List.getElem?_eq_none (by omega)]
        rfl
    · rw [List.getElem?_set_ne e, wipe_get σ vs j]
      have : (j ∈ v :: vs) ↔ j ∈ vs := by
        rw [List.mem_cons]
        exact ⟨fun h => h.elim (fun z => absurd z.symm e) id, .inr⟩
      by_cases h : j ∈ vs
      · rw [if_pos h, if_pos (this.mpr h)]
      · rw [if_neg h, if_neg (fun z => h (this.mp z))]
theorem wipe_set {σ : L2.St} {vs : List Nat} {i : Nat} {x : Option V} (h : i ∈ vs) : wipe (σ.set i x) vs = wipe σ vs := by
  apply List.ext_getElem?
  intro j
  rw [wipe_get, wipe_get]
  by_cases hj : j ∈ vs
  · rw [if_pos hj, if_pos hj]
    by_cases e : i = j
    · subst e
      by_cases lt : i < σ.length
      · rw [List.getElem?_set_self lt, List.getElem?_eq_getElem lt]
        rfl
      · rw [List.getElem?_eq_none (by rw [List.length_set]; omega), List.getElem?_eq_none (by omega)]
    · rw [List.getElem?_set_ne e]
  · have ne : i ≠ j := fun e => by subst e; exact hj h
    rw [if_neg hj, if_neg hj, List.getElem?_set_ne ne]
/-- vs: the slots that the target may set -/
def semG (K : PySem.W.Frag) (vs : List Nat) (g : DG) : TG := fun v σV H Q => ∃ F I ρ σ S d σ', RB K F I ρ S H σV σ ∧ Rep K ρ I v d ∧ g d σ = some σ' ∧ ∀ σV', wipe σV' vs = wipe σV vs → RB K F I ρ S H σV' σ' → Q σV' H
def semGs (K : PySem.W.Frag) (vs : List Nat) (g : DGs) : TGs := fun us σV H Q => ∃ F I ρ σ S ds σ', RB K F I ρ S H σV σ ∧ Reps K ρ I us ds ∧ g ds σ = some σ' ∧ ∀ σV', wipe σV' vs = wipe σV vs → RB K F I ρ S H σV' σ' → Q σV' H
abbrev SG (X : Cx) (vs : List Nat) (e : Expr) (g : DG) : Prop := PG X e (semG X.K vs g)
abbrev SGs (X : Cx) (vs : List Nat) (e : List Expr) (g : DGs) : Prop := PGs X e (semGs X.K vs g)
variable {tvs : List Nat}
theorem cg_name (i : Nat) {x : Str} {pos : Pos} (hN : X.N.Nodup) (hi : X.N[i]? = some x := by rfl) (hx : Loc X.env.scope x := by first | exact Or.inl rfl | exact Or.inr rfl) (hf : X.fn x = true ∨ X.env.scope.names.lookup x = some .local := by first | exact .inl rfl | exact .inr rfl | assumption) (hv : i ∈ tvs := by decide) : SG X tvs (.Name x pos) (gN i) := by
  refine PG.imp (pg_name hN hi hx hf) fun v σV H Q h => ?_
  obtain ⟨F, I, ρ, σ, S, d, σ', rb, r, e, q⟩ := h
  cases e
  exact q _ (wipe_set hv) (rb.setV r)
theorem cgs_nil : SGs X tvs [] gsNil := by
  refine PGs.imp pgs_nil fun vs σV H Q h => ?_
  obtain ⟨F, I, ρ, σ, S, ds, σ', rb, r, e, q⟩ := h
  cases r with
  | nil => cases e; exact ⟨rfl, q _ rfl rb⟩
  | cons _ _ => cases e
theorem cgs_cons {e : Expr} {es : List Expr} {g : DG} {gs : DGs} (h : SG X tvs e g) (k : SGs X tvs es gs) (hs : (assignEach (e :: es) X.env).map (·.2) = assign e X.env :: (assignEach es X.env).map (·.2) := by rfl) : SGs X tvs (e :: es) (gsCons g gs) := by
  refine PGs.imp (pgs_cons h k hs) fun vs σV H Q h => ?_
  obtain ⟨F, I, ρ, σ, S, ds, σ', rb, r, e, q⟩ := h
  cases r with
  | nil => cases e
  | cons h1 h2 =>
    obtain ⟨σ1, e1, e2⟩ := Option.bind_eq_some_iff.mp e
    exact ⟨_, _, rfl, F, I, ρ, σ, S, _, σ1, rb, h1, e1, fun σV' ew rb' => ⟨F, I, ρ, σ1, S, _, σ', rb', h2, e2, fun σV2 ew2 => q σV2 (ew2.trans ew)⟩⟩
theorem cg_tup {es : List Expr} {k n : Nat} {pos : Pos} {gs : DGs} (h : SGs X tvs es gs) (hc : X.calm = true := by rfl) (hn : (assignEach es X.env).length = n := by rfl) (hst : (assignEach es X.env).findIdx? (·.1) = none := by rfl) : SG X tvs (.Tuple es k pos) (gT n gs) := by
  refine PG.imp (pg_tup hc h hn hst) fun v σV H Q h => ?_
  obtain ⟨F, I, ρ, σ, S, d, σ', rb, r, e, q⟩ := h
  unfold gT at e
  split at e
  · rename_i ws
    split at e
    · rename_i hl
      cases r with
      | tup ht hr => exact ⟨_, _, rfl, rb.sub.sqT ht, by rw [hr.length]; exact hl, F, I, ρ, σ, S, ws, σ', rb, hr, e, q⟩
    · cases e
  · cases e
/-- target = value, for any target -/
def sAsg (g : DG) (f : DE) : DS := fun σ S => (dV f σ S).bind fun w σ S => (match g w σ with
  | some σ' => .ok .next σ' S
  | none => .fail)
theorem cs_asg {fr : Bool} {tg e : Expr} {pos : Pos} {f : DE} {g : DG} (hg : SG X tvs tg g) (h : SE X Wx e f) (hs : swapsWithSole [tg] e pos.line X.env = pure false := by rfl) (hw : swappedStores [tg] e X.env = pure none := by rfl) (h1 : (assignEach [tg] X.env).map (·.2) = [assign tg X.env] := by rfl) : SS fr X Wx (.Assign [tg] e pos) (sAsg g f) := by
  refine PS.imp (ps_asg (c_v h) hg hs hw h1) fun D σV H h => ?_
  obtain ⟨F, I, ρ, σ, S, rb, h⟩ := h
  refine ⟨F, I, ρ, σ, S, rb, postS_bind h fun I1 ρ1 σ1 S1 H1 x v1 _ g1 rb1 t1 h1 => ?_⟩
  split at h1
  · rename_i σ' e
    exact ⟨F, I1, ρ1, σ1, S1, x, σ', rb1, t1, e, fun σV' _ rb' => h1 I1 ρ1 H1 σV' Gr.refl rb'⟩
  · exact h1.elim

/-! ### what is walked -/
/-- J walks the items, whatever is done meanwhile to what is not frozen -/
def Walks (K : PySem.W.Frag) (F I : Hp) (ρ : List Addr) (J : It) (items : List D) : Prop := ∀ (I2 : Hp) (ρ2 : List Addr) (S2 : Sto) (H2 : Hp) (σV2 : L2.St) (σ2 : Sl), Gr ρ I ρ2 I2 → RB K F I2 ρ2 S2 H2 σV2 σ2 →
  (∀ (i : Nat) (d : D), items[i]? = some d → J.go i H2 ∧ ∀ x H3, J.yld i H2 x H3 → ∃ I3, Gr ρ2 I2 ρ2 I3 ∧ RB K F I3 ρ2 S2 H3 σV2 σ2 ∧ Rep K ρ2 I3 x d) ∧ J.stop items.length H2
abbrev DI := Sl → Sto → Res (List D)
def postI (K : PySem.W.Frag) (Wx : WX) (F I : Hp) (ρ : List Addr) (σV : L2.St) (r : Res (List D)) (R : It → Hp → Prop) : Prop := match r with
  | .ok items σ' S' => ∀ I' ρ' H' J, Gr ρ I ρ' I' → RB K F I' ρ' S' H' σV σ' → (∀ F', (∀ a o, F a = some o → F' a = some o) → Walks K F' I' ρ' J items) → R J H'
  | .exc e σ' S' => ∀ I' ρ' H' d, Gr ρ I ρ' I' → RB K F I' ρ' S' H' σV σ' → ExcAt e d H' → Wx (.ref (ca K e.c)) d σV H'
  | .fail => False
def semI (K : PySem.W.Frag) (Wx : WX) (f : DI) : TI := fun σV H R => ∃ F I ρ σ S, RB K F I ρ S H σV σ ∧ postI K Wx F I ρ σV (f σ S) R
abbrev SI (X : Cx) (Wx : WX) (tg iter : Expr) (f : DI) : Prop := PI X tg iter (semI X.K Wx f)
theorem postI_gr {K : PySem.W.Frag} {F I : Hp} {ρ : List Addr} {σV : L2.St} {r : Res (List D)} {R : It → Hp → Prop} {I1 : Hp} {ρ1 : List Addr} (g : Gr ρ I ρ1 I1) (h : postI K Wx F I ρ σV r R) : postI K Wx F I1 ρ1 σV r R := by
  cases r with
  | ok a σ S => exact fun I' ρ' H' b g' => h I' ρ' H' b (g.trans g')
  | exc e σ S => exact fun I' ρ' H' d g' => h I' ρ' H' d (g.trans g')
  | fail => exact h
theorem postI_bind {K : PySem.W.Frag} {F I : Hp} {ρ : List Addr} {σV : L2.St} {α β : Type} {T : List Addr → Hp → L2.St → β → α → Prop} {r : Res α} {k : α → Sl → Sto → Res (List D)} {R : It → Hp → Prop} {Q1 : β → Hp → Prop}
    (h : postI K Wx F I ρ σV (r.bind k) R)
    (q : ∀ I1 ρ1 σ1 S1 H1 a b, r = .ok a σ1 S1 → Gr ρ I ρ1 I1 → RB K F I1 ρ1 S1 H1 σV σ1 → T ρ1 I1 σV b a → postI K Wx F I1 ρ1 σV (k a σ1 S1) R → Q1 b H1) : postR K Wx T F I ρ σV r Q1 := by
  cases r with
  | ok a σ S => exact fun I' ρ' H' b g rb t => q I' ρ' σ S H' a b rfl g rb t (postI_gr g h)
  | exc e σ S => exact h
  | fail => exact h
/-- a list, kept -/
def iLst (f : DE) : DI := fun σ S => (dV f σ S).bind fun x σ S => match x with
  | .lst ws => .ok ws σ S
  | _ => .fail
theorem walks_list {K : PySem.W.Frag} {I : Hp} {ρ : List Addr} {a : Addr} {vs : List V} {ws : List D} (h : I a = some (.lst vs)) (r : Reps K ρ I vs ws) : ∀ F, Walks K F I ρ (Itl K a) ws := fun F I2 ρ2 S2 H2 σV2 σ2 g rb => by
  have ha : SqL K H2 a vs := rb.sub.sqL (.inl (.inl (g.ex _ _ h)))
  refine ⟨fun i d hd => ?_, vs, ha, by rw [r.length]; exact Nat.le_refl _⟩
  obtain ⟨v, hv, rv⟩ := r.get hd
  refine ⟨⟨vs, v, ha, hv⟩, fun x H3 y => ?_⟩
  obtain ⟨rfl, y⟩ := y
  have := y vs ha
  rw [hv] at this
  cases this
  exact ⟨I2, Gr.refl, rb, rv.gr g⟩
/-- a tuple -/
def iTup (f : DE) : DI := fun σ S => (dV f σ S).bind fun x σ S => match x with
  | .tup ws => .ok ws σ S
  | _ => .fail
theorem walks_tup {K : PySem.W.Frag} {I : Hp} {ρ : List Addr} {a : Addr} {vs : List V} {ws : List D} (h : SqT K I a vs) (r : Reps K ρ I vs ws) : ∀ F, Walks K F I ρ (Itt K a) ws := fun F I2 ρ2 S2 H2 σV2 σ2 g rb => by
  have ha : SqT K H2 a vs := rb.sub.sqT (SqT.gr g h)
  refine ⟨fun i d hd => ?_, vs, ha, by rw [r.length]; exact Nat.le_refl _⟩
  obtain ⟨v, hv, rv⟩ := r.get hd
  refine ⟨⟨vs, v, ha, hv⟩, fun x H3 y => ?_⟩
  obtain ⟨rfl, y⟩ := y
  have := y vs ha
  rw [hv] at this
  cases this
  exact ⟨I2, Gr.refl, rb, rv.gr g⟩
theorem ci_list {tg e : Expr} {f : DE} (h : SE X Wx e f) : SI X Wx tg e (iLst f) := by
  refine PI.imp (pi_list (c_v h)) fun σV H R h => ?_
  obtain ⟨F, I, ρ, σ, S, rb, h⟩ := h
  refine ⟨F, I, ρ, σ, S, rb, postI_bind h fun I1 ρ1 σ1 S1 H1 x v1 _ g1 rb1 t1 h1 => ?_⟩
  cases t1 with
  | lst hl hr => exact ⟨_, rfl, ⟨_, rb1.sub.sqL (.inl (.inl hl))⟩, h1 I1 ρ1 H1 _ Gr.refl rb1 fun F' _ => walks_list hl hr F'⟩
  | _ => exact h1.elim
theorem ci_tup {tg e : Expr} {f : DE} (h : SE X Wx e f) : SI X Wx tg e (iTup f) := by
  refine PI.imp (pi_tup (c_v h)) fun σV H R h => ?_
  obtain ⟨F, I, ρ, σ, S, rb, h⟩ := h
  refine ⟨F, I, ρ, σ, S, rb, postI_bind h fun I1 ρ1 σ1 S1 H1 x v1 _ g1 rb1 t1 h1 => ?_⟩
  cases t1 with
  | tup hl hr => exact ⟨_, rfl, ⟨_, rb1.sub.sqT hl⟩, h1 I1 ρ1 H1 _ Gr.refl rb1 fun F' _ => walks_tup hl hr F'⟩
  | _ => exact h1.elim
/-- a text's signs -/
def signs (x : Str) : List D := x.cps.toList.map fun c => .str ⟨#[c]⟩
def iStr (f : DE) : DI := fun σ S => (dV f σ S).bind fun x σ S => match x with
  | .str z => .ok (signs z) σ S
  | _ => .fail
theorem ci_str {tg e : Expr} {f : DE} (h : SE X Wx e f) : SI X Wx tg e (iStr f) := by
  refine PI.imp (pi_str (c_v h)) fun σV H R h => ?_
  obtain ⟨F, I, ρ, σ, S, rb, h⟩ := h
  refine ⟨F, I, ρ, σ, S, rb, postI_bind h fun I1 ρ1 σ1 S1 H1 x v1 _ g1 rb1 t1 h1 => ?_⟩
  cases t1 with
  | @str z =>
    refine ⟨z, rfl, h1 I1 ρ1 H1 _ Gr.refl rb1 fun F' _ I2 ρ2 S2 H2 σV2 σ2 g rb => ⟨fun i d hd => ?_, by unfold signs; rw [List.length_map, Array.length_toList]; exact Nat.le_refl _⟩⟩
    unfold signs at hd
    rw [List.getElem?_map] at hd
    obtain ⟨c, hc, rfl⟩ := Option.map_eq_some_iff.mp hd
    rw [Array.getElem?_toList] at hc
    refine ⟨(Array.getElem?_eq_some_iff.mp hc).1, fun x H3 y => ?_⟩
    obtain ⟨rfl, c', hc', rfl⟩ := y
    rw [hc] at hc'
    cases hc'
    exact ⟨I2, Gr.refl, rb, .str⟩
  | _ => exact h1.elim
/-- range -/
def ran (lo hi : Int) : List D := (List.range (hi - lo).toNat).map fun k => .int (lo + (k : Nat))
def small (i : Int) : Prop := -(2 ^ 62) ≤ i ∧ i < 2 ^ 62
instance (i : Int) : Decidable (small i) := by unfold small; infer_instance
def iRan1 (f : DE) : DI := fun σ S => (f σ S).bind fun x σ S => match x with
  | .int j => if small j then .ok (ran 0 j) σ S else .fail
  | _ => .fail
def iRan2 (f g : DE) : DI := fun σ S => (f σ S).bind fun x σ S => (g σ S).bind fun y σ S => match x, y with
  | .int i, .int j => if small i ∧ small j then .ok (ran i j) σ S else .fail
  | _, _ => .fail
theorem walks_ran {K : PySem.W.Frag} {F I : Hp} {ρ : List Addr} (lo hi : Int) : Walks K F I ρ (Itr lo (hi - lo).toNat) (ran lo hi) := fun I2 ρ2 S2 H2 σV2 σ2 g rb => by
  refine ⟨fun i d hd => ?_, by unfold ran; rw [List.length_map, List.length_range]; exact Nat.le_refl _⟩
  unfold ran at hd
  rw [List.getElem?_map] at hd
  obtain ⟨k, hk, rfl⟩ := Option.map_eq_some_iff.mp hd
  have hlt : i < (hi - lo).toNat := by
    have := (List.getElem?_eq_some_iff.mp hk).1
    rw [List.length_range] at this
    exact this
  rw [List.getElem?_range hlt] at hk
  cases hk
  refine ⟨hlt, fun x H3 y => ?_⟩
  obtain ⟨rfl, rfl⟩ := y
  exact ⟨I2, Gr.refl, rb, .int⟩
theorem ci_ran1 {tg a : Expr} {p pos : Pos} {f : DE} (hm : X.mg "range" = none) (h : SE X Wx a f) (hg : Gl X "range" := by rfl) (hs : starEach [a] X.env = [(false, eval a X.env)] := by rfl) : SI X Wx tg (.Call (.Name "range" p) [a] [] pos) (iRan1 f) := by
  refine PI.imp (pi_range1 hg hm (pa_cons h pa_nil hs) hs) fun σV H R h => ?_
  obtain ⟨F, I, ρ, σ, S, rb, h⟩ := h
  refine ⟨F, I, ρ, σ, S, rb, postI_bind h fun I1 ρ1 σ1 S1 H1 x v1 er1 g1 rb1 t1 h1 => ?_⟩
  split at h1
  · rename_i j
    split at h1
    · rename_i hj
      rcases t1 with ⟨i, q, _⟩ | t1
      · cases q
      · cases t1
        refine ⟨j, rfl, hj.1, hj.2, ?_⟩
        have w : ∀ F', Walks X.K F' I1 ρ1 (Itr 0 j.toNat) (ran 0 j) := fun F' => by
          have := walks_ran (K := X.K) (F := F') (I := I1) (ρ := ρ1) 0 j
          rw [Int.sub_zero] at this
          exact this
        exact h1 I1 ρ1 H1 _ Gr.refl rb1 fun F' _ => w F'
    · exact h1.elim
  · exact h1.elim
theorem ci_ran2 {tg a b : Expr} {p pos : Pos} {f g : DE} (hm : X.mg "range" = none) (h : SE X Wx a f) (k : SE X Wx b g) (hg : Gl X "range" := by rfl) (hs : starEach [a, b] X.env = [(false, eval a X.env), (false, eval b X.env)] := by rfl) (hs2 : starEach [b] X.env = [(false, eval b X.env)] := by rfl) : SI X Wx tg (.Call (.Name "range" p) [a, b] [] pos) (iRan2 f g) := by
  have hs1 : starEach [a, b] X.env = (false, eval a X.env) :: starEach [b] X.env := by rw [hs, hs2]
  refine PI.imp (pi_range2 hg hm (pa_cons h (pa_cons k pa_nil hs2) hs1) hs hs2) fun σV H R h => ?_
  obtain ⟨F, I, ρ, σ, S, rb, h⟩ := h
  refine ⟨F, I, ρ, σ, S, rb, postI_bind h fun I1 ρ1 σ1 S1 H1 x v1 er1 g1 rb1 t1 h1 => ?_⟩
  refine ⟨F, I1, ρ1, σ1, S1, rb1, postI_bind h1 fun I2 ρ2 σ2 S2 H2 y v2 er2 g2 rb2 t2 h2 => ?_⟩
  split at h2
  · rename_i i j
    split at h2
    · rename_i hj
      rcases t1 with ⟨i, q, _⟩ | t1
      · cases q
      · rcases t2 with ⟨i, q, _⟩ | t2
        · cases q
        · cases t1; cases t2
          exact ⟨i, j, rfl, ⟨hj.1.1, hj.1.2, hj.2.1, hj.2.2⟩, h2 I2 ρ2 H2 _ Gr.refl rb2 fun F' _ => walks_ran i j⟩
    · exact h2.elim
  · exact h2.elim
/-- zip of two lists, of two tuples -/
def pairs : List D → List D → List D
  | x :: xs, y :: ys => .tup [x, y] :: pairs xs ys
  | _, _ => []
def iZip (f g : DE) : DI := fun σ S => (dV f σ S).bind fun x σ S => (dV g σ S).bind fun y σ S => match x, y with
  | .lst xs, .lst ys => .ok (pairs xs ys) σ S
  | .tup xs, .tup ys => .ok (pairs xs ys) σ S
  | _, _ => .fail
theorem pairs_get : ∀ {xs ys : List D} {i : Nat} {d : D}, (pairs xs ys)[i]? = some d → ∃ x y, xs[i]? = some x ∧ ys[i]? = some y ∧ d = .tup [x, y]
  | x :: xs, y :: ys, 0, d, h => by cases h; exact ⟨x, y, rfl, rfl, rfl⟩
  | x :: xs, y :: ys, i + 1, d, h => pairs_get (xs := xs) (ys := ys) (i := i) h
  | [], _, i, d, h => by simp [pairs] at h
  | _ :: _, [], i, d, h => by simp [pairs] at h
theorem pairs_len : ∀ (xs ys : List D), xs.length ≤ (pairs xs ys).length ∨ ys.length ≤ (pairs xs ys).length
  | x :: xs, y :: ys => by
    rcases pairs_len xs ys with h | h
    · exact .inl (Nat.succ_le_succ h)
    · exact .inr (Nat.succ_le_succ h)
  | [], _ => .inl (Nat.zero_le _)
  | _ :: _, [] => .inr (Nat.zero_le _)
theorem walks_zip {K : PySem.W.Frag} {I : Hp} {ρ : List Addr} {a b : Addr} {vs us : List V} {ws zs : List D} (h : I a = some (.lst vs)) (r : Reps K ρ I vs ws) (h' : I b = some (.lst us)) (r' : Reps K ρ I us zs) : ∀ F, Walks K F I ρ (Itz K a b) (pairs ws zs) := fun F I2 ρ2 S2 H2 σV2 σ2 g rb => by
  have ha : SqL K H2 a vs := rb.sub.sqL (.inl (.inl (g.ex _ _ h)))
  have hb : SqL K H2 b us := rb.sub.sqL (.inl (.inl (g.ex _ _ h')))
  refine ⟨fun i d hd => ?_, vs, us, ha, hb, by rw [r.length, r'.length]; exact pairs_len ws zs⟩
  obtain ⟨x, y, hx, hy, rfl⟩ := pairs_get hd
  obtain ⟨v, hv, rv⟩ := r.get hx
  obtain ⟨u, hu, ru⟩ := r'.get hy
  refine ⟨⟨vs, us, v, u, ha, hb, hv, hu⟩, fun z H3 q => ?_⟩
  obtain ⟨T, x', y', rfl, hT, rfl, q1, q2⟩ := q
  have e1 := q1 vs ha
  have e2 := q2 us hb
  rw [hv] at e1
  rw [hu] at e2
  cases e1; cases e2
  obtain ⟨g3, rb3⟩ := rb.new (o := .tup [v, u]) hT
  exact ⟨_, g3, rb3, .tup (.inl (.inl upd_same)) (.cons ((rv.gr g).gr g3) (.cons ((ru.gr g).gr g3) .nil))⟩
theorem walks_zipT {K : PySem.W.Frag} {I : Hp} {ρ : List Addr} {a b : Addr} {vs us : List V} {ws zs : List D} (h : SqT K I a vs) (r : Reps K ρ I vs ws) (h' : SqT K I b us) (r' : Reps K ρ I us zs) : ∀ F, Walks K F I ρ (RZ.ItzT K a b) (pairs ws zs) := fun F I2 ρ2 S2 H2 σV2 σ2 g rb => by
  have ha : SqT K H2 a vs := rb.sub.sqT (SqT.gr g h)
  have hb : SqT K H2 b us := rb.sub.sqT (SqT.gr g h')
  refine ⟨fun i d hd => ?_, vs, us, ha, hb, by rw [r.length, r'.length]; exact pairs_len ws zs⟩
  obtain ⟨x, y, hx, hy, rfl⟩ := pairs_get hd
  obtain ⟨v, hv, rv⟩ := r.get hx
  obtain ⟨u, hu, ru⟩ := r'.get hy
  refine ⟨⟨vs, us, v, u, ha, hb, hv, hu⟩, fun z H3 q => ?_⟩
  obtain ⟨T, x', y', rfl, hT, rfl, q1, q2⟩ := q
  have e1 := q1 vs ha
  have e2 := q2 us hb
  rw [hv] at e1
  rw [hu] at e2
  cases e1; cases e2
  obtain ⟨g3, rb3⟩ := rb.new (o := .tup [v, u]) hT
  exact ⟨_, g3, rb3, .tup (.inl (.inl upd_same)) (.cons ((rv.gr g).gr g3) (.cons ((ru.gr g).gr g3) .nil))⟩
theorem ci_zip {elts : List Expr} {kk : Nat} {tpos : Pos} {a b : Expr} {p pos : Pos} {f g : DE} (hm : X.mg "zip" = none) (h : SE X Wx a f) (k : SE X Wx b g) (hg : Gl X "zip" := by rfl) (hs : starEach [a, b] X.env = (false, eval a X.env) :: starEach [b] X.env := by rfl) (hs2 : starEach [b] X.env = (false, eval b X.env) :: starEach [] X.env := by rfl) (hpl : (backTo pos (starEach [b] X.env)).any (·.1) = false := by rfl) :
    SI X Wx (.Tuple elts kk tpos) (.Call (.Name "zip" p) [a, b] [] pos) (iZip f g) := by
  refine PI.imp (RZ.pi_zipA hg hm (pa_cons (c_v h) (pa_cons (c_v k) pa_nil hs2) hs) hs hpl) fun σV H R h => ?_
  obtain ⟨F, I, ρ, σ, S, rb, h⟩ := h
  refine ⟨F, I, ρ, σ, S, rb, postI_bind h fun I1 ρ1 σ1 S1 H1 x v1 _ g1 rb1 t1 h1 => ?_⟩
  refine ⟨F, I1, ρ1, σ1, S1, rb1, postI_bind h1 fun I2 ρ2 σ2 S2 H2 y v2 _ g2 rb2 t2 h2 => ?_⟩
  have t1 := t1.gr g2
  split at h2
  · cases t1 with
    | lst q1 r1 => cases t2 with
      | lst q2 r2 => exact ⟨_, _, _, _, rfl, .inl ⟨rb2.sub.sqL (.inl (.inl q1)), rb2.sub.sqL (.inl (.inl q2)), h2 I2 ρ2 H2 _ Gr.refl rb2 fun F' _ => walks_zip q1 r1 q2 r2 F'⟩⟩
  · cases t1 with
    | tup q1 r1 => cases t2 with
      | tup q2 r2 => exact ⟨_, _, _, _, rfl, .inr ⟨rb2.sub.sqT q1, rb2.sub.sqT q2, h2 I2 ρ2 H2 _ Gr.refl rb2 fun F' _ => walks_zipT q1 r1 q2 r2 F'⟩⟩
  · exact h2.elim
/-- enumerate of a list -/
def enum (lo : Int) : List D → List D
  | [] => []
  | d :: ds => .tup [.int lo, d] :: enum (lo + 1) ds
def iEnum (f : DE) : DI := fun σ S => (dV f σ S).bind fun x σ S => match x with
  | .lst xs => .ok (enum 0 xs) σ S
  | _ => .fail
theorem enum_get : ∀ {xs : List D} {lo : Int} {i : Nat} {d : D}, (enum lo xs)[i]? = some d → ∃ x, xs[i]? = some x ∧ d = .tup [.int (lo + (i : Nat)), x]
  | x :: xs, lo, 0, d, h => by cases h; exact ⟨x, rfl, by simp⟩
  | x :: xs, lo, i + 1, d, h => by
    obtain ⟨y, hy, rfl⟩ := enum_get (xs := xs) (lo := lo + 1) (i := i) h
    exact ⟨y, hy, by congr 3; omega⟩
  | [], lo, i, d, h => by simp [enum] at h
theorem enum_len : ∀ (xs : List D) (lo : Int), (enum lo xs).length = xs.length
  | [], _ => rfl
  | _ :: xs, lo => congrArg (· + 1) (enum_len xs (lo + 1))
theorem ci_enum {elts : List Expr} {kk : Nat} {tpos : Pos} {a : Expr} {p pos : Pos} {f : DE} (hm : X.mg "enumerate" = none) (h : SE X Wx a f) (hg : Gl X "enumerate" := by rfl) (hs : starEach [a] X.env = [(false, eval a X.env)] := by rfl) :
    SI X Wx (.Tuple elts kk tpos) (.Call (.Name "enumerate" p) [a] [] pos) (iEnum f) := by
  refine PI.imp (pi_enum hg hm (pa_cons (c_v h) pa_nil hs) hs) fun σV H R h => ?_
  obtain ⟨F, I, ρ, σ, S, rb, h⟩ := h
  refine ⟨F, I, ρ, σ, S, rb, postI_bind h fun I1 ρ1 σ1 S1 H1 x v1 _ g1 rb1 t1 h1 => ?_⟩
  cases t1 with
  | @lst a vs ws hl r =>
    refine ⟨a, vs, rfl, rb1.sub.sqL (.inl (.inl hl)), h1 I1 ρ1 H1 _ Gr.refl rb1 fun F' _ I2 ρ2 S2 H2 σV2 σ2 g rb => ?_⟩
    have ha : SqL X.K H2 a vs := rb.sub.sqL (.inl (.inl (g.ex _ _ hl)))
    refine ⟨fun i d hd => ?_, vs, ha, by rw [enum_len, r.length]; exact Nat.le_refl _⟩
    obtain ⟨y, hy, rfl⟩ := enum_get hd
    obtain ⟨v, hv, rv⟩ := r.get hy
    refine ⟨⟨vs, v, ha, hv⟩, fun z H3 q => ?_⟩
    obtain ⟨T, x', rfl, hT, rfl, q1⟩ := q
    have e1 := q1 vs ha
    rw [hv] at e1
    cases e1
    obtain ⟨g3, rb3⟩ := rb.new (o := .tup [.int (i : Nat), v]) hT
    exact ⟨_, g3, rb3, .tup (.inl (.inl upd_same)) (.cons (by rw [Int.zero_add]; exact .int) (.cons ((rv.gr g).gr g3) .nil))⟩
  | _ => exact h1.elim

/-! ### for -/
def forL (g : DG) (f : DS) : List D → DS
  | [] => fun σ S => .ok .next σ S
  | d :: ds => fun σ S => match g d σ with
    | none => .fail
    | some σ => (f σ S).bind fun x σ S => (match x with
      | .next => forL g f ds σ S
      | .cnt => forL g f ds σ S
      | .brk => .ok .next σ S
      | .ret w => .ok (.ret w) σ S)
def sFor (it : DI) (g : DG) (f : DS) : DS := fun σ S => (it σ S).bind fun ds σ S => forL g f ds σ S
theorem cs_for {fr : Bool} {tg iter : Expr} {body : List Stmt} {pos : Pos} {it : DI} {g : DG} {f : DS} (hp : PassesOwn (model X.prog X.w) X.A X.env X.xe) (hi : SI X Wx tg iter it) (hg : SG X tvs tg g) (hb : SSs fr X Wx body f) (hc : X.calm = true := by rfl) (hs : ∀ x, foldedSetIterable iter X.env x = pure x := by intro _; rfl) : SS fr X Wx (.For tg iter body [] pos) (sFor it g f) := by
  refine PS.imp (ps_for hp hc hi hg hb hs) fun D σV H h => ?_
  obtain ⟨F, I, ρ, σ, S, rb, h⟩ := h
  refine ⟨F, I, ρ, σ, S, rb, ?_⟩
  unfold sFor at h
  cases e : it σ S with
  | exc a σ' S' => rw [e] at h; exact fun I' ρ' H' d => h I' ρ' H' d σV
  | fail => rw [e] at h; exact h
  | ok items σ' S' =>
    rw [e] at h
    intro I' ρ' H' J g' rb' wk
    have wk := wk F fun _ _ z => z
    have h : postS fr X.K Wx F I' ρ' (forL g f items σ' S') D := postS_gr g' h
    refine ⟨fun i m σV H => i + m = items.length ∧ ∃ I2 ρ2 σ2 S2, Gr ρ' I' ρ2 I2 ∧ RB X.K F I2 ρ2 S2 H σV σ2 ∧ postS fr X.K Wx F I2 ρ2 (forL g f (items.drop i) σ2 S2) D, ⟨items.length, Nat.zero_add _, I', ρ', σ', S', Gr.refl, rb', h⟩, ?_⟩
    intro i m σV2 H2 ⟨hm, I2, ρ2, σ2, S2, g2, rb2, h2⟩
    obtain ⟨w1, w2⟩ := wk I2 ρ2 S2 H2 σV2 σ2 g2 rb2
    cases m with
    | zero =>
      have hi : i = items.length := hm
      subst hi
      rw [List.drop_length] at h2
      exact .inl ⟨w2, h2 I2 ρ2 H2 σV2 Gr.refl rb2⟩
    | succ m =>
      have lt : i < items.length := by omega
      rw [List.drop_eq_getElem_cons lt] at h2
      obtain ⟨go, yl⟩ := w1 i items[i] (List.getElem?_eq_getElem lt)
      refine .inr ⟨go, fun σV3 H3 => i + 1 + m = items.length ∧ ∃ I2 ρ2 σ2 S2, Gr ρ' I' ρ2 I2 ∧ RB X.K F I2 ρ2 S2 H3 σV3 σ2 ∧ postS fr X.K Wx F I2 ρ2 (forL g f (items.drop (i + 1)) σ2 S2) D, fun σ' H' q => ⟨m, Nat.lt_succ_self m, q⟩, fun x H3 y => ?_⟩
      obtain ⟨I3, g3, rb3, r3⟩ := yl x H3 y
      unfold forL at h2
      split at h2
      · exact h2.elim
      · rename_i σ3 e3
        refine ⟨F, I3, ρ2, σ2, S2, items[i], σ3, rb3, r3, e3, fun σV4 _ rb4 => ⟨F, I3, ρ2, σ3, S2, rb4, ?_⟩⟩
        have h3 := postS_gr g3 h2
        cases e4 : f σ3 S2 with
        | ok a σ5 S5 =>
          rw [e4] at h3
          cases a with
          | next => exact fun I6 ρ6 H6 σV6 g6 rb6 => ⟨by omega, I6, ρ6, σ5, S5, ((g2.trans g3).trans g6), rb6, postS_gr g6 h3⟩
          | cnt => exact fun I6 ρ6 H6 σV6 g6 rb6 => ⟨by omega, I6, ρ6, σ5, S5, ((g2.trans g3).trans g6), rb6, postS_gr g6 h3⟩
          | brk => exact h3
          | ret w => exact h3
        | exc a σ5 S5 => rw [e4] at h3; exact h3
        | fail => rw [e4] at h3; exact h3
end
end MR

set_option Elab.async false
set_option linter.all false
set_option maxRecDepth 100000
/-! MR8: comprehensions. -/
namespace MR
open PySem PySem.Spec PyProof.Rows L2

def wipeD (σ : Sl) : List Nat → Sl
  | [] => σ
  | v :: vs => (wipeD σ vs).set v .emp
def restD (σ0 σ : Sl) : List Nat → Sl
  | [] => σ
  | v :: vs => (restD σ0 σ vs).set v ((σ0[v]?).getD .emp)
def noOwn (σ : Sl) (vs : List Nat) : Bool := vs.all fun i => match σ[i]? with
  | some (.own _) => false
  | _ => true
theorem wipeD_len (σ : Sl) : ∀ vs : List Nat, (wipeD σ vs).length = σ.length
  | [] => rfl
  | v :: vs => by unfold wipeD; rw [List.length_set, wipeD_len σ vs]
theorem restD_len (σ0 σ : Sl) : ∀ vs : List Nat, (restD σ0 σ vs).length = σ.length
  | [] => rfl
  | v :: vs => by unfold restD; rw [List.length_set, restD_len σ0 σ vs]
theorem setAt {α : Type} (l : List α) (v j : Nat) (f : Nat → α) : (l.set v (f v))[j]? = if j = v then (l[j]?).map (fun _ => f j) else l[j]? := by
  by_cases e : j = v
  · subst e
    rw [if_pos rfl]
    by_cases lt : j < l.length
    · rw [List.getElem?_set_self lt, List.getElem?_eq_getElem lt]; rfl
    · rw [List.getElem?_eq_none (by rw [List.length_set]; omega), List.getElem?_eq_none (by omega)]; rfl
  · rw [if_neg e, List.getElem?_set_ne (Ne.symm e)]
theorem wipeD_get (σ : Sl) : ∀ (vs : List Nat) (j : Nat), (wipeD σ vs)[j]? = if j ∈ vs then (σ[j]?).map (fun _ => Slot.emp) else σ[j]?
  | [], j => by simp [wipeD]
  | v :: vs, j => by
    unfold wipeD
    rw [setAt (wipeD σ vs) v j (fun _ => Slot.emp), wipeD_get σ vs j]
    by_cases e : j = v
    · subst e
      rw [if_pos rfl, if_pos (List.mem_cons_self ..)]
      split
      · rw [Option.map_map]; rfl
      · rfl
    · rw [if_neg e]
      by_cases h : j ∈ vs
      · rw [if_pos h, if_pos (List.mem_cons_of_mem _ h)]
      · rw [if_neg h, if_neg (fun z => (List.mem_cons.mp z).elim e h)]
theorem restD_get (σ0 σ : Sl) : ∀ (vs : List Nat) (j : Nat), (restD σ0 σ vs)[j]? = if j ∈ vs then (σ[j]?).map (fun _ => (σ0[j]?).getD .emp) else σ[j]?
  | [], j => by simp [restD]
  | v :: vs, j => by
    unfold restD
    rw [setAt (restD σ0 σ vs) v j (fun v => (σ0[v]?).getD .emp), restD_get σ0 σ vs j]
    by_cases e : j = v
    · subst e
      rw [if_pos rfl, if_pos (List.mem_cons_self ..)]
      split
      · rw [Option.map_map]; rfl
      · rfl
    · rw [if_neg e]
      by_cases h : j ∈ vs
      · rw [if_pos h, if_pos (List.mem_cons_of_mem _ h)]
      · rw [if_neg h, if_neg (fun z => (List.mem_cons.mp z).elim e h)]

section
variable {K : PySem.W.Frag} {F I : Hp} {ρ : List Addr} {S : Sto} {H : Hp} {σV : L2.St} {σ : Sl}
theorem RB.wipe (rb : RB K F I ρ S H σV σ) (vs : List Nat) : RB K F I ρ S H (L2.wipe σV vs) (wipeD σ vs) := by
  have own : ∀ {i : Nat} {c : D}, (wipeD σ vs)[i]? = some (.own c) → i ∉ vs ∧ σ[i]? = some (.own c) := fun {i c} h => by
    rw [wipeD_get] at h
    split at h
    · obtain ⟨_, _, e⟩ := Option.map_eq_some_iff.mp h
      cases e
    · rename_i hi; exact ⟨hi, h⟩
  refine ⟨rb.fr, rb.sub, rb.dis, rb.store, rb.nd, rb.rl, by rw [wipeD_len, wipe_length]; exact rb.len, fun i s h => ?_, fun i j c c' v h1 h2 h3 h4 => ?_⟩
  · rw [wipeD_get] at h
    split at h
    · obtain ⟨_, _, e⟩ := Option.map_eq_some_iff.mp h
      subst e
      trivial
    · rename_i hi
      have e : (L2.wipe σV vs)[i]? = σV[i]? := by rw [wipe_get, if_neg hi]
      have q := rb.slot i s h
      cases s with
      | emp => trivial
      | val w => obtain ⟨v, hv, r⟩ := q; exact ⟨v, e.trans hv, r⟩
      | own c => obtain ⟨a, ha, q⟩ := q; exact ⟨a, e.trans ha, q⟩
  · obtain ⟨n1, h1⟩ := own h1
    obtain ⟨n2, h2⟩ := own h2
    rw [wipe_get, if_neg n1] at h3
    rw [wipe_get, if_neg n2] at h4
    exact rb.inj i j c c' v h1 h2 h3 h4
theorem RB.unwipe {I' : Hp} {ρ' : List Addr} {S' : Sto} {H' : Hp} {σ' : Sl} {vs : List Nat} (rb : RB K F I ρ S H σV σ) (g : Gr ρ I ρ' I') (no : noOwn σ vs = true) (rb' : RB K F I' ρ' S' H' (L2.wipe σV vs) σ') : RB K F I' ρ' S' H' σV (restD σ σ' vs) := by
  have own : ∀ {i : Nat} {c : D}, (restD σ σ' vs)[i]? = some (.own c) → i ∉ vs ∧ σ'[i]? = some (.own c) := fun {i c} h => by
    rw [restD_get] at h
    split at h
    · rename_i hi
      obtain ⟨_, _, e⟩ := Option.map_eq_some_iff.mp h
      have q := List.all_eq_true.mp no i hi
      cases z : σ[i]? with
      | none => rw [z] at e; cases e
      | some s =>
        rw [z] at e q
        have e2 : s = .own c := e
        subst e2
        cases q
    · rename_i hi; exact ⟨hi, h⟩
  refine ⟨rb'.fr, rb'.sub, rb'.dis, rb'.store, rb'.nd, rb'.rl, by rw [restD_len]; exact rb'.len.trans (wipe_length _ _), fun i s h => ?_, fun i j c c' v h1 h2 h3 h4 => ?_⟩
  · cases s with
    | emp => trivial
    | own c =>
      obtain ⟨hi, h⟩ := own h
      obtain ⟨a, ha, q⟩ := rb'.slot i _ h
      rw [wipe_get, if_neg hi] at ha
      exact ⟨a, ha, q⟩
    | val w =>
      rw [restD_get] at h
      split at h
      · rename_i hi
        obtain ⟨_, _, e⟩ := Option.map_eq_some_iff.mp h
        cases z : σ[i]? with
        | none => rw [z] at e; cases e
        | some s =>
          rw [z] at e
          have e2 : s = .val w := e
          subst e2
          obtain ⟨v, hv, r⟩ := rb.slot i _ z
          exact ⟨v, hv, r.gr g⟩
      · rename_i hi
        obtain ⟨v, hv, r⟩ := rb'.slot i _ h
        rw [wipe_get, if_neg hi] at hv
        exact ⟨v, hv, r⟩
  · obtain ⟨n1, h1⟩ := own h1
    obtain ⟨n2, h2⟩ := own h2
    refine rb'.inj i j c c' v h1 h2 ?_ ?_
    · rw [wipe_get, if_neg n1]; exact h3
    · rw [wipe_get, if_neg n2]; exact h4
theorem RB.addF (rb : RB K F I ρ S H σV σ) {p : Addr} {o : HO} (hp : H p = none) : RB K (upd F p o) I ρ S (upd H p o) σV σ := by
  obtain ⟨rb2, nf, ni, nr, no⟩ := rb.newO (o := o) hp
  refine ⟨fun a u h => ?_, rb2.sub, fun a u h => ?_, fun r ob h => ?_, rb2.nd, rb2.rl, rb2.len, fun i s h => ?_, rb2.inj⟩
  · by_cases e : a = p
    · subst e; rw [upd_same] at h ⊢; exact h
    · rw [upd_ne e] at h; exact rb2.fr a u h
  · by_cases e : a = p
    · subst e; exact ni
    · rw [upd_ne e] at h; exact rb2.dis a u h
  · obtain ⟨a, ha, hf, hi, hc⟩ := rb2.store r ob h
    have n : a ≠ p := fun e => nr (e ▸ List.mem_of_getElem? ha)
    exact ⟨a, ha, by rw [upd_ne n]; exact hf, hi, hc⟩
  · have q := rb2.slot i s h
    cases s with
    | emp => trivial
    | val w => exact q
    | own c =>
      obtain ⟨a, ha, hf, hi, hr, ho⟩ := q
      have n : a ≠ p := fun e => no i c h (e ▸ ha)
      exact ⟨a, ha, by rw [upd_ne n]; exact hf, hi, hr, ho⟩
theorem RB.delF {p : Addr} {o : HO} (rb : RB K (upd F p o) I ρ S H σV σ) (hp : F p = none) : RB K F I ρ S H σV σ ∧ I p = none ∧ p ∉ ρ ∧ NoOwn σV σ p ∧ H p = some o := by
  have k : ∀ a u, F a = some u → upd F p o a = some u := fun a u h => by rw [upd_ne (ne_of_none h hp)]; exact h
  have kn : ∀ a, upd F p o a = none → F a = none ∧ a ≠ p := fun a h => by
    have n : a ≠ p := fun e => by subst e; rw [upd_same] at h; cases h
    rw [upd_ne n] at h
    exact ⟨h, n⟩
  refine ⟨⟨fun a u h => rb.fr a u (k a u h), rb.sub, fun a u h => rb.dis a u (k a u h), fun r ob h => ?_, rb.nd, rb.rl, rb.len, fun i s h => ?_, rb.inj⟩, rb.dis p o upd_same, fun hm => ?_, fun i c h1 h2 => ?_, rb.fr p o upd_same⟩
  · obtain ⟨a, ha, hf, hi, hc⟩ := rb.store r ob h
    exact ⟨a, ha, (kn a hf).1, hi, hc⟩
  · have q := rb.slot i s h
    cases s with
    | emp => trivial
    | val w => exact q
    | own c =>
      obtain ⟨a, ha, hf, q⟩ := q
      exact ⟨a, ha, (kn a hf).1, q⟩
  · obtain ⟨r, hr⟩ := List.getElem?_of_mem hm
    have lt : r < S.length := by rw [← rb.rl]; exact (List.getElem?_eq_some_iff.mp hr).1
    obtain ⟨a, ha, hf, _⟩ := rb.store r _ (List.getElem?_eq_getElem lt)
    rw [hr] at ha
    cases ha
    exact (kn _ hf).2 rfl
  · obtain ⟨a, ha, hf, _⟩ := rb.slot i _ h1
    rw [h2] at ha
    cases ha
    exact (kn _ hf).2 rfl
theorem RB.fset {p : Addr} {o o' : HO} (rb : RB K (upd F p o) I ρ S H σV σ) (hp : F p = none) : RB K (upd F p o') I ρ S (upd H p o') σV σ := by
  obtain ⟨rb2, ni, nr, no, _⟩ := rb.delF hp
  have k : ∀ b u, b ≠ p → H b = some u → upd H p o' b = some u := fun b u n h => by rw [upd_ne n]; exact h
  refine ⟨fun a u h => ?_, fun a u h => ?_, fun a u h => ?_, fun r ob h => ?_, rb2.nd, rb2.rl, rb2.len, fun i s h => ?_, rb2.inj⟩
  · by_cases e : a = p
    · subst e; rw [upd_same] at h ⊢; exact h
    · rw [upd_ne e] at h; exact k a u e (rb2.fr a u h)
  · have n := ne_of_none h ni
    rcases rb2.sub a u h with q | ⟨d, ob, q⟩
    · exact .inl (k _ _ n q)
    · exact .inr ⟨d, ob, k _ _ n q⟩
  · by_cases e : a = p
    · subst e; exact ni
    · rw [upd_ne e] at h; exact rb2.dis a u h
  · obtain ⟨a, ha, hf, hi, hc⟩ := rb2.store r ob h
    have n : a ≠ p := fun e => nr (e ▸ List.mem_of_getElem? ha)
    exact ⟨a, ha, by rw [upd_ne n]; exact hf, hi, hc.gr Gr.refl fun u => k a u n⟩
  · have q := rb2.slot i s h
    cases s with
    | emp => trivial
    | val w => exact q
    | own c =>
      obtain ⟨a, ha, hf, hi, hr, ho⟩ := q
      have n : a ≠ p := fun e => no i c h (e ▸ ha)
      exact ⟨a, ha, by rw [upd_ne n]; exact hf, hi, hr, ho.gr Gr.refl fun u => k a u n⟩
end

def lcL (g : DG) (c : DT) (e : DE) (vs : List Nat) : List D → List D → Sl → Sto → Res (List D)
  | [], acc, σ, S => .ok acc σ S
  | d :: ds, acc, σ, S => match g d σ with
    | none => .fail
    | some σ1 => (c σ1 S).bind fun b σ2 S2 => if b = true then (dV e σ2 S2).bind fun w σ3 S3 => (if acc.length < most then lcL g c e vs ds (acc ++ [w]) (wipeD σ3 vs) S3 else .fail)
        else lcL g c e vs ds acc (wipeD σ2 vs) S2
def noX {α : Type} : Res α → Res α
  | .exc _ _ _ => .fail
  | r => r
def dLc (it : DI) (g : DG) (c : DT) (e : DE) (vs : List Nat) : DE := fun σ S => (it σ S).bind fun items σ S => if noOwn σ vs = true then (noX (lcL g c e vs items [] (wipeD σ vs) S)).bind fun ws σ' S' => .ok (.lst ws) (restD σ σ' vs) S' else .fail
def tTrue : DT := fun σ S => .ok true σ S
abbrev W0 : WX := fun _ _ _ _ => False
section
variable {X : Cx} {Wx : WX}
theorem cts_nil : PTs X [] (semT X.K Wx tTrue) := PTs.imp pts_nil fun σV H Q h => by
  obtain ⟨F, I, ρ, σ, S, rb, h⟩ := h
  exact h I ρ H true Gr.refl rb rfl
theorem cts_one {c : Expr} {t : DT} (h : ST X Wx c t) : PTs X [c] (semT X.K Wx t) := pts_one h
theorem sem_lc {own : List (Str × Nat)} {it : DI} {g : DG} {c : DT} {f : DE} {σV : L2.St} {H : Hp} {Q : VK} (h : semF X.K Wx (dLc it g c f (own.map (·.2))) σV H Q) : tLc (semI X.K Wx it) (semG X.K (own.map (·.2)) g) (semT X.K W0 c) (semV X.K W0 (dV f)) (own.map (·.2)) σV H Q := by
  obtain ⟨F, I, ρ, σ, S, rb, h⟩ := h
  refine ⟨F, I, ρ, σ, S, rb, ?_⟩
  unfold dLc at h
  generalize hvs : own.map (·.2) = vs at h ⊢
  cases e : it σ S with
  | exc a σ' S' => rw [e] at h; exact h
  | fail => rw [e] at h; exact h
  | ok items σ' S' =>
    rw [e] at h
    intro I' ρ' H' J g' rb' wk Dl hD
    have h : postF X.K Wx F I' ρ' σV (if noOwn σ' vs = true then (noX (lcL g c f vs items [] (wipeD σ' vs) S')).bind fun ws σ'' S'' => .ok (.lst ws) (restD σ' σ'' vs) S'' else .fail) Q := postF_gr g' h
    split at h
    case isFalse => exact h.elim
    case isTrue hno =>
    have hF : F Dl = none := by
      cases q : F Dl with
      | none => rfl
      | some o => have := rb'.fr _ _ q; rw [hD] at this; cases this
    have rb0 := rb'.wipe vs
    refine ⟨fun i m H => i + m = items.length ∧ ∃ I2 ρ2 σ2 S2 acc accV, Gr ρ' I' ρ2 I2 ∧ RB X.K (upd F Dl (.lst accV)) I2 ρ2 S2 H (L2.wipe σV vs) σ2 ∧ Reps X.K ρ2 I2 accV acc ∧
      postF X.K Wx F I2 ρ2 σV ((noX (lcL g c f vs (items.drop i) acc σ2 S2)).bind fun ws σ'' S'' => .ok (.lst ws) (restD σ' σ'' vs) S'') Q, ⟨items.length, Nat.zero_add _, I', ρ', wipeD σ' vs, S', [], [], Gr.refl, rb0.addF hD, .nil, h⟩, ?_⟩
    intro i m H2 ⟨hm, I2, ρ2, σ2, S2, acc, accV, g2, rb2, racc, h2⟩
    obtain ⟨w1, w2⟩ := wk (upd F Dl (.lst accV)) (fun a o q => by rw [upd_ne (ne_of_none q hF)]; exact q) I2 ρ2 S2 H2 _ σ2 g2 rb2
    cases m with
    | zero =>
      have hi : i = items.length := hm
      subst hi
      rw [List.drop_length] at h2
      have h2 : postF X.K Wx F I2 ρ2 σV (.ok (.lst acc) (restD σ' σ2 vs) S2) Q := h2
      obtain ⟨rb3, ni, nr, no, hH⟩ := rb2.delF hF
      have rb4 := rb'.unwipe g2 hno rb3
      refine .inl ⟨w2, h2 I2 ρ2 H2 _ Gr.refl rb4 (.inl ⟨Dl, rfl, hF, ni, nr, fun j cc q1 q2 => ?_, accV, hH, racc⟩)⟩
      obtain ⟨b, hb, hfb, hib, hrb, hob⟩ := rb4.slot j _ q1
      rw [q2] at hb
      cases hb
      rw [restD_get] at q1
      split at q1
      · rename_i hj
        obtain ⟨_, _, ee⟩ := Option.map_eq_some_iff.mp q1
        have qq := List.all_eq_true.mp hno j hj
        cases z : σ'[j]? with
        | none => rw [z] at ee; cases ee
        | some s =>
          rw [z] at ee qq
          have e2 : s = .own cc := ee
          subst e2
          cases qq
      · rename_i hj
        refine no j cc q1 ?_
        rw [wipe_get, if_neg hj]
        exact q2
    | succ m =>
      have lt : i < items.length := by omega
      rw [List.drop_eq_getElem_cons lt] at h2
      obtain ⟨go, yl⟩ := w1 i items[i] (List.getElem?_eq_getElem lt)
      refine .inr ⟨go, fun H3 => i + 1 + m = items.length ∧ ∃ I2 ρ2 σ2 S2 acc accV, Gr ρ' I' ρ2 I2 ∧ RB X.K (upd F Dl (.lst accV)) I2 ρ2 S2 H3 (L2.wipe σV vs) σ2 ∧ Reps X.K ρ2 I2 accV acc ∧
        postF X.K Wx F I2 ρ2 σV ((noX (lcL g c f vs (items.drop (i + 1)) acc σ2 S2)).bind fun ws σ'' S'' => .ok (.lst ws) (restD σ' σ'' vs) S'') Q, fun H' q => ⟨m, Nat.lt_succ_self m, q⟩, fun x H3 y => ?_⟩
      obtain ⟨I3, g3, rb3, r3⟩ := yl x H3 y
      unfold lcL at h2
      cases eg : g items[i] σ2 with
      | none => rw [eg] at h2; exact h2.elim
      | some σ3 =>
        rw [eg] at h2
        subst hvs
        refine ⟨_, I3, ρ2, σ2, S2, items[i], σ3, rb3, r3, eg, fun σV4 ew rb4 => ⟨ew.trans ?_, _, I3, ρ2, σ3, S2, rb4, ?_⟩⟩
        · apply List.ext_getElem?
          intro j
          rw [wipe_get, wipe_get]
          split
          · rw [Option.map_map]; rfl
          · rfl
        have ew2 : L2.wipe σV4 (own.map (·.2)) = L2.wipe σV (own.map (·.2)) := ew.trans (by
          apply List.ext_getElem?
          intro j
          rw [wipe_get, wipe_get]
          split
          · rw [Option.map_map]; rfl
          · rfl)
        have h2 : postF X.K Wx F I3 ρ2 σV ((noX ((c σ3 S2).bind fun b σ2 S2 => if b = true then (dV f σ2 S2).bind fun w σ3 S3 => (if acc.length < most then lcL g c f (own.map (·.2)) (items.drop (i + 1)) (acc ++ [w]) (wipeD σ3 (own.map (·.2))) S3 else .fail) else lcL g c f (own.map (·.2)) (items.drop (i + 1)) acc (wipeD σ2 (own.map (·.2))) S2)).bind fun ws σ'' S'' => .ok (.lst ws) (restD σ' σ'' (own.map (·.2))) S'') Q := postF_gr g3 h2
        cases ec : c σ3 S2 with
        | exc a σ5 S5 => rw [ec] at h2; exact h2.elim
        | fail => rw [ec] at h2; exact h2.elim
        | ok b σ5 S5 =>
          rw [ec] at h2
          intro I5 ρ5 H5 b' g5 rb5 tb
          subst tb
          cases b' with
          | false =>
            rw [if_neg Bool.false_ne_true]
            have h3 : postF X.K Wx F I3 ρ2 σV ((noX (lcL g c f (own.map (·.2)) (items.drop (i + 1)) acc (wipeD σ5 (own.map (·.2))) S5)).bind fun ws σ'' S'' => .ok (.lst ws) (restD σ' σ'' (own.map (·.2))) S'') Q := h2
            have rb6 := rb5.wipe (own.map (·.2))
            rw [ew2] at rb6
            exact ⟨by omega, I5, ρ5, _, S5, acc, accV, (g2.trans g3).trans g5, rb6, racc.gr (g3.trans g5), postF_gr g5 h3⟩
          | true =>
            rw [if_pos rfl]
            have h3 : postF X.K Wx F I5 ρ5 σV ((noX ((dV f σ5 S5).bind fun w σ3 S3 => (if acc.length < most then lcL g c f (own.map (·.2)) (items.drop (i + 1)) (acc ++ [w]) (wipeD σ3 (own.map (·.2))) S3 else .fail))).bind fun ws σ'' S'' => .ok (.lst ws) (restD σ' σ'' (own.map (·.2))) S'') Q := postF_gr g5 h2
            refine ⟨_, I5, ρ5, σ5, S5, rb5, ?_⟩
            cases ev : dV f σ5 S5 with
            | exc a σ7 S7 => rw [ev] at h3; exact h3.elim
            | fail => rw [ev] at h3; exact h3.elim
            | ok w σ7 S7 =>
              rw [ev] at h3
              intro I7 ρ7 H7 v7 g7 rb7 r7
              have h4 : postF X.K Wx F I5 ρ5 σV ((noX (if acc.length < most then lcL g c f (own.map (·.2)) (items.drop (i + 1)) (acc ++ [w]) (wipeD σ7 (own.map (·.2))) S7 else .fail)).bind fun ws σ'' S'' => .ok (.lst ws) (restD σ' σ'' (own.map (·.2))) S'') Q := h3
              split at h4
              · rename_i hl
                obtain ⟨_, _, _, _, hH⟩ := rb7.delF hF
                refine ⟨accV, hH, by rw [racc.length, ← most_eq]; exact hl, by omega, I7, ρ7, _, S7, acc ++ [w], accV ++ [v7], ((g2.trans g3).trans g5).trans g7, ?_, ((racc.gr ((g3.trans g5).trans g7)).append (.cons r7 .nil)), postF_gr g7 h4⟩
                have rb8 := (rb7.fset (o' := .lst (accV ++ [v7])) hF).wipe (own.map (·.2))
                rw [ew2] at rb8
                exact rb8
              · exact h4.elim
theorem lc_noloc {it : DI} {g : DG} {c : DT} {f : DE} {vs : List Nat} : ∀ σ S w σ' S', dLc it g c f vs σ S = .ok w σ' S' → ∀ j, w ≠ .loc j := fun σ S w σ' S' h j => by
  unfold dLc at h
  cases e : it σ S with
  | exc a _ _ => rw [e] at h; cases h
  | fail => rw [e] at h; cases h
  | ok items σ1 S1 =>
    rw [e] at h
    dsimp only [Res.bind] at h
    split at h
    · cases e2 : noX (lcL g c f vs items [] (wipeD σ1 vs) S1) with
      | exc a _ _ => rw [e2] at h; cases h
      | fail => rw [e2] at h; cases h
      | ok ws σ2 S2 =>
        rw [e2] at h
        cases h
        intro z
        cases z
    · cases h
theorem cf_lc {elt tg iter : Expr} {ifs : List Expr} {scope : Scope} {own : List (Str × Nat)} {pos : Pos} {it : DI} {g : DG} {c : DT} {f : DE} (hN : X.N.Nodup) (ok : BlkOk X.N X.env.scope scope own) {vs : List Nat} (hvs : own.map (·.2) = vs) (hi : SI X Wx tg iter it)
    (hg : ∀ (s : Shared) (H : Hp) (C : Addr) (cl : List (Str × Addr)) (fp : List Addr), SG (X.blk s H scope (compEnvC scope cl C X.env) fp) vs tg g)
    (ht : ∀ (s : Shared) (H : Hp) (C : Addr) (cl : List (Str × Addr)) (fp : List Addr), PTs (X.blk s H scope (compEnvC scope cl C X.env) fp) ifs (semT X.K W0 c))
    (he : ∀ (s : Shared) (H : Hp) (C : Addr) (cl : List (Str × Addr)) (fp : List Addr), SE (X.blk s H scope (compEnvC scope cl C X.env) fp) W0 elt f) (hc : X.calm = true := by rfl) (hs : ∀ x, foldedSetIterable iter X.env x = pure x := by intro _; rfl) :
    SF X Wx (.ListComp elt [⟨tg, iter, ifs, 0⟩] scope pos) (dLc it g c f vs) := by
  subst hvs
  exact PE.imp (pe_lc (g := semG X.K (own.map (·.2)) g) (tt := semT X.K W0 c) (te := semV X.K W0 (dV f)) hc hN hi ok hg ht (fun s H C cl fp => c_v (he s H C cl fp)) hs) fun _ _ _ h => sem_lc h
/-- y = [..], y a local: stored within the comprehension's frame -/
theorem cs_setLcO {fr : Bool} {i : Nat} {y : Str} {py : Pos} {elt tg iter : Expr} {ifs : List Expr} {scope : Scope} {own : List (Str × Nat)} {pos spos : Pos} {it : DI} {g : DG} {c : DT} {f : DE} (hN : X.N.Nodup) (ok : BlkOk X.N X.env.scope scope own) {vs : List Nat} (hvs : own.map (·.2) = vs) (hsw : swapsWith (.ListComp elt [⟨tg, iter, ifs, 0⟩] scope pos) (some (.Name y py)) spos.line X.env = pure true) (hi : SI X Wx tg iter it)
    (hg : ∀ (s : Shared) (H : Hp) (C : Addr) (cl : List (Str × Addr)) (fp : List Addr), SG (X.blk s H scope (compEnvC scope cl C X.env) fp) vs tg g)
    (ht : ∀ (s : Shared) (H : Hp) (C : Addr) (cl : List (Str × Addr)) (fp : List Addr), PTs (X.blk s H scope (compEnvC scope cl C X.env) fp) ifs (semT X.K W0 c))
    (he : ∀ (s : Shared) (H : Hp) (C : Addr) (cl : List (Str × Addr)) (fp : List Addr), SE (X.blk s H scope (compEnvC scope cl C X.env) fp) W0 elt f) (hy : X.N[i]? = some y := by rfl) (hyl : X.env.scope.names.lookup y = some .local := by rfl) (hc : X.calm = true := by rfl) (hs : ∀ x, foldedSetIterable iter X.env x = pure x := by intro _; rfl) :
    SS fr X Wx (.Assign [.Name y py] (.ListComp elt [⟨tg, iter, ifs, 0⟩] scope pos) spos) (sSetO i (dLc it g c f vs)) := by
  subst hvs
  refine PS.imp (ps_setLc (g := semG X.K (own.map (·.2)) g) (tt := semT X.K W0 c) (te := semV X.K W0 (dV f)) hc hN hy hyl hsw hi ok hg ht (fun s H C cl fp => c_v (he s H C cl fp)) hs) fun D σV H h => ?_
  have h2 : semF X.K Wx (dLc it g c f (own.map (·.2))) σV H fun v H' => D.nx (σV.set i (some v)) H' := sem_setO h
  exact sem_lc h2
theorem cs_setLc {fr : Bool} {i : Nat} {y : Str} {py : Pos} {elt tg iter : Expr} {ifs : List Expr} {scope : Scope} {own : List (Str × Nat)} {pos spos : Pos} {it : DI} {g : DG} {c : DT} {f : DE} (hN : X.N.Nodup) (ok : BlkOk X.N X.env.scope scope own) {vs : List Nat} (hvs : own.map (·.2) = vs) (hsw : swapsWith (.ListComp elt [⟨tg, iter, ifs, 0⟩] scope pos) (some (.Name y py)) spos.line X.env = pure true) (hi : SI X Wx tg iter it)
    (hg : ∀ (s : Shared) (H : Hp) (C : Addr) (cl : List (Str × Addr)) (fp : List Addr), SG (X.blk s H scope (compEnvC scope cl C X.env) fp) vs tg g)
    (ht : ∀ (s : Shared) (H : Hp) (C : Addr) (cl : List (Str × Addr)) (fp : List Addr), PTs (X.blk s H scope (compEnvC scope cl C X.env) fp) ifs (semT X.K W0 c))
    (he : ∀ (s : Shared) (H : Hp) (C : Addr) (cl : List (Str × Addr)) (fp : List Addr), SE (X.blk s H scope (compEnvC scope cl C X.env) fp) W0 elt f) (hy : X.N[i]? = some y := by rfl) (hyl : X.env.scope.names.lookup y = some .local := by rfl) (hc : X.calm = true := by rfl) (hs : ∀ x, foldedSetIterable iter X.env x = pure x := by intro _; rfl) :
    SS fr X Wx (.Assign [.Name y py] (.ListComp elt [⟨tg, iter, ifs, 0⟩] scope pos) spos) (sSet i (dLc it g c f vs)) := by
  subst hvs
  refine PS.imp (ps_setLc (g := semG X.K (own.map (·.2)) g) (tt := semT X.K W0 c) (te := semV X.K W0 (dV f)) hc hN hy hyl hsw hi ok hg ht (fun s H C cl fp => c_v (he s H C cl fp)) hs) fun D σV H h => ?_
  have h2 : semF X.K Wx (dLc it g c f (own.map (·.2))) σV H fun v H' => D.nx (σV.set i (some v)) H' := sem_setF lc_noloc h
  exact sem_lc h2
end
end MR

set_option Elab.async false
set_option linter.all false
set_option maxRecDepth 100000
/-! MR9: in, not in; a < b < c; repeated texts and lists; join, split. -/
namespace MR
open PySem PySem.Spec PyProof.Rows L2

section
variable {K : PySem.W.Frag} {X : Cx} {Wx : WX}
/-! ### in -/
/-- flat data and their == -/
def flatD : D → Bool
  | .non => true | .bl _ => true | .int _ => true | .str _ => true
  | _ => false
def toV : D → V
  | .bl b => .bl b
  | .int i => .int i
  | .str x => .str x
  | _ => .non
def inD (x : D) (xs : List D) : Bool := inV (toV x) (xs.map toV)
theorem Rep.flat {ρ : List Addr} {I : Hp} {v : V} {w : D} (r : Rep K ρ I v w) (h : flatD w = true) : v = toV w ∧ flatV v = true := by
  cases r <;> first | exact ⟨rfl, rfl⟩ | cases h
theorem Reps.flat {ρ : List Addr} {I : Hp} : ∀ {vs : List V} {ws : List D}, Reps K ρ I vs ws → ws.all flatD = true → vs = ws.map toV ∧ vs.all flatV = true
  | _, _, .nil, _ => ⟨rfl, rfl⟩
  | _, _, .cons h r, e => by
    rw [List.all_cons, Bool.and_eq_true] at e
    obtain ⟨e1, e2⟩ := h.flat e.1
    obtain ⟨e3, e4⟩ := r.flat e.2
    exact ⟨by rw [e1, e3]; rfl, by rw [List.all_cons, e2, e4]; rfl⟩
theorem At.flat {ρ : List Addr} {I H : Hp} {v : V} {a : D} (r : At K ρ I H v a) (h : flatD a = true) : v = toV a ∧ flatV v = true := by
  cases a <;> first | (cases h; done) | (have r : v = _ := r; subst r; exact ⟨rfl, rfl⟩)
def inA : D → D → Option Bool
  | .str x, .str z => (match x.cps.toList with
    | [c] => some (decide (c ∈ z.cps.toList))
    | _ => none)
  | x, .lst xs => if flatD x && xs.all flatD then some (inD x xs) else none
  | x, .tup xs => if flatD x && xs.all flatD then some (inD x xs) else none
  | _, _ => none
def opIn (a b : D) : Option D := (inA a b).map D.bl
def opNotIn (a b : D) : Option D := (inA a b).map fun x => D.bl (!x)
def rInA (K : PySem.W.Frag) : R2 := fun x y H Q => (∃ (c : Nat) (z : Str), x = .str ⟨#[c]⟩ ∧ y = .str z ∧ Q (.bl (decide (c ∈ z.cps.toList))) H) ∨ rIn K false x y H Q
def rNotInA (K : PySem.W.Frag) : R2 := fun x y H Q => (∃ (c : Nat) (z : Str), x = .str ⟨#[c]⟩ ∧ y = .str z ∧ Q (.bl (!decide (c ∈ z.cps.toList))) H) ∨ rIn K true x y H Q
theorem op_inA : OpR X (compareOp .In) (rInA X.K) := op_in_sign.or op_in_seq
theorem op_notInA : OpR X (compareOp .NotIn) (rNotInA X.K) := op_notIn_sign.or op_notIn_seq
theorem inA_cases {ρ : List Addr} {I H : Hp} {v1 v2 : V} {a b : D} {x : Bool} (h1 : At K ρ I H v1 a) (h2 : At K ρ I H v2 b) (e : inA a b = some x) :
    (∃ (c : Nat) (z : Str), v1 = .str ⟨#[c]⟩ ∧ v2 = .str z ∧ decide (c ∈ z.cps.toList) = x) ∨ ∃ p xs, v2 = .ref p ∧ (SqL K H p xs ∨ SqT K H p xs) ∧ flatV v1 = true ∧ xs.all flatV = true ∧ inV v1 xs = x := by
  unfold inA at e
  split at e
  · rename_i x0 z0
    cases h1; cases h2
    cases hx : x0.cps.toList with
    | nil => rw [hx] at e; cases e
    | cons c r =>
      rw [hx] at e
      cases r with
      | cons _ _ => cases e
      | nil =>
        cases e
        have : x0 = ⟨#[c]⟩ := by
          obtain ⟨⟨l⟩⟩ := x0
          have : l = [c] := hx
          subst this
          rfl
        subst this
        exact .inl ⟨c, z0, rfl, rfl, rfl⟩
  · obtain ⟨p, vs, rfl, hp, r⟩ := h2
    split at e
    · rename_i hf
      obtain ⟨f1, f2⟩ := Bool.and_eq_true_iff.mp hf
      cases e
      obtain ⟨e1, e2⟩ := h1.flat f1
      obtain ⟨e3, e4⟩ := r.flat f2
      exact .inr ⟨p, vs, rfl, .inl (SqL_at hp), e2, e4, by rw [e1, e3]; rfl⟩
    · cases e
  · obtain ⟨p, vs, rfl, hp, r⟩ := h2
    split at e
    · rename_i hf
      obtain ⟨f1, f2⟩ := Bool.and_eq_true_iff.mp hf
      cases e
      obtain ⟨e1, e2⟩ := h1.flat f1
      obtain ⟨e3, e4⟩ := r.flat f2
      exact .inr ⟨p, vs, rfl, .inr hp, e2, e4, by rw [e1, e3]; rfl⟩
    · cases e
  · cases e
theorem os_in : OpS K (rInA K) opIn := by
  intro F I ρ S H σV σ v1 v2 a b z Q rb h1 h2 ez q
  obtain ⟨x, e, rfl⟩ := Option.map_eq_some_iff.mp ez
  rcases inA_cases h1 h2 e with ⟨c, z, rfl, rfl, hx⟩ | ⟨p, xs, rfl, hp, f1, f2, hx⟩
  · exact .inl ⟨c, z, rfl, rfl, by rw [hx]; exact q I H _ Gr.refl rb .bl⟩
  · exact .inr ⟨p, xs, rfl, hp, f1, f2, by rw [hx]; exact q I H _ Gr.refl rb .bl⟩
theorem os_notIn : OpS K (rNotInA K) opNotIn := by
  intro F I ρ S H σV σ v1 v2 a b z Q rb h1 h2 ez q
  obtain ⟨x, e, rfl⟩ := Option.map_eq_some_iff.mp ez
  rcases inA_cases h1 h2 e with ⟨c, z, rfl, rfl, hx⟩ | ⟨p, xs, rfl, hp, f1, f2, hx⟩
  · exact .inl ⟨c, z, rfl, rfl, by rw [hx]; exact q I H _ Gr.refl rb .bl⟩
  · exact .inr ⟨p, xs, rfl, hp, f1, f2, by rw [hx]; exact q I H _ Gr.refl rb .bl⟩
theorem c_in {a b : Expr} {pos : Pos} {f g : DE} (ha : SE X Wx a f) (hb : SE X Wx b g) (hm : behindInMarks .In b = false := by rfl) : SE X Wx (.Compare a [.In] [b] pos) (d2 opIn f g) := c_cmp op_inA os_in ha hb hm
theorem ct_in {a b : Expr} {pos : Pos} {f g : DE} (ha : SE X Wx a f) (hb : SE X Wx b g) (hm : behindInMarks .In b = false := by rfl) : ST X Wx (.Compare a [.In] [b] pos) (tVal (d2 opIn f g)) := ct_cmp op_inA os_in ha hb hm
theorem c_notIn {a b : Expr} {pos : Pos} {f g : DE} (ha : SE X Wx a f) (hb : SE X Wx b g) (hm : behindInMarks .NotIn b = false := by rfl) : SE X Wx (.Compare a [.NotIn] [b] pos) (d2 opNotIn f g) := c_cmp op_notInA os_notIn ha hb hm
theorem ct_notIn {a b : Expr} {pos : Pos} {f g : DE} (ha : SE X Wx a f) (hb : SE X Wx b g) (hm : behindInMarks .NotIn b = false := by rfl) : ST X Wx (.Compare a [.NotIn] [b] pos) (tVal (d2 opNotIn f g)) := ct_cmp op_notInA os_notIn ha hb hm

/-! ### a op b op' c -/
def dChain (op op' : D → D → Option D) (f g h : DE) : DE := fun σ S => (f σ S).bind fun x σ S => (g σ S).bind fun y σ S => match (deref σ S x).bind fun a => (deref σ S y).bind fun b => op a b with
  | some (.bl true) => (h σ S).bind fun z σ S => ofOpt ((deref σ S y).bind fun a => (deref σ S z).bind fun b => op' a b) σ S
  | some (.bl false) => .ok (.bl false) σ S
  | _ => .fail
theorem sem_chain {r r' : R2} {op op' : D → D → Option D} {f g h : DE} (ho : OpS X.K r op) (ho' : OpS X.K r' op') {σV : L2.St} {H : Hp} {Q : VK} (hh : semE X.K Wx (dChain op op' f g h) σV H Q) : tChain r r' (semE X.K Wx f) (semE X.K Wx g) (semE X.K Wx h) σV H Q := by
  obtain ⟨F, I, ρ, σ, S, rb, hh⟩ := hh
  refine ⟨F, I, ρ, σ, S, rb, post_bind hh fun I1 ρ1 σ1 S1 H1 x v1 _ g1 rb1 t1 h1 => ?_⟩
  refine ⟨F, I1, ρ1, σ1, S1, rb1, post_bind h1 fun I2 ρ2 σ2 S2 H2 y v2 _ g2 rb2 t2 h2 => ?_⟩
  cases ez : (deref σ2 S2 x).bind fun a => (deref σ2 S2 y).bind fun b => op a b with
  | none => rw [ez] at h2; exact h2.elim
  | some z =>
    rw [ez] at h2
    obtain ⟨a, ea, ez⟩ := Option.bind_eq_some_iff.mp ez
    obtain ⟨b, eb, ez⟩ := Option.bind_eq_some_iff.mp ez
    refine ho F I2 ρ2 S2 H2 σV σ2 v1 v2 a b z _ rb2 (rb2.at (t1.gr g2) ea) (rb2.at t2 eb) ez fun I3 H3 v3 g3 rb3 r3 => ?_
    cases z with
    | bl k =>
      cases r3
      refine ⟨k, rfl, ?_⟩
      cases k with
      | false =>
        rw [if_neg Bool.false_ne_true]
        exact (post_gr g3 h2) I3 ρ2 H3 _ Gr.refl rb3 (.inr .bl)
      | true =>
        rw [if_pos rfl]
        refine ⟨F, I3, ρ2, σ2, S2, rb3, post_bind (post_gr g3 h2) fun I4 ρ4 σ4 S4 H4 w v4 _ g4 rb4 t4 h4 => ?_⟩
        obtain ⟨z4, ez4, h5⟩ := post_opt h4
        obtain ⟨a4, ea4, ez4⟩ := Option.bind_eq_some_iff.mp ez4
        obtain ⟨b4, eb4, ez4⟩ := Option.bind_eq_some_iff.mp ez4
        exact ho' F I4 ρ4 S4 H4 σV σ4 v2 v4 a4 b4 z4 Q rb4 (rb4.at ((t2.gr g3).gr g4) ea4) (rb4.at t4 eb4) ez4 fun I' H' v g' rb' r' => h5 I' ρ4 H' v g' rb' (.inr r')
    | _ => exact h2.elim
theorem c_chain {a b c : Expr} {o o' : CmpOp} {pos : Pos} {r r' : R2} {op op' : D → D → Option D} {f g h : DE} (hr : OpR X (compareOp o) r) (hs : OpS X.K r op) (hr' : OpR X (compareOp o') r') (hs' : OpS X.K r' op') (ha : SE X Wx a f) (hb : SE X Wx b g) (hc : SE X Wx c h) (hm : lastMarks [o, o'] [b, c] = false := by with_unfolding_all rfl) :
    SE X Wx (.Compare a [o, o'] [b, c] pos) (dChain op op' f g h) := PE.imp (pe_chain hr hr' ha hb hc hm) fun _ _ _ q => sem_chain hs hs' q
theorem ct_chain {a b c : Expr} {o o' : CmpOp} {pos : Pos} {r r' : R2} {op op' : D → D → Option D} {f g h : DE} (hr : OpR X (compareOp o) r) (hs : OpS X.K r op) (hr' : OpR X (compareOp o') r') (hs' : OpS X.K r' op') (ha : SE X Wx a f) (hb : SE X Wx b g) (hc : SE X Wx c h) (hm : lastMarks [o, o'] [b, c] = false := by with_unfolding_all rfl) :
    ST X Wx (.Compare a [o, o'] [b, c] pos) (tVal (dChain op op' f g h)) := PT.imp (pt_chain hr hr' ha hb hc hm) fun _ _ _ q => sem_chain hs hs' (sem_tval q)

/-! ### text * n, list * n -/
def repS (z : Str) (n : Nat) : Str := ⟨(List.replicate n z.cps.toList).flatten.toArray⟩
theorem foldl_app (l : List (Array Nat)) : ∀ a : Array Nat, (l.foldl (· ++ ·) a).toList = a.toList ++ (l.map (·.toList)).flatten := by
  induction l with
  | nil => intro a; simp
  | cons x r ih => intro a; rw [List.foldl_cons, ih]; simp
theorem mul_rep (z : Str) (n : Int) (h : 0 ≤ n) : Txt.mul z n = repS z n.toNat := by
  unfold Txt.mul repS
  split
  · rename_i h1
    have : n = 0 := by omega
    subst this
    rfl
  · split
    · rename_i h1 h2
      rcases Bool.or_eq_true_iff.mp h2 with h3 | h3
      · have : n = 1 := eq_of_beq h3
        subst this
        simp
      · have : z.length = 0 := eq_of_beq h3
        obtain ⟨⟨l⟩⟩ := z
        have : l = [] := List.eq_nil_of_length_eq_zero this
        subst this
        simp
    · congr 1
      apply Array.toList_inj.mp
      rw [foldl_app]
      simp
def opMul' : D → D → Option D
  | .int i, .int j => if mulOk i j then some (.int (i * j)) else none
  | .str z, .int j => if 0 ≤ j ∧ j ≤ 1000000 ∧ z.length * j.toNat ≤ most then some (.str (repS z j.toNat)) else none
  | .lst xs, .int j => if 0 ≤ j ∧ j ≤ 1000000 ∧ xs.length * j.toNat ≤ most then some (.lst (List.replicate j.toNat xs).flatten) else none
  | _, _ => none
def rMulA : R2 := fun x y H Q => rI CMulW (fun i j => .int (i * j)) x y H Q ∨ ((∃ z j, x = .str z ∧ y = .int j ∧ MulOk z j ∧ Q (.str (Txt.mul z j)) H) ∨ rRep x y H Q)
theorem op_mul_str : OpR X (binaryOp .Mult) (fun x y H Q => ∃ z j, x = .str z ∧ y = .int j ∧ MulOk z j ∧ Q (.str (Txt.mul z j)) H) := by
  intro pins s σ H x y v u Q I rx ry h
  obtain ⟨z, j, rfl, rfl, hok, q⟩ := h
  obtain ⟨t, rfl⟩ := rx
  obtain ⟨t', rfl⟩ := ry
  exact SB.mul hok fun t' k => ⟨.str _, H, I.tok _, ⟨_, rfl⟩, q⟩
theorem op_mulA : OpR X (binaryOp .Mult) rMulA := op_mulW.or (op_mul_str.or op_rep)
theorem Reps.rep {ρ : List Addr} {I : Hp} {vs : List V} {ws : List D} (r : Reps K ρ I vs ws) : ∀ n : Nat, Reps K ρ I (List.replicate n vs).flatten (List.replicate n ws).flatten
  | 0 => .nil
  | n + 1 => by
    rw [List.replicate_succ, List.replicate_succ, List.flatten_cons, List.flatten_cons]
    exact r.append (Reps.rep r n)
theorem os_mul' : OpS K rMulA opMul' := by
  intro F I ρ S H σV σ v1 v2 a b z Q rb h1 h2 ez q
  unfold opMul' at ez
  split at ez
  · cases h1; cases h2
    split at ez
    · rename_i h
      cases ez
      exact .inl ⟨_, _, rfl, rfl, h, q I H _ Gr.refl rb .int⟩
    · cases ez
  · cases h1; cases h2
    split at ez
    · rename_i z j h
      cases ez
      refine .inr (.inl ⟨z, j, rfl, rfl, ⟨?_, fun h1 h2 => ?_, fun h1 h2 => ?_⟩, ?_⟩)
      · rw [Bool.or_eq_false_iff]
        exact ⟨decide_eq_false (by omega), decide_eq_false (by omega)⟩
      · have e2 : (z.length : Int) * j ≤ 2 ^ 63 - 1 := by
          have e3 : (z.length : Int) * j = ((z.length * j.toNat : Nat) : Int) := by
            rw [Int.natCast_mul, Int.toNat_of_nonneg h.1]
          have := h.2.2
          unfold most at this
          rw [e3]
          omega
        have := Int.le_ediv_of_mul_le (by omega) e2
        omega
      · have := h.2.2
        rw [most_eq] at this
        exact decide_eq_false (by omega)
      · rw [mul_rep z j h.1]
        exact q I H _ Gr.refl rb .str
    · cases ez
  · cases h2
    obtain ⟨a, vs, rfl, ha, ra⟩ := h1
    split at ez
    · rename_i xs j h
      cases ez
      refine .inr (.inr ⟨a, j, vs, rfl, rfl, ha, by omega, by omega, by rw [ra.length, ← most_eq]; exact h.2.2, fun p hp => ?_⟩)
      obtain ⟨g, rb2⟩ := rb.new (o := .lst (List.replicate j.toNat vs).flatten) hp
      exact q _ _ _ g rb2 (.lst upd_same ((ra.rep _).gr g))
    · cases ez
  · cases ez

/-! ### sep.join(xs), text.split(sep) -/
def strsD : List D → Option (List Str)
  | [] => some []
  | .str x :: r => (strsD r).map fun ys => x :: ys
  | _ => none
theorem Reps.strs {ρ : List Addr} {I : Hp} : ∀ {vs : List V} {ws : List D} {ys : List Str}, Reps K ρ I vs ws → strsD ws = some ys → vs = ys.map V.str
  | _, _, _, .nil, e => by cases e; rfl
  | _, _, _, .cons h r, e => by
    unfold strsD at e
    split at e
    · rename_i h1; cases h1
    · rename_i b rest h1
      cases h1
      obtain ⟨bs, e1, rfl⟩ := Option.map_eq_some_iff.mp e
      cases h
      rw [Reps.strs r e1]
      rfl
    · cases e
def opJoin : D → D → Option D
  | .str a, .lst xs => (strsD xs).bind fun ys => if (ys.map (·.length)).sum + ys.length * a.length ≤ most then some (.str (Txt.join a ys)) else none
  | _, _ => none
def opSplit : D → D → Option D
  | .str a, .str b => if (b.length == 0) = false ∧ a.length + 2 ≤ most then some (.lst ((Txt.split a b).map D.str)) else none
  | _, _ => none
/-- a method of a text with one argument -/
def dS1 (op : D → D → Option D) (f g : DE) : DE := fun σ S => (f σ S).bind fun x σ S => match x with
  | .str a => (g σ S).bind fun y σ S => ofOpt ((deref σ S y).bind fun b => op (.str a) b) σ S
  | _ => .fail
def MS1 (K : PySem.W.Frag) (r : V → List V → Hp → VK → Prop) (op : D → D → Option D) : Prop := ∀ (F I : Hp) (ρ : List Addr) (S : Sto) (H : Hp) (σV : L2.St) (σ : Sl) (x : Str) (v : V) (a z : D) (Q : VK), RB K F I ρ S H σV σ → At K ρ I H v a → op (.str x) a = some z →
  (∀ I' H' v, Gr ρ I ρ I' → RB K F I' ρ S H' σV σ → ((∃ a, v = .ref a ∧ Fresh K F I' ρ H' σV σ a z) ∨ (scalar z = true ∧ Rep K ρ I' v z)) → Q v H') → r (.str x) [v] H Q
theorem cf_s1 {o e : Expr} {id : String} {name : Str} {apos pos : Pos} {f g : DE} {op : D → D → Option D} {r : V → List V → Hp → VK → Prop} (slot : PySem.Slot "str" name id) (ty : typeOf (.builtin id) = pure (.type "method_descriptor")) (rule : MtR X id r) (hs : MS1 X.K r op) (ho : SE X Wx o f) (he : SE X Wx e g)
    (hst : starEach [e] X.env = [(false, eval e X.env)] := by rfl) (hbase : attributeBase o name X.env (eval o X.env) = eval o X.env := by rfl) (hline : (apos.endLine == pos.line) = true := by rfl) : SF X Wx (.Call (.Attribute o name apos) [e] [] pos) (dS1 op f g) := by
  refine PE.imp (pe_m1 slot ty rule ho he hst hbase hline) fun σV H Q h => ?_
  obtain ⟨F, I, ρ, σ, S, rb, h⟩ := h
  refine ⟨F, I, ρ, σ, S, rb, postF_bind h fun I1 ρ1 σ1 S1 H1 x v1 _ g1 rb1 t1 h1 => ?_⟩
  rcases t1 with ⟨i, rfl, _⟩ | t1
  · exact h1.elim
  · cases t1 with
    | @str a =>
      refine ⟨⟨a, rfl⟩, F, I1, ρ1, σ1, S1, rb1, postF_bind h1 fun I2 ρ2 σ2 S2 H2 y v2 _ g2 rb2 t2 h2 => ?_⟩
      cases ez : (deref σ2 S2 y).bind fun b => op (.str a) b with
      | none => rw [ez] at h2; exact h2.elim
      | some z =>
        rw [ez] at h2
        obtain ⟨b, eb, ez⟩ := Option.bind_eq_some_iff.mp ez
        exact hs F I2 ρ2 S2 H2 σV σ2 a v2 b z Q rb2 (rb2.at t2 eb) ez fun I' H' v g' rb' r' => h2 I' ρ2 H' v g' rb' r'
    | _ => exact h1.elim
theorem m_join : MS1 K (fun x xs H Q => ∃ a p, ∃ ys : List Str, x = .str a ∧ xs = [.ref p] ∧ (SqL K H p (ys.map V.str) ∨ SqT K H p (ys.map V.str)) ∧ (ys.map (·.length)).sum + ys.length * a.length ≤ 16777216 ∧ Q (.str (Txt.join a ys)) H) opJoin := by
  intro F I ρ S H σV σ x v a z Q rb h ez q
  unfold opJoin at ez
  split at ez
  · rename_i a0 xs e1
    cases e1
    obtain ⟨p, vs, rfl, hp, r⟩ := h
    obtain ⟨ys, e2, ez⟩ := Option.bind_eq_some_iff.mp ez
    have := r.strs e2
    subst this
    split at ez
    · rename_i hl
      cases ez
      exact ⟨_, p, ys, rfl, rfl, .inl (SqL_at hp), hl, q I H _ Gr.refl rb (.inr ⟨rfl, .str⟩)⟩
    · cases ez
  · cases ez
theorem Reps.ofStrs {ρ : List Addr} {I : Hp} : ∀ ys : List Str, Reps K ρ I (ys.map V.str) (ys.map D.str)
  | [] => .nil
  | _ :: r => .cons .str (Reps.ofStrs r)
theorem m_split : MS1 K (fun x xs H Q => ∃ a b, x = .str a ∧ xs = [.str b] ∧ (b.length == 0) = false ∧ a.length + 2 ≤ sizeLine ∧ rNewStrs (Txt.split a b) H Q) opSplit := by
  intro F I ρ S H σV σ x v a z Q rb h ez q
  unfold opSplit at ez
  split at ez
  · rename_i a0 b e1
    cases e1
    cases h
    split at ez
    · rename_i hl
      cases ez
      refine ⟨_, b, rfl, rfl, hl.1, by rw [← most_eq]; exact hl.2, fun p hp => ?_⟩
      obtain ⟨rb4, nf, ni, nr, no⟩ := rb.newO (o := .lst ((Txt.split x b).map V.str)) hp
      exact q _ _ _ Gr.refl rb4 (.inl ⟨p, rfl, nf, ni, nr, no, _, upd_same, Reps.ofStrs _⟩)
    · cases ez
  · cases ez
theorem cf_join {o e : Expr} {apos pos : Pos} {f g : DE} (ho : SE X Wx o f) (he : SE X Wx e g) (hst : starEach [e] X.env = [(false, eval e X.env)] := by rfl) (hbase : attributeBase o "join" X.env (eval o X.env) = eval o X.env := by rfl) (hline : (apos.endLine == pos.line) = true := by rfl) : SF X Wx (.Call (.Attribute o "join" apos) [e] [] pos) (dS1 opJoin f g) :=
  cf_s1 PySem.F.slot_str_join PySem.F.type_str_join mt_join m_join ho he hst hbase hline
theorem cf_split {o e : Expr} {apos pos : Pos} {f g : DE} (ho : SE X Wx o f) (he : SE X Wx e g) (hst : starEach [e] X.env = [(false, eval e X.env)] := by rfl) (hbase : attributeBase o "split" X.env (eval o X.env) = eval o X.env := by rfl) (hline : (apos.endLine == pos.line) = true := by rfl) : SF X Wx (.Call (.Attribute o "split" apos) [e] [] pos) (dS1 opSplit f g) :=
  cf_s1 PySem.F.slot_str_split PySem.F.type_str_split mt_split m_split ho he hst hbase hline
end
end MR

set_option Elab.async false
set_option linter.all false
set_option maxRecDepth 100000
/-! MR10: short words for the printed ties; the end of a law. -/
namespace MR
open PySem PySem.Spec PyProof.Rows L2

section
variable {X : Cx} {Wx : WX}
theorem op_eqA {k : Nat} (hr : Room k X.A) : OpR X (compareOp .Eq) (rEqA X.K) := op_eq.or (op_eqD hr.units)
theorem op_neA {k : Nat} (hr : Room k X.A) : OpR X (compareOp .NotEq) (rNeA X.K) := op_ne.or (op_neD hr.units)
/-- a constant of the module -/
theorem c_gstr {x z : Str} {pos : Pos} (h : ∃ t, X.mg x = some (.str z t)) (hg : Gl X x := by rfl) (hd : (x == ("__debug__" : Str)) = false := by decide) : SE X Wx (.Name x pos) (dC (.str z)) := by
  obtain ⟨t, h⟩ := h
  exact c_glob (v := .str z) h ⟨t, rfl⟩ (fun _ _ => .str) hg hd
theorem c_gint {x : Str} {z : Int} {pos : Pos} (h : ∃ t, X.mg x = some (.int z t)) (hg : Gl X x := by rfl) (hd : (x == ("__debug__" : Str)) = false := by decide) : SE X Wx (.Name x pos) (dC (.int z)) := by
  obtain ⟨t, h⟩ := h
  exact c_glob (v := .int z) h ⟨t, rfl⟩ (fun _ _ => .int) hg hd
/-- a tuple of the module: what it holds, whatever the heap -/
def GTup (K : PySem.W.Frag) (mg : Str → Option Value) (x : Str) (ws : List D) : Prop := ∃ a vs, mg x = some (.ref a) ∧ (∀ H, SqT K H a vs) ∧ ∀ ρ I, Reps K ρ I vs ws
theorem c_gtup {x : Str} {ws : List D} {pos : Pos} (h : GTup X.K X.mg x ws) (hg : Gl X x := by rfl) (hd : (x == ("__debug__" : Str)) = false := by decide) : SE X Wx (.Name x pos) (dC (.tup ws)) := by
  obtain ⟨a, vs, h, h1, h2⟩ := h
  exact c_glob h (v := .ref a) rfl (fun ρ I => .tup (h1 I) (h2 ρ I)) hg hd
def dNeg (f : DE) : DE := fun σ S => (f σ S).bind fun x σ S => match x with
  | .int i => .ok (.int (-i)) σ S
  | _ => .fail
theorem c_neg {a : Expr} {pos : Pos} {f : DE} (h : SE X Wx a f) : SE X Wx (.UnaryOp .USub a pos) (dNeg f) := by
  refine PE.imp (pe_un un_neg h) fun σV H Q h => ?_
  obtain ⟨F, I, ρ, σ, S, rb, h⟩ := h
  refine ⟨F, I, ρ, σ, S, rb, post_bind h fun I1 ρ1 σ1 S1 H1 x v1 _ g1 rb1 t1 h1 => ?_⟩
  rcases t1 with ⟨i, rfl, _⟩ | t1
  · exact h1.elim
  · cases t1 with
    | int => exact ⟨_, rfl, h1 I1 ρ1 H1 _ Gr.refl rb1 (.inr .int)⟩
    | _ => exact h1.elim
theorem la_nil : ∀ (σ : Sl) (S : Sto) (ws : List D) (σ' : Sl) (S' : Sto), aNil σ S = .ok ws σ' S' → ws.length = 0 := fun σ S ws σ' S' h => by cases h; rfl
theorem la_cons {f : DE} {r : DA} {n : Nat} (k : ∀ (σ : Sl) (S : Sto) (ws : List D) (σ' : Sl) (S' : Sto), r σ S = .ok ws σ' S' → ws.length = n) : ∀ (σ : Sl) (S : Sto) (ws : List D) (σ' : Sl) (S' : Sto), aCons f r σ S = .ok ws σ' S' → ws.length = n + 1 := fun σ S ws σ' S' h => by
  unfold aCons at h
  cases e : dV f σ S with
  | exc a _ _ => rw [e] at h; cases h
  | fail => rw [e] at h; cases h
  | ok w σ1 S1 =>
    rw [e] at h
    dsimp only [Res.bind] at h
    cases e2 : r σ1 S1 with
    | exc a _ _ => rw [e2] at h; cases h
    | fail => rw [e2] at h; cases h
    | ok w2 σ2 S2 =>
      rw [e2] at h
      cases h
      rw [List.length_cons, k _ _ _ _ _ e2]
/-- x += e at a slot, ints -/
def sAug (i : Nat) (op : Int → Int → Int) (f : DE) : DS := fun σ S => match σ[i]? with
  | some (.val (.int a)) => (f σ S).bind fun y σ S => (match y with
    | .int b => .ok .next (σ.set i (.val (.int (op a b)))) S
    | _ => .fail)
  | _ => .fail
theorem cs_aug {fr : Bool} {i : Nat} {x : Str} {e : Expr} {op : Operator} {g : Int → Int → Int} {f : DE} {pos pos' : Pos} (ho : PIp X op (ipI g)) (hN : X.N.Nodup) (h : SE X Wx e f) (hi : X.N[i]? = some x := by rfl) (hx : Loc X.env.scope x := by first | exact Or.inl rfl | exact Or.inr rfl)
    (hf : X.fn x = true ∨ X.env.scope.names.lookup x = some .local := by first | exact .inl rfl | exact .inr rfl | assumption) : SS fr X Wx (.AugAssign (.Name x pos') op e pos) (sAug i g f) := by
  refine PS.imp (ps_aug hN hi hx h ho hf) fun D σV H h => ?_
  obtain ⟨F, I, ρ, σ, S, rb, h⟩ := h
  unfold sAug at h
  split at h
  · rename_i a hw
    obtain ⟨v, hv, r⟩ := rb.slot i _ hw
    refine ⟨v, hv, F, I, ρ, σ, S, rb, postS_bind h fun I1 ρ1 σ1 S1 H1 y v1 _ g1 rb1 t1 h1 => ?_⟩
    split at h1
    · cases r
      rcases t1 with ⟨i, q, _⟩ | t1
      · cases q
      · cases t1
        exact ⟨_, _, rfl, rfl, h1 I1 ρ1 H1 _ Gr.refl (rb1.setV .int)⟩
    · exact h1.elim
  · exact h.elim
end

/-- a def of the module, from what the head tells of it -/
theorem fn_mk {fr : Bool} {P : Program} {w : World} {K : PySem.W.Frag} {mg : Str → Option Value} {base : Heap} {x : Str} {params : Arguments} {body : List Stmt} {scope : Scope} {f : Addr} {fd : FuncData} {N ps : List Str} {k n m : Nat} {d : DS}
    (FD : FunD K x x params body scope [] [] f fd) (hm : mg x = some (.ref f)) (S : FnScope N ps scope) (hn : N.length = n) (hp : ps.length = m)
    (hbind : ∀ (kV doc pm : Value) (an : Option Addr) (cdv ct : Value) (us : List Value), us.length = ps.length → bindArgs (PySem.W.fnOf x x params body scope .none kV doc pm an cdv ct) ⟨us, []⟩ = pure (ps.zip us))
    (hb : ∀ (cdv : Value) (A : Around) (outer : List Env) (s : Shared) (H : Hp) (E : XK), Room k (A.deeper (envOfC x scope s.heap.objs.size f cdv)) →
      SSs fr (cxOf (L2.CX P w) P w K mg base N x scope f cdv A outer s H E) (fun cls d _ H => E cls d H) body d) : Fn fr P w K mg base x (k + 1) m (dDef n d) := by
  subst hp
  exact ⟨f, fd, ps, hm, FD.kp, FD.bindsN hbind, rfl, def_ok FD S hn hb⟩
/-- the law's end -/
theorem law_sp {K : PySem.W.Frag} {d : Den} (h : ∀ ns : List Int, ns.length ≤ 63 → ∃ S', d [.scr ns] [] = .ok (.bl true) S') (H : Hp) (a : Addr) (ns : List Int) (hl : ns.length ≤ 63) (hS : SqL K H a (ns.map V.int)) : spD false K 1 d [.ref a] H (fun v _ => v = .bl true) fun _ _ _ => False := by
  obtain ⟨S', e⟩ := h ns hl
  refine ⟨rfl, fun _ => none, H, [], [], [.scr ns], ⟨fun a o h => (nomatch h), fun a o h => .inl h, fun a o h => (nomatch h), fun r o h => (by simp at h), fun r r' a h => (by simp at h), rfl, rfl, fun i s h => (by simp at h), fun i j c c' v h => (by simp at h)⟩, .cons (.scr hS) .nil, ?_⟩
  rw [e]
  intro I' ρ' H' v g rb r
  cases r
  rfl
theorem fnok_w {P : Program} {w : World} {K : PySem.W.Frag} {mg : Str → Option Value} {base : Heap} {k : Nat} {f : Addr} {fd : FuncData} {ps : List Str} {sp : Sp} (h : FnOk P w K mg base (L2.CX P w) k f fd ps sp) : FnOk P w K mg base (fun a b c d e f => ∃ w, L2.CX P w a b c d e f) k f fd ps sp := by
  refine ⟨h.len, fun A outer s H args us vs Q E hr he hb hv hs => codeAny_mono (h.run A outer s H args us vs Q E hr he hb hv hs) fun r s' q => ?_⟩
  cases r with
  | error e => exact ⟨w, q⟩
  | ok fl => cases fl <;> exact q
theorem cx_no {P : Program} {w : World} {l : List Env} {H : Hp} {s : Shared} {e : Value} {s' : Shared} (h : L2.CX P w l H s (fun _ _ _ => False) e s') : False := by
  obtain ⟨_, _, _, _, _, _, _, _, _, _, _, _, z⟩ := h
  exact z
/-- a def that calls itself: nothing is promised at depth 0 -/
theorem fn_zero {fr : Bool} {P : Program} {w : World} {K : PySem.W.Frag} {mg : Str → Option Value} {base : Heap} {x : Str} {params : Arguments} {body : List Stmt} {scope : Scope} {f : Addr} {fd : FuncData} {ps : List Str} {k m : Nat}
    (FD : FunD K x x params body scope [] [] f fd) (hm : mg x = some (.ref f)) (hp : ps.length = m)
    (hbind : ∀ (kV doc pm : Value) (an : Option Addr) (cdv ct : Value) (us : List Value), us.length = ps.length → bindArgs (PySem.W.fnOf x x params body scope .none kV doc pm an cdv ct) ⟨us, []⟩ = pure (ps.zip us)) : Fn fr P w K mg base x k m (fun _ _ => .fail) := by
  subst hp
  refine ⟨f, fd, ps, hm, FD.kp, FD.bindsN hbind, rfl, fun vs H Q E h => h.1, fun A outer s H args us vs Q E hr he hb hv hs => ?_⟩
  obtain ⟨_, _, _, _, _, _, _, _, z⟩ := hs
  exact z.elim
/-- the most turns of a while -/
def fuel : Nat := 2 ^ 20000
end MR

set_option Elab.async false
set_option linter.all false
set_option maxRecDepth 100000
/-! MR11: list(x), tuple(x); the head's facts with tuples of the module. -/
namespace MR
open PySem PySem.Spec PyProof.Rows L2

section
variable {K : PySem.W.Frag}
def opList : D → Option D
  | .lst xs => some (.lst xs)
  | .tup xs => some (.lst xs)
  | _ => none
theorem bf_list : B1F K (fun xs H Q => ∃ p ys, xs = [.ref p] ∧ (SqL K H p ys ∨ SqT K H p ys) ∧ ∀ l, H l = none → Q (.ref l) (upd H l (.lst ys))) opList := by
  intro F I ρ S H σV σ v a z Q rb h ez q
  unfold opList at ez
  split at ez
  · cases ez
    obtain ⟨a, vs, rfl, ha, r⟩ := h
    refine ⟨a, vs, rfl, .inl (SqL_at ha), fun p hp => ?_⟩
    obtain ⟨rb4, nf, ni, nr, no⟩ := rb.newO (o := .lst vs) hp
    exact q _ _ _ Gr.refl rb4 (.inl ⟨p, rfl, nf, ni, nr, no, _, upd_same, r⟩)
  · cases ez
    obtain ⟨a, vs, rfl, ha, r⟩ := h
    refine ⟨a, vs, rfl, .inr ha, fun p hp => ?_⟩
    obtain ⟨rb4, nf, ni, nr, no⟩ := rb.newO (o := .lst vs) hp
    exact q _ _ _ Gr.refl rb4 (.inl ⟨p, rfl, nf, ni, nr, no, _, upd_same, r⟩)
  · cases ez
def opTuple : D → Option D
  | .lst xs => some (.tup xs)
  | _ => none
theorem b_tuple : B1 K (fun xs H Q => ∃ p ys, xs = [.ref p] ∧ ((SqL K H p ys ∧ ∀ l, H l = none → Q (.ref l) (upd H l (.tup ys))) ∨ (SqT K H p ys ∧ Q (.ref p) H))) opTuple := by
  intro F I ρ S H σV σ v a z Q rb h ez q
  unfold opTuple at ez
  split at ez
  · cases ez
    obtain ⟨a, vs, rfl, ha, r⟩ := h
    refine ⟨a, vs, rfl, .inl ⟨SqL_at ha, fun p hp => ?_⟩⟩
    obtain ⟨g, rb2⟩ := rb.new (o := .tup vs) hp
    exact q _ _ _ g rb2 (.tup (.inl (.inl upd_same)) (r.gr g))
  · cases ez
/-! ### tuples of the module -/
def dvOf : D → He.Dv
  | .bl b => .bl b
  | .int i => .int i
  | .str x => .str x
  | _ => .non
theorem reps_dv {ρ : List Addr} {I : Hp} : ∀ ws : List D, ws.all flatD = true → Reps K ρ I ((ws.map dvOf).map (He.Dv.v K)) ws
  | [], _ => .nil
  | w :: ws, h => by
    rw [List.all_cons, Bool.and_eq_true] at h
    refine .cons ?_ (reps_dv ws h.2)
    cases w with
    | non => exact .non
    | bl b => exact .bl
    | int i => exact .int
    | str x => exact .str
    | _ => cases h.1
theorem gtup_mk {mg : Str → Option Value} {x : Str} {ws : List D} (h : mg x = some (.ref (He.ga K x))) (t : He.tupB K x (ws.map dvOf) = true) (hf : ws.all flatD = true) : GTup K mg x ws :=
  ⟨He.ga K x, _, h, fun H => He.tupB_ok t H, fun ρ I => reps_dv ws hf⟩
end
/-- the head's facts: as HeadHook2's, with tuples -/
abbrev Tups : Type := List (Str × List D)
def tupsOk (tb : Tups) (K : PySem.W.Frag) : Bool := tb.all fun t => He.tupB K t.1 (t.2.map dvOf)
abbrev AlM : Type := He.AlD × Bool
def obsM (n : Nat) (fa : List He.Fa) (fn : List He.DefD) (tb : Tups) (g : Addr → Option Obj) : AlM := (He.obsD fa fn (He.frG g (He.asD g n)), tupsOk tb (He.frG g (He.asD g n)))
structure SaysM (fa : List He.Fa) (fn : List He.DefD) (tb : Tups) (K : PySem.W.Frag) : Prop where
  d : He.SaysD fa fn K
  t : tupsOk tb K = true
def hookM (n : Nat) (fa : List He.Fa) (fn : List He.DefD) (tb : Tups) : PySem.W.Hook where
  α := AlM
  obs := fun s => obsM n fa fn tb s.heap.get?
  val := fun _ => (He.valD fn, true)
  says := fun _ h => ∃ K : PySem.W.Frag, K.In h ∧ SaysM fa fn tb K
  of := fun _ _ e => ⟨_, He.frG_in, congrArg (fun z : AlM => z.1) e, congrArg (fun z : AlM => z.2) e⟩
  keeps := fun _ _ _ ⟨K, hK, c⟩ k => ⟨K, PySem.W.Frag.In.keeps hK k, c⟩
theorem obsM_eq {n : Nat} {fa : List He.Fa} {fn : List He.DefD} {tb : Tups} {g : Addr → Option Obj} {s : Shared} (h : ∀ a, g a = s.heap.get? a) : obsM n fa fn tb g = (hookM n fa fn tb).obs s := by
  have e : g = s.heap.get? := funext h
  rw [e] <;> rfl
theorem SaysM.tup {fa : List He.Fa} {fn : List He.DefD} {tb : Tups} {K : PySem.W.Frag} (c : SaysM fa fn tb K) (i : Nat) {t : Str × List D} (h : tb[i]? = some t := by rfl) : He.tupB K t.1 (t.2.map dvOf) = true := List.all_eq_true.mp c.t t (List.mem_of_getElem? h)
end MR

set_option Elab.async false
set_option linter.all false
set_option maxRecDepth 100000
/-! The denotations of the defs (printed by gen.py). -/
namespace MR
open PySem
def wc_measure_1 : DT := (tVal (d2 opNe' (dVar 1) (dC (.int 0))))
def wb_measure_2 : DS := (sPar 0 1 (aCons (dVar 1) (aCons (d2 opMod (dVar 0) (dVar 1)) aNil)))
def b_measure : DS := (sSeq (sSet 0 (d1 opAbs (dVar 0))) (sSeq (sSet 1 (d1 opAbs (dVar 1))) (sSeq (sWhile wc_measure_1 wb_measure_2 fuel) (sRet (dVar 0)))))
def m_measure : Den := dDef 2 b_measure
def b_part : DS := (sSeq (sIf (tVal (d2 opLt (dVar 1) (dC (.int 0)))) (sSeq (sSet 0 (d2 opSub (dC (.int 0)) (dVar 0))) (sSet 1 (d2 opSub (dC (.int 0)) (dVar 1)))) sNil) (sSeq (sSet 2 (dCall m_measure (aCons (dVar 0) (aCons (dVar 1) aNil)))) (sRet (dTup (aCons (d2 opDiv (dVar 0) (dVar 2)) (aCons (d2 opDiv (dVar 1) (dVar 2)) aNil))))))
def m_part : Den := dDef 3 b_part
def b_scaled : DS := (sRet (dCall m_part (aCons (d2 opMul' (d2 opIx (dVar 0) (dC (.int 0))) (dVar 1)) (aCons (d2 opIx (dVar 0) (dC (.int 1))) aNil))))
def m_scaled : Den := dDef 2 b_scaled
def fb__law_feed_1 : DS := (sIf (tVal (d2 opGt (dVar 5) (dC (.int 0)))) (sSeq (sExpr (dMeth isLst kApp (dVar 2) (aCons (d2 opMod (dVar 5) (dC (.int 1009))) aNil))) (sSet 5 (d2 opDiv (dVar 5) (dC (.int 1009))))) sNil)
def fb__law_feed_2 : DS := (sSeq (sSet 3 (d2 opMod (d2 opAdd (d2 opAdd (d2 opMul' (dVar 3) (dC (.int 69621))) (d2 opMod (dVar 4) (dC (.int 2147483629)))) (dC (.int 11))) (dC (.int 2147483647)))) (sSeq (sSet 5 (d2 opSub (dVar 4) (d2 opPow (dC (.int 10)) (dC (.int 18))))) (sSeq (sIf (tVal (d2 opLt (dVar 5) (dC (.int 0)))) (sExpr (dMeth isLst kApp (dVar 2) (aCons (d2 opMod (dVar 4) (dC (.int 1000003))) aNil))) sNil) (sFor (iRan1 (dC (.int 60))) (gN 6) fb__law_feed_1))))
def fb__law_feed_3 : DS := (sSeq (sSet 3 (d2 opMod (d2 opAdd (d2 opAdd (d2 opAdd (d2 opMul' (d2 opMul' (dVar 3) (dVar 3)) (dVar 3)) (d2 opMul' (dC (.int 48271)) (dVar 3))) (d2 opMul' (dC (.int 13)) (dVar 6))) (dC (.int 5))) (dC (.int 2147483629)))) (sExpr (dMeth isLst kApp (dVar 2) (aCons (d2 opMod (d2 opDiv (dVar 3) (dC (.int 1013))) (dC (.int 1009))) aNil))))
def b__law_feed : DS := (sSeq (sSetO 2 (dLst aNil)) (sSeq (sSet 3 (dC (.int 29))) (sSeq (sFor (iLst (dSl (dVar 0) oNone (oSome (dC (.int 63))))) (gN 4) fb__law_feed_2) (sSeq (sFor (iRan1 (d2 opSub (dVar 1) (d1 opLen (dVar 2)))) (gN 6) fb__law_feed_3) (sRetF (dSl (dVar 2) oNone (oSome (dVar 1))))))))
def m__law_feed : Den := dDef 7 b__law_feed
def le__law_same_1 (r : Den) : DE := (dCall r (aCons (dVar 2) (aCons (dVar 3) aNil)))
def le__law_same_2 (r : Den) : DE := (dCall r (aCons (dVar 2) (aCons (dVar 3) aNil)))
def b__law_same (r : Den) : DS := (sSeq (sIf (tVal (dIsN (dV (dVar 1)))) (sRet (dIsN (dV (dVar 0)))) sNil) (sSeq (sIf (tVal (d1 (opIsi .bool) (dVar 1))) (sRet (vAnd (d1 (opIsi .bool) (dVar 0)) (d2 opEq' (dVar 0) (dVar 1)))) sNil) (sSeq (sIf (tVal (d1 (opIsi .tuple) (dVar 1))) (sSeq (sIf (tOr (tNot (tVal (d1 (opIsi .tuple) (dVar 0)))) (tVal (d2 opNe' (d1 opLen (dVar 0)) (d1 opLen (dVar 1))))) (sRet (dC (.bl false))) sNil) (sRet (d1 opAll (dLc (iZip (dVar 0) (dVar 1)) (gT 2 (gsCons (gN 2) (gsCons (gN 3) gsNil))) tTrue (le__law_same_1 r) [2, 3])))) sNil) (sSeq (sIf (tVal (d1 (opIsi .list) (dVar 1))) (sSeq (sIf (tOr (tNot (tVal (d1 (opIsi .list) (dVar 0)))) (tVal (d2 opNe' (d1 opLen (dVar 0)) (d1 opLen (dVar 1))))) (sRet (dC (.bl false))) sNil) (sRet (d1 opAll (dLc (iZip (dVar 0) (dVar 1)) (gT 2 (gsCons (gN 2) (gsCons (gN 3) gsNil))) tTrue (le__law_same_2 r) [2, 3])))) sNil) (sSeq (sIf (tVal (d1 (opIsi .str) (dVar 1))) (sRet (vAnd (d1 (opIsi .str) (dVar 0)) (d2 opEq' (dVar 0) (dVar 1)))) sNil) (sRet (vAnd (d1 (opIsi .int) (dVar 0)) (vAnd (vNot (d1 (opIsi .bool) (dVar 0))) (d2 opEq' (dVar 0) (dVar 1))))))))))
def r__law_same : Nat → Den
  | 0 => fun _ _ => .fail
  | n + 1 => dDef 4 (b__law_same (r__law_same n))
def m__law_same : Den := r__law_same 8
def wc__law_low_1 : DT := (tVal (d2 opNe' (dVar 3) (dC (.int 0))))
def wb__law_low_2 : DS := (sPar 2 3 (aCons (dVar 3) (aCons (d2 opMod (dVar 2) (dVar 3)) aNil)))
def b__law_low : DS := (sSeq (sSet 2 (d1 opAbs (dVar 0))) (sSeq (sSet 3 (d1 opAbs (dVar 1))) (sSeq (sWhile wc__law_low_1 wb__law_low_2 fuel) (sSeq (sIf (tVal (d2 opLt (dVar 1) (dC (.int 0)))) (sSet 2 (d2 opSub (dC (.int 0)) (dVar 2))) sNil) (sRet (dTup (aCons (d2 opDiv (dVar 0) (dVar 2)) (aCons (d2 opDiv (dVar 1) (dVar 2)) aNil))))))))
def m__law_low : Den := dDef 4 b__law_low
end MR

set_option Elab.async false
set_option linter.all false
set_option maxRecDepth 100000
/-! The denotations of the defs (printed by gen.py). -/
namespace MR
open PySem
def le_is_name_1 : DE := (d2 opIn (dVar 1) (dC (.str "abcdefghijklmnopqrstuvwxyz")))
def b_is_name : DS := (sRet (vAnd (dChain opLe opLe (dC (.int 1)) (d1 opLen (dVar 0)) (dC (.int 8))) (d1 opAll (dLc (iStr (dVar 0)) (gN 1) tTrue le_is_name_1 [1]))))
def m_is_name : Den := dDef 2 b_is_name
end MR

set_option Elab.async false
set_option linter.all false
set_option maxRecDepth 100000
/-! The denotations of the defs (printed by gen.py). -/
namespace MR
open PySem
def b_plus : DS := (sRet (dCall m_part (aCons (d2 opAdd (d2 opMul' (d2 opIx (dVar 0) (dC (.int 0))) (d2 opIx (dVar 1) (dC (.int 1)))) (d2 opMul' (d2 opIx (dVar 1) (dC (.int 0))) (d2 opIx (dVar 0) (dC (.int 1))))) (aCons (d2 opMul' (d2 opIx (dVar 0) (dC (.int 1))) (d2 opIx (dVar 1) (dC (.int 1)))) aNil))))
def m_plus : Den := dDef 2 b_plus
def b_minus : DS := (sRet (dCall m_part (aCons (d2 opSub (d2 opMul' (d2 opIx (dVar 0) (dC (.int 0))) (d2 opIx (dVar 1) (dC (.int 1)))) (d2 opMul' (d2 opIx (dVar 1) (dC (.int 0))) (d2 opIx (dVar 0) (dC (.int 1))))) (aCons (d2 opMul' (d2 opIx (dVar 0) (dC (.int 1))) (d2 opIx (dVar 1) (dC (.int 1)))) aNil))))
def m_minus : Den := dDef 2 b_minus
def fb_total_1 : DS := (sSet 1 (dCall m_plus (aCons (dVar 1) (aCons (dVar 2) aNil))))
def b_total : DS := (sSeq (sSet 1 (dC (.tup [.int 0, .int 1]))) (sSeq (sFor (iLst (dVar 0)) (gN 2) fb_total_1) (sRet (dVar 1))))
def m_total : Den := dDef 3 b_total
def b__law_add : DS := (sRet (dCall m__law_low (aCons (d2 opAdd (d2 opMul' (d2 opIx (dVar 0) (dC (.int 0))) (d2 opIx (dVar 1) (dC (.int 1)))) (d2 opMul' (d2 opIx (dVar 1) (dC (.int 0))) (d2 opIx (dVar 0) (dC (.int 1))))) (aCons (d2 opMul' (d2 opIx (dVar 0) (dC (.int 1))) (d2 opIx (dVar 1) (dC (.int 1)))) aNil))))
def m__law_add : Den := dDef 2 b__law_add
def b__law_big : DS := (sSeq (sSet 1 (d2 opAdd (d2 opMul' (d2 opMod (d2 opIx (dVar 0) (dC (.int 0))) (dC (.int 1000))) (d1 opIntS (d2 opAdd (dC (.str "1")) (d2 opMul' (dC (.str "0")) (d2 opMod (d2 opIx (dVar 0) (dC (.int 1))) (dC (.int 24))))))) (d2 opMod (d2 opIx (dVar 0) (dC (.int 2))) (dC (.int 7))))) (sRet (d2 opIx (dLst (aCons (dVar 1) (aCons (d2 opSub (dC (.int 0)) (dVar 1)) (aCons (d2 opSub (d2 opMod (d2 opIx (dVar 0) (dC (.int 2))) (dC (.int 13))) (dC (.int 6))) aNil)))) (d2 opMod (d2 opDiv (d2 opIx (dVar 0) (dC (.int 1))) (dC (.int 24))) (dC (.int 3))))))
def m__law_big : Den := dDef 2 b__law_big
def b__law_parts_same : DS := (sRet (vAnd (dCall m__law_same (aCons (dVar 0) (aCons (dVar 1) aNil))) (d2 opGt (d2 opIx (dVar 0) (dC (.int 1))) (dC (.int 0)))))
def m__law_parts_same : Den := dDef 2 b__law_parts_same
end MR

set_option Elab.async false
set_option linter.all false
set_option maxRecDepth 100000
/-! MR12: dicts; objects: fields, methods, making; a fresh container put into the store. -/
namespace MR
open PySem PySem.Spec PyProof.Rows L2

theorem ofString_inj {a b : String} (h : Str.ofString a = Str.ofString b) : a = b := by
  rw [Str.ofString_eq_toList, Str.ofString_eq_toList] at h
  injection h with h
  have h := congrArg Array.toList h
  simp only at h
  have : a.toList = b.toList := List.map_inj_right (fun x y hxy => Char.ext (UInt32.toNat_inj.mp hxy)) |>.mp h
  rw [← String.ofList_toList (s := a), ← String.ofList_toList (s := b), this]

/-! ### one of two ways -/
section
variable {X : Cx} {Wx : WX} {fr : Bool}
theorem _root_.L2.PE.or {e : Expr} {t t1 t2 : TE} (h1 : PE X e t1) (h2 : PE X e t2) (i : ∀ σ H Q, t σ H Q → t1 σ H Q ∨ t2 σ H Q) : PE X e t := ⟨fun pins s σ H Q I q => (i σ H Q q).elim (h1.run pins s σ H Q I) (h2.run pins s σ H Q I)⟩
theorem _root_.L2.PS.or {e : Stmt} {t t1 t2 : TS} (h1 : PS X e t1) (h2 : PS X e t2) (i : ∀ D σ H, t D σ H → t1 D σ H ∨ t2 D σ H) : PS X e t := ⟨fun pins s σ H D I q => (i D σ H q).elim (h1.run pins s σ H D I) (h2.run pins s σ H D I)⟩
theorem c_or2 {e : Expr} {f f1 f2 : DE} (h1 : SE X Wx e f1) (h2 : SE X Wx e f2) (i : ∀ σ S, f σ S = f1 σ S ∨ f σ S = f2 σ S) : SE X Wx e f := by
  refine PE.or h1 h2 fun σV H Q ⟨F, I, ρ, σ, S, rb, h⟩ => ?_
  rcases i σ S with e | e
  · exact .inl ⟨F, I, ρ, σ, S, rb, e ▸ h⟩
  · exact .inr ⟨F, I, ρ, σ, S, rb, e ▸ h⟩
theorem cf_or2 {e : Expr} {f f1 f2 : DE} (h1 : SF X Wx e f1) (h2 : SF X Wx e f2) (i : ∀ σ S, f σ S = f1 σ S ∨ f σ S = f2 σ S) : SF X Wx e f := by
  refine PE.or h1 h2 fun σV H Q ⟨F, I, ρ, σ, S, rb, h⟩ => ?_
  rcases i σ S with e | e
  · exact .inl ⟨F, I, ρ, σ, S, rb, e ▸ h⟩
  · exact .inr ⟨F, I, ρ, σ, S, rb, e ▸ h⟩
theorem cs_or2 {e : Stmt} {f f1 f2 : DS} (h1 : SS fr X Wx e f1) (h2 : SS fr X Wx e f2) (i : ∀ σ S, f σ S = f1 σ S ∨ f σ S = f2 σ S) : SS fr X Wx e f := by
  refine PS.or h1 h2 fun D σV H ⟨F, I, ρ, σ, S, rb, h⟩ => ?_
  rcases i σ S with e | e
  · exact .inl ⟨F, I, ρ, σ, S, rb, e ▸ h⟩
  · exact .inr ⟨F, I, ρ, σ, S, rb, e ▸ h⟩
theorem d2_or {op op1 op2 : D → D → Option D} (h : ∀ a b, op a b = op1 a b ∨ op a b = op2 a b) (f g : DE) (σ : Sl) (S : Sto) : d2 op f g σ S = d2 op1 f g σ S ∨ d2 op f g σ S = d2 op2 f g σ S := by
  unfold d2
  cases e : f σ S with
  | fail => exact .inl rfl
  | exc a _ _ => exact .inl rfl
  | ok x σ1 S1 =>
    dsimp only [Res.bind]
    cases e : g σ1 S1 with
    | fail => exact .inl rfl
    | exc a _ _ => exact .inl rfl
    | ok y σ2 S2 =>
      dsimp only [Res.bind]
      cases deref σ2 S2 x with
      | none => exact .inl rfl
      | some a =>
        cases deref σ2 S2 y with
        | none => exact .inl rfl
        | some b =>
          dsimp only [Option.bind]
          rcases h a b with q | q <;> rw [q]
          · exact .inl rfl
          · exact .inr rfl
end

/-! ### pairs of keys and values -/
section
variable {κ : Type} [DecidableEq κ]
def valD (l : List (κ × D)) (k : κ) : Option D := (l.find? fun kv => decide (kv.1 = k)).map (·.2)
def putD (l : List (κ × D)) (k : κ) (w : D) : List (κ × D) := if (l.any fun kv => decide (kv.1 = k)) = true then l.map (fun kv => if kv.1 = k then (kv.1, w) else kv) else l ++ [(k, w)]
def dropD (l : List (κ × D)) (k : κ) : List (κ × D) := l.filter fun kv => decide (kv.1 ≠ k)
variable {K : PySem.W.Frag} {ρ : List Addr} {I : Hp}
/-- the pairs stand for the pairs -/
def KRep (K : PySem.W.Frag) (ρ : List Addr) (I : Hp) (kvs : List (κ × V)) (kws : List (κ × D)) : Prop := kvs.map (·.1) = kws.map (·.1) ∧ Reps K ρ I (kvs.map (·.2)) (kws.map (·.2))
theorem KRep.nil : KRep (κ := κ) K ρ I [] [] := ⟨rfl, .nil⟩
theorem KRep.cons {k : κ} {v : V} {w : D} {kvs : List (κ × V)} {kws : List (κ × D)} (h : Rep K ρ I v w) (r : KRep K ρ I kvs kws) : KRep K ρ I ((k, v) :: kvs) ((k, w) :: kws) := ⟨by simp [r.1], .cons h r.2⟩
theorem KRep.ind {P : List (κ × V) → List (κ × D) → Prop} (h0 : P [] []) (h1 : ∀ k v w kvs kws, Rep K ρ I v w → KRep K ρ I kvs kws → P kvs kws → P ((k, v) :: kvs) ((k, w) :: kws)) : ∀ {kvs : List (κ × V)} {kws : List (κ × D)}, KRep K ρ I kvs kws → P kvs kws
  | [], [], _ => h0
  | [], _ :: _, h => by have := h.1; simp at this
  | _ :: _, [], h => by have := h.1; simp at this
  | (k, v) :: kvs, (k', w) :: kws, h => by
    obtain ⟨h2, h3⟩ := h
    simp only [List.map_cons] at h2 h3
    injection h2 with h4 h5
    subst h4
    cases h3 with
    | cons r1 r2 => exact h1 k v w kvs kws r1 ⟨h5, r2⟩ (KRep.ind h0 h1 ⟨h5, r2⟩)
theorem KRep.len {kvs : List (κ × V)} {kws : List (κ × D)} (h : KRep K ρ I kvs kws) : kvs.length = kws.length := by
  have := congrArg List.length h.1
  rwa [List.length_map, List.length_map] at this
theorem KRep.val {kvs : List (κ × V)} {kws : List (κ × D)} (h : KRep K ρ I kvs kws) (k : κ) : (∃ v w, valV kvs k = some v ∧ valD kws k = some w ∧ Rep K ρ I v w) ∨ (valV kvs k = none ∧ valD kws k = none) := by
  refine KRep.ind (P := fun kvs kws => (∃ v w, valV kvs k = some v ∧ valD kws k = some w ∧ Rep K ρ I v w) ∨ (valV kvs k = none ∧ valD kws k = none)) (.inr ⟨rfl, rfl⟩) (fun k' v w kvs kws r _ ih => ?_) h
  by_cases e : k' = k
  · exact .inl ⟨v, w, by simp [valV, e], by simp [valD, e], r⟩
  · rcases ih with ⟨v', w', h1, h2, h3⟩ | ⟨h1, h2⟩
    · exact .inl ⟨v', w', by rw [← h1]; simp [valV, e], by rw [← h2]; simp [valD, e], h3⟩
    · exact .inr ⟨by rw [← h1]; simp [valV, e], by rw [← h2]; simp [valD, e]⟩
theorem KRep.any {kvs : List (κ × V)} {kws : List (κ × D)} (h : KRep K ρ I kvs kws) (k : κ) : (kvs.any fun kv => decide (kv.1 = k)) = kws.any fun kv => decide (kv.1 = k) := by
  refine KRep.ind (P := fun kvs kws => (kvs.any fun kv => decide (kv.1 = k)) = kws.any fun kv => decide (kv.1 = k)) rfl (fun k' v w kvs kws r _ ih => ?_) h
  simp only [List.any_cons, ih]
theorem KRep.mapPut {kvs : List (κ × V)} {kws : List (κ × D)} (h : KRep K ρ I kvs kws) (k : κ) {v : V} {w : D} (r : Rep K ρ I v w) : KRep K ρ I (kvs.map fun kv => if kv.1 = k then (kv.1, v) else kv) (kws.map fun kv => if kv.1 = k then (kv.1, w) else kv) := by
  refine KRep.ind (P := fun kvs kws => KRep K ρ I (kvs.map fun kv => if kv.1 = k then (kv.1, v) else kv) (kws.map fun kv => if kv.1 = k then (kv.1, w) else kv)) KRep.nil (fun k' v' w' kvs kws r' _ ih => ?_) h
  simp only [List.map_cons]
  by_cases e : k' = k
  · simp only [e, if_true]
    exact ih.cons r
  · simp only [e, if_false]
    exact ih.cons r'
theorem KRep.app {kvs : List (κ × V)} {kws : List (κ × D)} (h : KRep K ρ I kvs kws) {k : κ} {v : V} {w : D} (r : Rep K ρ I v w) : KRep K ρ I (kvs ++ [(k, v)]) (kws ++ [(k, w)]) := by
  refine KRep.ind (P := fun kvs kws => KRep K ρ I (kvs ++ [(k, v)]) (kws ++ [(k, w)])) (KRep.nil.cons r) (fun k' v' w' kvs kws r' _ ih => ih.cons r') h
theorem KRep.put {kvs : List (κ × V)} {kws : List (κ × D)} (h : KRep K ρ I kvs kws) (k : κ) {v : V} {w : D} (r : Rep K ρ I v w) : KRep K ρ I (putK kvs k v) (putD kws k w) := by
  unfold putK putD
  rw [h.any k]
  split
  · exact h.mapPut k r
  · exact h.app r
theorem KRep.drop {kvs : List (κ × V)} {kws : List (κ × D)} (h : KRep K ρ I kvs kws) (k : κ) : KRep K ρ I (dropK kvs k) (dropD kws k) := by
  refine KRep.ind (P := fun kvs kws => KRep K ρ I (dropK kvs k) (dropD kws k)) KRep.nil (fun k' v w kvs kws r _ ih => ?_) h
  unfold dropK dropD at ih ⊢
  by_cases e : k' = k
  · simp only [List.filter_cons, e, ne_eq, not_true, decide_false, Bool.false_eq_true, if_false]
    exact ih
  · simp only [List.filter_cons, ne_eq, e, not_false_eq_true, decide_true, if_true]
    exact ih.cons r
theorem KRep.gr {ρ' : List Addr} {I' : Hp} (g : Gr ρ I ρ' I') {kvs : List (κ × V)} {kws : List (κ × D)} (h : KRep K ρ I kvs kws) : KRep K ρ' I' kvs kws := ⟨h.1, h.2.gr g⟩
end
/-- a key -/
def keyD : D → Option Kk
  | .int i => some (.inl i)
  | .str x => some (.inr x)
  | _ => none
theorem keyD_at {K : PySem.W.Frag} {ρ : List Addr} {I H : Hp} {v : V} {w : D} {k : Kk} (h : At K ρ I H v w) (e : keyD w = some k) : v = kV k := by
  cases w with
  | int i => cases e; cases h; rfl
  | str i => cases e; cases h; rfl
  | _ => cases e

/-! ### d[k], k in d -/
def opDGet : D → D → Option D
  | .dK l, y => (keyD y).bind (valD l)
  | _, _ => none
def opGet : D → D → Option D
  | .dK l, y => opDGet (.dK l) y
  | a, b => opIx a b
theorem opGet_or (a b : D) : opGet a b = opIx a b ∨ opGet a b = opDGet a b := by
  cases a with
  | dK l => exact .inr rfl
  | _ => exact .inl rfl
section
variable {X : Cx} {Wx : WX} {fr : Bool}
theorem rooms {k : Nat} {A : Around} (hr : Room k A) : A.units + 1 < cLine := by have := hr.units; omega
theorem dget_of {K : PySem.W.Frag} {ρ : List Addr} {I H : Hp} {v1 v2 : V} {l : List (Kk × D)} {b : D} {k : Kk} (h1 : At K ρ I H v1 (.dK l)) (h2 : At K ρ I H v2 b) (ek : keyD b = some k) :
    ∃ a, v1 = .ref a ∧ ((∃ v w, DGet H a v2 (some v) ∧ valD l k = some w ∧ Rep K ρ I v w) ∨ (DGet H a v2 none ∧ valD l k = none)) := by
  obtain ⟨a, kvs, rfl, ha, hk⟩ := h1
  have hk : KRep K ρ I kvs l := hk
  cases keyD_at h2 ek
  refine ⟨a, rfl, ?_⟩
  rcases hk.val k with ⟨v, w, e1, e2, r⟩ | ⟨e1, e2⟩
  · exact .inl ⟨v, w, .inl ⟨kvs, k, ha, rfl, e1.symm⟩, e2, r⟩
  · exact .inr ⟨.inl ⟨kvs, k, ha, rfl, e1.symm⟩, e2⟩
theorem c_dget {a b : Expr} {pos : Pos} {f g : DE} {k : Nat} (hr : Room k X.A) (ha : SE X Wx a f) (hb : SE X Wx b g) (hs : NoSl b := by intro _ _; rfl) : SE X Wx (.Subscript a b pos) (d2 opDGet f g) := by
  refine PE.imp (pe_dget (rooms hr) ha hb hs) fun σV H Q h => ?_
  obtain ⟨F, I, ρ, σ, S, rb, h⟩ := h
  refine ⟨F, I, ρ, σ, S, rb, post_bind h fun I1 ρ1 σ1 S1 H1 x v1 _ g1 rb1 t1 h1 => ?_⟩
  refine ⟨F, I1, ρ1, σ1, S1, rb1, post_bind h1 fun I2 ρ2 σ2 S2 H2 y v2 _ g2 rb2 t2 h2 => ?_⟩
  obtain ⟨z, ez, h3⟩ := post_opt h2
  obtain ⟨c, ec, ez⟩ := Option.bind_eq_some_iff.mp ez
  obtain ⟨b, eb, ez⟩ := Option.bind_eq_some_iff.mp ez
  have A1 := rb2.at (t1.gr g2) ec
  have A2 := rb2.at t2 eb
  cases c with
  | dK l =>
    obtain ⟨k, ek, ev⟩ := Option.bind_eq_some_iff.mp (show (keyD b).bind (valD l) = some z from ez)
    obtain ⟨a, rfl, q⟩ := dget_of A1 A2 ek
    rcases q with ⟨v, w, q1, q2, q3⟩ | ⟨_, q2⟩
    · rw [q2] at ev
      cases ev
      exact ⟨a, v, rfl, q1, h3 I2 ρ2 H2 v Gr.refl rb2 (.inr q3)⟩
    · rw [q2] at ev
      cases ev
  | _ => cases ez
theorem c_get {a b : Expr} {pos : Pos} {f g : DE} {k : Nat} (hr : Room k X.A) (ha : SE X Wx a f) (hb : SE X Wx b g) (hs : NoSl b := by intro _ _; rfl) (hs' : PlainIx b := by intro _ _; rfl) : SE X Wx (.Subscript a b pos) (d2 opGet f g) :=
  c_or2 (c_ix ha hb hs') (c_dget hr ha hb hs) fun σ S => d2_or opGet_or f g σ S
/-- in -/
def rDIn : R2 := fun y x H Q => ∃ a o, x = .ref a ∧ DGet H a y o ∧ Q (.bl o.isSome) H
def rDNotIn : R2 := fun y x H Q => ∃ a o, x = .ref a ∧ DGet H a y o ∧ Q (.bl (!o.isSome)) H
theorem op_din {k : Nat} (hr : Room k X.A) : OpR X (compareOp .In) rDIn := by
  intro pins s σ H y x v u Q I ry rx ⟨a, o, e, g, q⟩
  subst e
  obtain rfl : u = Value.ref a := rx
  exact d_in (rooms hr) I g ry fun s3 I3 => ⟨.bl o.isSome, H, I3, rfl, q⟩
theorem op_dnotin {k : Nat} (hr : Room k X.A) : OpR X (compareOp .NotIn) rDNotIn := by
  intro pins s σ H y x v u Q I ry rx ⟨a, o, e, g, q⟩
  subst e
  obtain rfl : u = Value.ref a := rx
  exact d_notIn (rooms hr) I g ry fun s3 I3 => ⟨.bl (!o.isSome), H, I3, rfl, q⟩
def inG : D → D → Option Bool
  | y, .dK l => (keyD y).map fun k => (valD l k).isSome
  | a, b => inA a b
def opInG (a b : D) : Option D := (inG a b).map D.bl
def opNotInG (a b : D) : Option D := (inG a b).map fun x => D.bl (!x)
theorem os_inG {K : PySem.W.Frag} : OpS K (fun x y H Q => rInA K x y H Q ∨ rDIn x y H Q) opInG := by
  intro F I ρ S H σV σ v1 v2 a b z Q rb h1 h2 ez q
  obtain ⟨x, e, rfl⟩ := Option.map_eq_some_iff.mp ez
  cases b with
  | dK l =>
    obtain ⟨k, ek, ex⟩ := Option.map_eq_some_iff.mp (show (keyD a).map _ = some x from e)
    obtain ⟨p, rfl, w⟩ := dget_of h2 h1 ek
    refine .inr ?_
    rcases w with ⟨v, w, q1, q2, q3⟩ | ⟨q1, q2⟩
    · rw [q2] at ex
      exact ⟨p, _, rfl, q1, by have ex : true = x := ex; rw [← ex] at q; exact q I H _ Gr.refl rb .bl⟩
    · rw [q2] at ex
      exact ⟨p, _, rfl, q1, by have ex : false = x := ex; rw [← ex] at q; exact q I H _ Gr.refl rb .bl⟩
  | _ => exact .inl (os_in F I ρ S H σV σ v1 v2 a _ _ Q rb h1 h2 (by unfold opIn; rw [show inA a _ = some x from e]; rfl) q)
theorem os_notInG {K : PySem.W.Frag} : OpS K (fun x y H Q => rNotInA K x y H Q ∨ rDNotIn x y H Q) opNotInG := by
  intro F I ρ S H σV σ v1 v2 a b z Q rb h1 h2 ez q
  obtain ⟨x, e, rfl⟩ := Option.map_eq_some_iff.mp ez
  cases b with
  | dK l =>
    obtain ⟨k, ek, ex⟩ := Option.map_eq_some_iff.mp (show (keyD a).map _ = some x from e)
    obtain ⟨p, rfl, w⟩ := dget_of h2 h1 ek
    refine .inr ?_
    rcases w with ⟨v, w, q1, q2, q3⟩ | ⟨q1, q2⟩
    · rw [q2] at ex
      exact ⟨p, _, rfl, q1, by have ex : true = x := ex; rw [← ex] at q; exact q I H _ Gr.refl rb .bl⟩
    · rw [q2] at ex
      exact ⟨p, _, rfl, q1, by have ex : false = x := ex; rw [← ex] at q; exact q I H _ Gr.refl rb .bl⟩
  | _ => exact .inl (os_notIn F I ρ S H σV σ v1 v2 a _ _ Q rb h1 h2 (by unfold opNotIn; rw [show inA a _ = some x from e]; rfl) q)
theorem op_inG {k : Nat} (hr : Room k X.A) : OpR X (compareOp .In) (fun x y H Q => rInA X.K x y H Q ∨ rDIn x y H Q) := op_inA.or (op_din hr)
theorem op_notInG {k : Nat} (hr : Room k X.A) : OpR X (compareOp .NotIn) (fun x y H Q => rNotInA X.K x y H Q ∨ rDNotIn x y H Q) := op_notInA.or (op_dnotin hr)
end
end MR

set_option Elab.async false
set_option linter.all false
set_option maxRecDepth 100000
/-! MR13: dicts that are changed; fresh containers put into the store; objects: fields, methods, making. -/
namespace MR
open PySem PySem.Spec PyProof.Rows L2

section
variable {X : Cx} {Wx : WX} {fr : Bool}
/-! ### d[k] = v -/
def ofMutS (o : Option (Sl × Sto)) : Res Fl := match o with
  | some (σ, S) => .ok .next σ S
  | none => .fail
def sDPutD (fd fy fv : DE) : DS := fun σ S => (dV fv σ S).bind fun w σ S => (fd σ S).bind fun x σ S => (fy σ S).bind fun y σ S => match deref σ S x, keyD y with
  | some (.dK l), some k => if l.length < most then ofMutS (chg σ S x (.dK (putD l k w))) else .fail
  | _, _ => .fail
theorem TRep.key {K : PySem.W.Frag} {ρ : List Addr} {I : Hp} {σV : L2.St} {v : V} {y : D} {k : Kk} (t : TRep K ρ I σV v y) (e : keyD y = some k) : v = kV k := by
  rcases t with ⟨i, rfl, _⟩ | r
  · cases e
  · cases r with
    | int => cases e; rfl
    | str => cases e; rfl
    | _ => cases e
theorem own_dK {K : PySem.W.Frag} {ρ : List Addr} {I H : Hp} {a : Addr} {l : List (Kk × D)} (h : OwnAt K ρ I H a (.dK l)) : ∃ kvs, H a = some (.dK kvs) ∧ KRep K ρ I kvs l := by
  obtain ⟨kvs, h1, h2, h3⟩ := h
  exact ⟨kvs, h1, h2, h3⟩
theorem dK_own {K : PySem.W.Frag} {ρ : List Addr} {I H : Hp} {a : Addr} {kvs : List (Key × V)} {l : List (Kk × D)} (h1 : H a = some (.dK kvs)) (h2 : KRep K ρ I kvs l) : OwnAt K ρ I H a (.dK l) := ⟨kvs, h1, h2.1, h2.2⟩
theorem cs_dput {o i value : Expr} {pos pos' : Pos} {fd fy fv : DE} {k : Nat} (hr : Room k X.A) (ho : SE X Wx o fd) (hi : SE X Wx i fy) (hv : SE X Wx value fv) (hs : swapsWith value (some (.Subscript o i pos')) pos.line X.env = pure false := by rfl) :
    SS fr X Wx (.Assign [.Subscript o i pos'] value pos) (sDPutD fd fy fv) := by
  refine PS.imp (ps_dput (rooms hr) ho hi (c_v hv) hs) fun D σV H h => ?_
  obtain ⟨F, I, ρ, σ, S, rb, h⟩ := h
  refine ⟨F, I, ρ, σ, S, rb, postS_bind h fun I1 ρ1 σ1 S1 H1 w v _ g1 rb1 t1 h1 => ?_⟩
  refine ⟨F, I1, ρ1, σ1, S1, rb1, postS_bind h1 fun I2 ρ2 σ2 S2 H2 x vx _ g2 rb2 t2 h2 => ?_⟩
  refine ⟨F, I2, ρ2, σ2, S2, rb2, postS_bind h2 fun I3 ρ3 σ3 S3 H3 y vy _ g3 rb3 t3 h3 => ?_⟩
  split at h3
  · rename_i l k e1 e2
    split at h3
    · rename_i hl
      cases em : chg σ3 S3 x (.dK (putD l k w)) with
      | none => rw [em] at h3; exact h3.elim
      | some q =>
        obtain ⟨σ', S'⟩ := q
        rw [em] at h3
        obtain ⟨a, rfl, ho, kk⟩ := rb3.chg (t2.gr g3) e1 em
        obtain ⟨kvs, hk, rk⟩ := own_dK ho
        cases t3.key e2
        refine ⟨a, _, rfl, .k hk (by rw [rk.len, ← most_eq]; exact hl), ?_⟩
        exact h3 I3 ρ3 _ _ Gr.refl (kk _ (dK_own upd_same (rk.put k (t1.gr (g2.trans g3)))))
    · exact h3.elim
  · exact h3.elim
/-! ### {k: v, ..} -/
abbrev DP := Sl → Sto → Res (List (Kk × D))
def pNil : DP := fun σ S => .ok [] σ S
def pCons (f g : DE) (r : DP) : DP := fun σ S => (f σ S).bind fun x σ S => match keyD x with
  | some k => (dV g σ S).bind fun w σ S => (r σ S).bind fun ps σ S => .ok ((k, w) :: ps) σ S
  | none => .fail
def mergeD (l more : List (Kk × D)) : List (Kk × D) := more.foldl (fun acc kv => putD acc kv.1 kv.2) l
def dDisp (r : DP) : DE := fun σ S => (r σ S).bind fun ps σ S => .ok (.dK (mergeD [] ps)) σ S
theorem KRep.merge {K : PySem.W.Frag} {ρ : List Addr} {I : Hp} {ms : List (Key × V)} {mw : List (Kk × D)} (h : KRep K ρ I ms mw) : ∀ {kvs : List (Key × V)} {kws : List (Kk × D)}, KRep K ρ I kvs kws → KRep K ρ I (mergeK kvs ms) (mergeD kws mw) := by
  refine KRep.ind (P := fun ms mw => ∀ {kvs : List (Key × V)} {kws : List (Kk × D)}, KRep K ρ I kvs kws → KRep K ρ I (mergeK kvs ms) (mergeD kws mw)) (fun h => h) (fun k v w ms mw r _ ih kvs kws h => ?_) h
  exact ih (h.put k r)
/-- the pairs, from the left -/
structure SP (X : Cx) (Wx : WX) (pos : Pos) (keys : List (Option Expr)) (values : List Expr) (r : DP) : Prop where
  ex : ∃ trs, PPs X pos keys values trs ∧ ∀ (σV : L2.St) (H : Hp) (Q : List (V × V) → Hp → Prop), semR X.K Wx (fun ρ I _ vs ws => ∃ kvs : List (Key × V), vs = kvs.map (fun kv => (kV kv.1, kv.2)) ∧ kvs.length = keys.length ∧ KRep X.K ρ I kvs ws) r σV H Q → tPairs trs σV H Q
theorem sp_nil {pos : Pos} : SP X Wx pos [] [] pNil := ⟨[], pps_nil, fun σV H Q h => by
  obtain ⟨F, I, ρ, σ, S, rb, h⟩ := h
  exact h I ρ H [] Gr.refl rb ⟨[], rfl, rfl, KRep.nil⟩⟩
theorem sp_cons {pos : Pos} {k v : Expr} {ks : List (Option Expr)} {vs : List Expr} {f g : DE} {r : DP} (hk : SE X Wx k f) (hv : SE X Wx v g) (hr : SP X Wx pos ks vs r) : SP X Wx pos (some k :: ks) (v :: vs) (pCons f g r) := by
  obtain ⟨trs, hp, ht⟩ := hr.ex
  refine ⟨_, pps_cons hk (c_v hv) hp, fun σV H Q h => ?_⟩
  obtain ⟨F, I, ρ, σ, S, rb, h⟩ := h
  refine ⟨F, I, ρ, σ, S, rb, post_bind h fun I1 ρ1 σ1 S1 H1 x v1 _ g1 rb1 t1 h1 => ?_⟩
  split at h1
  · rename_i kk ek
    cases t1.key ek
    refine ⟨F, I1, ρ1, σ1, S1, rb1, post_bind h1 fun I2 ρ2 σ2 S2 H2 w v2 _ g2 rb2 t2 h2 => ?_⟩
    refine ht σV H2 _ ⟨F, I2, ρ2, σ2, S2, rb2, post_bind h2 fun I3 ρ3 σ3 S3 H3 ps vs3 _ g3 rb3 t3 h3 => ?_⟩
    obtain ⟨kvs, rfl, hl, rk⟩ := t3
    exact h3 I3 ρ3 H3 _ Gr.refl rb3 ⟨(kk, v2) :: kvs, rfl, by rw [List.length_cons, List.length_cons, hl], rk.cons (t2.gr g3)⟩
  · exact h1.elim
/-- less is wanted kept -/
theorem RB.less {K : PySem.W.Frag} {F F' I : Hp} {ρ : List Addr} {S : Sto} {H : Hp} {σV : L2.St} {σ : Sl} (rb : RB K F' I ρ S H σV σ) (s : ∀ a o, F a = some o → F' a = some o) : RB K F I ρ S H σV σ := by
  have n : ∀ {a : Addr}, F' a = none → F a = none := fun {a} h => by
    cases e : F a with
    | none => rfl
    | some o => rw [s a o e] at h; cases h
  refine ⟨fun a o h => rb.fr a o (s a o h), rb.sub, fun a o h => rb.dis a o (s a o h), fun r o h => ?_, rb.nd, rb.rl, rb.len, fun i sl h => ?_, rb.inj⟩
  · obtain ⟨a, ha, hf, hi, hc⟩ := rb.store r o h
    exact ⟨a, ha, n hf, hi, hc⟩
  · have q := rb.slot i sl h
    cases sl with
    | emp => trivial
    | val w => exact q
    | own c => obtain ⟨a, ha, hf, hi, hr, ho⟩ := q; exact ⟨a, ha, n hf, hi, hr, ho⟩
/-- a new thing at p that must stay while other things are done -/
theorem RB.hold {K : PySem.W.Frag} {F I : Hp} {ρ : List Addr} {S : Sto} {H : Hp} {σV : L2.St} {σ : Sl} (rb : RB K F I ρ S H σV σ) {p : Addr} {o : HO} (hp : H p = none) : RB K (upd F p o) I ρ S (upd H p o) σV σ := by
  obtain ⟨rb2, nf, ni, nr, no⟩ := rb.newO (o := o) hp
  refine ⟨fun a u h => ?_, rb2.sub, fun a u h => ?_, fun r c h => ?_, rb2.nd, rb2.rl, rb2.len, fun i s h => ?_, rb2.inj⟩
  · by_cases e : a = p
    · subst e; rw [upd_same] at h ⊢; exact h
    · rw [upd_ne e] at h; exact rb2.fr a u h
  · by_cases e : a = p
    · subst e; exact ni
    · rw [upd_ne e] at h; exact rb2.dis a u h
  · obtain ⟨a, ha, hf, hi, hc⟩ := rb2.store r c h
    have ne : a ≠ p := fun e => nr (e ▸ List.mem_of_getElem? ha)
    exact ⟨a, ha, by rw [upd_ne ne]; exact hf, hi, hc⟩
  · have q := rb2.slot i s h
    cases s with
    | emp => trivial
    | val w => exact q
    | own c =>
      obtain ⟨a, ha, hf, hi, hr, ho⟩ := q
      have ne : a ≠ p := fun e => no i c h (e ▸ ha)
      exact ⟨a, ha, by rw [upd_ne ne]; exact hf, hi, hr, ho⟩
theorem post_less {α β : Type} {K : PySem.W.Frag} {F F' I : Hp} {ρ : List Addr} {σV : L2.St} {T : List Addr → Hp → L2.St → β → α → Prop} {r : Res α} {Q : β → Hp → Prop} (s : ∀ a o, F a = some o → F' a = some o) (h : postR K Wx T F I ρ σV r Q) : postR K Wx T F' I ρ σV r Q := by
  cases r with
  | ok a σ S => exact fun I' ρ' H' b g rb => h I' ρ' H' b g (rb.less s)
  | exc e σ S => exact fun I' ρ' H' d g rb => h I' ρ' H' d g (rb.less s)
  | fail => exact h
theorem cf_disp {pos : Pos} {keys : List (Option Expr)} {values : List Expr} {r : DP} (h : SP X Wx pos keys values r) (hall : keys.all (·.isSome) = true := by rfl) (hl : keys.length = values.length := by rfl) (h0 : keys ≠ [] := by simp) (h15 : keys.length ≤ 15 := by decide) : SF X Wx (.Dict keys values pos) (dDisp r) := by
  obtain ⟨trs, hp, ht⟩ := h.ex
  refine PE.imp (pe_disp hp hall hl h0 h15) fun σV H Q h => ?_
  obtain ⟨F, I, ρ, σ, S, rb, h⟩ := h
  intro p hp0
  have hb := rb.hold (o := .dK []) hp0
  have nF : F p = none := by
    cases e : F p with
    | none => rfl
    | some u => rw [rb.fr p u e] at hp0; cases hp0
  have sb : ∀ a o, F a = some o → upd F p (.dK []) a = some o := fun a o e => by rw [upd_ne (ne_of_none e nF)]; exact e
  refine ht σV _ _ ⟨upd F p (.dK []), I, ρ, σ, S, hb, ?_⟩
  unfold dDisp at h
  cases e : r σ S with
  | fail => rw [e] at h; exact h
  | exc a σ1 S1 => rw [e] at h; exact fun I' ρ' H' d g rb' => h I' ρ' H' d g (rb'.less sb)
  | ok ps σ1 S1 =>
    rw [e] at h
    intro I' ρ' H' vs g rb' ⟨kvs, ev, hlen, rk⟩
    have hHp : H' p = some (.dK []) := rb'.fr p _ upd_same
    refine ⟨hHp, kvs, ev, by omega, ?_⟩
    have rb2 := rb'.less sb
    have ni : I' p = none := rb'.dis p _ upd_same
    have nr : p ∉ ρ' := fun hm => by
      obtain ⟨j, hj⟩ := List.getElem?_of_mem hm
      have lt : j < S1.length := by rw [← rb'.rl]; exact (List.getElem?_eq_some_iff.mp hj).1
      obtain ⟨b, hb, hfb, _⟩ := rb'.store j _ (List.getElem?_eq_getElem lt)
      rw [hj] at hb
      cases hb
      rw [upd_same] at hfb
      cases hfb
    have no : NoOwn σV σ1 p := fun i c h1 h2 => by
      obtain ⟨b, hb, hfb, _⟩ := rb'.slot i _ h1
      rw [h2] at hb
      cases hb
      rw [upd_same] at hfb
      cases hfb
    have k : ∀ b u, b ≠ p → H' b = some u → upd H' p (.dK (mergeK [] kvs)) b = some u := fun b u n h => by rw [upd_ne n]; exact h
    have rb3 : RB X.K F I' ρ' S1 (upd H' p (.dK (mergeK [] kvs))) σV σ1 := by
      refine ⟨fun a u h => k a u (ne_of_none h nF) (rb2.fr a u h), fun a u h => ?_, rb2.dis, fun j c h => ?_, rb2.nd, rb2.rl, rb2.len, fun i s h => ?_, rb2.inj⟩
      · have n := ne_of_none h ni
        rcases rb2.sub a u h with q | ⟨d, ob, q⟩
        · exact .inl (k _ _ n q)
        · exact .inr ⟨d, ob, k _ _ n q⟩
      · obtain ⟨a, ha, hf, hi, hc⟩ := rb2.store j c h
        have n : a ≠ p := fun z => nr (z ▸ List.mem_of_getElem? ha)
        exact ⟨a, ha, hf, hi, hc.gr Gr.refl fun u => k a u n⟩
      · have q := rb2.slot i s h
        cases s with
        | emp => trivial
        | val w => exact q
        | own c =>
          obtain ⟨a, ha, hf, hi, hr, ho⟩ := q
          have n : a ≠ p := fun z => no i c h (z ▸ ha)
          exact ⟨a, ha, hf, hi, hr, ho.gr Gr.refl fun u => k a u n⟩
    exact h I' ρ' _ _ g rb3 (.inl ⟨p, rfl, nF, ni, nr, no, dK_own upd_same (rk.merge KRep.nil)⟩)
theorem cf_dnew {pos : Pos} : SF X Wx (.Dict [] [] pos) (dC (.dK [])) := by
  refine PE.imp pe_dnewK fun σV H Q h => ?_
  obtain ⟨F, I, ρ, σ, S, rb, h⟩ := h
  intro p hp
  obtain ⟨rb2, nf, ni, nr, no⟩ := rb.newO (o := .dK []) hp
  exact h _ ρ _ _ Gr.refl rb2 (.inl ⟨p, rfl, nf, ni, nr, no, [], upd_same, rfl, .nil⟩)

/-! ### a fresh container is put into the store -/
theorem RB.alloc {K : PySem.W.Frag} {F I : Hp} {ρ : List Addr} {S : Sto} {H : Hp} {σV : L2.St} {σ : Sl} (rb : RB K F I ρ S H σV σ) {a : Addr} {ob : Ob} (nf : F a = none) (ni : I a = none) (nr : a ∉ ρ) (no : NoOwn σV σ a) (hc : CellAt K (ρ ++ [a]) I H a ob) :
    Gr ρ I (ρ ++ [a]) I ∧ RB K F I (ρ ++ [a]) (S ++ [ob]) H σV σ := by
  have g : Gr ρ I (ρ ++ [a]) I := ⟨fun _ _ h => h, fun r b h => by
    have lt := (List.getElem?_eq_some_iff.mp h).1
    rw [List.getElem?_append_left lt]; exact h⟩
  refine ⟨g, ⟨rb.fr, rb.sub, rb.dis, fun r o h => ?_, fun r r' b h1 h2 => ?_, by rw [List.length_append, List.length_append, rb.rl]; rfl, rb.len, fun i s h => ?_, rb.inj⟩⟩
  · by_cases lt : r < S.length
    · rw [List.getElem?_append_left lt] at h
      obtain ⟨b, hb, hf, hi, hcb⟩ := rb.store r o h
      exact ⟨b, g.pre _ _ hb, hf, hi, hcb.gr g fun _ z => z⟩
    · rw [List.getElem?_append_right (by omega)] at h
      have e0 : r - S.length = 0 := by
        have := (List.getElem?_eq_some_iff.mp h).1
        rw [List.length_singleton] at this
        omega
      rw [e0] at h
      cases h
      refine ⟨a, ?_, nf, ni, hc⟩
      rw [List.getElem?_append_right (by rw [rb.rl]; omega), rb.rl, e0]
      rfl
  · have key : ∀ {r : Nat} {b : Addr}, (ρ ++ [a])[r]? = some b → (ρ[r]? = some b) ∨ (r = ρ.length ∧ b = a) := fun {r b} h => by
      by_cases lt : r < ρ.length
      · rw [List.getElem?_append_left lt] at h; exact .inl h
      · rw [List.getElem?_append_right (by omega)] at h
        have e0 : r - ρ.length = 0 := by
          have := (List.getElem?_eq_some_iff.mp h).1
          rw [List.length_singleton] at this
          omega
        rw [e0] at h
        cases h
        exact .inr ⟨by omega, rfl⟩
    rcases key h1 with k1 | ⟨k1, e1⟩ <;> rcases key h2 with k2 | ⟨k2, e2⟩
    · exact rb.nd r r' b k1 k2
    · subst e2; exact absurd (List.mem_of_getElem? k1) nr
    · subst e1; exact absurd (List.mem_of_getElem? k2) nr
    · omega
  · have q := rb.slot i s h
    cases s with
    | emp => trivial
    | val w => obtain ⟨v, hv, r⟩ := q; exact ⟨v, hv, r.gr g⟩
    | own c =>
      obtain ⟨b, hb, hf, hi, hr, ho⟩ := q
      refine ⟨b, hb, hf, hi, ?_, ho.gr g fun _ z => z⟩
      intro hm
      rcases List.mem_append.mp hm with hm | hm
      · exact hr hm
      · rw [List.mem_singleton] at hm
        exact no i c h (hm ▸ hb)
def dAlloc (f : DE) : DE := fun σ S => (f σ S).bind fun w σ S => if scalar w then .ok w σ S else .ok (.obj S.length) σ (S ++ [.con false w])
theorem ρ_last {ρ : List Addr} {a : Addr} {n : Nat} (h : ρ.length = n) : (ρ ++ [a])[n]? = some a := by
  subst h
  rw [List.getElem?_append_right (Nat.le_refl _), Nat.sub_self]
  rfl
theorem c_alloc {e : Expr} {f : DE} (h : SF X Wx e f) : SE X Wx e (dAlloc f) := by
  refine PE.imp h fun σV H Q h => ?_
  obtain ⟨F, I, ρ, σ, S, rb, h⟩ := h
  refine ⟨F, I, ρ, σ, S, rb, ?_⟩
  unfold dAlloc at h
  cases e : f σ S with
  | fail => rw [e] at h; exact h
  | exc a σ1 S1 => rw [e] at h; exact h
  | ok w σ1 S1 =>
    rw [e] at h
    have h : postR X.K Wx (TRep X.K) F I ρ σV (if scalar w then .ok w σ1 S1 else .ok (.obj S1.length) σ1 (S1 ++ [.con false w])) Q := h
    intro I' ρ' H' v g rb' t
    rcases t with ⟨a, rfl, f⟩ | ⟨hs, r⟩
    · have ns : scalar w = false := by
        have := f.own
        cases w <;> first | rfl | exact this.elim
      rw [ns] at h
      have g0 : Gr ρ' I' (ρ' ++ [a]) I' := ⟨fun _ _ h => h, fun r b h => by
        have lt := (List.getElem?_eq_some_iff.mp h).1
        rw [List.getElem?_append_left lt]; exact h⟩
      obtain ⟨g2, rb2⟩ := rb'.alloc f.nf f.ni f.nr f.no (ob := .con false w) (f.own.gr g0 fun _ z => z)
      exact h I' _ H' _ (g.trans g2) rb2 (.inr (.obj (ρ_last rb'.rl)))
    · rw [hs] at h
      exact h I' ρ' H' v g rb' (.inr r)
end

/-! ### fields -/
def fget (fs : List (String × D)) (f : String) : Option D := (fs.find? fun p => p.1 == f).map (·.2)
def fput (f : String) (w : D) : List (String × D) → List (String × D)
  | [] => [(f, w)]
  | (g, x) :: r => if g = f then (g, w) :: r else (g, x) :: fput f w r
section
variable {K : PySem.W.Frag} {ρ : List Addr} {I : Hp}
def FRep (K : PySem.W.Frag) (ρ : List Addr) (I : Hp) (fsV : List (Str × V)) (fs : List (String × D)) : Prop := fsV.map (·.1) = fs.map (fun p => Str.ofString p.1) ∧ Reps K ρ I (fsV.map (·.2)) (fs.map (·.2))
theorem FRep.ind {P : List (Str × V) → List (String × D) → Prop} (h0 : P [] []) (h1 : ∀ k v w kvs kws, Rep K ρ I v w → FRep K ρ I kvs kws → P kvs kws → P ((Str.ofString k, v) :: kvs) ((k, w) :: kws)) : ∀ {kvs : List (Str × V)} {kws : List (String × D)}, FRep K ρ I kvs kws → P kvs kws
  | [], [], _ => h0
  | [], _ :: _, h => by have := h.1; simp at this
  | _ :: _, [], h => by have := h.1; simp at this
  | (k, v) :: kvs, (k', w) :: kws, h => by
    obtain ⟨h2, h3⟩ := h
    simp only [List.map_cons] at h2 h3
    injection h2 with h4 h5
    subst h4
    cases h3 with
    | cons r1 r2 => exact h1 k' v w kvs kws r1 ⟨h5, r2⟩ (FRep.ind h0 h1 ⟨h5, r2⟩)
theorem FRep.nil : FRep K ρ I [] [] := ⟨rfl, .nil⟩
theorem FRep.cons {k : String} {v : V} {w : D} {kvs : List (Str × V)} {kws : List (String × D)} (h : Rep K ρ I v w) (r : FRep K ρ I kvs kws) : FRep K ρ I ((Str.ofString k, v) :: kvs) ((k, w) :: kws) := ⟨by simp [r.1], .cons h r.2⟩
theorem FRep.get {fsV : List (Str × V)} {fs : List (String × D)} (h : FRep K ρ I fsV fs) (f : String) : (∃ v w, fsV.lookup (Str.ofString f) = some v ∧ fget fs f = some w ∧ Rep K ρ I v w) ∨ (fsV.lookup (Str.ofString f) = none ∧ fget fs f = none) := by
  refine FRep.ind (P := fun fsV fs => (∃ v w, fsV.lookup (Str.ofString f) = some v ∧ fget fs f = some w ∧ Rep K ρ I v w) ∨ (fsV.lookup (Str.ofString f) = none ∧ fget fs f = none)) (.inr ⟨rfl, rfl⟩) (fun k v w kvs kws r _ ih => ?_) h
  by_cases e : k = f
  · subst e
    exact .inl ⟨v, w, by simp [List.lookup], by simp [fget], r⟩
  · have e2 : (Str.ofString f == Str.ofString k) = false := beq_eq_false_iff_ne.mpr fun z => e (ofString_inj z).symm
    have e3 : (k == f) = false := beq_eq_false_iff_ne.mpr e
    have h1 : List.lookup (Str.ofString f) ((Str.ofString k, v) :: kvs) = List.lookup (Str.ofString f) kvs := by simp only [List.lookup, e2]
    have h2 : fget ((k, w) :: kws) f = fget kws f := by
      unfold fget
      rw [List.find?_cons]
      simp only [e3]
    rw [h1, h2]
    exact ih
theorem FRep.put {fsV : List (Str × V)} {fs : List (String × D)} (h : FRep K ρ I fsV fs) (f : String) {v : V} {w : D} (r : Rep K ρ I v w) : FRep K ρ I (putF (Str.ofString f) v fsV) (fput f w fs) := by
  refine FRep.ind (P := fun fsV fs => FRep K ρ I (putF (Str.ofString f) v fsV) (fput f w fs)) (FRep.nil.cons r) (fun k v' w' kvs kws r' h' ih => ?_) h
  unfold putF fput
  by_cases e : k = f
  · subst e
    rw [if_pos rfl, if_pos rfl]
    exact h'.cons r
  · rw [if_neg (fun z => e (ofString_inj z)), if_neg e]
    exact ih.cons r'
theorem FRep.len {fsV : List (Str × V)} {fs : List (String × D)} (h : FRep K ρ I fsV fs) : fsV.length = fs.length := by
  have := congrArg List.length h.1
  rwa [List.length_map, List.length_map] at this
end
/-- the object at r, of one of these classes -/
def objAt (cs : List String) (S : Sto) (x : D) : Option (Nat × String × List (String × D)) := match x with
  | .obj r => (match S[r]? with
    | some (.ins c fs) => if c ∈ cs then some (r, c, fs) else none
    | _ => none)
  | _ => none
section
variable {X : Cx} {Wx : WX} {fr : Bool}
theorem objAt_ok {K : PySem.W.Frag} {F I : Hp} {ρ : List Addr} {S : Sto} {H : Hp} {σV : L2.St} {σ : Sl} {v : V} {x : D} {cs : List String} {r : Nat} {c : String} {fs : List (String × D)} (rb : RB K F I ρ S H σV σ) (t : TRep K ρ I σV v x) (e : objAt cs S x = some (r, c, fs)) :
    x = .obj r ∧ S[r]? = some (.ins c fs) ∧ c ∈ cs ∧ ∃ a dx fsV, v = .ref a ∧ ρ[r]? = some a ∧ H a = some (.ins (ca K c) dx fsV) ∧ FRep K ρ I fsV fs := by
  unfold objAt at e
  split at e
  · rename_i r'
    split at e
    · rename_i c' fs' hs
      split at e
      · rename_i hm
        cases e
        rcases t with ⟨i, q, _⟩ | t
        · cases q
        · cases t with
          | @obj _ a ha =>
            obtain ⟨b, hb, _, _, dx, fsV, h1, h2, h3⟩ := rb.store _ _ hs
            rw [ha] at hb
            cases hb
            exact ⟨rfl, hs, hm, a, dx, fsV, rfl, ha, h1, h2, h3⟩
      · cases e
    · cases e
  · cases e
def dFld (cs : List String) (f : String) (fo : DE) : DE := fun σ S => (fo σ S).bind fun x σ S => ofOpt ((objAt cs S x).bind fun p => fget p.2.2 f) σ S
/-- classes with their fields -/
def ClsF (K : PySem.W.Frag) (cs : List String) (f : String) : Prop := ∀ c ∈ cs, Cls K (ca K c) ∧ NoAttr K (ca K c) (Str.ofString f)
theorem c_fld {e : Expr} {pos : Pos} {cs : List String} {f : String} {fo : DE} (hc : ClsF X.K cs f) (he : SE X Wx e fo) (hb : attributeBase e (Str.ofString f) X.env (eval e X.env) = eval e X.env := by rfl) : SE X Wx (.Attribute e (Str.ofString f) pos) (dFld cs f fo) := by
  refine PE.imp (pe_fld he hb) fun σV H Q h => ?_
  obtain ⟨F, I, ρ, σ, S, rb, h⟩ := h
  refine ⟨F, I, ρ, σ, S, rb, post_bind h fun I1 ρ1 σ1 S1 H1 x v1 _ g1 rb1 t1 h1 => ?_⟩
  obtain ⟨z, ez, h2⟩ := post_opt h1
  obtain ⟨⟨r, c, fs⟩, ep, ez2⟩ := Option.bind_eq_some_iff.mp ez
  clear ez
  obtain ⟨rfl, hs, hm, a, dx, fsV, rfl, ha, hH, rf⟩ := objAt_ok rb1 t1 ep
  obtain ⟨hcl, hno⟩ := hc c hm
  have ez3 : fget fs f = some z := ez2
  rcases rf.get f with ⟨v, w, q1, q2, q3⟩ | ⟨_, q2⟩
  · rw [q2] at ez3
    cases ez3
    exact ⟨a, _, dx, fsV, v, rfl, hH, hcl, hno, q1, h2 I1 ρ1 H1 v Gr.refl rb1 (.inr q3)⟩
  · rw [q2] at ez3
    cases ez3
/-- the object's cell is changed -/
theorem RB.insSet {K : PySem.W.Frag} {F I : Hp} {ρ : List Addr} {S : Sto} {H : Hp} {σV : L2.St} {σ : Sl} (rb : RB K F I ρ S H σV σ) {r : Nat} {c c' : String} {fs fs' : List (String × D)} {a : Addr} {o : HO} (hs : S[r]? = some (.ins c fs)) (ha : ρ[r]? = some a) (new : CellAt K ρ I (upd H a o) a (.ins c' fs')) :
    RB K F I ρ (S.set r (.ins c' fs')) (upd H a o) σV σ := by
  obtain ⟨b, hb, hf, hi, _⟩ := rb.store _ _ hs
  rw [ha] at hb
  cases hb
  have lt : r < S.length := (List.getElem?_eq_some_iff.mp hs).1
  have k : ∀ b u, b ≠ a → H b = some u → upd H a o b = some u := fun b u n h => by rw [upd_ne n]; exact h
  refine ⟨fun b u h => k b u (ne_of_none h hf) (rb.fr b u h), fun b u h => ?_, rb.dis, fun r2 ob h => ?_, rb.nd, by rw [List.length_set]; exact rb.rl, rb.len, fun j s h => ?_, rb.inj⟩
  · have n := ne_of_none h hi
    rcases rb.sub b u h with z | ⟨d, ob, z⟩
    · exact .inl (k _ _ n z)
    · exact .inr ⟨d, ob, k _ _ n z⟩
  · by_cases er : r = r2
    · subst er
      rw [List.getElem?_set_self lt] at h
      cases h
      exact ⟨a, ha, hf, hi, new⟩
    · rw [List.getElem?_set_ne er] at h
      obtain ⟨b, hb, hfb, hib, hcb⟩ := rb.store r2 ob h
      have n : b ≠ a := fun z => er (rb.nd r r2 a ha (z ▸ hb))
      exact ⟨b, hb, hfb, hib, hcb.gr Gr.refl fun u => k b u n⟩
  · have q := rb.slot j s h
    cases s with
    | emp => trivial
    | val w => exact q
    | own c2 =>
      obtain ⟨b, hb, hfb, hib, hrb, hob⟩ := q
      have n : b ≠ a := fun z => hrb (z ▸ List.mem_of_getElem? ha)
      exact ⟨b, hb, hfb, hib, hrb, hob.gr Gr.refl fun u => k b u n⟩
def sFldD (cs : List String) (f : String) (fo fv : DE) : DS := fun σ S => (dV fv σ S).bind fun w σ S => (fo σ S).bind fun x σ S => match objAt cs S x with
  | some (r, c, fs) => if fs.length < 1000 then .ok .next σ (S.set r (.ins c (fput f w fs))) else .fail
  | none => .fail
theorem cs_fld {o value : Expr} {pos pos' : Pos} {cs : List String} {f : String} {fo fv : DE} (hc : ClsF X.K cs f) (ho : SE X Wx o fo) (hv : SE X Wx value fv) (hs : swapsWith value (some (.Attribute o (Str.ofString f) pos')) pos.line X.env = pure false := by rfl) :
    SS fr X Wx (.Assign [.Attribute o (Str.ofString f) pos'] value pos) (sFldD cs f fo fv) := by
  refine PS.imp (ps_fld ho (c_v hv) hs) fun D σV H h => ?_
  obtain ⟨F, I, ρ, σ, S, rb, h⟩ := h
  refine ⟨F, I, ρ, σ, S, rb, postS_bind h fun I1 ρ1 σ1 S1 H1 w v _ g1 rb1 t1 h1 => ?_⟩
  refine ⟨F, I1, ρ1, σ1, S1, rb1, postS_bind h1 fun I2 ρ2 σ2 S2 H2 x vx _ g2 rb2 t2 h2 => ?_⟩
  split at h2
  · rename_i r c fs ep
    split at h2
    · rename_i hl
      obtain ⟨rfl, hs, hm, a, dx, fsV, rfl, ha, hH, rf⟩ := objAt_ok rb2 t2 ep
      obtain ⟨hcl, hno⟩ := hc c hm
      refine ⟨a, _, dx, fsV, rfl, hH, hcl, hno, by rw [rf.len]; exact hl, ?_⟩
      have rf2 := rf.put f (t1.gr g2)
      exact h2 I2 ρ2 _ _ Gr.refl (rb2.insSet hs ha ⟨dx, _, upd_same, rf2.1, rf2.2⟩)
    · exact h2.elim
  · exact h2.elim
end
end MR

set_option Elab.async false
set_option linter.all false
set_option maxRecDepth 100000
/-! MR14: methods, making, dict methods. -/
namespace MR
open PySem PySem.Spec PyProof.Rows L2

/-! ### the call of a method, what it raises told at the slots -/
section
variable {X : Cx} {CX : CXT} {k : Nat} {f C : Addr} {fd : FuncData} {ps : List Str} {sp : Sp} {E : L2.St → XK} {x m : Str} {p pos apos : Pos} {e o : Expr} {es : List Expr} {ta : TE} {t : TA} {pl : Sem Bool}
def tMet (C : Addr) (m : Str) (sp : Sp) (E : L2.St → XK) (ta : TE) (t : TA) : TE := fun σ H Q => ta σ H fun x H1 =>
  ∃ a dx fs, x = .ref a ∧ H1 a = some (.ins C dx fs) ∧ fs.lookup m = none ∧ t σ H1 fun vs H2 => sp (x :: vs) H2 Q (E σ)
theorem pe_met (he : PE X o ta) (c : Cls X.K C) (hm : Meth X.K C m f) (F : FnOk X.prog X.w X.K X.mg X.base CX k f fd ps sp) (hr : Room k X.A) (hb : Binds X.K fd ps []) (hx : ∀ σ, PassesAt CX X σ (E σ)) (ha : PA X (e :: es) t)
    (hst : starEach (e :: es) X.env = (false, eval e X.env) :: starEach es X.env) (hpl : (backTo pos (starEach es X.env)).any (·.1) = false)
    (ht : eval (.Call (.Attribute o m apos) (e :: es) [] pos) X.env = (eval o X.env >>= fun ov => standAt apos.atName >>= fun _ => holding [ov] (getMethod ov m pl) >>= fun q => callWith pos q.1 q.2 (backTo pos (starEach (e :: es) X.env)) (backToKw pos (keywordEach [] X.env)))) :
    PE X (.Call (.Attribute o m apos) (e :: es) [] pos) (tMet C m sp E ta t) := by
  refine ⟨fun pins s σ H Q I h => ?_⟩
  refine PySem.W.methodCall_KW (pl := pl) (thn (he.run pins s σ H _ I h) fun u s1 ⟨y, H1, I1, ry, a, dx, fs, ey, ea, l, q⟩ => ?_) ht
  subst ey
  obtain rfl : u = Value.ref a := ry
  refine getmeth_ok I1 ea c hm l (PySem.W.callWith_K (first := [.ref a]) (h₀ := X.base) I.ok.mod.kin hm.kp (thn (ha.run pos pins s1 σ H1 _ I1 q) fun us s2 ⟨vs, H2, I2, r, q2⟩ => ⟨I2.kIn, ?_⟩) hst hpl)
  exact run_fnS (us := .ref a :: us) (vs := .ref a :: vs) F hr hb (hx σ) I2 (.cons rfl r) q2
theorem pe_met0 (he : PE X o ta) (c : Cls X.K C) (hm : Meth X.K C m f) (F : FnOk X.prog X.w X.K X.mg X.base CX k f fd ps sp) (hr : Room k X.A) (hb : Binds X.K fd ps []) (hx : ∀ σ, PassesAt CX X σ (E σ))
    (ht : eval (.Call (.Attribute o m apos) [] [] pos) X.env = (eval o X.env >>= fun ov => standAt apos.atName >>= fun _ => holding [ov] (getMethod ov m pl) >>= fun q => callWith pos q.1 q.2 (backTo pos (starEach [] X.env)) (backToKw pos (keywordEach [] X.env)))) :
    PE X (.Call (.Attribute o m apos) [] [] pos) (tMet C m sp E ta tNil) := by
  refine ⟨fun pins s σ H Q I h => ?_⟩
  refine PySem.W.methodCall_KW (pl := pl) (thn (he.run pins s σ H _ I h) fun u s1 ⟨y, H1, I1, ry, a, dx, fs, ey, ea, l, q⟩ => ?_) ht
  subst ey
  obtain rfl : u = Value.ref a := ry
  exact getmeth_ok I1 ea c hm l (PySem.W.callWith_K0 (first := [.ref a]) I1.kIn hm.kp (run_fnS (us := [.ref a]) (vs := [.ref a]) F hr hb (hx σ) I1 (.cons rfl .nil) q))
/-- C(..) -/
def tMk (C : Addr) (sp : Sp) (E : L2.St → XK) (t : TA) : TE := fun σ H Q => t σ H fun vs H1 => ∀ x dx, H1 x = none → H1 dx = none → dx ≠ x →
  sp (.ref x :: vs) (upd (upd H1 dx (.own x)) x (.ins C dx [])) (fun v H2 => v = .non ∧ Q (.ref x) H2) (E σ)
theorem run_mk {pins : List (Addr × Obj)} {σ : L2.St} {H : Hp} {s : Shared} {Q : VK} {us : List Value} {vs : List V} (M : Mk X.K C f) (F : FnOk X.prog X.w X.K X.mg X.base CX k f fd ps sp) (hr : Room (k + 1) X.A) (hb : Binds X.K fd ps [])
    (hx : PassesAt CX X σ (E σ)) (I : Inv X pins σ H s) (r : Vals vs us)
    (h : ∀ x dx, H x = none → H dx = none → dx ≠ x → sp (.ref x :: vs) (upd (upd H dx (.own x)) x (.ins C dx [])) (fun v H2 => v = .non ∧ Q (.ref x) H2) (E σ)) :
    wpAny (model X.prog X.w) X.A (call (.ref C) us) (EP X pins σ Q) X.xe s := by
  have hq := h (s.heap.objs.size + 1) s.heap.objs.size (I.hok.fresh (Nat.le_succ _)) (I.hok.fresh (Nat.le_refl _)) (Nat.ne_of_lt (Nat.lt_succ_self _))
  have I2 := Inv.made (C := C) I
  have r2 : Vals (V.ref (s.heap.objs.size + 1) :: vs) (Value.ref (s.heap.objs.size + 1) :: us) := .cons rfl r
  have hl : (Value.ref (s.heap.objs.size + 1) :: us).length = ps.length := by
    have z := r2.length
    rw [F.len _ _ _ _ hq] at z
    exact z.symm
  have b := hb _ (Value.ref (s.heap.objs.size + 1) :: us) I2.kIn (by rw [List.append_nil]; exact hl)
  rw [List.append_nil] at b
  refine wpAny_call (make_map (f := f) I.kIn M.makes M.init (beq_iff_eq.mp M.fn) (codeAny_mono (F.run _ X.stack _ _ ⟨Value.ref (s.heap.objs.size + 1) :: us, []⟩ (Value.ref (s.heap.objs.size + 1) :: us) _ _ (E σ) (hr.make C us [])
    (I2.env0.make C us []) b r2 hq) fun r s' hq' => ?_))
  cases r with
  | error e => exact hx pins _ _ e s' I2 hq'
  | ok fl =>
    cases fl with
    | ret u =>
      obtain ⟨v, H', I3, rv, ev, q3⟩ := I2.after hq'
      subst ev
      exact ⟨rv, ⟨V.ref (s.heap.objs.size + 1), H', I3, rfl, q3⟩⟩
    | next => exact False.elim hq'
    | brk => exact False.elim hq'
    | cont => exact False.elim hq'
theorem pe_mk (M : Mk X.K C f) (F : FnOk X.prog X.w X.K X.mg X.base CX k f fd ps sp) (hr : Room (k + 1) X.A) (hg : Gl X x) (hm : X.mg x = some (.ref C)) (hb : Binds X.K fd ps []) (hx : ∀ σ, PassesAt CX X σ (E σ)) (ha : PA X (e :: es) t)
    (hdb : (x == ("__debug__" : Str)) = false) (he : starEach (e :: es) X.env = (false, eval e X.env) :: starEach es X.env) (hpl : (backTo pos (starEach es X.env)).any (·.1) = false) : PE X (.Call (.Name x p) (e :: es) [] pos) (tMk C sp E t) := by
  refine ⟨fun pins s σ H Q I h => wpAny_Call_Name_kw (ld_glob I hg hm ?_ hdb)⟩
  refine PySem.W.callWith_K (h₀ := X.base) I.ok.mod.kin M.kp (thn (ha.run pos pins s σ H _ I h) fun us s1 ⟨vs, H1, I1, r, q⟩ => ⟨I1.kIn, ?_⟩) he hpl
  exact run_mk M F hr hb (hx σ) I1 r q
theorem pe_mk0 (M : Mk X.K C f) (F : FnOk X.prog X.w X.K X.mg X.base CX k f fd ps sp) (hr : Room (k + 1) X.A) (hg : Gl X x) (hm : X.mg x = some (.ref C)) (hb : Binds X.K fd ps []) (hx : ∀ σ, PassesAt CX X σ (E σ))
    (hdb : (x == ("__debug__" : Str)) = false) : PE X (.Call (.Name x p) [] [] pos) (tMk C sp E tNil) := by
  refine ⟨fun pins s σ H Q I h => wpAny_Call_Name_kw (ld_glob I hg hm ?_ hdb)⟩
  exact PySem.W.callWith_K0 I.kIn M.kp (run_mk (us := []) M F hr hb (hx σ) I .nil h)
end

/-- a method as callers take it -/
structure Mt (fr : Bool) (P : Program) (w : World) (K : PySem.W.Frag) (mg : Str → Option Value) (base : Heap) (c m : String) (k n : Nat) (d : Den) : Prop where
  ex : ∃ (f : Addr) (fd : FuncData) (ps : List Str), Cls K (ca K c) ∧ Meth K (ca K c) (Str.ofString m) f ∧ Binds K fd ps [] ∧ ps.length = n ∧ FnOk P w K mg base (L2.CX P w) k f fd ps (spD fr K n d)
theorem Mt.mono {fr : Bool} {P : Program} {w : World} {K : PySem.W.Frag} {mg : Str → Option Value} {base : Heap} {c m : String} {k k' n : Nat} {d : Den} (M : Mt fr P w K mg base c m k n d) (h : k ≤ k') : Mt fr P w K mg base c m k' n d := by
  obtain ⟨f, fd, ps, h1, h2, h3, h4, h5⟩ := M.ex
  exact ⟨f, fd, ps, h1, h2, h3, h4, h5.mono h⟩
/-- a class that is made, with its __init__ -/
structure MkD (P : Program) (w : World) (K : PySem.W.Frag) (mg : Str → Option Value) (base : Heap) (c : String) (k n : Nat) (d : Den) : Prop where
  ex : ∃ (f : Addr) (fd : FuncData) (ps : List Str), mg (Str.ofString c) = some (.ref (ca K c)) ∧ Mk K (ca K c) f ∧ Binds K fd ps [] ∧ ps.length = n ∧ FnOk P w K mg base (L2.CX P w) k f fd ps (spD false K n d)

def outR (o : Out) (σ : Sl) : Res D := match o with
  | .ok w S' => .ok w σ S'
  | .exc e S' => .exc e σ S'
  | .fail => .fail
def dMet (m : String) (tbl : List (String × Den)) (fo : DE) (fa : DA) : DE := fun σ S => (fo σ S).bind fun x σ S => match objAt (tbl.map (·.1)) S x with
  | some (_, c, fs) => (match fget fs m with
    | some _ => .fail
    | none => (fa σ S).bind fun ws σ S => match tbl.find? (fun p => p.1 == c) with
      | some p => outR (p.2 (x :: ws) S) σ
      | none => .fail)
  | none => .fail
def dMake (c : String) (d : Den) (fa : DA) : DE := fun σ S => (fa σ S).bind fun ws σ S => match d (.obj S.length :: ws) (S ++ [.ins c []]) with
  | .ok .non S' => .ok (.obj S.length) σ S'
  | .ok _ _ => .fail
  | .exc e S' => .exc e σ S'
  | .fail => .fail
theorem dMet_one {m : String} {tbl : List (String × Den)} (h0 : tbl ≠ []) (fo : DE) (fa : DA) (σ : Sl) (S : Sto) : ∃ p ∈ tbl, dMet m tbl fo fa σ S = dMet m [p] fo fa σ S := by
  obtain ⟨p0, hp0⟩ : ∃ p, p ∈ tbl := by cases tbl with
    | nil => exact absurd rfl h0
    | cons p r => exact ⟨p, List.mem_cons_self ..⟩
  unfold dMet
  cases e : fo σ S with
  | fail => exact ⟨p0, hp0, rfl⟩
  | exc a _ _ => exact ⟨p0, hp0, rfl⟩
  | ok x σ1 S1 =>
    dsimp only [Res.bind]
    cases x with
    | obj r =>
      cases hs : S1[r]? with
      | none =>
        refine ⟨p0, hp0, ?_⟩
        unfold objAt
        simp only [hs]
      | some ob =>
        cases ob with
        | con lk w =>
          refine ⟨p0, hp0, ?_⟩
          unfold objAt
          simp only [hs]
        | ins c fs =>
          cases hf : tbl.find? (fun p => p.1 == c) with
          | some p =>
            have hm := List.mem_of_find?_eq_some hf
            have hc : p.1 = c := by have := List.find?_some hf; exact eq_of_beq this
            have h1 : c ∈ tbl.map (·.1) := List.mem_map.mpr ⟨p, hm, hc⟩
            refine ⟨p, hm, ?_⟩
            have o1 : objAt (tbl.map (·.1)) S1 (.obj r) = some (r, c, fs) := by
              unfold objAt
              simp only [hs]
              rw [if_pos h1]
            have o2 : objAt ([p].map (·.1)) S1 (.obj r) = some (r, c, fs) := by
              unfold objAt
              simp only [hs]
              rw [if_pos (by simp [hc])]
            have f2 : [p].find? (fun p => p.1 == c) = some p := by rw [List.find?_cons, hc, beq_self_eq_true]
            rw [o1, o2]
            dsimp only
            rw [hf, f2]
          | none =>
            have h1 : c ∉ tbl.map (·.1) := fun hm => by
              obtain ⟨p, hp, hc⟩ := List.mem_map.mp hm
              have := List.find?_eq_none.mp hf p hp
              rw [hc, beq_self_eq_true] at this
              exact this rfl
            refine ⟨p0, hp0, ?_⟩
            have o1 : objAt (tbl.map (·.1)) S1 (.obj r) = none := by
              unfold objAt
              simp only [hs]
              rw [if_neg h1]
            have o2 : objAt ([p0].map (·.1)) S1 (.obj r) = none := by
              unfold objAt
              simp only [hs]
              rw [if_neg]
              intro hm
              rw [List.map_singleton, List.mem_singleton] at hm
              exact h1 (hm ▸ List.mem_map.mpr ⟨p0, hp0, rfl⟩)
            rw [o1, o2]
    | _ => exact ⟨p0, hp0, rfl⟩
section
variable {X : Cx} {Wx : WX}
theorem c_orN {ι : Type} {l : List ι} {e : Expr} {f : DE} {g : ι → DE} (h : ∀ p ∈ l, SV X Wx e (g p)) (i : ∀ σ S, ∃ p ∈ l, f σ S = g p σ S) : SV X Wx e f := ⟨fun pins s σV H Q I ⟨F, I', ρ, σ, S, rb, q⟩ => by
  obtain ⟨p, hp, e⟩ := i σ S
  exact (h p hp).run pins s σV H Q I ⟨F, I', ρ, σ, S, rb, e ▸ q⟩⟩
theorem cf_orN {ι : Type} {l : List ι} {e : Expr} {f : DE} {g : ι → DE} (h : ∀ p ∈ l, SF X Wx e (g p)) (i : ∀ σ S, ∃ p ∈ l, f σ S = g p σ S) : SF X Wx e f := ⟨fun pins s σV H Q I ⟨F, I', ρ, σ, S, rb, q⟩ => by
  obtain ⟨p, hp, e⟩ := i σ S
  exact (h p hp).run pins s σV H Q I ⟨F, I', ρ, σ, S, rb, e ▸ q⟩⟩
theorem sem_met {c m : String} {n : Nat} {d : Den} {fo : DE} {fa : DA} (hlen : ∀ σ S ws σ' S', fa σ S = .ok ws σ' S' → ws.length + 1 = n) {σV : L2.St} {H : Hp} {Q : VK} (h : semV X.K Wx (dMet m [(c, d)] fo fa) σV H Q) :
    tMet (ca X.K c) (Str.ofString m) (spD false X.K n d) (WE Wx) (semE X.K Wx fo) (semA X.K Wx fa) σV H Q := by
  obtain ⟨F, I, ρ, σ, S, rb, h⟩ := h
  refine ⟨F, I, ρ, σ, S, rb, post_bind h fun I1 ρ1 σ1 S1 H1 x v1 _ g1 rb1 t1 h1 => ?_⟩
  split at h1
  · rename_i r c' fs ep
    obtain ⟨rfl, hs, hm, a, dx, fsV, rfl, ha, hH, rf⟩ := objAt_ok rb1 t1 ep
    simp only [List.map_cons, List.map_nil, List.mem_singleton] at hm
    subst hm
    split at h1
    · exact h1.elim
    · rename_i hfg
      refine ⟨a, dx, fsV, rfl, hH, ?_, F, I1, ρ1, σ1, S1, rb1, post_bind h1 fun I2 ρ2 σ2 S2 H2 ws vs er g2 rb2 t2 h2 => ?_⟩
      · rcases rf.get m with ⟨v, w, _, q2, _⟩ | ⟨q1, _⟩
        · rw [hfg] at q2; cases q2
        · exact q1
      · rw [List.find?_cons, beq_self_eq_true] at h2
        exact post_call rb2 (.cons (.obj (g2.pre _ _ ha)) t2) (by rw [List.length_cons, t2.length]; exact hlen _ _ _ _ _ er) h2
  · exact h1.elim
theorem sem_metF {c m : String} {n : Nat} {d : Den} {fo : DE} {fa : DA} (hlen : ∀ σ S ws σ' S', fa σ S = .ok ws σ' S' → ws.length + 1 = n) {σV : L2.St} {H : Hp} {Q : VK} (h : semF X.K Wx (dMet m [(c, d)] fo fa) σV H Q) :
    tMet (ca X.K c) (Str.ofString m) (spD true X.K n d) (WE Wx) (semE X.K Wx fo) (semA X.K Wx fa) σV H Q := by
  obtain ⟨F, I, ρ, σ, S, rb, h⟩ := h
  refine ⟨F, I, ρ, σ, S, rb, postF_bind h fun I1 ρ1 σ1 S1 H1 x v1 _ g1 rb1 t1 h1 => ?_⟩
  split at h1
  · rename_i r c' fs ep
    obtain ⟨rfl, hs, hm, a, dx, fsV, rfl, ha, hH, rf⟩ := objAt_ok rb1 t1 ep
    simp only [List.map_cons, List.map_nil, List.mem_singleton] at hm
    subst hm
    split at h1
    · exact h1.elim
    · rename_i hfg
      refine ⟨a, dx, fsV, rfl, hH, ?_, F, I1, ρ1, σ1, S1, rb1, postF_bind h1 fun I2 ρ2 σ2 S2 H2 ws vs er g2 rb2 t2 h2 => ?_⟩
      · rcases rf.get m with ⟨v, w, _, q2, _⟩ | ⟨q1, _⟩
        · rw [hfg] at q2; cases q2
        · exact q1
      · rw [List.find?_cons, beq_self_eq_true] at h2
        exact post_callF rb2 (.cons (.obj (g2.pre _ _ ha)) t2) (by rw [List.length_cons, t2.length]; exact hlen _ _ _ _ _ er) h2
  · exact h1.elim
variable {k n : Nat} {m : String} {tbl : List (String × Den)} {pos apos : Pos} {o e : Expr} {es : List Expr} {fo : DE} {r : DA} {pl : Sem Bool}
/-- o.m(e, ..) -/
theorem c_met (M : ∀ p ∈ tbl, Mt false X.prog X.w X.K X.mg X.base p.1 m k n p.2) (h0 : tbl ≠ []) (tk : Takes X Wx) (hr : Room k X.A) (ho : SE X Wx o fo) (ha : SA X Wx (e :: es) r) (hlen : ∀ σ S ws σ' S', r σ S = .ok ws σ' S' → ws.length + 1 = n)
    (hst : starEach (e :: es) X.env = (false, eval e X.env) :: starEach es X.env) (hpl : (backTo pos (starEach es X.env)).any (·.1) = false)
    (ht : eval (.Call (.Attribute o (Str.ofString m) apos) (e :: es) [] pos) X.env = (eval o X.env >>= fun ov => standAt apos.atName >>= fun _ => holding [ov] (getMethod ov (Str.ofString m) pl) >>= fun q => callWith pos q.1 q.2 (backTo pos (starEach (e :: es) X.env)) (backToKw pos (keywordEach [] X.env)))) :
    SV X Wx (.Call (.Attribute o (Str.ofString m) apos) (e :: es) [] pos) (dMet m tbl fo r) := by
  refine c_orN (g := fun p => dMet m [p] fo r) (fun p hp => ?_) (dMet_one h0 fo r)
  obtain ⟨f, fd, ps, h1, h2, h3, h4, h5⟩ := (M p hp).ex
  exact PE.imp (pe_met (E := WE Wx) ho h1 h2 h5 hr h3 (fun σ => passAt tk σ) ha hst hpl ht) fun σV H Q h => sem_met hlen h
theorem c_met0 (M : ∀ p ∈ tbl, Mt false X.prog X.w X.K X.mg X.base p.1 m k n p.2) (h0 : tbl ≠ []) (tk : Takes X Wx) (hr : Room k X.A) (ho : SE X Wx o fo) (hn : 0 + 1 = n)
    (ht : eval (.Call (.Attribute o (Str.ofString m) apos) [] [] pos) X.env = (eval o X.env >>= fun ov => standAt apos.atName >>= fun _ => holding [ov] (getMethod ov (Str.ofString m) pl) >>= fun q => callWith pos q.1 q.2 (backTo pos (starEach [] X.env)) (backToKw pos (keywordEach [] X.env)))) :
    SV X Wx (.Call (.Attribute o (Str.ofString m) apos) [] [] pos) (dMet m tbl fo aNil) := by
  refine c_orN (g := fun p => dMet m [p] fo aNil) (fun p hp => ?_) (dMet_one h0 fo aNil)
  obtain ⟨f, fd, ps, h1, h2, h3, h4, h5⟩ := (M p hp).ex
  refine PE.imp (pe_met0 (E := WE Wx) ho h1 h2 h5 hr h3 (fun σ => passAt tk σ) ht) fun σV H Q h => ?_
  obtain ⟨F, I, ρ, σ, S, rb, q⟩ := sem_met (n := n) (fun σ S ws σ' S' h => by cases h; exact hn) h
  refine ⟨F, I, ρ, σ, S, rb, ?_⟩
  cases ef : fo σ S with
  | fail => rw [ef] at q; exact q
  | exc a _ _ => rw [ef] at q; exact q
  | ok x σ1 S1 =>
    rw [ef] at q
    intro I' ρ' H' v g rb' t
    obtain ⟨a, dx, fs, h1, h2, h3, F2, I2, ρ2, σ2, S2, rb2, h4⟩ := q I' ρ' H' v g rb' t
    exact ⟨a, dx, fs, h1, h2, h3, h4 I2 ρ2 _ [] Gr.refl rb2 .nil⟩
theorem cf_met (M : ∀ p ∈ tbl, Mt true X.prog X.w X.K X.mg X.base p.1 m k n p.2) (h0 : tbl ≠ []) (tk : Takes X Wx) (hr : Room k X.A) (ho : SE X Wx o fo) (ha : SA X Wx (e :: es) r) (hlen : ∀ σ S ws σ' S', r σ S = .ok ws σ' S' → ws.length + 1 = n)
    (hst : starEach (e :: es) X.env = (false, eval e X.env) :: starEach es X.env) (hpl : (backTo pos (starEach es X.env)).any (·.1) = false)
    (ht : eval (.Call (.Attribute o (Str.ofString m) apos) (e :: es) [] pos) X.env = (eval o X.env >>= fun ov => standAt apos.atName >>= fun _ => holding [ov] (getMethod ov (Str.ofString m) pl) >>= fun q => callWith pos q.1 q.2 (backTo pos (starEach (e :: es) X.env)) (backToKw pos (keywordEach [] X.env)))) :
    SF X Wx (.Call (.Attribute o (Str.ofString m) apos) (e :: es) [] pos) (dMet m tbl fo r) := by
  refine cf_orN (g := fun p => dMet m [p] fo r) (fun p hp => ?_) (dMet_one h0 fo r)
  obtain ⟨f, fd, ps, h1, h2, h3, h4, h5⟩ := (M p hp).ex
  exact PE.imp (pe_met (E := WE Wx) ho h1 h2 h5 hr h3 (fun σ => passAt tk σ) ha hst hpl ht) fun σV H Q h => sem_metF hlen h
theorem cf_met0 (M : ∀ p ∈ tbl, Mt true X.prog X.w X.K X.mg X.base p.1 m k n p.2) (h0 : tbl ≠ []) (tk : Takes X Wx) (hr : Room k X.A) (ho : SE X Wx o fo) (hn : 0 + 1 = n)
    (ht : eval (.Call (.Attribute o (Str.ofString m) apos) [] [] pos) X.env = (eval o X.env >>= fun ov => standAt apos.atName >>= fun _ => holding [ov] (getMethod ov (Str.ofString m) pl) >>= fun q => callWith pos q.1 q.2 (backTo pos (starEach [] X.env)) (backToKw pos (keywordEach [] X.env)))) :
    SF X Wx (.Call (.Attribute o (Str.ofString m) apos) [] [] pos) (dMet m tbl fo aNil) := by
  refine cf_orN (g := fun p => dMet m [p] fo aNil) (fun p hp => ?_) (dMet_one h0 fo aNil)
  obtain ⟨f, fd, ps, h1, h2, h3, h4, h5⟩ := (M p hp).ex
  refine PE.imp (pe_met0 (E := WE Wx) ho h1 h2 h5 hr h3 (fun σ => passAt tk σ) ht) fun σV H Q h => ?_
  obtain ⟨F, I, ρ, σ, S, rb, q⟩ := sem_metF (n := n) (fun σ S ws σ' S' h => by cases h; exact hn) h
  refine ⟨F, I, ρ, σ, S, rb, ?_⟩
  cases ef : fo σ S with
  | fail => rw [ef] at q; exact q
  | exc a _ _ => rw [ef] at q; exact q
  | ok x σ1 S1 =>
    rw [ef] at q
    intro I' ρ' H' v g rb' t
    obtain ⟨a, dx, fs, h1, h2, h3, F2, I2, ρ2, σ2, S2, rb2, h4⟩ := q I' ρ' H' v g rb' t
    exact ⟨a, dx, fs, h1, h2, h3, h4 I2 ρ2 _ [] Gr.refl rb2 .nil⟩
theorem mt_nil {fr : Bool} : ∀ p ∈ ([] : List (String × Den)), Mt fr X.prog X.w X.K X.mg X.base p.1 m k n p.2 := fun p hp => by cases hp
theorem mt_cons {fr : Bool} {c : String} {d : Den} {j : Nat} (M : Mt fr X.prog X.w X.K X.mg X.base c m j n d) (hj : j ≤ k) (R : ∀ p ∈ tbl, Mt fr X.prog X.w X.K X.mg X.base p.1 m k n p.2) : ∀ p ∈ (c, d) :: tbl, Mt fr X.prog X.w X.K X.mg X.base p.1 m k n p.2 := fun p hp => by
  rcases List.mem_cons.mp hp with rfl | hp
  · exact M.mono hj
  · exact R p hp
/-! ### making -/
theorem post_make {F I : Hp} {ρ : List Addr} {S : Sto} {H : Hp} {σV : L2.St} {σ : Sl} {vs : List V} {ws : List D} {c : String} {d : Den} {n : Nat} {Q : VK} (rb : RB X.K F I ρ S H σV σ) (r : Reps X.K ρ I vs ws) (hn : vs.length + 1 = n)
    (h : postR X.K Wx (fun ρ I _ v w => Rep X.K ρ I v w) F I ρ σV (match d (.obj S.length :: ws) (S ++ [.ins c []]) with
      | .ok .non S' => .ok (.obj S.length) σ S'
      | .ok _ _ => .fail
      | .exc e S' => .exc e σ S'
      | .fail => .fail) Q) (x dx : Addr) (hx : H x = none) (hdx : H dx = none) (ne : dx ≠ x) :
    spD false X.K n d (.ref x :: vs) (upd (upd H dx (.own x)) x (.ins (ca X.K c) dx [])) (fun v H2 => v = .non ∧ Q (.ref x) H2) (WE Wx σV) := by
  obtain ⟨rb2, _⟩ := rb.newO (o := .own x) hdx
  have hx2 : upd H dx (.own x) x = none := by rw [upd_ne ne.symm]; exact hx
  obtain ⟨rb3, nf, ni, nr, no⟩ := rb2.newO (o := .ins (ca X.K c) dx []) hx2
  obtain ⟨g4, rb4⟩ := rb3.alloc (ob := .ins c []) nf ni nr no ⟨dx, [], upd_same, rfl, .nil⟩
  have hlast := ρ_last (a := x) rb.rl
  refine post_call rb4 (.cons (.obj hlast) (r.gr g4)) (by rw [List.length_cons]; exact hn) ?_
  cases e : d (.obj S.length :: ws) (S ++ [.ins c []]) with
  | fail => rw [e] at h; exact h
  | exc a S' => rw [e] at h; exact fun I' ρ' H' dd g rb' he => h I' ρ' H' dd (g4.trans g) rb' he
  | ok w S' =>
    rw [e] at h
    cases w with
    | non =>
      intro I' ρ' H' v g rb' t
      cases t
      exact ⟨rfl, h I' ρ' H' _ (g4.trans g) rb' (.obj (g.pre _ _ hlast))⟩
    | _ => exact h.elim
variable {c : String} {d : Den} {p : Pos} {j : Nat}
theorem c_make (M : MkD X.prog X.w X.K X.mg X.base c k n d) (tk : Takes X Wx) (hr : Room j X.A) (hkj : k + 1 ≤ j) (ha : SA X Wx (e :: es) r) (hlen : ∀ σ S ws σ' S', r σ S = .ok ws σ' S' → ws.length + 1 = n) (hg : Gl X (Str.ofString c))
    (hdb : (Str.ofString c == ("__debug__" : Str)) = false) (he : starEach (e :: es) X.env = (false, eval e X.env) :: starEach es X.env) (hpl : (backTo pos (starEach es X.env)).any (·.1) = false) :
    SV X Wx (.Call (.Name (Str.ofString c) p) (e :: es) [] pos) (dMake c d r) := by
  obtain ⟨f, fd, ps, h1, h2, h3, h4, h5⟩ := M.ex
  refine PE.imp (pe_mk (E := WE Wx) h2 h5 (hr.mono hkj) hg h1 h3 (fun σ => passAt tk σ) ha hdb he hpl) fun σV H Q h => ?_
  obtain ⟨F, I, ρ, σ, S, rb, h⟩ := h
  refine ⟨F, I, ρ, σ, S, rb, post_bind h fun I1 ρ1 σ1 S1 H1 ws vs er g1 rb1 t1 h1 => ?_⟩
  exact fun x dx hx hdx ne => post_make rb1 t1 (by rw [t1.length]; exact hlen _ _ _ _ _ er) h1 x dx hx hdx ne
theorem c_make0 (M : MkD X.prog X.w X.K X.mg X.base c k n d) (tk : Takes X Wx) (hr : Room j X.A) (hkj : k + 1 ≤ j) (hn : 0 + 1 = n) (hg : Gl X (Str.ofString c)) (hdb : (Str.ofString c == ("__debug__" : Str)) = false) :
    SV X Wx (.Call (.Name (Str.ofString c) p) [] [] pos) (dMake c d aNil) := by
  obtain ⟨f, fd, ps, h1, h2, h3, h4, h5⟩ := M.ex
  refine PE.imp (pe_mk0 (E := WE Wx) h2 h5 (hr.mono hkj) hg h1 h3 (fun σ => passAt tk σ) hdb) fun σV H Q h => ?_
  obtain ⟨F, I, ρ, σ, S, rb, h⟩ := h
  exact fun x dx hx hdx ne => post_make (vs := []) (ws := []) rb .nil hn h x dx hx hdx ne
end
end MR

set_option Elab.async false
set_option linter.all false
set_option maxRecDepth 100000
/-! MR15: dict methods; a class's defs. -/
namespace MR
open PySem PySem.Spec PyProof.Rows L2

def isDct : D → Bool
  | .dK _ => true
  | _ => false
section
variable {X : Cx} {Wx : WX} {fr : Bool} {o e f : Expr} {apos cpos : Pos} {fo fe ff : DE} {k : Nat}
theorem isD_of {K : PySem.W.Frag} {ρ : List Addr} {I H : Hp} {v : V} {c : D} (h : At K ρ I H v c) (e : isDct c = true) : ∃ a, v = .ref a ∧ IsD H a := by
  cases c with
  | dK l => obtain ⟨a, kvs, rfl, hk, _⟩ := h; exact ⟨a, rfl, .inl ⟨kvs, hk⟩⟩
  | _ => cases e
/-- d.get(k), d.get(k, x) -/
def kGet : D → D → List D → Sl → Sto → Res D := fun _ c ws σ S => match c, ws with
  | .dK l, [y] => (match keyD y with
    | some k => .ok ((valD l k).getD .non) σ S
    | none => .fail)
  | .dK l, [y, z] => (match keyD y with
    | some k => .ok ((valD l k).getD z) σ S
    | none => .fail)
  | _, _ => .fail
theorem rep_key {K : PySem.W.Frag} {ρ : List Addr} {I : Hp} {v : V} {y : D} {k : Kk} (t : Rep K ρ I v y) (e : keyD y = some k) : v = kV k := by
  cases t with
  | int => cases e; rfl
  | str => cases e; rfl
  | _ => cases e
theorem c_dget1 (hr : Room k X.A) (ho : SE X Wx o fo) (he : SE X Wx e fe) (m : M1 X o "get" apos e cpos) : SE X Wx (.Call (.Attribute o "get" apos) [e] [] cpos) (dMeth isDct kGet fo (aCons fe aNil)) := by
  refine PE.imp (pe_dget1 (rooms hr) ho (c_v he) m) fun σV H Q h => ?_
  obtain ⟨F, I, ρ, σ, S, rb, h⟩ := h
  refine ⟨F, I, ρ, σ, S, rb, post_bind h fun I1 ρ1 σ1 S1 H1 x v1 _ g1 rb1 t1 h1 => ?_⟩
  split at h1
  · rename_i hi
    obtain ⟨c, hc, hic⟩ := Option.map_eq_some_iff.mp hi
    obtain ⟨a, rfl, hd⟩ := isD_of (rb1.at t1 hc) hic
    unfold aCons aNil at h1
    have h1' : postR X.K Wx (TRep X.K) F I1 ρ1 σV ((dV fe σ1 S1).bind fun y σ S => match deref σ S x with
      | some c => kGet x c [y] σ S
      | none => .fail) Q := by
      cases e : dV fe σ1 S1 with
      | ok y σ2 S2 => rw [e] at h1; exact h1
      | exc a _ _ => rw [e] at h1; exact h1
      | fail => rw [e] at h1; exact h1
    refine ⟨a, rfl, hd, F, I1, ρ1, σ1, S1, rb1, post_bind h1' fun I2 ρ2 σ2 S2 H2 y vy _ g2 rb2 t2 h2 => ?_⟩
    split at h2
    · rename_i c2 hc2
      unfold kGet at h2
      split at h2
      · rename_i l y0 heq
        cases heq
        split at h2
        · rename_i k hk
          obtain ⟨a', ea, q⟩ := dget_of (rb2.at (t1.gr g2) hc2) (Rep.at rb2.sub t2) hk
          cases ea
          rcases q with ⟨v, w, q1, q2, q3⟩ | ⟨q1, q2⟩
          · exact ⟨_, q1, by rw [q2] at h2; exact h2 I2 ρ2 H2 v Gr.refl rb2 (.inr q3)⟩
          · exact ⟨_, q1, by rw [q2] at h2; exact h2 I2 ρ2 H2 _ Gr.refl rb2 (.inr .non)⟩
        · exact h2.elim
      · rename_i heq; cases heq
      · exact h2.elim
    · exact h2.elim
  · exact h1.elim
theorem c_dget2 (hr : Room k X.A) (ho : SE X Wx o fo) (he : SE X Wx e fe) (hf : SE X Wx f ff) (m : M2 X o "get" apos e f cpos) : SE X Wx (.Call (.Attribute o "get" apos) [e, f] [] cpos) (dMeth isDct kGet fo (aCons fe (aCons ff aNil))) := by
  refine PE.imp (pe_dget2 (rooms hr) ho (c_v he) (c_v hf) m) fun σV H Q h => ?_
  obtain ⟨F, I, ρ, σ, S, rb, h⟩ := h
  refine ⟨F, I, ρ, σ, S, rb, post_bind h fun I1 ρ1 σ1 S1 H1 x v1 _ g1 rb1 t1 h1 => ?_⟩
  split at h1
  · rename_i hi
    obtain ⟨c, hc, hic⟩ := Option.map_eq_some_iff.mp hi
    obtain ⟨a, rfl, hd⟩ := isD_of (rb1.at t1 hc) hic
    unfold aCons at h1
    have h1' : postR X.K Wx (TRep X.K) F I1 ρ1 σV ((dV fe σ1 S1).bind fun y σ S => (dV ff σ S).bind fun z σ S => match deref σ S x with
      | some c => kGet x c [y, z] σ S
      | none => .fail) Q := by
      cases e : dV fe σ1 S1 with
      | exc a _ _ => rw [e] at h1; exact h1
      | fail => rw [e] at h1; exact h1
      | ok y σ2 S2 =>
        rw [e] at h1
        dsimp only [Res.bind] at h1 ⊢
        cases e2 : dV ff σ2 S2 with
        | exc a _ _ => rw [e2] at h1; exact h1
        | fail => rw [e2] at h1; exact h1
        | ok z σ3 S3 => rw [e2] at h1; exact h1
    refine ⟨a, rfl, hd, F, I1, ρ1, σ1, S1, rb1, post_bind h1' fun I2 ρ2 σ2 S2 H2 y vy _ g2 rb2 t2 h2 => ?_⟩
    refine ⟨F, I2, ρ2, σ2, S2, rb2, post_bind h2 fun I3 ρ3 σ3 S3 H3 z vz _ g3 rb3 t3 h3 => ?_⟩
    split at h3
    · rename_i c2 hc2
      unfold kGet at h3
      split at h3
      · rename_i heq; cases heq
      · rename_i l y0 z0 heq
        cases heq
        split at h3
        · rename_i k hk
          obtain ⟨a', ea, q⟩ := dget_of (rb3.at ((t1.gr g2).gr g3) hc2) (Rep.at rb3.sub (t2.gr g3)) hk
          cases ea
          rcases q with ⟨v, w, q1, q2, q3⟩ | ⟨q1, q2⟩
          · exact ⟨_, q1, by rw [q2] at h3; exact h3 I3 ρ3 H3 v Gr.refl rb3 (.inr q3)⟩
          · exact ⟨_, q1, by rw [q2] at h3; exact h3 I3 ρ3 H3 _ Gr.refl rb3 (.inr t3)⟩
        · exact h3.elim
      · exact h3.elim
    · exact h3.elim
  · exact h1.elim
/-- d.pop(k) -/
def kPop : D → D → List D → Sl → Sto → Res D := fun x c ws σ S => match c, ws with
  | .dK l, [y] => (match keyD y with
    | some k => (match valD l k with
      | some w => ofMut w (chg σ S x (.dK (dropD l k)))
      | none => .fail)
    | none => .fail)
  | _, _ => .fail
theorem c_dpop1 (ho : SE X Wx o fo) (he : SE X Wx e fe) (m : M1 X o "pop" apos e cpos) : SE X Wx (.Call (.Attribute o "pop" apos) [e] [] cpos) (dMeth isDct kPop fo (aCons fe aNil)) := by
  refine PE.imp (pe_dpop1 ho (c_v he) m) fun σV H Q h => ?_
  obtain ⟨F, I, ρ, σ, S, rb, h⟩ := h
  refine ⟨F, I, ρ, σ, S, rb, post_bind h fun I1 ρ1 σ1 S1 H1 x v1 _ g1 rb1 t1 h1 => ?_⟩
  split at h1
  · rename_i hi
    obtain ⟨c, hc, hic⟩ := Option.map_eq_some_iff.mp hi
    obtain ⟨a, rfl, hd⟩ := isD_of (rb1.at t1 hc) hic
    unfold aCons aNil at h1
    have h1' : postR X.K Wx (TRep X.K) F I1 ρ1 σV ((dV fe σ1 S1).bind fun y σ S => match deref σ S x with
      | some c => kPop x c [y] σ S
      | none => .fail) Q := by
      cases e : dV fe σ1 S1 with
      | ok y σ2 S2 => rw [e] at h1; exact h1
      | exc a _ _ => rw [e] at h1; exact h1
      | fail => rw [e] at h1; exact h1
    refine ⟨a, rfl, hd, F, I1, ρ1, σ1, S1, rb1, post_bind h1' fun I2 ρ2 σ2 S2 H2 y vy _ g2 rb2 t2 h2 => ?_⟩
    split at h2
    · rename_i c2 hc2
      unfold kPop at h2
      split at h2
      · rename_i l y0 heq
        cases heq
        split at h2
        · rename_i k hk
          split at h2
          · rename_i w hw
            cases rep_key t2 hk
            cases em : chg σ2 S2 x (.dK (dropD l k)) with
            | none => rw [em] at h2; exact h2.elim
            | some q =>
              obtain ⟨σ', S'⟩ := q
              rw [em] at h2
              obtain ⟨a', ea, hown, kk⟩ := rb2.chg (t1.gr g2) hc2 em
              cases ea
              obtain ⟨kvs, hkv, rk⟩ := own_dK hown
              rcases rk.val k with ⟨v, w', e1, e2, r⟩ | ⟨_, e2⟩
              · rw [hw] at e2
                cases e2
                exact ⟨kvs, k, v, hkv, rfl, e1, h2 I2 ρ2 _ v Gr.refl (kk _ (dK_own upd_same (rk.drop k))) (.inr r)⟩
              · rw [hw] at e2
                cases e2
          · exact h2.elim
        · exact h2.elim
      · exact h2.elim
    · exact h2.elim
  · exact h1.elim
/-- del d[k] -/
def sDDelD (fd fy : DE) : DS := fun σ S => (fd σ S).bind fun x σ S => (fy σ S).bind fun y σ S => match deref σ S x, keyD y with
  | some (.dK l), some k => (match valD l k with
    | some _ => ofMutS (chg σ S x (.dK (dropD l k)))
    | none => .fail)
  | _, _ => .fail
theorem cs_ddel {i : Expr} {tpos pos : Pos} {fd fy : DE} (ho : SE X Wx o fd) (hi : SE X Wx i fy) : SS fr X Wx (.Delete [.Subscript o i tpos] pos) (sDDelD fd fy) := by
  refine PS.imp (ps_ddel ho hi) fun D σV H h => ?_
  obtain ⟨F, I, ρ, σ, S, rb, h⟩ := h
  refine ⟨F, I, ρ, σ, S, rb, postS_bind h fun I1 ρ1 σ1 S1 H1 x v1 _ g1 rb1 t1 h1 => ?_⟩
  refine ⟨F, I1, ρ1, σ1, S1, rb1, postS_bind h1 fun I2 ρ2 σ2 S2 H2 y vy _ g2 rb2 t2 h2 => ?_⟩
  split at h2
  · rename_i l k e1 e2
    split at h2
    · rename_i w hw
      cases em : chg σ2 S2 x (.dK (dropD l k)) with
      | none => rw [em] at h2; exact h2.elim
      | some q =>
        obtain ⟨σ', S'⟩ := q
        rw [em] at h2
        obtain ⟨a, rfl, hown, kk⟩ := rb2.chg (t1.gr g2) e1 em
        obtain ⟨kvs, hkv, rk⟩ := own_dK hown
        cases t2.key e2
        rcases rk.val k with ⟨v, w', f1, f2, r⟩ | ⟨_, f2⟩
        · exact ⟨a, kvs, k, rfl, hkv, rfl, by rw [f1]; rfl, h2 I2 ρ2 _ _ Gr.refl (kk _ (dK_own upd_same (rk.drop k)))⟩
        · rw [hw] at f2
          cases f2
    · exact h2.elim
  · exact h2.elim
end
theorem la_met {r : DA} {n : Nat} (k : ∀ (σ : Sl) (S : Sto) (ws : List D) (σ' : Sl) (S' : Sto), r σ S = .ok ws σ' S' → ws.length = n) : ∀ (σ : Sl) (S : Sto) (ws : List D) (σ' : Sl) (S' : Sto), r σ S = .ok ws σ' S' → ws.length + 1 = n + 1 := fun σ S ws σ' S' h => by rw [k σ S ws σ' S' h]
theorem clsF_nil {K : PySem.W.Frag} {f : String} : ClsF K [] f := fun c hc => by cases hc
theorem clsF_cons {K : PySem.W.Frag} {f c : String} {cs : List String} (h1 : Cls K (ca K c)) (h2 : NoAttr K (ca K c) (Str.ofString f)) (r : ClsF K cs f) : ClsF K (c :: cs) f := fun x hx => by
  rcases List.mem_cons.mp hx with rfl | hx
  · exact ⟨h1, h2⟩
  · exact r x hx
/-! ### a class's defs -/
section
variable {P : Program} {w : World} {K : PySem.W.Frag} {mg : Str → Option Value} {base : Heap} {x qual : Str} {params : Arguments} {body : List Stmt} {scope : Scope} {f : Addr} {fd : FuncData} {N ps : List Str} {k n j : Nat} {d : DS}
theorem mt_mk {fr : Bool} {c m : String} (FD : FunD K x qual params body scope [] [] f fd) (hc : Cls K (ca K c)) (hm : Meth K (ca K c) (Str.ofString m) f) (S : FnScope N ps scope) (hn : N.length = n) (hp : ps.length = j)
    (hbind : ∀ (kV doc pm : Value) (an : Option Addr) (cdv ct : Value) (us : List Value), us.length = ps.length → bindArgs (PySem.W.fnOf x qual params body scope .none kV doc pm an cdv ct) ⟨us, []⟩ = pure (ps.zip us))
    (hb : ∀ (cdv : Value) (A : Around) (outer : List Env) (s : Shared) (H : Hp) (E : XK), Room k (A.deeper (envOfC qual scope s.heap.objs.size f cdv)) →
      SSs fr (cxOf (L2.CX P w) P w K mg base N qual scope f cdv A outer s H E) (fun cls d _ H => E cls d H) body d) : Mt fr P w K mg base c m (k + 1) j (dDef n d) := by
  subst hp
  exact ⟨f, fd, ps, hc, hm, FD.bindsN hbind, rfl, def_ok FD S hn hb⟩
theorem mk_mk {c : String} (FD : FunD K x qual params body scope [] [] f fd) (hg : mg (Str.ofString c) = some (.ref (ca K c))) (hM : Mk K (ca K c) f) (S : FnScope N ps scope) (hn : N.length = n) (hp : ps.length = j)
    (hbind : ∀ (kV doc pm : Value) (an : Option Addr) (cdv ct : Value) (us : List Value), us.length = ps.length → bindArgs (PySem.W.fnOf x qual params body scope .none kV doc pm an cdv ct) ⟨us, []⟩ = pure (ps.zip us))
    (hb : ∀ (cdv : Value) (A : Around) (outer : List Env) (s : Shared) (H : Hp) (E : XK), Room k (A.deeper (envOfC qual scope s.heap.objs.size f cdv)) →
      SSs false (cxOf (L2.CX P w) P w K mg base N qual scope f cdv A outer s H E) (fun cls d _ H => E cls d H) body d) : MkD P w K mg base c (k + 1) j (dDef n d) := by
  subst hp
  exact ⟨f, fd, ps, hg, hM, FD.bindsN hbind, rfl, def_ok FD S hn hb⟩
end
end MR

set_option Elab.async false
set_option linter.all false
set_option maxRecDepth 100000
/-! The denotations of the defs (printed by gen.py). -/
namespace MR
open PySem
def b_Kin___init__ : DS := (sSeq (sFldD ["Kin"] "heirs" (dVar 0) (dAlloc (dC (.dK [])))) (sFldD ["Kin"] "gone" (dVar 0) (dAlloc (dC (.dK [])))))
def m_Kin___init__ : Den := dDef 1 b_Kin___init__
def b_Kin_name_heir : DS := (sDPutD (dFld ["Kin"] "heirs" (dVar 0)) (dVar 1) (dVar 2))
def m_Kin_name_heir : Den := dDef 3 b_Kin_name_heir
def b_Kin_die : DS := (sDPutD (dFld ["Kin"] "gone" (dVar 0)) (dVar 1) (dC (.bl true)))
def m_Kin_die : Den := dDef 2 b_Kin_die
def b_Kin_is_dead : DS := (sRet (d2 opInG (dVar 1) (dFld ["Kin"] "gone" (dVar 0))))
def m_Kin_is_dead : Den := dDef 2 b_Kin_is_dead
def wc_Kin_taker_1 : DT := (tVal (dNotN (dV (dVar 3))))
def wb_Kin_taker_2 : DS := (sSeq (sIf (tVal (d2 opInG (dVar 3) (dVar 2))) (sRet (dC .non)) sNil) (sSeq (sIf (tVal (d2 opNotInG (dVar 3) (dFld ["Kin"] "gone" (dVar 0)))) (sRet (dVar 3)) sNil) (sSeq (sDPutD (dVar 2) (dVar 3) (dC (.bl true))) (sSet 3 (dMeth isDct kGet (dFld ["Kin"] "heirs" (dVar 0)) (aCons (dVar 3) aNil))))))
def b_Kin_taker : DS := (sSeq (sSetO 2 (dDisp (pCons (dVar 1) (dC (.bl true)) pNil))) (sSeq (sSet 3 (dMeth isDct kGet (dFld ["Kin"] "heirs" (dVar 0)) (aCons (dVar 1) aNil))) (sSeq (sWhile wc_Kin_taker_1 wb_Kin_taker_2 fuel) (sRet (dC .non)))))
def m_Kin_taker : Den := dDef 4 b_Kin_taker
def le__law_names_1 : DE := (d2 opIx (dVar 2) (d2 opMod (d2 opAdd (d2 opIx (dVar 0) (dC (.int 0))) (d2 opMul' (d2 opAdd (dVar 6) (dC (.int 1))) (d2 opDiv (d2 opIx (dVar 0) (dC (.int 1))) (dC (.int 8))))) (dC (.int 26))))
def fb__law_names_2 : DS := (sSeq (sSet 7 (d2 opIx (dVar 2) (d2 opMod (d2 opAdd (d2 opIx (dVar 0) (dC (.int 3))) (d2 opMul' (dC (.int 7)) (dVar 6))) (dC (.int 26))))) (sSeq (sSet 8 (d2 opAdd (d2 opAdd (dSl (dVar 3) oNone (oSome (dVar 4))) (dVar 7)) (dSl (dVar 3) (oSome (dVar 4)) oNone))) (sSeq (sIf (tVal (d2 opEq' (d2 opMod (d2 opDiv (d2 opIx (dVar 0) (dC (.int 2))) (dC (.int 8))) (dC (.int 2))) (dC (.int 1)))) (sSet 8 (d2 opMul' (dVar 7) (d2 opAdd (dC (.int 1)) (d2 opMod (d2 opAdd (d2 opIx (dVar 0) (dC (.int 0))) (d2 opMul' (dC (.int 3)) (dVar 6))) (dC (.int 8)))))) sNil) (sExpr (dMeth isLst kApp (dVar 5) (aCons (dVar 8) aNil))))))
def b__law_names : DS := (sSeq (sSet 2 (dC (.str "abcdefghijklmnopqrstuvwxyz"))) (sSeq (sSet 3 (dS1 opJoin (dC (.str "")) (dLc (iRan1 (d2 opMod (d2 opIx (dVar 0) (dC (.int 1))) (dC (.int 8)))) (gN 6) tTrue le__law_names_1 [6]))) (sSeq (sSet 4 (d2 opMod (d2 opIx (dVar 0) (dC (.int 2))) (d2 opAdd (d1 opLen (dVar 3)) (dC (.int 1))))) (sSeq (sSetO 5 (dLst aNil)) (sSeq (sFor (iRan1 (dVar 1)) (gN 6) fb__law_names_2) (sRetO 5))))))
def m__law_names : Den := dDef 9 b__law_names
def b__law_book : DS := (sRetF (dDisp (pCons (dC (.str "lords")) (dAlloc (dDisp (pCons (dC (.str "")) (dC .non) pNil))) (pCons (dC (.str "holders")) (dAlloc (dDisp (pCons (dC (.str "")) (dC (.str "")) pNil))) (pCons (dC (.str "own")) (dAlloc (dDisp (pCons (dC (.str "")) (dVar 0) pNil))) (pCons (dC (.str "due")) (dAlloc (dDisp (pCons (dC (.str "")) (dTup (aCons (dC (.int 0)) (aCons (dC (.int 1)) aNil))) pNil))) (pCons (dC (.str "known")) (dLst aNil) (pCons (dC (.str "heirs")) (dAlloc (dC (.dK []))) (pCons (dC (.str "dead")) (dLst aNil) (pCons (dC (.str "lieges")) (dAlloc (dC (.dK []))) pNil))))))))))
def m__law_book : Den := dDef 1 b__law_book
def wc__law_taker_1 : DT := (tVal (d2 opInG (d2 opIx (dVar 2) (dNeg (dC (.int 1)))) (d2 opGet (dVar 0) (dC (.str "heirs")))))
def wb__law_taker_2 : DS := (sSeq (sSet 3 (d2 opGet (d2 opGet (dVar 0) (dC (.str "heirs"))) (d2 opIx (dVar 2) (dNeg (dC (.int 1)))))) (sSeq (sIf (tVal (d2 opInG (dVar 3) (dVar 2))) (sRet (dC .non)) sNil) (sSeq (sIf (tVal (d2 opNotInG (dVar 3) (d2 opGet (dVar 0) (dC (.str "dead"))))) (sRet (dVar 3)) sNil) (sExpr (dMeth isLst kApp (dVar 2) (aCons (dVar 3) aNil))))))
def b__law_taker : DS := (sSeq (sSetO 2 (dLst (aCons (dVar 1) aNil))) (sSeq (sWhile wc__law_taker_1 wb__law_taker_2 fuel) (sRet (dC .non))))
def m__law_taker : Den := dDef 4 b__law_taker
end MR

set_option Elab.async false
set_option linter.all false
set_option maxRecDepth 100000
/-! The denotations of the defs (printed by gen.py). -/
namespace MR
open PySem
def fb__law_long_line_1 : DS := (sIf (tOr (tVal (d2 opLt (d2 opAdd (dVar 4) (dC (.int 1))) (d1 opLen (dVar 0)))) (tVal (d2 opEq' (d2 opMod (dVar 1) (dC (.int 2))) (dC (.int 1))))) (sExpr (dMet "name_heir" [("Kin", m_Kin_name_heir)] (dVar 3) (aCons (d2 opGet (dVar 0) (dVar 4)) (aCons (d2 opIx (dVar 0) (d2 opMod (d2 opAdd (dVar 4) (dC (.int 1))) (d1 opLen (dVar 0)))) aNil)))) sNil)
def fb__law_long_line_2 : DS := (sIf (tVal (d2 opNe' (dVar 4) (dVar 2))) (sExpr (dMet "die" [("Kin", m_Kin_die)] (dVar 3) (aCons (d2 opGet (dVar 0) (dVar 4)) aNil))) sNil)
def fb__law_long_line_3 : DS := (sSeq (sSet 5 (d2 opGet (dVar 0) (dVar 2))) (sSeq (sIf (tOr (tVal (d2 opEq' (dVar 4) (dVar 2))) (tAnd (tVal (d2 opGt (dVar 4) (dVar 2))) (tVal (d2 opEq' (d2 opMod (dVar 1) (dC (.int 2))) (dC (.int 0)))))) (sSet 5 (dC .non)) sNil) (sIf (tNot (tVal (dCall m__law_same (aCons (dMet "taker" [("Kin", m_Kin_taker)] (dVar 3) (aCons (d2 opGet (dVar 0) (dVar 4)) aNil)) (aCons (dVar 5) aNil))))) (sRet (dC (.bl false))) sNil)))
def le__law_long_line_4 : DE := (dIsN (dV (dMet "taker" [("Kin", m_Kin_taker)] (dVar 3) (aCons (dVar 6) aNil))))
def b__law_long_line : DS := (sSeq (sSet 3 (dMake "Kin" m_Kin___init__ aNil)) (sSeq (sFor (iRan1 (d1 opLen (dVar 0))) (gN 4) fb__law_long_line_1) (sSeq (sFor (iRan1 (d1 opLen (dVar 0))) (gN 4) fb__law_long_line_2) (sSeq (sFor (iRan1 (d1 opLen (dVar 0))) (gN 4) fb__law_long_line_3) (sSeq (sExpr (dMet "die" [("Kin", m_Kin_die)] (dVar 3) (aCons (d2 opGet (dVar 0) (dVar 2)) aNil))) (sRet (d1 opAll (dLc (iLst (dVar 0)) (gN 6) tTrue le__law_long_line_4 [6]))))))))
def m__law_long_line : Den := dDef 7 b__law_long_line
def lt_law_1 : DT := (tVal (d2 opNe' (dVar 13) (dVar 8)))
def le_law_2 : DE := (dVar 13)
def fb_law_3 : DS := (sSeq (sIf (tNot (tVal (dCall m__law_same (aCons (dMet "is_dead" [("Kin", m_Kin_is_dead)] (dVar 11) (aCons (dVar 13) aNil)) (aCons (d2 opInG (dVar 13) (d2 opGet (dVar 12) (dC (.str "dead")))) aNil))))) (sRet (dC (.bl false))) sNil) (sIf (tNot (tVal (dCall m__law_same (aCons (dMet "taker" [("Kin", m_Kin_taker)] (dVar 11) (aCons (dVar 13) aNil)) (aCons (dCall m__law_taker (aCons (dVar 12) (aCons (dVar 13) aNil))) aNil))))) (sRet (dC (.bl false))) sNil))
def fb_law_4 : DS := (sFor (iLst (d2 opAdd (dVar 2) (dLst (aCons (dC (.str "")) aNil)))) (gN 13) fb_law_3)
def fb_law_5 : DS := (sSeq (sSet 6 (dSl (dVar 1) (oSome (d2 opAdd (dC (.int 10)) (d2 opMul' (dC (.int 3)) (dVar 5)))) (oSome (d2 opAdd (dC (.int 13)) (d2 opMul' (dC (.int 3)) (dVar 5)))))) (sSeq (sSet 7 (d2 opMod (d2 opDiv (d2 opIx (dVar 6) (dC (.int 0))) (dC (.int 5))) (dC (.int 2)))) (sSeq (sSet 8 (d2 opIx (dVar 2) (d2 opMod (d2 opIx (dVar 6) (dC (.int 1))) (dC (.int 6))))) (sSeq (sIf (tVal (d2 opGt (d2 opMod (d2 opIx (dVar 6) (dC (.int 0))) (dC (.int 5))) (dC (.int 1)))) (sSeq (sSet 9 (d2 opIx (dLc (iLst (dVar 2)) (gN 13) lt_law_1 le_law_2 [13]) (d2 opMod (d2 opIx (dVar 6) (dC (.int 2))) (dC (.int 5))))) (sSeq (sDPutD (d2 opGet (d2 opGet (dVar 4) (dVar 7)) (dC (.str "heirs"))) (dVar 8) (dVar 9)) (sSet 10 (dMet "name_heir" [("Kin", m_Kin_name_heir)] (d2 opGet (dVar 3) (dVar 7)) (aCons (dVar 8) (aCons (dVar 9) aNil)))))) (sSeq (sDPutD (d2 opGet (dVar 4) (dVar 7)) (dC (.str "dead")) (d2 opAdd (d2 opGet (d2 opGet (dVar 4) (dVar 7)) (dC (.str "dead"))) (dLst (aCons (dVar 8) aNil)))) (sSet 10 (dMet "die" [("Kin", m_Kin_die)] (d2 opGet (dVar 3) (dVar 7)) (aCons (dVar 8) aNil))))) (sSeq (sIf (tVal (dNotN (dV (dVar 10)))) (sRet (dC (.bl false))) sNil) (sFor (iZip (dVar 3) (dVar 4)) (gT 2 (gsCons (gN 11) (gsCons (gN 12) gsNil))) fb_law_4))))))
def b_law : DS := (sSeq (sSet 1 (dCall m__law_feed (aCons (dVar 0) (aCons (dC (.int 80)) aNil)))) (sSeq (sSet 2 (dCall m__law_names (aCons (dSl (dVar 1) (oSome (dC (.int 4))) (oSome (dC (.int 8)))) (aCons (dC (.int 6)) aNil)))) (sSeq (sSet 3 (dLst (aCons (dMake "Kin" m_Kin___init__ aNil) (aCons (dMake "Kin" m_Kin___init__ aNil) aNil)))) (sSeq (sSet 4 (dLst (aCons (dAlloc (dCall m__law_book (aCons (dC (.int 1)) aNil))) (aCons (dAlloc (dCall m__law_book (aCons (dC (.int 1)) aNil))) aNil)))) (sSeq (sFor (iRan1 (d2 opMod (d2 opIx (dVar 1) (dC (.int 0))) (dC (.int 21)))) (gN 5) fb_law_5) (sSeq (sSet 14 (dCall m__law_names (aCons (dSl (dVar 1) (oSome (dC (.int 73))) oNone) (aCons (dC (.int 24)) aNil)))) (sRet (dCall m__law_long_line (aCons (dVar 14) (aCons (d2 opIx (dVar 1) (dC (.int 77))) (aCons (d2 opMod (d2 opIx (dVar 1) (dC (.int 78))) (dC (.int 24))) aNil)))))))))))
def m_law : Den := dDef 15 b_law
end MR

set_option Elab.async false
set_option linter.all false
set_option maxRecDepth 100000
/-! PL: rules for running denotations by simp. -/
namespace MR
open PySem

section
variable {σ : Sl} {S : Sto} {i j : Int} {x y : Str} {a b w : D}
@[simp] theorem dVar_val {n : Nat} (h : σ[n]? = some (.val w)) : dVar n σ S = .ok w σ S := by unfold dVar; rw [h]
@[simp] theorem dVar_own {n : Nat} (h : σ[n]? = some (.own w)) : dVar n σ S = .ok (.loc n) σ S := by unfold dVar; rw [h]
@[simp] theorem dC_ok : dC w σ S = .ok w σ S := rfl
@[simp] theorem deref_non : deref σ S .non = some .non := rfl
@[simp] theorem deref_bl {b : Bool} : deref σ S (.bl b) = some (.bl b) := rfl
@[simp] theorem deref_int : deref σ S (.int i) = some (.int i) := rfl
@[simp] theorem deref_str : deref σ S (.str x) = some (.str x) := rfl
@[simp] theorem deref_tup {l : List D} : deref σ S (.tup l) = some (.tup l) := rfl
@[simp] theorem deref_lst {l : List D} : deref σ S (.lst l) = some (.lst l) := rfl
@[simp] theorem deref_dK {l : List (Kk × D)} : deref σ S (.dK l) = some (.dK l) := rfl
@[simp] theorem deref_dT {l : List (List Kk × D)} : deref σ S (.dT l) = some (.dT l) := rfl
@[simp] theorem deref_scr {l : List Int} : deref σ S (.scr l) = some (.scr l) := rfl
@[simp] theorem deref_loc {n : Nat} (h : σ[n]? = some (.own w)) : deref σ S (.loc n) = some w := by unfold deref; simp only; rw [h]
@[simp] theorem frz_non : frz .non σ S = .ok .non σ S := rfl
@[simp] theorem frz_bl {b : Bool} : frz (.bl b) σ S = .ok (.bl b) σ S := rfl
@[simp] theorem frz_int : frz (.int i) σ S = .ok (.int i) σ S := rfl
@[simp] theorem frz_str : frz (.str x) σ S = .ok (.str x) σ S := rfl
@[simp] theorem frz_tup {l : List D} : frz (.tup l) σ S = .ok (.tup l) σ S := rfl
@[simp] theorem frz_lst {l : List D} : frz (.lst l) σ S = .ok (.lst l) σ S := rfl
@[simp] theorem frz_dK {l : List (Kk × D)} : frz (.dK l) σ S = .ok (.dK l) σ S := rfl
@[simp] theorem frz_dT {l : List (List Kk × D)} : frz (.dT l) σ S = .ok (.dT l) σ S := rfl
@[simp] theorem frz_scr {l : List Int} : frz (.scr l) σ S = .ok (.scr l) σ S := rfl
@[simp] theorem frz_obj {r : Nat} : frz (.obj r) σ S = .ok (.obj r) σ S := rfl
@[simp] theorem frz_loc {n : Nat} (h : σ[n]? = some (.own w)) : frz (.loc n) σ S = .ok w (σ.set n (.val w)) S := by unfold frz; simp only; rw [h]
@[simp] theorem ofOpt_some {α : Type} {c : α} : ofOpt (some c) σ S = .ok c σ S := rfl
@[simp] theorem opAdd_int : opAdd (.int i) (.int j) = some (.int (i + j)) := rfl
@[simp] theorem opAdd_str (h : x.length + y.length ≤ most) : opAdd (.str x) (.str y) = some (.str (x ++ y)) := if_pos h
@[simp] theorem opAdd_lst {l m : List D} (h : l.length + m.length ≤ most) : opAdd (.lst l) (.lst m) = some (.lst (l ++ m)) := if_pos h
@[simp] theorem opSub_int : opSub (.int i) (.int j) = some (.int (i - j)) := rfl
@[simp] theorem opMul_int (h : mulOk i j) : opMul' (.int i) (.int j) = some (.int (i * j)) := if_pos h
@[simp] theorem opMod_int (h : 0 < j) : opMod (.int i) (.int j) = some (.int (i % j)) := if_pos h
@[simp] theorem opDiv_int (h : divOk j) : opDiv (.int i) (.int j) = some (.int (i.fdiv j)) := if_pos h
@[simp] theorem opLt_int : opLt (.int i) (.int j) = some (.bl (decide (i < j))) := rfl
@[simp] theorem opLe_int : opLe (.int i) (.int j) = some (.bl (decide (i ≤ j))) := rfl
@[simp] theorem opGt_int : opGt (.int i) (.int j) = some (.bl (decide (j < i))) := rfl
@[simp] theorem opGe_int : opGe (.int i) (.int j) = some (.bl (decide (j ≤ i))) := rfl
@[simp] theorem opEq_int : opEq' (.int i) (.int j) = some (.bl (decide (i = j))) := rfl
@[simp] theorem opEq_str : opEq' (.str x) (.str y) = some (.bl (decide (x = y))) := rfl
@[simp] theorem opEq_bl {b c : Bool} : opEq' (.bl b) (.bl c) = some (.bl (decide (b = c))) := rfl
@[simp] theorem opEq_non_str : opEq' .non (.str y) = some (.bl false) := rfl
@[simp] theorem opEq_str_non : opEq' (.str y) .non = some (.bl false) := rfl
@[simp] theorem opEq_non : opEq' .non .non = some (.bl true) := rfl
@[simp] theorem opNe_int : opNe' (.int i) (.int j) = some (.bl (!decide (i = j))) := rfl
@[simp] theorem opNe_str : opNe' (.str x) (.str y) = some (.bl (!decide (x = y))) := rfl
@[simp] theorem opAbs_int : opAbs (.int i) = some (.int (i.natAbs : Int)) := by
  have e : (if i < 0 then -i else i) = (i.natAbs : Int) := by split <;> omega
  show some (D.int (if i < 0 then -i else i)) = _
  rw [e]
@[simp] theorem opLen_lst {l : List D} : opLen (.lst l) = some (.int l.length) := rfl
@[simp] theorem opLen_tup {l : List D} : opLen (.tup l) = some (.int l.length) := rfl
@[simp] theorem opLen_str (h : x.length ≤ most) : opLen (.str x) = some (.int x.length) := if_pos h
@[simp] theorem opMin_int : opMin (.int i) (.int j) = some (.int (if j < i then j else i)) := rfl
@[simp] theorem opMax_int : opMax (.int i) (.int j) = some (.int (if j > i then j else i)) := rfl
@[simp] theorem opIx_lst {l : List D} : opIx (.lst l) (.int i) = L2.atI l i := rfl
@[simp] theorem opIx_tup {l : List D} : opIx (.tup l) (.int i) = L2.atI l i := rfl
@[simp] theorem d1_def {op : D → Option D} {f : DE} : d1 op f σ S = (f σ S).bind fun x σ S => ofOpt ((deref σ S x).bind op) σ S := rfl
@[simp] theorem d2_def {op : D → D → Option D} {f g : DE} : d2 op f g σ S = (f σ S).bind fun x σ S => (g σ S).bind fun y σ S => ofOpt ((deref σ S x).bind fun a => (deref σ S y).bind fun b => op a b) σ S := rfl
@[simp] theorem dV_def {f : DE} : dV f σ S = (f σ S).bind frz := rfl
@[simp] theorem tVal_def {f : DE} : tVal f σ S = (f σ S).bind fun x σ S => match x with
  | .bl b => .ok b σ S
  | _ => .fail := rfl
@[simp] theorem tAnd_def {f g : DT} : tAnd f g σ S = (f σ S).bind fun b σ S => if b = true then g σ S else .ok false σ S := rfl
@[simp] theorem tOr_def {f g : DT} : tOr f g σ S = (f σ S).bind fun b σ S => if b = true then .ok true σ S else g σ S := rfl
@[simp] theorem tNot_def {f : DT} : tNot f σ S = (f σ S).bind fun b σ S => .ok (!b) σ S := rfl
@[simp] theorem vAnd_def {f g : DE} : vAnd f g σ S = (tVal f σ S).bind fun b σ S => (if b = true then g else dC (.bl false)) σ S := rfl
@[simp] theorem vOr_def {f g : DE} : vOr f g σ S = (tVal f σ S).bind fun b σ S => (if b = true then dC (.bl true) else g) σ S := rfl
@[simp] theorem vNot_def {f : DE} : vNot f σ S = (tVal f σ S).bind fun b σ S => (dC (.bl (!b))) σ S := rfl
@[simp] theorem aNil_def : aNil σ S = .ok [] σ S := rfl
@[simp] theorem aCons_def {f : DE} {r : DA} : aCons f r σ S = (dV f σ S).bind fun x σ S => (r σ S).bind fun xs σ S => .ok (x :: xs) σ S := rfl
@[simp] theorem dTup_def {r : DA} : dTup r σ S = (r σ S).bind fun xs σ S => if xs.length ≤ most then .ok (.tup xs) σ S else .fail := rfl
@[simp] theorem dLst_def {r : DA} : dLst r σ S = (r σ S).bind fun xs σ S => if xs.length ≤ most then .ok (.lst xs) σ S else .fail := rfl
@[simp] theorem dCall_def {d : Den} {r : DA} : dCall d r σ S = (r σ S).bind fun xs σ S => match d xs S with
  | .ok w S' => .ok w σ S'
  | .exc e S' => .exc e σ S'
  | .fail => .fail := rfl
@[simp] theorem sNil_def : sNil σ S = .ok .next σ S := rfl
@[simp] theorem sSeq_def {f g : DS} : sSeq f g σ S = (f σ S).bind fun x σ S => match x with
  | .next => g σ S
  | x => .ok x σ S := rfl
@[simp] theorem sSet_def {n : Nat} {f : DE} : sSet n f σ S = (dV f σ S).bind fun w σ S => .ok .next (σ.set n (.val w)) S := rfl
@[simp] theorem sSetO_def {n : Nat} {f : DE} : sSetO n f σ S = (f σ S).bind fun w σ S => .ok .next (σ.set n (if scalar w then .val w else .own w)) S := rfl
@[simp] theorem sRet_def {f : DE} : sRet f σ S = (dV f σ S).bind fun w σ S => .ok (.ret w) σ S := rfl
@[simp] theorem sRetF_def {f : DE} : sRetF f σ S = (f σ S).bind fun w σ S => .ok (.ret w) σ S := rfl
@[simp] theorem sIf_def {c : DT} {f g : DS} : sIf c f g σ S = (c σ S).bind fun b σ S => if b = true then f σ S else g σ S := rfl
@[simp] theorem sExpr_def {f : DE} : sExpr f σ S = (f σ S).bind fun _ σ S => .ok .next σ S := rfl
@[simp] theorem sPar_def {n m : Nat} {r : DA} : sPar n m r σ S = (r σ S).bind fun xs σ S => match xs with
  | [v, w] => .ok .next ((σ.set n (.val v)).set m (.val w)) S
  | _ => .fail := rfl
@[simp] theorem dIsN_def {f : DE} : dIsN f σ S = (f σ S).bind fun x σ S => .ok (.bl (isN x)) σ S := rfl
@[simp] theorem dNotN_def {f : DE} : dNotN f σ S = (f σ S).bind fun x σ S => .ok (.bl (!isN x)) σ S := rfl
@[simp] theorem dNeg_def {f : DE} : dNeg f σ S = (f σ S).bind fun x σ S => match x with
  | .int i => .ok (.int (-i)) σ S
  | _ => .fail := rfl
@[simp] theorem oNone_def : oNone σ S = .ok none σ S := rfl
@[simp] theorem oSome_def {f : DE} : oSome f σ S = (f σ S).bind fun x σ S => match x with
  | .int i => .ok (some i) σ S
  | _ => .fail := rfl
@[simp] theorem dSl_def {f : DE} {lo hi : DO} : dSl f lo hi σ S = (f σ S).bind fun x σ S => (lo σ S).bind fun l σ S => (hi σ S).bind fun u σ S => ofOpt ((deref σ S x).bind fun a => opSl a l u) σ S := rfl
@[simp] theorem opSl_lst {l : List D} {lo hi : Option Int} : opSl (.lst l) lo hi = some (.lst (cutL l lo hi)) := rfl
@[simp] theorem opSl_scr {l : List Int} {lo hi : Option Int} : opSl (.scr l) lo hi = some (.lst ((cutL l lo hi).map D.int)) := rfl
@[simp] theorem opSl_str {lo hi : Option Int} (h : x.length ≤ most) : opSl (.str x) lo hi = some (.str (L2.cutS x lo hi)) := if_pos h
@[simp] theorem iLst_def {f : DE} : iLst f σ S = (dV f σ S).bind fun x σ S => match x with
  | .lst ws => .ok ws σ S
  | _ => .fail := rfl
@[simp] theorem iTup_def {f : DE} : iTup f σ S = (dV f σ S).bind fun x σ S => match x with
  | .tup ws => .ok ws σ S
  | _ => .fail := rfl
@[simp] theorem iStr_def {f : DE} : iStr f σ S = (dV f σ S).bind fun x σ S => match x with
  | .str z => .ok (signs z) σ S
  | _ => .fail := rfl
@[simp] theorem iRan1_def {f : DE} : iRan1 f σ S = (f σ S).bind fun x σ S => match x with
  | .int j => if small j then .ok (ran 0 j) σ S else .fail
  | _ => .fail := rfl
@[simp] theorem iZip_def {f g : DE} : iZip f g σ S = (dV f σ S).bind fun x σ S => (dV g σ S).bind fun y σ S => match x, y with
  | .lst xs, .lst ys => .ok (pairs xs ys) σ S
  | .tup xs, .tup ys => .ok (pairs xs ys) σ S
  | _, _ => .fail := rfl
@[simp] theorem iEnum_def {f : DE} : iEnum f σ S = (dV f σ S).bind fun x σ S => match x with
  | .lst xs => .ok (enum 0 xs) σ S
  | _ => .fail := rfl
@[simp] theorem sFor_def {it : DI} {g : DG} {f : DS} : sFor it g f σ S = (it σ S).bind fun ds σ S => forL g f ds σ S := rfl
@[simp] theorem gN_def {n : Nat} : gN n w σ = some (σ.set n (.val w)) := rfl
@[simp] theorem tTrue_def : tTrue σ S = .ok true σ S := rfl
@[simp] theorem dMeth_def {is : D → Bool} {k : D → D → List D → Sl → Sto → Res D} {fo : DE} {fa : DA} : dMeth is k fo fa σ S = (fo σ S).bind fun x σ S => if ((deref σ S x).map is) = some true then (fa σ S).bind fun ws σ S => (match deref σ S x with
  | some c => k x c ws σ S
  | none => .fail) else .fail := rfl
@[simp] theorem kApp_lst {l : List D} (h : l.length < most) : kApp a (.lst l) [w] σ S = ofMut .non (chg σ S a (.lst (l ++ [w]))) := if_pos h
@[simp] theorem isLst_lst {l : List D} : isLst (.lst l) = true := rfl
@[simp] theorem chg_loc {n : Nat} {c : D} (h : σ[n]? = some (.own c)) : chg σ S (.loc n) w = some (σ.set n (.own w), S) := by unfold chg; simp only; rw [h]
@[simp] theorem ofMut_some {α : Type} {c : α} : ofMut c (some (σ, S)) = .ok c σ S := rfl
@[simp] theorem scalar_non : scalar .non = true := rfl
@[simp] theorem scalar_int : scalar (.int i) = true := rfl
@[simp] theorem scalar_bl {b : Bool} : scalar (.bl b) = true := rfl
@[simp] theorem scalar_str : scalar (.str x) = true := rfl
@[simp] theorem scalar_tup {l : List D} : scalar (.tup l) = true := rfl
@[simp] theorem scalar_lst {l : List D} : scalar (.lst l) = false := rfl
@[simp] theorem sRetO_own {n : Nat} (h : σ[n]? = some (.own w)) : sRetO n σ S = .ok (.ret w) σ S := by unfold sRetO; rw [h]
@[simp] theorem sRetS_def {f : DE} : sRetS f σ S = (f σ S).bind fun w σ S => if scalar w then .ok (.ret w) σ S else .fail := rfl
@[simp] theorem isN_non : isN .non = true := rfl
@[simp] theorem isN_int : isN (.int i) = false := rfl
@[simp] theorem isN_bl {b : Bool} : isN (.bl b) = false := rfl
@[simp] theorem isN_str : isN (.str x) = false := rfl
@[simp] theorem isN_tup {l : List D} : isN (.tup l) = false := rfl
@[simp] theorem isN_lst {l : List D} : isN (.lst l) = false := rfl
end
/-- the body's run gives the def's answer -/
theorem dDef_ret {n : Nat} {f : DS} {ws : List D} {S S' : Sto} {w : D} {σ' : Sl} (h : f (ws.map Slot.val ++ List.replicate (n - ws.length) .emp) S = .ok (.ret w) σ' S') : dDef n f ws S = .ok w S' := by
  unfold dDef
  rw [h]
theorem dDef_next {n : Nat} {f : DS} {ws : List D} {S S' : Sto} {σ' : Sl} (h : f (ws.map Slot.val ++ List.replicate (n - ws.length) .emp) S = .ok .next σ' S') : dDef n f ws S = .ok .non S' := by
  unfold dDef
  rw [h]
theorem sSeq_next {f g : DS} {σ σ1 : Sl} {S S1 : Sto} (h : f σ S = .ok .next σ1 S1) : sSeq f g σ S = g σ1 S1 := by
  rw [sSeq_def, h]
  rfl
theorem dDef_ex {n : Nat} {f : DS} {ws : List D} {S S' : Sto} {w : D} (h : ∃ σ', f (ws.map Slot.val ++ List.replicate (n - ws.length) .emp) S = .ok (.ret w) σ' S') : dDef n f ws S = .ok w S' := by
  obtain ⟨σ', h⟩ := h
  exact dDef_ret h
/-! ### loops -/
@[simp] theorem forL_nil {g : DG} {f : DS} {σ : Sl} {S : Sto} : forL g f [] σ S = .ok .next σ S := rfl
theorem forL_cons {g : DG} {f : DS} {σ σ1 σ2 : Sl} {S S2 : Sto} {d : D} {ds : List D} (h : g d σ = some σ1) (h2 : f σ1 S = .ok .next σ2 S2) : forL g f (d :: ds) σ S = forL g f ds σ2 S2 := by
  rw [forL]
  dsimp only
  rw [h]
  dsimp only
  rw [h2]
  rfl
theorem forL_inv {g : DG} {f : DS} (P : Nat → Sl → Sto → Prop) : ∀ (items : List D) (k : Nat) (σ : Sl) (S : Sto), P k σ S →
    (∀ (i : Nat) (d : D) (σ : Sl) (S : Sto), items[i]? = some d → P (k + i) σ S → ∃ σ1, g d σ = some σ1 ∧ ∃ σ2 S2, f σ1 S = .ok .next σ2 S2 ∧ P (k + i + 1) σ2 S2) →
    ∃ σ' S', forL g f items σ S = .ok .next σ' S' ∧ P (k + items.length) σ' S'
  | [], k, σ, S, h, _ => ⟨σ, S, rfl, h⟩
  | d :: ds, k, σ, S, h, st => by
    obtain ⟨σ1, e1, σ2, S2, e2, h2⟩ := st 0 d σ S rfl h
    obtain ⟨σ3, S3, e3, h3⟩ := forL_inv P ds (k + 1) σ2 S2 h2 fun i d' σ S hi hp => by
      have := st (i + 1) d' σ S hi (by rw [show k + (i + 1) = k + 1 + i by omega]; exact hp)
      rw [show k + (i + 1) + 1 = k + 1 + i + 1 by omega] at this
      exact this
    refine ⟨σ3, S3, ?_, by rw [List.length_cons, show k + (ds.length + 1) = k + 1 + ds.length by omega]; exact h3⟩
    unfold forL
    rw [e1]
    dsimp only
    rw [e2]
    exact e3
/-- a loop over data with an invariant that doesn't count -/
theorem forL_all {g : DG} {f : DS} (P : Sl → Sto → Prop) {items : List D} {σ : Sl} {S : Sto} (h : P σ S) (st : ∀ (d : D), d ∈ items → ∀ (σ : Sl) (S : Sto), P σ S → ∃ σ1, g d σ = some σ1 ∧ ∃ σ2 S2, f σ1 S = .ok .next σ2 S2 ∧ P σ2 S2) :
    ∃ σ' S', forL g f items σ S = .ok .next σ' S' ∧ P σ' S' := by
  obtain ⟨σ', S', e, p⟩ := forL_inv (fun _ => P) items 0 σ S h fun i d σ S hi hp => st d (List.mem_of_getElem? hi) σ S hp
  exact ⟨σ', S', e, p⟩
theorem sWhile_step {c : DT} {f : DS} {n : Nat} {σ : Sl} {S : Sto} : sWhile c f (n + 1) σ S = (c σ S).bind fun b σ S => if b = true then (f σ S).bind fun x σ S => (match x with
      | .next => sWhile c f n σ S
      | .cnt => sWhile c f n σ S
      | .brk => .ok .next σ S
      | .ret w => .ok (.ret w) σ S) else .ok .next σ S := rfl
/-! ### comprehensions -/
theorem rest_wipe (σ : Sl) (vs : List Nat) : restD σ (wipeD σ vs) vs = σ := by
  apply List.ext_getElem?
  intro j
  rw [restD_get]
  by_cases h : j ∈ vs
  · rw [if_pos h, wipeD_get, if_pos h]
    cases e : σ[j]? with
    | none => rfl
    | some s => rfl
  · rw [if_neg h, wipeD_get, if_neg h]
theorem lcL_gen {g : DG} {c : DT} {e : DE} {vs : List Nat} {σw : Sl} {S : Sto} (a : D → Sl) (p : D → Bool) (h : D → D) : ∀ (items acc : List D), acc.length + items.length ≤ most →
    (∀ d ∈ items, g d σw = some (a d) ∧ wipeD (a d) vs = σw ∧ c (a d) S = .ok (p d) (a d) S ∧ (p d = true → dV e (a d) S = .ok (h d) (a d) S)) →
    lcL g c e vs items acc σw S = .ok (acc ++ (items.filter p).map h) σw S
  | [], acc, _, _ => by simp [lcL]
  | d :: ds, acc, hl, st => by
    obtain ⟨h1, h2, h3, h4⟩ := st d (List.mem_cons_self ..)
    rw [List.length_cons] at hl
    have ih := fun acc' (q : acc'.length + ds.length ≤ most) => lcL_gen (g := g) (c := c) (e := e) (vs := vs) (σw := σw) (S := S) a p h ds acc' q fun d' hd => st d' (List.mem_cons_of_mem _ hd)
    rw [lcL, h1]
    dsimp only
    rw [h3]
    dsimp only [Res.bind]
    cases hp : p d with
    | true =>
      rw [if_pos rfl, h4 hp]
      dsimp only [Res.bind]
      rw [if_pos (by omega), h2, ih _ (by rw [List.length_append, List.length_singleton]; omega), List.filter_cons, if_pos hp]
      simp
    | false =>
      rw [if_neg Bool.false_ne_true, h2, ih _ (by omega), List.filter_cons, if_neg (by rw [hp]; exact Bool.false_ne_true)]
theorem dLc_gen {it : DI} {g : DG} {c : DT} {e : DE} {vs : List Nat} {σ σ' : Sl} {S : Sto} {items : List D} (a : D → Sl) (p : D → Bool) (h : D → D) (hi : it σ S = .ok items σ' S) (hno : noOwn σ' vs = true) (hl : items.length ≤ most)
    (st : ∀ d ∈ items, g d (wipeD σ' vs) = some (a d) ∧ wipeD (a d) vs = wipeD σ' vs ∧ c (a d) S = .ok (p d) (a d) S ∧ (p d = true → dV e (a d) S = .ok (h d) (a d) S)) :
    dLc it g c e vs σ S = .ok (.lst ((items.filter p).map h)) σ' S := by
  unfold dLc
  rw [hi]
  dsimp only [Res.bind]
  rw [if_pos hno, lcL_gen a p h items [] (by simpa using hl) st]
  dsimp only [noX, Res.bind]
  rw [rest_wipe, List.nil_append]
theorem filter_true {α : Type} (l : List α) : l.filter (fun _ => true) = l := by simp
/-- without a test -/
theorem dLc_map {it : DI} {g : DG} {e : DE} {vs : List Nat} {σ σ' : Sl} {S : Sto} {items : List D} (a : D → Sl) (h : D → D) (hi : it σ S = .ok items σ' S) (hno : noOwn σ' vs = true) (hl : items.length ≤ most)
    (st : ∀ d ∈ items, g d (wipeD σ' vs) = some (a d) ∧ wipeD (a d) vs = wipeD σ' vs ∧ dV e (a d) S = .ok (h d) (a d) S) : dLc it g tTrue e vs σ S = .ok (.lst (items.map h)) σ' S := by
  have := dLc_gen (c := tTrue) a (fun _ => true) h hi hno hl fun d hd => ⟨(st d hd).1, (st d hd).2.1, rfl, fun _ => (st d hd).2.2⟩
  rw [filter_true] at this
  exact this
/-- bools of a list of tests -/
theorem bools_map {α : Type} (f : α → Bool) : ∀ l : List α, bools (l.map fun x => D.bl (f x)) = some (l.map f)
  | [] => rfl
  | x :: l => by
    show (bools (l.map fun x => D.bl (f x))).map _ = _
    rw [bools_map f l]
    rfl
theorem opAll_map {α : Type} (f : α → Bool) (l : List α) : opAll (.lst (l.map fun x => D.bl (f x))) = some (.bl (l.all f)) := by
  show (bools _).map _ = _
  rw [bools_map]
  simp
theorem opAny_map {α : Type} (f : α → Bool) (l : List α) : opAny (.lst (l.map fun x => D.bl (f x))) = some (.bl (l.any f)) := by
  show (bools _).map _ = _
  rw [bools_map]
  simp
@[simp] theorem dChain_def {op op' : D → D → Option D} {f g h : DE} {σ : Sl} {S : Sto} : dChain op op' f g h σ S = (f σ S).bind fun x σ S => (g σ S).bind fun y σ S => match (deref σ S x).bind fun a => (deref σ S y).bind fun b => op a b with
  | some (.bl true) => (h σ S).bind fun z σ S => ofOpt ((deref σ S y).bind fun a => (deref σ S z).bind fun b => op' a b) σ S
  | some (.bl false) => .ok (.bl false) σ S
  | _ => .fail := rfl
@[simp] theorem dS1_def {op : D → D → Option D} {f g : DE} {σ : Sl} {S : Sto} : dS1 op f g σ S = (f σ S).bind fun x σ S => match x with
  | .str a => (g σ S).bind fun y σ S => ofOpt ((deref σ S y).bind fun b => op (.str a) b) σ S
  | _ => .fail := rfl
def hasC (z : Str) (c : Nat) : Bool := decide (c ∈ z.cps.toList)
theorem opIn_sign {c : Nat} {z : Str} : opIn (.str ⟨#[c]⟩) (.str z) = some (.bl (hasC z c)) := rfl
theorem opNotIn_sign {c : Nat} {z : Str} : opNotIn (.str ⟨#[c]⟩) (.str z) = some (.bl (!hasC z c)) := rfl
theorem strsD_map (l : List Str) : strsD (l.map D.str) = some l := by
  induction l with
  | nil => rfl
  | cons x l ih =>
    show (strsD (l.map D.str)).map _ = _
    rw [ih]
    rfl
end MR

set_option Elab.async false
set_option linter.all false
set_option maxRecDepth 100000
/-! P0: what the common defs compute: the feed, the greatest measure, fractions in lowest terms, the comparison of data. -/
namespace MR
open PySem

def Good (l : List Int) : Prop := ∀ v ∈ l, 0 ≤ v ∧ v < 1000003
theorem Good.app {l : List Int} {v : Int} (h : Good l) (h1 : 0 ≤ v) (h2 : v < 1000003) : Good (l ++ [v]) := fun x hx => by
  rcases List.mem_append.mp hx with hx | hx
  · exact h x hx
  · rw [List.mem_singleton.mp hx]; exact ⟨h1, h2⟩
theorem mulOk_of {i j : Int} {a b : Nat} (ha : i.natAbs < 2 ^ a) (hb : j.natAbs < 2 ^ b) (h0 : 0 < a) (h1 : 0 < b) (h : a + b ≤ 1000000) : mulOk i j := L2.wide_mul ha hb h0 h1 h
theorem divOk_of {j : Int} {b : Nat} (h : j ≠ 0) (hb : j.natAbs < 2 ^ b) (h0 : 0 < b) (h9 : b ≤ 9000) : divOk j := ⟨h, Nat.lt_of_lt_of_le (PySem.Flt.log2_lt_of h0 hb) h9⟩
theorem divOk_1009 : divOk 1009 := by decide
theorem divOk_1013 : divOk 1013 := by decide
theorem mulS {i j : Int} (hi : 0 ≤ i ∧ i < 2 ^ 200) (hj : 0 ≤ j ∧ j < 2 ^ 200) : mulOk i j := mulOk_of (a := 200) (b := 200) (by omega) (by omega) (by decide) (by decide) (by decide)

theorem feed_1 {S : Sto} {a0 a1 s3 s4 : Slot} {L : Nat} (hL : L ≤ 10000) {acc : List Int} {r : Int} {s6 : Slot} (hl : acc.length ≤ L) (hg : Good acc) :
    ∃ σ', forL (gN 6) fb__law_feed_1 (ran 0 60) [a0, a1, .own (.lst (acc.map D.int)), s3, s4, .val (.int r), s6] S = .ok .next σ' S ∧
      ∃ acc' r' s6', σ' = [a0, a1, .own (.lst (acc'.map D.int)), s3, s4, .val (.int r'), s6'] ∧ acc'.length ≤ L + 60 ∧ Good acc' := by
  obtain ⟨σ', S', e, ⟨rfl, acc', r', s6', h1, h2, h3⟩⟩ := forL_inv (g := gN 6) (f := fb__law_feed_1) (fun k σ S' => S' = S ∧ ∃ acc' r' s6', σ = [a0, a1, .own (.lst (acc'.map D.int)), s3, s4, .val (.int r'), s6'] ∧ acc'.length ≤ L + k ∧ Good acc') (ran 0 60) 0 _ S ⟨rfl, acc, r, s6, rfl, by omega, hg⟩ (by
    rintro i d σ S' hi ⟨rfl, acc, r, s6, rfl, hl, hg⟩
    have hi60 : i < 60 := by
      have := (List.getElem?_eq_some_iff.mp hi).1
      simp [ran] at this
      omega
    refine ⟨_, rfl, ?_⟩
    by_cases hr : 0 < r
    · have hlt : acc.length < most := by unfold most; omega
      refine ⟨[a0, a1, .own (.lst ((acc ++ [r % 1009]).map D.int)), s3, s4, .val (.int (r.fdiv 1009)), .val d], S', ?_, rfl, acc ++ [r % 1009], _, _, rfl, by rw [List.length_append, List.length_singleton]; omega, hg.app (by omega) (by omega)⟩
      simp [fb__law_feed_1, hr, hlt, divOk_1009]
    · exact ⟨[a0, a1, .own (.lst (acc.map D.int)), s3, s4, .val (.int r), .val d], S', by simp [fb__law_feed_1, hr], rfl, acc, r, _, rfl, by omega, hg⟩)
  refine ⟨σ', e, acc', r', s6', h1, ?_, h3⟩
  simpa [ran] using h2
theorem feed_2 {S : Sto} {a0 a1 : Slot} (items : List Int) (hn : items.length ≤ 63) {s4 s5 s6 : Slot} :
    ∃ σ', forL (gN 4) fb__law_feed_2 (items.map D.int) [a0, a1, .own (.lst []), .val (.int 29), s4, s5, s6] S = .ok .next σ' S ∧
      ∃ (acc : List Int) (salt : Int) (s4 s5 s6 : Slot), σ' = [a0, a1, .own (.lst (acc.map D.int)), .val (.int salt), s4, s5, s6] ∧ acc.length ≤ 4000 ∧ Good acc ∧ 0 ≤ salt ∧ salt < 2147483647 := by
  obtain ⟨σ', S', e, ⟨rfl, acc, salt, s4, s5, s6, h1, h2, h3, h4⟩⟩ := forL_inv (g := gN 4) (f := fb__law_feed_2) (fun k σ S' => S' = S ∧ ∃ (acc : List Int) (salt : Int) (s4 s5 s6 : Slot), σ = [a0, a1, .own (.lst (acc.map D.int)), .val (.int salt), s4, s5, s6] ∧ acc.length ≤ 61 * k ∧ Good acc ∧ 0 ≤ salt ∧ salt < 2147483647) (items.map D.int) 0 _ S ⟨rfl, [], 29, s4, s5, s6, rfl, by simp, fun v hv => by simp at hv, by omega, by omega⟩ (by
    rintro i d σ S' hi ⟨rfl, acc, salt, s4, s5, s6, rfl, hl, hg, hs⟩
    have hi63 : i < 63 := by
      have := (List.getElem?_eq_some_iff.mp hi).1
      rw [List.length_map] at this
      omega
    rw [List.getElem?_map] at hi
    obtain ⟨c, _, rfl⟩ := Option.map_eq_some_iff.mp hi
    refine ⟨_, rfl, ?_⟩
    have hlt : acc.length < most := by unfold most; omega
    have hm : mulOk salt 69621 := mulS (by omega) (by omega)
    by_cases hr : c - 1000000000000000000 < 0
    · obtain ⟨σ', e, acc', r', s6', h1, h2, h3⟩ := feed_1 (S := S') (a0 := a0) (a1 := a1) (s3 := .val (.int ((salt * 69621 + c % 2147483629 + 11) % 2147483647))) (s4 := .val (.int c)) (L := 61 * i + 1) (by omega) (acc := acc ++ [c % 1000003]) (r := c - 1000000000000000000) (s6 := s6) (by rw [List.length_append, List.length_singleton]; omega) (hg.app (by omega) (by omega))
      refine ⟨σ', S', ?_, rfl, acc', _, _, _, s6', h1, by omega, h3, by omega, by omega⟩
      rw [← e]
      simp [fb__law_feed_2, hm, hlt, hr, opPow, small]
    · obtain ⟨σ', e, acc', r', s6', h1, h2, h3⟩ := feed_1 (S := S') (a0 := a0) (a1 := a1) (s3 := .val (.int ((salt * 69621 + c % 2147483629 + 11) % 2147483647))) (s4 := .val (.int c)) (L := 61 * i + 1) (by omega) (acc := acc) (r := c - 1000000000000000000) (s6 := s6) (by omega) hg
      refine ⟨σ', S', ?_, rfl, acc', _, _, _, s6', h1, by omega, h3, by omega, by omega⟩
      rw [← e]
      simp [fb__law_feed_2, hm, hlt, hr, opPow, small])
  refine ⟨σ', e, acc, salt, s4, s5, s6, h1, ?_, h3, h4⟩
  rw [List.length_map] at h2
  omega
theorem feed_3 {S : Sto} {a0 a1 : Slot} (n : Nat) (hn : n ≤ 1000000) {acc : List Int} {salt : Int} {s4 s5 s6 : Slot} (hl : acc.length ≤ 4000) (hg : Good acc) (h0 : 0 ≤ salt) (h1 : salt < 2147483647) :
    ∃ σ', forL (gN 6) fb__law_feed_3 (ran 0 n) [a0, a1, .own (.lst (acc.map D.int)), .val (.int salt), s4, s5, s6] S = .ok .next σ' S ∧
      ∃ (acc' : List Int) (salt : Slot) (s6 : Slot), σ' = [a0, a1, .own (.lst (acc'.map D.int)), salt, s4, s5, s6] ∧ acc'.length = acc.length + n ∧ Good acc' := by
  obtain ⟨σ', S', e, ⟨rfl, acc', salt, s6, h1, h2, h3, h4⟩⟩ := forL_inv (g := gN 6) (f := fb__law_feed_3) (fun k σ S' => S' = S ∧ ∃ (acc' : List Int) (salt : Int) (s6 : Slot), σ = [a0, a1, .own (.lst (acc'.map D.int)), .val (.int salt), s4, s5, s6] ∧ acc'.length = acc.length + k ∧ Good acc' ∧ 0 ≤ salt ∧ salt < 2147483647) (ran 0 n) 0 _ S ⟨rfl, acc, salt, s6, rfl, by simp, hg, h0, h1⟩ (by
    rintro i d σ S' hi ⟨rfl, acc1, salt, s6, rfl, hl1, hg, hs0, hs1⟩
    have hin : i < n := by
      have := (List.getElem?_eq_some_iff.mp hi).1
      simp [ran] at this
      omega
    have hd : d = .int (i : Nat) := by
      unfold ran at hi
      rw [List.getElem?_map] at hi
      obtain ⟨k, hk, rfl⟩ := Option.map_eq_some_iff.mp hi
      rw [List.getElem?_range (by omega)] at hk
      cases hk
      simp
    subst hd
    refine ⟨_, rfl, ?_⟩
    have hlt : acc1.length < most := by unfold most; omega
    have sb : salt * salt < 2 ^ 62 := by
      have : salt * salt ≤ 2147483646 * 2147483646 := Int.mul_le_mul (by omega) (by omega) hs0 (by omega)
      omega
    have sb0 : 0 ≤ salt * salt := Int.mul_nonneg hs0 hs0
    have m1 : mulOk salt salt := mulS ⟨hs0, by omega⟩ ⟨hs0, by omega⟩
    have m2 : mulOk (salt * salt) salt := mulS ⟨sb0, by omega⟩ ⟨hs0, by omega⟩
    have m3 : mulOk 48271 salt := mulS ⟨by omega, by omega⟩ ⟨hs0, by omega⟩
    have m4 : mulOk 13 (i : Nat) := mulS ⟨by omega, by omega⟩ ⟨by omega, by omega⟩
    refine ⟨[a0, a1, .own (.lst ((acc1 ++ [((salt * salt * salt + 48271 * salt + 13 * (i : Nat) + 5) % 2147483629).fdiv 1013 % 1009]).map D.int)), .val (.int ((salt * salt * salt + 48271 * salt + 13 * (i : Nat) + 5) % 2147483629)), s4, s5, .val (.int (i : Nat))], S', ?_, rfl, _, _, _, rfl, by rw [List.length_append, List.length_singleton]; omega, hg.app (by omega) (by omega), by omega, by omega⟩
    simp [fb__law_feed_3, m1, m2, m3, m4, hlt, divOk_1013])
  exact ⟨σ', e, acc', _, s6, h1, by simpa [ran] using h2, h3⟩
theorem cutL_map {α β : Type} (f : α → β) (l : List α) (lo hi : Option Int) : cutL (l.map f) lo hi = (cutL l lo hi).map f := by
  unfold cutL
  rw [List.length_map, List.map_take, List.map_drop]
theorem cutL_to {α : Type} (l : List α) (n : Nat) : cutL l none (some (n : Int)) = l.take n := by
  unfold cutL
  have : HT.sIx l.length l.length (some (n : Int)) = min n l.length := HT.sIx_nat ..
  rw [this]
  show (l.drop 0).take (min n l.length - 0) = l.take n
  rw [List.drop_zero, Nat.sub_zero]
  by_cases h : n ≤ l.length
  · rw [Nat.min_eq_left h]
  · rw [Nat.min_eq_right (by omega), List.take_of_length_le (Nat.le_refl _), List.take_of_length_le (by omega)]
theorem cutL_from {α : Type} (l : List α) (n : Nat) : cutL l (some (n : Int)) none = l.drop n := by
  unfold cutL
  have : HT.sIx l.length 0 (some (n : Int)) = min n l.length := HT.sIx_nat ..
  rw [this]
  show (l.drop (min n l.length)).take (l.length - min n l.length) = l.drop n
  by_cases h : n ≤ l.length
  · rw [Nat.min_eq_left h, List.take_of_length_le (by rw [List.length_drop]; omega)]
  · rw [Nat.min_eq_right (by omega), List.drop_of_length_le (Nat.le_refl _), List.drop_of_length_le (show l.length ≤ n by omega)]
    simp
/-- the feed: so many ints from 0 to 1,000,002 -/
theorem feed_ok (ns : List Int) (many : Nat) (hm : many ≤ 1000000) (S : Sto) : ∃ fs : List Int, fs.length = many ∧ Good fs ∧ m__law_feed [.scr ns, .int many] S = .ok (.lst (fs.map D.int)) S := by
  have hc : (cutL ns none (some 63)).length ≤ 63 := by
    have := cutL_to ns 63
    rw [show ((63 : Nat) : Int) = 63 from rfl] at this
    rw [this, List.length_take]
    omega
  obtain ⟨σ1, e1, acc, salt, s4, s5, s6, rfl, h1, h2, h3, h4⟩ := feed_2 (S := S) (a0 := .val (.scr ns)) (a1 := .val (.int many)) (cutL ns none (some 63)) hc (s4 := .emp) (s5 := .emp) (s6 := .emp)
  have hsm : small ((many : Int) - (acc.length : Int)) := ⟨by omega, by omega⟩
  have e0 : ran 0 ((many : Int) - (acc.length : Int)) = ran 0 ((many - acc.length : Nat) : Int) := by
    unfold ran
    congr 2
    omega
  obtain ⟨σ2, e2, acc', salt', s6', rfl, h5, h6⟩ := feed_3 (S := S) (a0 := .val (.scr ns)) (a1 := .val (.int many)) (many - acc.length) (by omega) (acc := acc) (salt := salt) (s4 := s4) (s5 := s5) (s6 := s6) h1 h2 h3 h4
  refine ⟨acc'.take many, by rw [List.length_take]; omega, fun v hv => h6 v (List.mem_of_mem_take hv), ?_⟩
  refine dDef_ret (σ' := [.val (.scr ns), .val (.int many), .own (.lst (acc'.map D.int)), salt', s4, s5, s6']) ?_
  have ec : cutL (acc'.map D.int) none (some (many : Int)) = (acc'.take many).map D.int := by rw [cutL_map, cutL_to]
  have hmost : (0 : Nat) ≤ most := Nat.zero_le _
  simp [b__law_feed, e1, hsm, e0, e2, ec, hmost]

/-! ### the greatest measure -/
theorem gcd_step (x y : Int) (hx : 0 ≤ x) (hy : 0 < y) : Int.gcd y (x % y) = Int.gcd x y := by
  have e : (x % y).natAbs = x.natAbs % y.natAbs := by
    obtain ⟨a, rfl⟩ := Int.eq_ofNat_of_zero_le hx
    obtain ⟨b, rfl⟩ := Int.eq_ofNat_of_zero_le (Int.le_of_lt hy)
    rfl
  show Nat.gcd y.natAbs (x % y).natAbs = Nat.gcd x.natAbs y.natAbs
  rw [e, Nat.gcd_comm, ← Nat.gcd_rec, Nat.gcd_comm]
theorem loop_measure (S : Sto) : ∀ (n : Nat) (x y : Int), 0 ≤ x → 0 ≤ y → y.toNat < n → sWhile wc_measure_1 wb_measure_2 n [.val (.int x), .val (.int y)] S = .ok .next [.val (.int (Int.gcd x y)), .val (.int 0)] S := by
  intro n
  induction n with
  | zero => intro x y _ _ h; omega
  | succ n ih =>
    intro x y hx hy h
    rw [sWhile_step]
    by_cases h0 : y = 0
    · subst h0
      have : ((x.natAbs : Nat) : Int) = x := by omega
      simp [wc_measure_1, this]
    · have hp : 0 < y := by omega
      simp [wc_measure_1, wb_measure_2, h0, hp]
      have e := ih y (x % y) hy (Int.emod_nonneg _ h0) (by have := Int.emod_lt_of_pos x hp; omega)
      rw [gcd_step x y hx hp] at e
      simpa [wc_measure_1, wb_measure_2] using e
theorem abs_eq (a : Int) : (if a < 0 then -a else a) = (a.natAbs : Int) := by split <;> omega
theorem measure_eq (a b : Int) (S : Sto) (h : b.natAbs < fuel) : m_measure [.int a, .int b] S = .ok (.int (Int.gcd a b)) S := by
  refine dDef_ret (σ' := [.val (.int (Int.gcd a b)), .val (.int 0)]) ?_
  have e := loop_measure S fuel (a.natAbs : Int) (b.natAbs : Int) (by omega) (by omega) (by omega)
  have e2 : Int.gcd (a.natAbs : Int) (b.natAbs : Int) = Int.gcd a b := by simp [Int.gcd]
  rw [e2] at e
  simp [b_measure, e]
theorem loop_low (S : Sto) (a b : Slot) : ∀ (n : Nat) (x y : Int), 0 ≤ x → 0 ≤ y → y.toNat < n → sWhile wc__law_low_1 wb__law_low_2 n [a, b, .val (.int x), .val (.int y)] S = .ok .next [a, b, .val (.int (Int.gcd x y)), .val (.int 0)] S := by
  intro n
  induction n with
  | zero => intro x y _ _ h; omega
  | succ n ih =>
    intro x y hx hy h
    rw [sWhile_step]
    by_cases h0 : y = 0
    · subst h0
      have : ((x.natAbs : Nat) : Int) = x := by omega
      simp [wc__law_low_1, this]
    · have hp : 0 < y := by omega
      simp [wc__law_low_1, wb__law_low_2, h0, hp]
      have e := ih y (x % y) hy (Int.emod_nonneg _ h0) (by have := Int.emod_lt_of_pos x hp; omega)
      rw [gcd_step x y hx hp] at e
      simpa [wc__law_low_1, wb__law_low_2] using e

/-! ### the comparison of data -/
/-- plain data of less than n levels -/
def plain : Nat → D → Bool
  | 0, _ => false
  | _ + 1, .non => true
  | _ + 1, .bl _ => true
  | _ + 1, .int _ => true
  | _ + 1, .str _ => true
  | n + 1, .tup l => l.all (plain n) && decide (l.length ≤ most)
  | n + 1, .lst l => l.all (plain n) && decide (l.length ≤ most)
  | _ + 1, _ => false
theorem bools_rep : ∀ n : Nat, bools (List.replicate n (D.bl true)) = some (List.replicate n true)
  | 0 => rfl
  | n + 1 => by
    rw [List.replicate_succ]
    show (bools (List.replicate n (D.bl true))).map _ = _
    rw [bools_rep n]
    rfl
theorem all_rep (n : Nat) : opAll (.lst (List.replicate n (D.bl true))) = some (.bl true) := by
  show (bools _).map _ = _
  rw [bools_rep]
  simp
theorem same_lc {r : Den} {S : Sto} {a b : Slot} {e : DE} (he : e = dCall r (aCons (dVar 2) (aCons (dVar 3) aNil))) : ∀ (l : List D) (acc : List D), (∀ x ∈ l, r [x, x] S = .ok (.bl true) S ∧ frz x = fun σ S => .ok x σ S) → acc.length + l.length ≤ most →
    lcL (gT 2 (gsCons (gN 2) (gsCons (gN 3) gsNil))) tTrue e [2, 3] (pairs l l) acc [a, b, .emp, .emp] S = .ok (acc ++ List.replicate l.length (D.bl true)) [a, b, .emp, .emp] S
  | [], acc, _, _ => by simp [pairs, lcL]
  | x :: l, acc, h, hl => by
    obtain ⟨h1, h2⟩ := h x (List.mem_cons_self ..)
    have ih := same_lc (a := a) (b := b) (S := S) he l (acc ++ [.bl true]) (fun y hy => h y (List.mem_cons_of_mem _ hy)) (by rw [List.length_append, List.length_singleton]; rw [List.length_cons] at hl; omega)
    have hlt : acc.length < most := by rw [List.length_cons] at hl; omega
    unfold pairs lcL
    simp [gT, gsCons, gsNil, he, h1, h2, hlt]
    simp [wipeD, ← he]
    rw [ih, List.replicate_succ]
    simp
theorem plain_frz : ∀ {n : Nat} {d : D}, plain n d = true → frz d = fun σ S => .ok d σ S
  | 0, d, h => by cases h
  | n + 1, d, h => by cases d <;> first | rfl | cases h
theorem same_refl (S : Sto) : ∀ (n : Nat) (d : D), plain n d = true → r__law_same n [d, d] S = .ok (.bl true) S
  | 0, d, h => by cases h
  | n + 1, d, h => by
    show dDef 4 (b__law_same (r__law_same n)) [d, d] S = _
    cases d with
    | non => exact dDef_ret (σ' := [.val .non, .val .non, .emp, .emp]) (by simp [b__law_same])
    | bl b => exact dDef_ret (σ' := [.val (.bl b), .val (.bl b), .emp, .emp]) (by simp [b__law_same, opIsi, isiD])
    | int i => exact dDef_ret (σ' := [.val (.int i), .val (.int i), .emp, .emp]) (by simp [b__law_same, opIsi, isiD])
    | str x => exact dDef_ret (σ' := [.val (.str x), .val (.str x), .emp, .emp]) (by simp [b__law_same, opIsi, isiD])
    | tup l =>
      obtain ⟨h1, h2⟩ := Bool.and_eq_true_iff.mp h
      have e := same_lc (r := r__law_same n) (S := S) (a := .val (.tup l)) (b := .val (.tup l)) (e := le__law_same_1 (r__law_same n)) rfl l [] (fun x hx => ⟨same_refl S n x (List.all_eq_true.mp h1 x hx), plain_frz (List.all_eq_true.mp h1 x hx)⟩) (by simpa using h2)
      exact dDef_ret (σ' := [.val (.tup l), .val (.tup l), .emp, .emp]) (by simp [b__law_same, opIsi, isiD, dLc, noOwn, wipeD, restD, e, noX, all_rep])
    | lst l =>
      obtain ⟨h1, h2⟩ := Bool.and_eq_true_iff.mp h
      have e := same_lc (r := r__law_same n) (S := S) (a := .val (.lst l)) (b := .val (.lst l)) (e := le__law_same_2 (r__law_same n)) rfl l [] (fun x hx => ⟨same_refl S n x (List.all_eq_true.mp h1 x hx), plain_frz (List.all_eq_true.mp h1 x hx)⟩) (by simpa using h2)
      exact dDef_ret (σ' := [.val (.lst l), .val (.lst l), .emp, .emp]) (by simp [b__law_same, opIsi, isiD, dLc, noOwn, wipeD, restD, e, noX, all_rep])
    | _ => cases h
theorem same_ok {S : Sto} {d : D} (h : plain 8 d = true) : m__law_same [d, d] S = .ok (.bl true) S := same_refl S 8 d h
end MR

set_option Elab.async false
set_option linter.all false
set_option maxRecDepth 100000
set_option exponentiation.threshold 30000
/-! P1: fractions in lowest terms: part, scaled, and the law's own reckoning. -/
namespace MR
open PySem

/-- the measure with the bottom's sign -/
def sg (t b : Int) : Int := if b < 0 then -(Int.gcd t b : Int) else (Int.gcd t b : Int)
def frT (t b : Int) : Int := t.fdiv (sg t b)
def frB (t b : Int) : Int := b.fdiv (sg t b)
def fr (t b : Int) : D := .tup [.int (frT t b), .int (frB t b)]
theorem sg_natAbs (t b : Int) : (sg t b).natAbs = Int.gcd t b := by unfold sg; split <;> omega
theorem sg_ne {t b : Int} (h : b ≠ 0) : sg t b ≠ 0 := by
  have := Int.gcd_pos_of_ne_zero_right t h
  unfold sg
  split <;> omega
theorem sg_dvd_t (t b : Int) : sg t b ∣ t := by
  unfold sg
  split
  · exact Int.neg_dvd.mpr (Int.gcd_dvd_left t b)
  · exact Int.gcd_dvd_left t b
theorem sg_dvd_b (t b : Int) : sg t b ∣ b := by
  unfold sg
  split
  · exact Int.neg_dvd.mpr (Int.gcd_dvd_right t b)
  · exact Int.gcd_dvd_right t b
theorem fr_t (t b : Int) : sg t b * frT t b = t := Int.mul_fdiv_cancel' (sg_dvd_t t b)
theorem fr_b (t b : Int) : sg t b * frB t b = b := Int.mul_fdiv_cancel' (sg_dvd_b t b)
theorem sg_pos {t b : Int} (h : 0 < b) : 0 < sg t b := by
  have := Int.gcd_pos_of_ne_zero_right t (show b ≠ 0 by omega)
  unfold sg
  split <;> omega
theorem sg_neg {t b : Int} (h : b < 0) : sg t b < 0 := by
  have := Int.gcd_pos_of_ne_zero_right t (show b ≠ 0 by omega)
  unfold sg
  split <;> omega
theorem frB_pos {t b : Int} (h : b ≠ 0) : 0 < frB t b := by
  have e := fr_b t b
  rcases Int.lt_trichotomy b 0 with hb | hb | hb
  · have hs := sg_neg (t := t) hb
    rcases Int.lt_trichotomy (frB t b) 0 with q | q | q
    · have := Int.mul_pos_of_neg_of_neg hs q
      omega
    · rw [q, Int.mul_zero] at e
      omega
    · exact q
  · exact absurd hb h
  · have hs := sg_pos (t := t) hb
    rcases Int.lt_trichotomy (frB t b) 0 with q | q | q
    · have := Int.mul_neg_of_pos_of_neg hs q
      omega
    · rw [q, Int.mul_zero] at e
      omega
    · exact q
theorem fr_cop {t b : Int} (h : b ≠ 0) : Int.gcd (frT t b) (frB t b) = 1 := by
  have e : Int.gcd (sg t b * frT t b) (sg t b * frB t b) = Int.gcd t b := by rw [fr_t, fr_b]
  rw [Int.gcd_mul_left, sg_natAbs] at e
  have p := Int.gcd_pos_of_ne_zero_right t h
  exact Nat.eq_of_mul_eq_mul_left p (by rw [e, Nat.mul_one])
/-- two pairs in lowest terms of one worth are one -/
theorem low_unique {k m k' m' : Int} (hm : 0 < m) (hm' : 0 < m') (h : Int.gcd k m = 1) (h' : Int.gcd k' m' = 1) (e : k * m' = k' * m) : k = k' ∧ m = m' := by
  have en : k.natAbs * m'.natAbs = k'.natAbs * m.natAbs := by rw [← Int.natAbs_mul, ← Int.natAbs_mul, e]
  have c1 : Nat.Coprime m.natAbs k.natAbs := by
    unfold Nat.Coprime
    rw [Nat.gcd_comm]
    exact h
  have c2 : Nat.Coprime m'.natAbs k'.natAbs := by
    unfold Nat.Coprime
    rw [Nat.gcd_comm]
    exact h'
  have d1 : m.natAbs ∣ m'.natAbs := c1.dvd_of_dvd_mul_left (by rw [en]; exact Nat.dvd_mul_left ..)
  have d2 : m'.natAbs ∣ m.natAbs := c2.dvd_of_dvd_mul_left (by rw [← en]; exact Nat.dvd_mul_left ..)
  have em : m = m' := by
    have := Nat.dvd_antisymm d1 d2
    omega
  subst em
  exact ⟨Int.eq_of_mul_eq_mul_right (by omega) e, rfl⟩
theorem fr_unique {t b t' b' : Int} (hb : b ≠ 0) (hb' : b' ≠ 0) (e : t * b' = t' * b) : frT t b = frT t' b' ∧ frB t b = frB t' b' := by
  refine low_unique (frB_pos hb) (frB_pos hb') (fr_cop hb) (fr_cop hb') ?_
  have e1 := fr_t t b
  have e2 := fr_b t b
  have e3 := fr_t t' b'
  have e4 := fr_b t' b'
  have h1 : (sg t b * sg t' b') * (frT t b * frB t' b') = (sg t b * sg t' b') * (frT t' b' * frB t b) := by
    have l : (sg t b * sg t' b') * (frT t b * frB t' b') = (sg t b * frT t b) * (sg t' b' * frB t' b') := by
      rw [Int.mul_assoc, Int.mul_assoc, Int.mul_left_comm (sg t' b')]
    have r : (sg t b * sg t' b') * (frT t' b' * frB t b) = (sg t' b' * frT t' b') * (sg t b * frB t b) := by
      rw [Int.mul_comm (sg t b), Int.mul_assoc, Int.mul_assoc, Int.mul_left_comm (sg t b)]
    rw [l, r, e1, e2, e3, e4, e]
  exact Int.eq_of_mul_eq_mul_left (Int.mul_ne_zero (sg_ne hb) (sg_ne hb')) h1
theorem fr_eq {t b t' b' : Int} (hb : b ≠ 0) (hb' : b' ≠ 0) (e : t * b' = t' * b) : fr t b = fr t' b' := by
  obtain ⟨e1, e2⟩ := fr_unique hb hb' e
  unfold fr
  rw [e1, e2]
/-- what is in lowest terms is its own -/
theorem fr_low {k m : Int} (hm : 0 < m) (h : Int.gcd k m = 1) : frT k m = k ∧ frB k m = m := by
  have : sg k m = 1 := by
    unfold sg
    rw [if_neg (by omega), h]
    rfl
  unfold frT frB
  rw [this, Int.fdiv_one, Int.fdiv_one]
  exact ⟨rfl, rfl⟩
theorem fr_zero {b : Int} (h : b ≠ 0) : fr 0 b = .tup [.int 0, .int 1] := by
  have e := fr_eq (t := 0) (b := b) (t' := 0) (b' := 1) h (by decide) (by rw [Int.zero_mul, Int.zero_mul])
  rw [e]
  rfl
theorem frB_le {t b : Int} (h : b ≠ 0) : (frB t b).natAbs ≤ b.natAbs := by
  have e := congrArg Int.natAbs (fr_b t b)
  rw [Int.natAbs_mul] at e
  have : 0 < (sg t b).natAbs := by have := sg_ne (t := t) h; omega
  rw [← e]
  exact Nat.le_mul_of_pos_left _ this
theorem frT_le {t b : Int} (h : b ≠ 0) : (frT t b).natAbs ≤ t.natAbs := by
  have e := congrArg Int.natAbs (fr_t t b)
  rw [Int.natAbs_mul] at e
  have : 0 < (sg t b).natAbs := by have := sg_ne (t := t) h; omega
  rw [← e]
  exact Nat.le_mul_of_pos_left _ this
theorem sg_small {t b : Int} {n : Nat} (h : b ≠ 0) (hn : b.natAbs < 2 ^ n) : (sg t b).natAbs < 2 ^ n := by
  rw [sg_natAbs]
  exact Nat.lt_of_le_of_lt (Nat.le_of_dvd (by omega) (Int.gcd_dvd_natAbs_right t b)) hn
/-- a bottom that the reckoning takes -/
def okB (b : Int) : Prop := b ≠ 0 ∧ b.natAbs < 2 ^ 9000
theorem okB.fuel {b : Int} (h : okB b) : b.natAbs < fuel := Nat.lt_of_lt_of_le h.2 (by unfold MR.fuel; exact Nat.pow_le_pow_right (by decide) (by decide))
theorem okB.div {t b : Int} (h : okB b) : divOk (sg t b) := divOk_of (sg_ne h.1) (sg_small h.1 h.2) (by decide) (by decide)
theorem most3 : 2 ≤ most := by decide
theorem low_eq {t b : Int} (h : okB b) (S : Sto) : m__law_low [.int t, .int b] S = .ok (fr t b) S := by
  have e := loop_low S (.val (.int t)) (.val (.int b)) fuel (t.natAbs : Int) (b.natAbs : Int) (by omega) (by omega) (by have := h.fuel; omega)
  have e2 : Int.gcd (t.natAbs : Int) (b.natAbs : Int) = Int.gcd t b := by simp [Int.gcd]
  rw [e2] at e
  have hd := h.div (t := t)
  refine dDef_ret (σ' := [.val (.int t), .val (.int b), .val (.int (sg t b)), .val (.int 0)]) ?_
  unfold sg at hd
  by_cases hb : b < 0
  · rw [if_pos hb] at hd
    have hs : sg t b = -(Int.gcd t b : Int) := if_pos hb
    simp [b__law_low, e, hb, fr, frT, frB, hs, hd, most3]
  · rw [if_neg hb] at hd
    have hs : sg t b = (Int.gcd t b : Int) := if_neg hb
    simp [b__law_low, e, hb, fr, frT, frB, hs, hd, most3]
theorem part_eq {t b : Int} (h : okB b) (S : Sto) : m_part [.int t, .int b] S = .ok (fr t b) S := by
  have hd := h.div (t := t)
  by_cases hb : b < 0
  · have hs : sg t b = -(Int.gcd t b : Int) := if_pos hb
    have em := measure_eq (-t) (-b) S (by have := h.fuel; omega)
    rw [Int.neg_gcd, Int.gcd_neg] at em
    have hd2 : divOk (Int.gcd t b : Int) := by
      have : (Int.gcd t b : Int) = -(sg t b) := by rw [hs, Int.neg_neg]
      rw [this]
      unfold divOk at hd ⊢
      rw [Int.natAbs_neg]
      exact ⟨by omega, hd.2⟩
    have e1 : frT t b = (-t).fdiv (Int.gcd t b : Int) := by
      unfold frT
      rw [hs, ← Int.neg_fdiv_neg, Int.neg_neg]
    have e2 : frB t b = (-b).fdiv (Int.gcd t b : Int) := by
      unfold frB
      rw [hs, ← Int.neg_fdiv_neg, Int.neg_neg]
    refine dDef_ret (σ' := [.val (.int (-t)), .val (.int (-b)), .val (.int (Int.gcd t b))]) ?_
    simp [b_part, hb, em, hd2, fr, e1, e2, most3]
  · have hs : sg t b = (Int.gcd t b : Int) := if_neg hb
    have em := measure_eq t b S h.fuel
    rw [hs] at hd
    refine dDef_ret (σ' := [.val (.int t), .val (.int b), .val (.int (Int.gcd t b))]) ?_
    simp [b_part, hb, em, hd, fr, frT, frB, hs, most3]
theorem scaled_eq {t b m : Int} (h : okB b) (hm : mulOk t m) (S : Sto) : m_scaled [.tup [.int t, .int b], .int m] S = .ok (fr (t * m) b) S := by
  refine dDef_ret (σ' := [.val (.tup [.int t, .int b]), .val (.int m)]) ?_
  have e := part_eq (t := t * m) h S
  have a0 : L2.atI [D.int t, D.int b] 0 = some (.int t) := rfl
  have a1 : L2.atI [D.int t, D.int b] 1 = some (.int b) := rfl
  simp [b_scaled, a0, a1, hm, e]
  simp [fr]
end MR

set_option Elab.async false
set_option linter.all false
set_option maxRecDepth 100000
/-! P2: names. -/
namespace MR
open PySem

def abc : Str := "abcdefghijklmnopqrstuvwxyz"
def letter (c : Nat) : Bool := hasC abc c
def letters (t : Str) : Bool := t.cps.toList.all letter
def isNm (t : Str) : Bool := (decide (1 ≤ t.length) && decide (t.length ≤ 8)) && letters t
/-- a test of a text's signs, by a comprehension -/
theorem signs_lc {i : Nat} {e : DE} {σ σ' : Sl} {S : Sto} {it : DI} {t : Str} (p : Nat → Bool) (a : D → Sl) (hi : it σ S = .ok (signs t) σ' S) (hno : noOwn σ' [i] = true) (hl : t.length ≤ most)
    (st : ∀ c : Nat, (gN i) (.str ⟨#[c]⟩) (wipeD σ' [i]) = some (a (.str ⟨#[c]⟩)) ∧ wipeD (a (.str ⟨#[c]⟩)) [i] = wipeD σ' [i] ∧ dV e (a (.str ⟨#[c]⟩)) S = .ok (.bl (p c)) (a (.str ⟨#[c]⟩)) S) :
    dLc it (gN i) tTrue e [i] σ S = .ok (.lst (t.cps.toList.map fun c => .bl (p c))) σ' S := by
  have := dLc_map (it := it) (g := gN i) (e := e) (vs := [i]) a (fun d => match d with
    | .str x => .bl (p (x.cps.getD 0 0))
    | d => d) hi hno (by unfold signs; rw [List.length_map]; exact hl) fun d hd => by
      unfold signs at hd
      obtain ⟨c, _, rfl⟩ := List.mem_map.mp hd
      exact st c
  rw [this]
  unfold signs
  rw [List.map_map]
  rfl
theorem is_name_eq {t : Str} (h : t.length ≤ most) (S : Sto) : m_is_name [.str t] S = .ok (.bl (isNm t)) S := by
  have e : dLc (iStr (dVar 0)) (gN 1) tTrue le_is_name_1 [1] [.val (.str t), .emp] S = .ok (.lst (t.cps.toList.map fun c => .bl (letter c))) [.val (.str t), .emp] S :=
    signs_lc letter (fun d => [.val (.str t), .val d]) (by simp) rfl h fun c => ⟨rfl, rfl, by simp [le_is_name_1, opIn_sign]; rfl⟩
  refine dDef_ret (σ' := [.val (.str t), .emp]) ?_
  unfold isNm letters
  by_cases h1 : 1 ≤ t.length
  · by_cases h8 : t.length ≤ 8
    · have h1' : (1 : Int) ≤ (t.length : Int) := by omega
      have h8' : (t.length : Int) ≤ 8 := by omega
      simp [b_is_name, h, h1', h8', e, opAll_map, h1, h8]
    · have h1' : (1 : Int) ≤ (t.length : Int) := by omega
      have h8' : ¬ (t.length : Int) ≤ 8 := by omega
      simp [b_is_name, h, h1', h8', h1, h8]
  · have h1' : ¬ (1 : Int) ≤ (t.length : Int) := by omega
    simp [b_is_name, h, h1', h1]
end MR

set_option Elab.async false
set_option linter.all false
set_option maxRecDepth 100000
set_option exponentiation.threshold 30000
/-! PL2: rules for running denotations with dicts and objects. -/
namespace MR
open PySem

section
variable {σ : Sl} {S : Sto} {i j : Int} {x y : Str} {a b w : D} {r : Nat} {c : String} {cs : List String} {fs : List (String × D)} {l : List (Kk × D)} {k : Kk}
@[simp] theorem deref_obj {lk : Bool} (h : S[r]? = some (.con lk w)) : deref σ S (.obj r) = some w := by unfold deref; simp only; rw [h]
@[simp] theorem chg_obj (h : S[r]? = some (.con false a)) : chg σ S (.obj r) w = some (σ, S.set r (.con false w)) := by unfold chg; simp only; rw [h]
@[simp] theorem objAt_obj (h : S[r]? = some (.ins c fs)) (hc : c ∈ cs) : objAt cs S (.obj r) = some (r, c, fs) := by
  unfold objAt
  simp only [h]
  rw [if_pos hc]
@[simp] theorem fget_cons {f g : String} : fget ((g, w) :: fs) f = if g = f then some w else fget fs f := by
  unfold fget
  rw [List.find?_cons]
  by_cases h : g = f
  · simp [h]
  · have e : (g == f) = false := beq_eq_false_iff_ne.mpr h
    simp only [e, h, if_false]
@[simp] theorem fget_nil {f : String} : fget [] f = none := rfl
@[simp] theorem fput_nil {f : String} : fput f w [] = [(f, w)] := rfl
@[simp] theorem fput_cons {f g : String} : fput f w ((g, a) :: fs) = if g = f then (g, w) :: fs else (g, a) :: fput f w fs := rfl
@[simp] theorem keyD_int : keyD (.int i) = some (.inl i) := rfl
@[simp] theorem keyD_str : keyD (.str x) = some (.inr x) := rfl
@[simp] theorem opGet_dK : opGet (.dK l) a = (keyD a).bind (valD l) := rfl
@[simp] theorem opGet_lst {l : List D} : opGet (.lst l) (.int i) = L2.atI l i := rfl
@[simp] theorem opGet_tup {l : List D} : opGet (.tup l) (.int i) = L2.atI l i := rfl
theorem opGet_ix (h : ∀ l, a ≠ .dK l) : opGet a b = opIx a b := by
  cases a with
  | dK l => exact absurd rfl (h l)
  | _ => rfl
@[simp] theorem opInG_dK (h : keyD a = some k) : opInG a (.dK l) = some (.bl (valD l k).isSome) := by
  show ((keyD a).map _).map _ = _
  rw [h]
  rfl
@[simp] theorem opNotInG_dK (h : keyD a = some k) : opNotInG a (.dK l) = some (.bl (!(valD l k).isSome)) := by
  show ((keyD a).map _).map _ = _
  rw [h]
  rfl
@[simp] theorem opInG_lst {l : List D} : opInG a (.lst l) = opIn a (.lst l) := by unfold opInG opIn; cases a <;> rfl
@[simp] theorem opNotInG_lst {l : List D} : opNotInG a (.lst l) = opNotIn a (.lst l) := by unfold opNotInG opNotIn; cases a <;> rfl
@[simp] theorem dFld_def {f : String} {fo : DE} : dFld cs f fo σ S = (fo σ S).bind fun x σ S => ofOpt ((objAt cs S x).bind fun p => fget p.2.2 f) σ S := rfl
@[simp] theorem sFldD_def {f : String} {fo fv : DE} : sFldD cs f fo fv σ S = (dV fv σ S).bind fun w σ S => (fo σ S).bind fun x σ S => match objAt cs S x with
  | some (r, c, fs) => if fs.length < 1000 then .ok .next σ (S.set r (.ins c (fput f w fs))) else .fail
  | none => .fail := rfl
@[simp] theorem dAlloc_def {f : DE} : dAlloc f σ S = (f σ S).bind fun w σ S => if scalar w then .ok w σ S else .ok (.obj S.length) σ (S ++ [.con false w]) := rfl
@[simp] theorem scalar_dK : scalar (.dK l) = false := rfl
@[simp] theorem pNil_def : pNil σ S = .ok [] σ S := rfl
@[simp] theorem pCons_def {f g : DE} {r : DP} : pCons f g r σ S = (f σ S).bind fun x σ S => match keyD x with
  | some k => (dV g σ S).bind fun w σ S => (r σ S).bind fun ps σ S => .ok ((k, w) :: ps) σ S
  | none => .fail := rfl
@[simp] theorem dDisp_def {r : DP} : dDisp r σ S = (r σ S).bind fun ps σ S => .ok (.dK (mergeD [] ps)) σ S := rfl
@[simp] theorem sDPutD_def {fd fy fv : DE} : sDPutD fd fy fv σ S = (dV fv σ S).bind fun w σ S => (fd σ S).bind fun x σ S => (fy σ S).bind fun y σ S => match deref σ S x, keyD y with
  | some (.dK l), some k => if l.length < most then ofMutS (chg σ S x (.dK (putD l k w))) else .fail
  | _, _ => .fail := rfl
@[simp] theorem ofMutS_some : ofMutS (some (σ, S)) = .ok .next σ S := rfl
@[simp] theorem isDct_dK : isDct (.dK l) = true := rfl
@[simp] theorem kGet_1 (h : keyD b = some k) : kGet a (.dK l) [b] σ S = .ok ((valD l k).getD .non) σ S := by unfold kGet; simp only; rw [h]
@[simp] theorem kGet_2 (h : keyD b = some k) : kGet a (.dK l) [b, w] σ S = .ok ((valD l k).getD w) σ S := by unfold kGet; simp only; rw [h]
@[simp] theorem outR_ok : outR (.ok w S) σ = .ok w σ S := rfl
@[simp] theorem outR_exc {e : Exn} : outR (.exc e S) σ = .exc e σ S := rfl
@[simp] theorem dMet_def {m : String} {tbl : List (String × Den)} {fo : DE} {fa : DA} : dMet m tbl fo fa σ S = (fo σ S).bind fun x σ S => match objAt (tbl.map (·.1)) S x with
  | some (_, c, fs) => (match fget fs m with
    | some _ => .fail
    | none => (fa σ S).bind fun ws σ S => match tbl.find? (fun p => p.1 == c) with
      | some p => outR (p.2 (x :: ws) S) σ
      | none => .fail)
  | none => .fail := rfl
@[simp] theorem dMake_def {d : Den} {fa : DA} : dMake c d fa σ S = (fa σ S).bind fun ws σ S => match d (.obj S.length :: ws) (S ++ [.ins c []]) with
  | .ok .non S' => .ok (.obj S.length) σ S'
  | .ok _ _ => .fail
  | .exc e S' => .exc e σ S'
  | .fail => .fail := rfl
@[simp] theorem mergeD_nil : mergeD l [] = l := rfl
@[simp] theorem mergeD_cons {p : Kk × D} {ps : List (Kk × D)} : mergeD l (p :: ps) = mergeD (putD l p.1 p.2) ps := rfl
end
/-! ### dicts -/
section
variable {κ : Type} [DecidableEq κ] {l : List (κ × D)} {k j : κ} {w : D}
@[simp] theorem valD_nil : valD ([] : List (κ × D)) k = none := rfl
theorem valD_cons {p : κ × D} : valD (p :: l) k = if p.1 = k then some p.2 else valD l k := by
  unfold valD
  rw [List.find?_cons]
  by_cases h : p.1 = k
  · simp [h]
  · simp [h]
theorem valD_any : (l.any fun kv => decide (kv.1 = k)) = (valD l k).isSome := by
  induction l with
  | nil => rfl
  | cons p l ih =>
    rw [List.any_cons, valD_cons, ih]
    by_cases h : p.1 = k <;> simp [h]
theorem valD_app : valD (l ++ [(j, w)]) k = if (valD l k).isSome then valD l k else if j = k then some w else none := by
  induction l with
  | nil => rw [List.nil_append, valD_cons]; rfl
  | cons p l ih =>
    rw [List.cons_append, valD_cons, valD_cons, ih]
    by_cases h : p.1 = k <;> simp [h]
theorem valD_map : valD (l.map fun kv => if kv.1 = j then (kv.1, w) else kv) k = if j = k ∧ (valD l k).isSome then some w else valD l k := by
  induction l with
  | nil => simp
  | cons p l ih =>
    rw [List.map_cons, valD_cons, valD_cons, ih]
    by_cases h : p.1 = k
    · by_cases hj : j = k
      · simp [h, hj]
      · have : ¬ k = j := fun e => hj e.symm
        simp [h, hj, this]
    · by_cases hj : p.1 = j
      · by_cases hjk : j = k
        · exact absurd (hj.trans hjk) h
        · simp [h, hj, hjk]
      · simp [h, hj]
theorem valD_put : valD (putD l j w) k = if j = k then some w else valD l k := by
  unfold putD
  rw [valD_any]
  by_cases hs : (valD l j).isSome = true
  · rw [if_pos hs, valD_map]
    by_cases h : j = k
    · subst h; simp [hs]
    · simp [h]
  · rw [if_neg hs, valD_app]
    by_cases h : j = k
    · subst h; simp [hs]
    · simp only [h, if_false]
      cases valD l k <;> simp
theorem putD_len : (putD l k w).length ≤ l.length + 1 := by
  unfold putD
  split
  · rw [List.length_map]; omega
  · rw [List.length_append]; simp
end
/-! ### while -/
theorem sWhile_false {c : DT} {f : DS} {n : Nat} {σ σ1 : Sl} {S S1 : Sto} (h : c σ S = .ok false σ1 S1) : sWhile c f (n + 1) σ S = .ok .next σ1 S1 := by
  rw [sWhile_step, h]
  rfl
theorem sWhile_next {c : DT} {f : DS} {n : Nat} {σ σ1 σ2 : Sl} {S S1 S2 : Sto} (h : c σ S = .ok true σ1 S1) (h2 : f σ1 S1 = .ok .next σ2 S2) : sWhile c f (n + 1) σ S = sWhile c f n σ2 S2 := by
  rw [sWhile_step, h]
  dsimp only [Res.bind]
  rw [if_pos rfl, h2]
theorem sWhile_ret {c : DT} {f : DS} {n : Nat} {σ σ1 σ2 : Sl} {S S1 S2 : Sto} {w : D} (h : c σ S = .ok true σ1 S1) (h2 : f σ1 S1 = .ok (.ret w) σ2 S2) : sWhile c f (n + 1) σ S = .ok (.ret w) σ2 S2 := by
  rw [sWhile_step, h]
  dsimp only [Res.bind]
  rw [if_pos rfl, h2]
/-- more turns are no harm -/
theorem sWhile_more {c : DT} {f : DS} : ∀ {n m : Nat} {σ σ' : Sl} {S S' : Sto} {fl : Fl}, sWhile c f n σ S = .ok fl σ' S' → n ≤ m → sWhile c f m σ S = .ok fl σ' S'
  | 0, _, _, _, _, _, _, h, _ => by cases h
  | n + 1, m, σ, σ', S, S', fl, h, hm => by
    obtain ⟨m, rfl⟩ : ∃ k, m = k + 1 := ⟨m - 1, by omega⟩
    rw [sWhile_step] at h ⊢
    cases e : c σ S with
    | fail => rw [e] at h; cases h
    | exc a _ _ => rw [e] at h; cases h
    | ok b σ1 S1 =>
      rw [e] at h
      dsimp only [Res.bind] at h ⊢
      split
      · rename_i hb
        rw [if_pos hb] at h
        cases e2 : f σ1 S1 with
        | fail => rw [e2] at h; cases h
        | exc a _ _ => rw [e2] at h; cases h
        | ok x σ2 S2 =>
          rw [e2] at h
          cases x with
          | next => exact sWhile_more (n := n) (m := m) h (by omega)
          | cnt => exact sWhile_more (n := n) (m := m) h (by omega)
          | brk => exact h
          | ret w => exact h
      · rename_i hb
        rw [if_neg hb] at h
        exact h
theorem fuel_big : 10000000 ≤ fuel := by
  unfold fuel
  exact Nat.le_trans (by decide : 10000000 ≤ 2 ^ 24) (Nat.pow_le_pow_right (by decide) (by decide))
end MR

set_option Elab.async false
set_option linter.all false
set_option maxRecDepth 100000
set_option exponentiation.threshold 30000
/-! P3: sums of fractions; numbers of many figures. -/
namespace MR
open PySem

def tenS (k : Nat) : Str := ("1" : Str) ++ repS "0" k
theorem ten_ok : ∀ k : Fin 24, ∃ n : Fin (10 ^ 24), PySem.intText? (tenS k.val) = some (n.val : Int) ∧ (tenS k.val).length ≤ 640 ∧ (("1" : Str).length + (repS "0" k.val).length ≤ most) ∧ ("0" : Str).length * k.val ≤ most := by
  intro k
  refine ⟨⟨10 ^ k.val, Nat.pow_lt_pow_right (by decide) k.isLt⟩, ?_⟩
  revert k
  decide +kernel
theorem atI_map {f : Int → D} {l : List Int} {n : Nat} (h : n < l.length) : L2.atI (l.map f) (n : Int) = some (f (l[n]'h)) := by
  refine L2.atI_nat ?_
  rw [List.getElem?_map, List.getElem?_eq_getElem h]
  rfl
theorem atI3 {a b c : D} {n : Int} (h0 : 0 ≤ n) (h1 : n < 3) : ∃ d, L2.atI [a, b, c] n = some d ∧ (d = a ∨ d = b ∨ d = c) := by
  have : n = 0 ∨ n = 1 ∨ n = 2 := by omega
  rcases this with rfl | rfl | rfl
  · exact ⟨a, rfl, .inl rfl⟩
  · exact ⟨b, rfl, .inr (.inl rfl)⟩
  · exact ⟨c, rfl, .inr (.inr rfl)⟩
theorem big_ok {l : List Int} (hl : 3 ≤ l.length) (hg : Good l) (S : Sto) : ∃ v : Int, v.natAbs < 2 ^ 100 ∧ m__law_big [.lst (l.map D.int)] S = .ok (.int v) S := by
  have a0 := atI_map (f := D.int) (l := l) (n := 0) (by omega)
  have a1 := atI_map (f := D.int) (l := l) (n := 1) (by omega)
  have a2 := atI_map (f := D.int) (l := l) (n := 2) (by omega)
  have g1 := hg _ (List.getElem_mem (h := show 1 < l.length by omega))
  generalize hx0 : l[0]'(by omega) = x0 at a0
  generalize hx1 : l[1]'(by omega) = x1 at a1 g1
  generalize hx2 : l[2]'(by omega) = x2 at a2
  have a0 : L2.atI (l.map D.int) 0 = some (.int x0) := a0
  have a1 : L2.atI (l.map D.int) 1 = some (.int x1) := a1
  have a2 : L2.atI (l.map D.int) 2 = some (.int x2) := a2
  obtain ⟨⟨n, hn⟩, e1, e2, e3, e4⟩ := ten_ok ⟨(x1 % 24).toNat, by omega⟩
  have e1 : PySem.intText? (("1" : Str) ++ repS "0" (x1 % 24).toNat) = some (n : Int) := e1
  have em : opMul' (.str "0") (.int (x1 % 24)) = some (.str (repS "0" (x1 % 24).toNat)) := if_pos ⟨by omega, by omega, e4⟩
  have e2 : ((("1" : Str) ++ repS "0" (x1 % 24).toNat)).length ≤ 640 := e2
  have ei : opIntS (.str (("1" : Str) ++ repS "0" (x1 % 24).toNat)) = some (.int n) := by
    show (if _ then _ else _) = _
    rw [if_pos e2, e1]
    rfl
  have mo : mulOk (x0 % 1000) n := mulS (by omega) (by omega)
  have d24 : divOk 24 := by decide
  have pn : x0 % 1000 * (n : Int) < 1000 * 10 ^ 24 := by
    have h1 : x0 % 1000 * (n : Int) ≤ 999 * (n : Int) := Int.mul_le_mul_of_nonneg_right (by omega) (by omega)
    omega
  have p0 : 0 ≤ x0 % 1000 * (n : Int) := Int.mul_nonneg (by omega) (by omega)
  obtain ⟨d, ed, hd⟩ := atI3 (a := .int (x0 % 1000 * n + x2 % 7)) (b := .int (0 - (x0 % 1000 * n + x2 % 7))) (c := .int (x2 % 13 - 6)) (n := x1.fdiv 24 % 3) (by omega) (by omega)
  obtain ⟨v, rfl, hv⟩ : ∃ v : Int, d = .int v ∧ v.natAbs < 2 ^ 100 := by
    rcases hd with rfl | rfl | rfl
    · exact ⟨_, rfl, by omega⟩
    · exact ⟨_, rfl, by omega⟩
    · exact ⟨_, rfl, by omega⟩
  refine ⟨v, hv, dDef_ret (σ' := [.val (.lst (l.map D.int)), .val (.int (x0 % 1000 * n + x2 % 7))]) ?_⟩
  have m3 : 3 ≤ most := by decide
  simp [b__law_big, a0, a1, a2, em, e3, ei, mo, m3, d24]
  simp at ed
  simp [ed]
theorem parts_same {t b : Int} (hb : b ≠ 0) (S : Sto) : m__law_parts_same [fr t b, fr t b] S = .ok (.bl true) S := by
  have hp : plain 8 (fr t b) = true := rfl
  have hs := same_ok (S := S) hp
  have hf := plain_frz hp
  refine dDef_ret (σ' := [.val (fr t b), .val (fr t b)]) ?_
  have a1 : opIx (fr t b) (.int 1) = some (.int (frB t b)) := rfl
  have hd : ∀ σ : Sl, deref σ S (fr t b) = some (fr t b) := fun _ => rfl
  simp [b__law_parts_same, hf, hs, a1, hd, frB_pos hb]
theorem Good.drop {l : List Int} (h : Good l) (n : Nat) : Good (l.drop n) := fun v hv => h v (List.mem_of_mem_drop hv)
abbrev Fr := Int × Int
def encF (p : Fr) : D := .tup [.int p.1, .int p.2]
/-- a fraction whose parts have less than n bits -/
structure Sz (n : Nat) (p : Fr) : Prop where
  t : p.1.natAbs < 2 ^ n
  b : p.2.natAbs < 2 ^ n
  pos : 0 < p.2
theorem Sz.mono {n m : Nat} {p : Fr} (h : Sz n p) (hm : n ≤ m) : Sz m p := ⟨Nat.lt_of_lt_of_le h.t (Nat.pow_le_pow_right (by decide) hm), Nat.lt_of_lt_of_le h.b (Nat.pow_le_pow_right (by decide) hm), h.pos⟩
def addF (p q : Fr) : Fr := (frT (p.1 * q.2 + q.1 * p.2) (p.2 * q.2), frB (p.1 * q.2 + q.1 * p.2) (p.2 * q.2))
def subF (p q : Fr) : Fr := (frT (p.1 * q.2 - q.1 * p.2) (p.2 * q.2), frB (p.1 * q.2 - q.1 * p.2) (p.2 * q.2))
theorem mul_bits {i j : Int} {a b : Nat} (ha : i.natAbs < 2 ^ a) (hb : j.natAbs < 2 ^ b) : (i * j).natAbs < 2 ^ (a + b) := by
  rw [Int.natAbs_mul, Nat.pow_add]
  exact Nat.mul_lt_mul'' ha hb
theorem Sz.bb {n m : Nat} {p q : Fr} (h : Sz n p) (k : Sz m q) : p.2 * q.2 ≠ 0 := by
  have := Int.mul_pos h.pos k.pos
  omega
theorem Sz.add {n m : Nat} {p q : Fr} (h : Sz n p) (k : Sz m q) : Sz (n + m + 1) (addF p q) := by
  have h0 := h.bb k
  have b1 := mul_bits h.t k.b
  have b2 := mul_bits k.t h.b
  have b3 := mul_bits h.b k.b
  have p2 : 2 ^ (n + m + 1) = 2 ^ (n + m) + 2 ^ (n + m) := by rw [Nat.pow_succ]; omega
  rw [Nat.add_comm m n] at b2
  refine ⟨Nat.lt_of_le_of_lt (frT_le h0) ?_, Nat.lt_of_le_of_lt (frB_le h0) ?_, frB_pos h0⟩
  · have := Int.natAbs_add_le (p.1 * q.2) (q.1 * p.2)
    omega
  · omega
theorem Sz.sub {n m : Nat} {p q : Fr} (h : Sz n p) (k : Sz m q) : Sz (n + m + 1) (subF p q) := by
  have h0 := h.bb k
  have b1 := mul_bits h.t k.b
  have b2 := mul_bits k.t h.b
  have b3 := mul_bits h.b k.b
  have p2 : 2 ^ (n + m + 1) = 2 ^ (n + m) + 2 ^ (n + m) := by rw [Nat.pow_succ]; omega
  rw [Nat.add_comm m n] at b2
  refine ⟨Nat.lt_of_le_of_lt (frT_le h0) ?_, Nat.lt_of_le_of_lt (frB_le h0) ?_, frB_pos h0⟩
  · have := Int.natAbs_sub_le (p.1 * q.2) (q.1 * p.2)
    omega
  · omega
theorem Sz.mulOk {i j : Int} {n m : Nat} (h : i.natAbs < 2 ^ n) (k : j.natAbs < 2 ^ m) (hn : n + m ≤ 9000) : MR.mulOk i j := mulOk_of (a := n + 1) (b := m + 1) (Nat.lt_of_lt_of_le h (Nat.pow_le_pow_right (by decide) (by omega))) (Nat.lt_of_lt_of_le k (Nat.pow_le_pow_right (by decide) (by omega))) (by omega) (by omega) (by omega)
theorem Sz.okB {n m : Nat} {p q : Fr} (h : Sz n p) (k : Sz m q) (hn : n + m ≤ 9000) : MR.okB (p.2 * q.2) := ⟨h.bb k, Nat.lt_of_lt_of_le (mul_bits h.b k.b) (Nat.pow_le_pow_right (by decide) hn)⟩
theorem ix0 (p : Fr) : opIx (encF p) (.int 0) = some (.int p.1) := rfl
theorem ix1 (p : Fr) : opIx (encF p) (.int 1) = some (.int p.2) := rfl
@[simp] theorem deref_F (p : Fr) (σ : Sl) (S : Sto) : deref σ S (encF p) = some (encF p) := rfl
@[simp] theorem frz_F (p : Fr) (σ : Sl) (S : Sto) : frz (encF p) σ S = .ok (encF p) σ S := rfl
theorem plus_eq {n m : Nat} {p q : Fr} (h : Sz n p) (k : Sz m q) (hn : n + m ≤ 9000) (S : Sto) : m_plus [encF p, encF q] S = .ok (encF (addF p q)) S := by
  have e := part_eq (t := p.1 * q.2 + q.1 * p.2) (h.okB k hn) S
  have e : m_part [.int (p.1 * q.2 + q.1 * p.2), .int (p.2 * q.2)] S = .ok (encF (addF p q)) S := e
  have m1 := Sz.mulOk h.t k.b hn
  have m2 := Sz.mulOk k.t h.b (by omega)
  have m3 := Sz.mulOk h.b k.b hn
  exact dDef_ret (σ' := [.val (encF p), .val (encF q)]) (by simp [b_plus, ix0, ix1, m1, m2, m3, e])
theorem minus_eq {n m : Nat} {p q : Fr} (h : Sz n p) (k : Sz m q) (hn : n + m ≤ 9000) (S : Sto) : m_minus [encF p, encF q] S = .ok (encF (subF p q)) S := by
  have e := part_eq (t := p.1 * q.2 - q.1 * p.2) (h.okB k hn) S
  have e : m_part [.int (p.1 * q.2 - q.1 * p.2), .int (p.2 * q.2)] S = .ok (encF (subF p q)) S := e
  have m1 := Sz.mulOk h.t k.b hn
  have m2 := Sz.mulOk k.t h.b (by omega)
  have m3 := Sz.mulOk h.b k.b hn
  exact dDef_ret (σ' := [.val (encF p), .val (encF q)]) (by simp [b_minus, ix0, ix1, m1, m2, m3, e])
theorem ladd_eq {n m : Nat} {p q : Fr} (h : Sz n p) (k : Sz m q) (hn : n + m ≤ 9000) (S : Sto) : m__law_add [encF p, encF q] S = .ok (encF (addF p q)) S := by
  have e := low_eq (t := p.1 * q.2 + q.1 * p.2) (h.okB k hn) S
  have e : m__law_low [.int (p.1 * q.2 + q.1 * p.2), .int (p.2 * q.2)] S = .ok (encF (addF p q)) S := e
  have m1 := Sz.mulOk h.t k.b hn
  have m2 := Sz.mulOk k.t h.b (by omega)
  have m3 := Sz.mulOk h.b k.b hn
  exact dDef_ret (σ' := [.val (encF p), .val (encF q)]) (by simp [b__law_add, ix0, ix1, m1, m2, m3, e])
/-- a sum, step by step -/
def sumF (p : Fr) (l : List Fr) : Fr := l.foldl addF p
theorem sum_Sz {n : Nat} {p : Fr} (h : Sz n p) : ∀ (l : List Fr), (∀ q ∈ l, Sz 101 q) → Sz (n + 102 * l.length) (sumF p l)
  | [], _ => h
  | q :: l, hl => by
    have := sum_Sz (h.add (hl q (List.mem_cons_self ..))) l fun r hr => hl r (List.mem_cons_of_mem _ hr)
    rw [List.length_cons]
    exact this.mono (by omega)
theorem total_loop {S : Sto} {a0 : Slot} {f : DS} {i j : Nat} : True := trivial
theorem parts_sameF {p : Fr} (hp : 0 < p.2) (S : Sto) : m__law_parts_same [encF p, encF p] S = .ok (.bl true) S := by
  have hpl : plain 8 (encF p) = true := rfl
  have hs := same_ok (S := S) hpl
  refine dDef_ret (σ' := [.val (encF p), .val (encF p)]) ?_
  simp [b__law_parts_same, hs, ix1, hp]
end MR

set_option Elab.async false
set_option linter.all false
set_option maxRecDepth 100000
/-! P4: texts; drawn names. -/
namespace MR
open PySem

/-- a text of these signs -/
def txt (l : List Nat) : Str := ⟨l.toArray⟩
@[simp] theorem txt_len (l : List Nat) : (txt l).length = l.length := by unfold txt Str.length; simp
@[simp] theorem txt_cps (l : List Nat) : (txt l).cps.toList = l := by unfold txt; simp
theorem txt_of (z : Str) : txt z.cps.toList = z := by unfold txt; cases z; simp
theorem txt_inj {l m : List Nat} (h : txt l = txt m) : l = m := by
  have := congrArg (fun z : Str => z.cps.toList) h
  simpa using this
theorem txt_app (l m : List Nat) : txt l ++ txt m = txt (l ++ m) := by
  show Str.append _ _ = _
  unfold Str.append txt
  simp
theorem join_signs (l : List Nat) : Txt.join "" (l.map fun c => txt [c]) = txt l := by
  show Builtin.Str.glued _ _ = _
  rw [StrLaws.glued_eq_join]
  induction l with
  | nil => rfl
  | cons c l ih =>
    cases l with
    | nil => rfl
    | cons c2 l =>
      show txt [c] ++ ("" : Str) ++ Str.join "" ((c2 :: l).map fun c => txt [c]) = _
      rw [ih]
      have : ("" : Str) = txt [] := by decide +kernel
      rw [this, txt_app, txt_app]
      rfl
theorem cutS_to (l : List Nat) (n : Nat) : L2.cutS (txt l) none (some (n : Int)) = txt (l.take n) := by
  have := cutL_to l n
  unfold cutL at this
  unfold L2.cutS
  rw [txt_len, txt_cps, this]
  rfl
theorem cutS_from (l : List Nat) (n : Nat) : L2.cutS (txt l) (some (n : Int)) none = txt (l.drop n) := by
  have := cutL_from l n
  unfold cutL at this
  unfold L2.cutS
  rw [txt_len, txt_cps, this]
  rfl
theorem rep_sign (c n : Nat) : repS (txt [c]) n = txt (List.replicate n c) := by
  unfold repS
  rw [txt_cps]
  congr 2
  induction n with
  | zero => rfl
  | succ n ih => rw [List.replicate_succ, List.flatten_cons, ih, List.replicate_succ]; rfl
theorem abc_at : ∀ k : Fin 26, abc.cps.toList[k.val]? = some (97 + k.val) := by decide +kernel
theorem abc_let : ∀ k : Fin 26, letter (97 + k.val) = true := by decide +kernel
theorem abc_len : abc.length = 26 := by decide +kernel
theorem abc_ix (v : Int) : opIx (.str abc) (.int (v % 26)) = some (.str (txt [97 + (v % 26).toNat])) := by
  have h := abc_at ⟨(v % 26).toNat, by omega⟩
  have h2 := L2.atI_nat h
  rw [Int.toNat_of_nonneg (by omega)] at h2
  have e : opIx (.str abc) (.int (v % 26)) = if abc.length ≤ most then (L2.atI abc.cps.toList (v % 26)).map (fun c => D.str ⟨#[c]⟩) else none := rfl
  rw [e, if_pos (by rw [abc_len]; decide), h2]
  rfl
theorem letter_of (v : Int) : letter (97 + (v % 26).toNat) = true := abc_let ⟨(v % 26).toNat, by omega⟩
/-- a drawn name -/
def nmOf (base : List Nat) (at_ : Nat) (rep : Bool) (x0 x3 : Int) (k : Nat) : List Nat :=
  if rep then List.replicate (1 + (x0 + 3 * k) % 8).toNat (97 + ((x3 + 7 * k) % 26).toNat) else base.take at_ ++ (97 + ((x3 + 7 * k) % 26).toNat) :: base.drop at_
theorem nmOf_ok {base : List Nat} {at_ : Nat} {rep : Bool} {x0 x3 : Int} {k : Nat} (hb : base.length ≤ 7) (hl : ∀ c ∈ base, letter c = true) : isNm (txt (nmOf base at_ rep x0 x3 k)) = true := by
  have key : ∀ l : List Nat, 1 ≤ l.length → l.length ≤ 8 → (∀ c ∈ l, letter c = true) → isNm (txt l) = true := fun l h1 h2 h3 => by
    unfold isNm letters
    rw [txt_len, txt_cps, Bool.and_eq_true, Bool.and_eq_true, decide_eq_true_iff, decide_eq_true_iff, List.all_eq_true]
    exact ⟨⟨h1, h2⟩, h3⟩
  unfold nmOf
  cases rep with
  | true =>
    rw [if_pos rfl]
    refine key _ (by rw [List.length_replicate]; omega) (by rw [List.length_replicate]; omega) fun c hc => ?_
    rw [List.eq_of_mem_replicate hc]
    exact letter_of _
  | false =>
    rw [if_neg Bool.false_ne_true]
    refine key _ (by simp; omega) (by simp; omega) fun c hc => ?_
    rcases List.mem_append.mp hc with hc | hc
    · exact hl c (List.mem_of_mem_take hc)
    · rcases List.mem_cons.mp hc with rfl | hc
      · exact letter_of _
      · exact hl c (List.mem_of_mem_drop hc)
theorem nmOf_inj {base : List Nat} {at_ : Nat} {rep : Bool} {x0 x3 : Int} {k j : Nat} (ha : at_ ≤ base.length) (hk : k < 26) (hj : j < 26) (h : nmOf base at_ rep x0 x3 k = nmOf base at_ rep x0 x3 j) : k = j := by
  have : (97 + ((x3 + 7 * k) % 26).toNat) = (97 + ((x3 + 7 * j) % 26).toNat) := by
    unfold nmOf at h
    cases rep with
    | true =>
      rw [if_pos rfl, if_pos rfl] at h
      have e1 : (1 + (x0 + 3 * (k : Int)) % 8).toNat = ((x0 + 3 * (k : Int)) % 8).toNat + 1 := by omega
      have e2 : (1 + (x0 + 3 * (j : Int)) % 8).toNat = ((x0 + 3 * (j : Int)) % 8).toNat + 1 := by omega
      rw [e1, e2, List.replicate_succ, List.replicate_succ] at h
      injection h
    | false =>
      rw [if_neg Bool.false_ne_true, if_neg Bool.false_ne_true] at h
      have := (List.append_cancel_left_eq _ _ _).mp h
      injection this
  omega
/-- the base of drawn names -/
def baseOf (x0 x1 : Int) : List Nat := (List.range (x1 % 8).toNat).map fun k => 97 + ((x0 + ((k : Nat) + 1) * x1.fdiv 8) % 26).toNat
theorem baseOf_len (x0 x1 : Int) : (baseOf x0 x1).length = (x1 % 8).toNat := by unfold baseOf; rw [List.length_map, List.length_range]
theorem baseOf_let (x0 x1 : Int) : ∀ c ∈ baseOf x0 x1, letter c = true := fun c hc => by
  obtain ⟨k, _, rfl⟩ := List.mem_map.mp hc
  exact letter_of _
structure Nms (n : Nat) (l : List Str) : Prop where
  len : l.length = n
  nd : l.Nodup
  nm : ∀ x ∈ l, isNm x = true
theorem nm_loop {ds : List D} {x0 x2 x3 : Int} {base : List Nat} {at_ : Nat} (h0 : L2.atI ds 0 = some (.int x0)) (h2 : L2.atI ds 2 = some (.int x2)) (h3 : L2.atI ds 3 = some (.int x3)) (g0 : 0 ≤ x0 ∧ x0 < 1000003) (g3 : 0 ≤ x3 ∧ x3 < 1000003)
    (hb : base.length ≤ 7) (ha : at_ ≤ base.length) (n : Nat) (hn : n ≤ 26) {s1 s6 s7 s8 : Slot} (S : Sto) : ∃ u6 u7 u8, forL (gN 6) fb__law_names_2 (ran 0 n) [.val (.lst ds), s1, .val (.str abc), .val (.str (txt base)), .val (.int at_), .own (.lst []), s6, s7, s8] S =
      .ok .next [.val (.lst ds), s1, .val (.str abc), .val (.str (txt base)), .val (.int at_), .own (.lst ((List.range n).map fun k => .str (txt (nmOf base at_ (decide (x2.fdiv 8 % 2 = 1)) x0 x3 k)))), u6, u7, u8] S := by
  obtain ⟨σ', S', e, rfl, t6, t7, t8, rfl⟩ := forL_inv (g := gN 6) (f := fb__law_names_2) (fun i σ S' => S' = S ∧ ∃ s6 s7 s8, σ = [.val (.lst ds), s1, .val (.str abc), .val (.str (txt base)), .val (.int at_), .own (.lst ((List.range i).map fun k => .str (txt (nmOf base at_ (decide (x2.fdiv 8 % 2 = 1)) x0 x3 k)))), s6, s7, s8]) (ran 0 n) 0 [.val (.lst ds), s1, .val (.str abc), .val (.str (txt base)), .val (.int at_), .own (.lst []), s6, s7, s8] S ⟨rfl, s6, s7, s8, rfl⟩ (by
    rintro i d σ S' hi ⟨rfl, s6, s7, s8, rfl⟩
    have hin : i < n := by
      have := (List.getElem?_eq_some_iff.mp hi).1
      simp [ran] at this
      omega
    have hd : d = .int (i : Nat) := by
      unfold ran at hi
      rw [List.getElem?_map] at hi
      obtain ⟨k, hk, rfl⟩ := Option.map_eq_some_iff.mp hi
      rw [List.getElem?_range (by omega)] at hk
      cases hk
      simp
    subst hd
    refine ⟨_, rfl, ?_⟩
    rw [Nat.zero_add]
    generalize hacc : ((List.range i).map fun k => D.str (txt (nmOf base at_ (decide (x2.fdiv 8 % 2 = 1)) x0 x3 k))) = acc
    have hal : acc.length < most := by rw [← hacc, List.length_map, List.length_range]; unfold most; omega
    have e1 : (List.range (i + 1)).map (fun k => D.str (txt (nmOf base at_ (decide (x2.fdiv 8 % 2 = 1)) x0 x3 k))) = acc ++ [.str (txt (nmOf base at_ (decide (x2.fdiv 8 % 2 = 1)) x0 x3 i))] := by
      rw [List.range_succ, List.map_append, hacc]; rfl
    rw [e1]
    have m7 : mulOk 7 (i : Int) := mulS (by omega) (by omega)
    have m3 : mulOk 3 (i : Int) := mulS (by omega) (by omega)
    have d8 : divOk 8 := by decide
    have es := abc_ix (x3 + 7 * (i : Int))
    have c1 := cutS_to base at_
    have c2 := cutS_from base at_
    have hbm : base.length ≤ most := by unfold most; omega
    have eA : opAdd (.str (txt (base.take at_))) (.str (txt [97 + ((x3 + 7 * (i : Int)) % 26).toNat])) = some (.str (txt (base.take at_ ++ [97 + ((x3 + 7 * (i : Int)) % 26).toNat]))) := by
      rw [opAdd_str (by rw [txt_len, txt_len, List.length_take, List.length_singleton]; unfold most; omega), txt_app]
    have eB : opAdd (.str (txt (base.take at_ ++ [97 + ((x3 + 7 * (i : Int)) % 26).toNat]))) (.str (txt (base.drop at_))) = some (.str (txt (base.take at_ ++ (97 + ((x3 + 7 * (i : Int)) % 26).toNat) :: base.drop at_))) := by
      rw [opAdd_str (by rw [txt_len, txt_len, List.length_append, List.length_take, List.length_singleton, List.length_drop]; unfold most; omega), txt_app, List.append_assoc]
      rfl
    have eM : opMul' (.str (txt [97 + ((x3 + 7 * (i : Int)) % 26).toNat])) (.int (1 + (x0 + 3 * (i : Int)) % 8)) = some (.str (txt (List.replicate (1 + (x0 + 3 * (i : Int)) % 8).toNat (97 + ((x3 + 7 * (i : Int)) % 26).toNat)))) := by
      have : opMul' (.str (txt [97 + ((x3 + 7 * (i : Int)) % 26).toNat])) (.int (1 + (x0 + 3 * (i : Int)) % 8)) = some (.str (repS (txt [97 + ((x3 + 7 * (i : Int)) % 26).toNat]) (1 + (x0 + 3 * (i : Int)) % 8).toNat)) := if_pos ⟨by omega, by omega, by rw [txt_len, List.length_singleton]; unfold most; omega⟩
      rw [this, rep_sign]
    by_cases hr : x2.fdiv 8 % 2 = 1
    · refine ⟨[.val (.lst ds), s1, .val (.str abc), .val (.str (txt base)), .val (.int at_), .own (.lst (acc ++ [.str (txt (nmOf base at_ (decide (x2.fdiv 8 % 2 = 1)) x0 x3 i))])), .val (.int i), .val (.str (txt [97 + ((x3 + 7 * (i : Int)) % 26).toNat])), .val (.str (txt (nmOf base at_ (decide (x2.fdiv 8 % 2 = 1)) x0 x3 i)))], S', ?_, rfl, _, _, _, rfl⟩
      have en : nmOf base at_ (decide (x2.fdiv 8 % 2 = 1)) x0 x3 i = List.replicate (1 + (x0 + 3 * (i : Int)) % 8).toNat (97 + ((x3 + 7 * (i : Int)) % 26).toNat) := by unfold nmOf; rw [if_pos (decide_eq_true hr)]
      rw [en]
      generalize List.replicate (1 + (x0 + 3 * (i : Int)) % 8).toNat (97 + ((x3 + 7 * (i : Int)) % 26).toNat) = z at *
      generalize txt [97 + ((x3 + 7 * (i : Int)) % 26).toNat] = sg at *
      generalize base.take at_ = z1 at *
      simp [fb__law_names_2, h0, h2, h3, m7, m3, d8, es, hbm, c1, c2, eA, eB, eM, hr, hal]
    · refine ⟨[.val (.lst ds), s1, .val (.str abc), .val (.str (txt base)), .val (.int at_), .own (.lst (acc ++ [.str (txt (nmOf base at_ (decide (x2.fdiv 8 % 2 = 1)) x0 x3 i))])), .val (.int i), .val (.str (txt [97 + ((x3 + 7 * (i : Int)) % 26).toNat])), .val (.str (txt (nmOf base at_ (decide (x2.fdiv 8 % 2 = 1)) x0 x3 i)))], S', ?_, rfl, _, _, _, rfl⟩
      have en : nmOf base at_ (decide (x2.fdiv 8 % 2 = 1)) x0 x3 i = base.take at_ ++ (97 + ((x3 + 7 * (i : Int)) % 26).toNat) :: base.drop at_ := by unfold nmOf; rw [if_neg]; simp [hr]
      rw [en]
      generalize base.take at_ ++ (97 + ((x3 + 7 * (i : Int)) % 26).toNat) :: base.drop at_ = z at *
      generalize txt [97 + ((x3 + 7 * (i : Int)) % 26).toNat] = sg at *
      generalize base.take at_ ++ [97 + ((x3 + 7 * (i : Int)) % 26).toNat] = z2 at *
      simp [fb__law_names_2, h0, h2, h3, m7, m3, d8, es, hbm, c1, c2, eA, eB, hr, hal])
  have : 0 + (ran 0 (n : Int)).length = n := by simp [ran]
  rw [this] at e
  exact ⟨t6, t7, t8, e⟩
theorem ran_mem {n : Int} {d : D} (h : d ∈ ran 0 n) : ∃ k : Nat, (k : Int) < n ∧ d = .int k := by
  unfold ran at h
  obtain ⟨k, hk, rfl⟩ := List.mem_map.mp h
  rw [List.mem_range] at hk
  exact ⟨k, by omega, by simp⟩
theorem ran_map {α : Type} (f : D → α) (n : Int) : (ran 0 n).map f = (List.range n.toNat).map fun k => f (.int (k : Nat)) := by
  unfold ran
  rw [List.map_map]
  simp
theorem names_end {ds out : List D} {m a : Int} {z tb : Str} {S : Sto} {u6 u7 u8 : Slot} (hsn : small m) (el : forL (gN 6) fb__law_names_2 (ran 0 m) [.val (.lst ds), .val (.int m), .val (.str z), .val (.str tb), .val (.int a), .own (.lst []), .emp, .emp, .emp] S = .ok .next [.val (.lst ds), .val (.int m), .val (.str z), .val (.str tb), .val (.int a), .own (.lst out), u6, u7, u8] S) :
  sSeq (sSetO 5 (dLst aNil)) (sSeq (sFor (iRan1 (dVar 1)) (gN 6) fb__law_names_2) (sRetO 5)) [.val (.lst ds), .val (.int m), .val (.str z), .val (.str tb), .val (.int a), .emp, .emp, .emp, .emp] S = .ok (.ret (.lst out)) [.val (.lst ds), .val (.int m), .val (.str z), .val (.str tb), .val (.int a), .own (.lst out), u6, u7, u8] S := by
  have m0 : 0 ≤ most := Nat.zero_le _
  simp [m0, hsn, el]
theorem names_ok {l : List Int} (hl : 4 ≤ l.length) (hg : Good l) (n : Nat) (hn : n ≤ 26) (S : Sto) : ∃ ys : List Str, Nms n ys ∧ m__law_names [.lst (l.map D.int), .int n] S = .ok (.lst (ys.map D.str)) S := by
  have a0 := atI_map (f := D.int) (l := l) (n := 0) (by omega)
  have a1 := atI_map (f := D.int) (l := l) (n := 1) (by omega)
  have a2 := atI_map (f := D.int) (l := l) (n := 2) (by omega)
  have a3 := atI_map (f := D.int) (l := l) (n := 3) (by omega)
  have g0 := hg _ (List.getElem_mem (h := show 0 < l.length by omega))
  have g1 := hg _ (List.getElem_mem (h := show 1 < l.length by omega))
  have g3 := hg _ (List.getElem_mem (h := show 3 < l.length by omega))
  generalize l[0]'(by omega) = x0 at a0 g0
  generalize l[1]'(by omega) = x1 at a1 g1
  generalize l[2]'(by omega) = x2 at a2
  generalize l[3]'(by omega) = x3 at a3 g3
  have a0 : L2.atI (l.map D.int) 0 = some (.int x0) := a0
  have a1 : L2.atI (l.map D.int) 1 = some (.int x1) := a1
  have a2 : L2.atI (l.map D.int) 2 = some (.int x2) := a2
  have a3 : L2.atI (l.map D.int) 3 = some (.int x3) := a3
  generalize l.map D.int = ds at *
  have hb : (baseOf x0 x1).length ≤ 7 := by rw [baseOf_len]; omega
  have hsm : small (x1 % 8) := ⟨by omega, by omega⟩
  have habc : ("abcdefghijklmnopqrstuvwxyz" : Str) = abc := rfl
  have d8 : divOk 8 := by decide
  have f8 : 0 ≤ x1.fdiv 8 ∧ x1.fdiv 8 < 1000003 := by rw [Int.fdiv_eq_ediv_of_nonneg _ (by omega)]; omega
  have ec : dLc (iRan1 (d2 opMod (d2 opIx (dVar 0) (dC (.int 1))) (dC (.int 8)))) (gN 6) tTrue le__law_names_1 [6] [.val (.lst ds), .val (.int n), .val (.str abc), .emp, .emp, .emp, .emp, .emp, .emp] S = .ok (.lst ((baseOf x0 x1).map fun c => .str (txt [c]))) [.val (.lst ds), .val (.int n), .val (.str abc), .emp, .emp, .emp, .emp, .emp, .emp] S := by
    have := dLc_map (it := iRan1 (d2 opMod (d2 opIx (dVar 0) (dC (.int 1))) (dC (.int 8)))) (g := gN 6) (e := le__law_names_1) (vs := [6]) (σ := [.val (.lst ds), .val (.int n), .val (.str abc), .emp, .emp, .emp, .emp, .emp, .emp]) (σ' := [.val (.lst ds), .val (.int n), .val (.str abc), .emp, .emp, .emp, .emp, .emp, .emp]) (S := S) (items := ran 0 (x1 % 8))
      (fun d => [.val (.lst ds), .val (.int n), .val (.str abc), .emp, .emp, .emp, .val d, .emp, .emp]) (fun d => match d with
        | .int k => .str (txt [97 + ((x0 + (k + 1) * x1.fdiv 8) % 26).toNat])
        | d => d) (by simp [a1, hsm]) rfl (by unfold ran most; rw [List.length_map, List.length_range]; omega) fun d hd => by
          obtain ⟨k, hk, rfl⟩ := ran_mem hd
          have m1 : mulOk ((k : Int) + 1) (x1.fdiv 8) := mulS (by omega) (by omega)
          have es := abc_ix (x0 + ((k : Int) + 1) * x1.fdiv 8)
          exact ⟨rfl, rfl, by simp [le__law_names_1, a0, a1, d8, m1, es]⟩
    rw [this, ran_map]
    unfold baseOf
    rw [List.map_map]
    rfl
  have ej : opJoin (.str "") (.lst ((baseOf x0 x1).map fun c => .str (txt [c]))) = some (.str (txt (baseOf x0 x1))) := by
    have e1 : ((baseOf x0 x1).map fun c => D.str (txt [c])) = ((baseOf x0 x1).map fun c => txt [c]).map D.str := by rw [List.map_map]; rfl
    rw [e1]
    show (strsD _).bind _ = _
    rw [strsD_map]
    show (if _ then _ else _) = _
    have hs : ∀ z : List Nat, ((z.map fun c => txt [c]).map (·.length)).sum = z.length := by
      intro z
      induction z with
      | nil => rfl
      | cons c z ih => rw [List.map_cons, List.map_cons, List.sum_cons, ih, txt_len, List.length_cons]; simp; omega
    have he0 : ("" : Str).length = 0 := by decide +kernel
    rw [if_pos (by rw [hs, he0, List.length_map]; unfold most; omega), join_signs]
  have hbl := baseOf_let x0 x1
  generalize baseOf x0 x1 = base at *
  have hat : ∃ at_ : Nat, x2 % ((base.length : Int) + 1) = at_ ∧ at_ ≤ base.length := by
    have h1 := Int.emod_nonneg x2 (b := (base.length : Int) + 1) (by omega)
    have h2 := Int.emod_lt_of_pos x2 (b := (base.length : Int) + 1) (by omega)
    exact ⟨(x2 % ((base.length : Int) + 1)).toNat, by omega, by omega⟩
  obtain ⟨at_, eat, hat⟩ := hat
  obtain ⟨u6, u7, u8, el⟩ := nm_loop a0 a2 a3 g0 g3 hb hat n hn (s1 := .val (.int n)) (s6 := .emp) (s7 := .emp) (s8 := .emp) S
  refine ⟨(List.range n).map fun k => txt (nmOf base at_ (decide (x2.fdiv 8 % 2 = 1)) x0 x3 k), ⟨by rw [List.length_map, List.length_range], ?_, fun y hy => ?_⟩, ?_⟩
  · unfold List.Nodup
    rw [List.pairwise_map]
    refine List.Pairwise.imp_of_mem (fun {a b} ha hb' hne e => hne (nmOf_inj hat ?_ ?_ (txt_inj e))) (List.nodup_range (n := n))
    · rw [List.mem_range] at ha; omega
    · rw [List.mem_range] at hb'; omega
  · obtain ⟨k, _, rfl⟩ := List.mem_map.mp hy
    exact nmOf_ok hb hbl
  · rw [List.map_map]
    have hsn : small (n : Int) := ⟨by omega, by omega⟩
    have hbm : base.length ≤ most := by unfold most; omega
    have hp : (0 : Int) < (base.length : Int) + 1 := by omega
    have m0 : 0 ≤ most := Nat.zero_le _
    refine dDef_ret (σ' := [.val (.lst ds), .val (.int n), .val (.str abc), .val (.str (txt base)), .val (.int at_), .own (.lst ((List.range n).map fun k => .str (txt (nmOf base at_ (decide (x2.fdiv 8 % 2 = 1)) x0 x3 k)))), u6, u7, u8]) ?_
    have ho : ((List.range n).map (D.str ∘ fun k => txt (nmOf base at_ (decide (x2.fdiv 8 % 2 = 1)) x0 x3 k))) = ((List.range n).map fun k => D.str (txt (nmOf base at_ (decide (x2.fdiv 8 % 2 = 1)) x0 x3 k))) := rfl
    rw [ho]
    generalize ((List.range n).map fun k => D.str (txt (nmOf base at_ (decide (x2.fdiv 8 % 2 = 1)) x0 x3 k))) = out at el
    have hbm : (txt base).length ≤ most := by rw [txt_len]; exact hbm
    have hlen : opLen (.str (txt base)) = some (.int base.length) := by rw [opLen_str hbm, txt_len]
    have hmod : opMod (.int x2) (.int ((base.length : Int) + 1)) = some (.int at_) := by rw [opMod_int hp, eat]
    generalize txt base = tb at *
    show b__law_names [.val (.lst ds), .val (.int n), .emp, .emp, .emp, .emp, .emp, .emp, .emp] S = _
    unfold b__law_names
    rw [habc]
    rw [sSeq_next (σ1 := [.val (.lst ds), .val (.int n), .val (.str abc), .emp, .emp, .emp, .emp, .emp, .emp]) (S1 := S) (by simp)]
    rw [sSeq_next (σ1 := [.val (.lst ds), .val (.int n), .val (.str abc), .val (.str tb), .emp, .emp, .emp, .emp, .emp]) (S1 := S) (by simp [ec, ej])]
    rw [sSeq_next (σ1 := [.val (.lst ds), .val (.int n), .val (.str abc), .val (.str tb), .val (.int at_), .emp, .emp, .emp, .emp]) (S1 := S) (by simp [a2, hlen, hmod])]
    exact names_end hsn el
end MR

set_option Elab.async false
set_option linter.all false
set_option maxRecDepth 100000
/-! PQ: equality of data. -/
namespace MR
open PySem

/-- data that == tells apart as the trees are apart: no bool in it, texts in order -/
def gr : Nat → D → Bool
  | _, .non => true
  | _, .int _ => true
  | _, .str x => PyData.strOk x
  | n + 1, .tup l => l.all (gr n)
  | n + 1, .lst l => l.all (gr n)
  | _, _ => false
theorem toDatas_cons (d : D) (ds : List D) : toData.toDatas (d :: ds) = (toData d).bind fun x => (toData.toDatas ds).map fun xs => x :: xs := rfl
theorem gr_data : ∀ (n : Nat) (d : D), gr n d = true → ∃ x, toData d = some x ∧ x.canLay0 = true ∧ x.depth ≤ n
  | n, .non, _ => ⟨_, rfl, rfl, Nat.zero_le _⟩
  | n, .int i, _ => ⟨_, rfl, rfl, Nat.zero_le _⟩
  | n, .str x, h => ⟨_, rfl, by cases n <;> exact h, Nat.zero_le _⟩
  | n + 1, .tup l, h => by
    have ih := gr_data n
    have : ∀ l : List D, l.all (gr n) = true → ∃ xs, toData.toDatas l = some xs ∧ PyData.canLayAll0 xs = true ∧ PyData.depthAll xs ≤ n := by
      intro l
      induction l with
      | nil => exact fun _ => ⟨[], rfl, rfl, Nat.zero_le _⟩
      | cons d ds hi =>
        intro h
        rw [List.all_cons, Bool.and_eq_true] at h
        obtain ⟨x, e1, e2, e3⟩ := ih d h.1
        obtain ⟨xs, f1, f2, f3⟩ := hi h.2
        refine ⟨x :: xs, by rw [toDatas_cons, e1, f1]; rfl, by rw [PyData.canLayAll0, e2, f2]; rfl, ?_⟩
        rw [PyData.depthAll]
        omega
    obtain ⟨xs, e1, e2, e3⟩ := this l h
    refine ⟨.tuple xs, ?_, e2, ?_⟩
    · show (toData.toDatas l).map _ = _
      rw [e1]; rfl
    · rw [PyData.depth]; omega
  | n + 1, .lst l, h => by
    have ih := gr_data n
    have : ∀ l : List D, l.all (gr n) = true → ∃ xs, toData.toDatas l = some xs ∧ PyData.canLayAll0 xs = true ∧ PyData.depthAll xs ≤ n := by
      intro l
      induction l with
      | nil => exact fun _ => ⟨[], rfl, rfl, Nat.zero_le _⟩
      | cons d ds hi =>
        intro h
        rw [List.all_cons, Bool.and_eq_true] at h
        obtain ⟨x, e1, e2, e3⟩ := ih d h.1
        obtain ⟨xs, f1, f2, f3⟩ := hi h.2
        refine ⟨x :: xs, by rw [toDatas_cons, e1, f1]; rfl, by rw [PyData.canLayAll0, e2, f2]; rfl, ?_⟩
        rw [PyData.depthAll]
        omega
    obtain ⟨xs, e1, e2, e3⟩ := this l h
    refine ⟨.list xs, ?_, e2, ?_⟩
    · show (toData.toDatas l).map _ = _
      rw [e1]; rfl
    · rw [PyData.depth]; omega
  | 0, .tup _, h => nomatch h
  | 0, .lst _, h => nomatch h
  | 0, .bl _, h => nomatch h
  | _ + 1, .bl _, h => nomatch h
  | 0, .dK _, h => nomatch h
  | _ + 1, .dK _, h => nomatch h
  | 0, .dT _, h => nomatch h
  | _ + 1, .dT _, h => nomatch h
  | 0, .obj _, h => nomatch h
  | _ + 1, .obj _, h => nomatch h
  | 0, .loc _, h => nomatch h
  | _ + 1, .loc _, h => nomatch h
  | 0, .scr _, h => nomatch h
  | _ + 1, .scr _, h => nomatch h
def nb : PyData → Bool
  | .bool _ => false
  | _ => true
theorem gr_tup {n : Nat} {l : List D} (h : gr n (.tup l) = true) : ∃ m, n = m + 1 ∧ l.all (gr m) = true := by
  cases n with
  | zero => cases h
  | succ m => exact ⟨m, rfl, h⟩
theorem gr_lst {n : Nat} {l : List D} (h : gr n (.lst l) = true) : ∃ m, n = m + 1 ∧ l.all (gr m) = true := by
  cases n with
  | zero => cases h
  | succ m => exact ⟨m, rfl, h⟩
theorem toData_tup {l : List D} {x : PyData} (h : toData (.tup l) = some x) : ∃ xs, toData.toDatas l = some xs ∧ x = .tuple xs := by
  obtain ⟨xs, g1, g2⟩ := Option.map_eq_some_iff.mp (show (toData.toDatas _).map _ = some _ from h)
  exact ⟨xs, g1, g2.symm⟩
theorem toData_lst {l : List D} {x : PyData} (h : toData (.lst l) = some x) : ∃ xs, toData.toDatas l = some xs ∧ x = .list xs := by
  obtain ⟨xs, g1, g2⟩ := Option.map_eq_some_iff.mp (show (toData.toDatas _).map _ = some _ from h)
  exact ⟨xs, g1, g2.symm⟩
def EqvAt (n : Nat) : Prop := ∀ (a b : D) (m : Nat) (x y : PyData), gr n a = true → gr m b = true → toData a = some x → toData b = some y → (PyData.eqv x y = true ↔ a = b)
theorem eqvAll_iff {n : Nat} (ih : EqvAt n) : ∀ (l k : List D) (m : Nat) (xs ys : List PyData), l.all (gr n) = true → k.all (gr m) = true → toData.toDatas l = some xs → toData.toDatas k = some ys → (PyData.eqvAll xs ys = true ↔ l = k) := by
  intro l
  induction l with
  | nil =>
    intro k m xs ys _ _ e1 e2
    cases e1
    cases k with
    | nil => cases e2; simp [PyData.eqvAll]
    | cons d ds =>
      rw [toDatas_cons] at e2
      obtain ⟨y, f1, f2⟩ := Option.bind_eq_some_iff.mp e2
      obtain ⟨ys, f3, rfl⟩ := Option.map_eq_some_iff.mp f2
      simp [PyData.eqvAll]
  | cons c cs hi =>
    intro k m xs ys h1 h2 e1 e2
    rw [toDatas_cons] at e1
    obtain ⟨x, f1, f2⟩ := Option.bind_eq_some_iff.mp e1
    obtain ⟨xs, f3, rfl⟩ := Option.map_eq_some_iff.mp f2
    rw [List.all_cons, Bool.and_eq_true] at h1
    cases k with
    | nil => cases e2; simp [PyData.eqvAll]
    | cons d ds =>
      rw [toDatas_cons] at e2
      obtain ⟨y, g1, g2⟩ := Option.bind_eq_some_iff.mp e2
      obtain ⟨ys, g3, rfl⟩ := Option.map_eq_some_iff.mp g2
      rw [List.all_cons, Bool.and_eq_true] at h2
      rw [PyData.eqvAll, Bool.and_eq_true, ih c d m x y h1.1 h2.1 f1 g1, hi ds m xs ys h1.2 h2.2 f3 g3]
      simp
theorem gr_cases {n : Nat} {a : D} (h : gr n a = true) : a = .non ∨ (∃ i, a = .int i) ∨ (∃ x, a = .str x) ∨ (∃ l, a = .tup l) ∨ ∃ l, a = .lst l := by
  cases a with
  | non => exact .inl rfl
  | int i => exact .inr (.inl ⟨_, rfl⟩)
  | str x => exact .inr (.inr (.inl ⟨_, rfl⟩))
  | tup l => exact .inr (.inr (.inr (.inl ⟨_, rfl⟩)))
  | lst l => exact .inr (.inr (.inr (.inr ⟨_, rfl⟩)))
  | _ => cases n <;> cases h
theorem eqvAt : ∀ n, EqvAt n := by
  intro n
  induction n with
  | zero =>
    intro a b m x y h1 h2 e1 e2
    rcases gr_cases h1 with rfl | ⟨i, rfl⟩ | ⟨z, rfl⟩ | ⟨l, rfl⟩ | ⟨l, rfl⟩ <;> rcases gr_cases h2 with rfl | ⟨j, rfl⟩ | ⟨z', rfl⟩ | ⟨k, rfl⟩ | ⟨k, rfl⟩ <;> first
      | (cases h1; done)
      | (cases e1; cases e2; simp [PyData.eqv]; done)
      | (cases e1; obtain ⟨ys, _, rfl⟩ := toData_tup e2; simp [PyData.eqv]; done)
      | (cases e1; obtain ⟨ys, _, rfl⟩ := toData_lst e2; simp [PyData.eqv]; done)
  | succ n ih =>
    intro a b m x y h1 h2 e1 e2
    rcases gr_cases h1 with rfl | ⟨i, rfl⟩ | ⟨z, rfl⟩ | ⟨l, rfl⟩ | ⟨l, rfl⟩ <;> rcases gr_cases h2 with rfl | ⟨j, rfl⟩ | ⟨z', rfl⟩ | ⟨k, rfl⟩ | ⟨k, rfl⟩ <;> first
      | (cases e1; cases e2; simp [PyData.eqv]; done)
      | (cases e1; obtain ⟨ys, _, rfl⟩ := toData_tup e2; simp [PyData.eqv]; done)
      | (cases e1; obtain ⟨ys, _, rfl⟩ := toData_lst e2; simp [PyData.eqv]; done)
      | (cases e2; obtain ⟨ys, _, rfl⟩ := toData_tup e1; simp [PyData.eqv]; done)
      | (cases e2; obtain ⟨ys, _, rfl⟩ := toData_lst e1; simp [PyData.eqv]; done)
      | (obtain ⟨xs, f1, rfl⟩ := toData_tup e1; obtain ⟨ys, _, rfl⟩ := toData_lst e2; simp [PyData.eqv]; done)
      | (obtain ⟨xs, f1, rfl⟩ := toData_lst e1; obtain ⟨ys, _, rfl⟩ := toData_tup e2; simp [PyData.eqv]; done)
      | (obtain ⟨xs, f1, rfl⟩ := toData_tup e1
         obtain ⟨ys, f2, rfl⟩ := toData_tup e2
         obtain ⟨m', rfl, h3⟩ := gr_tup h2
         rw [PyData.eqv, eqvAll_iff ih l k m' xs ys h1 h3 f1 f2]
         simp; done)
      | (obtain ⟨xs, f1, rfl⟩ := toData_lst e1
         obtain ⟨ys, f2, rfl⟩ := toData_lst e2
         obtain ⟨m', rfl, h3⟩ := gr_lst h2
         rw [PyData.eqv, eqvAll_iff ih l k m' xs ys h1 h3 f1 f2]
         simp; done)
theorem deepEq_gr {n m : Nat} {a b : D} (ha : gr n a = true) (hb : gr m b = true) (hn : n ≤ 64) (hm : m ≤ 64) : ∃ z : Bool, deepEq a b = some z ∧ (z = true ↔ a = b) := by
  obtain ⟨x, e1, e2, e3⟩ := gr_data n a ha
  obtain ⟨y, f1, f2, f3⟩ := gr_data m b hb
  refine ⟨PyData.eqv x y, ?_, eqvAt n a b m x y ha hb e1 f1⟩
  unfold deepEq
  rw [e1, f1]
  show (if _ then _ else _) = _
  rw [if_pos]
  unfold SeqAt.shaped
  rw [e2, f2]
  simp
  omega
theorem eqD_gr {n m : Nat} {a b : D} (ha : gr n a = true) (hb : gr m b = true) (hn : n ≤ 64) (hm : m ≤ 64) : ∃ z : Bool, eqD a b = some z ∧ (z = true ↔ a = b) := by
  have h := deepEq_gr ha hb hn hm
  rcases gr_cases ha with rfl | ⟨i, rfl⟩ | ⟨z, rfl⟩ | ⟨l, rfl⟩ | ⟨l, rfl⟩ <;> rcases gr_cases hb with rfl | ⟨j, rfl⟩ | ⟨z', rfl⟩ | ⟨k, rfl⟩ | ⟨k, rfl⟩ <;> first
    | exact h
    | (refine ⟨_, rfl, ?_⟩; simp; done)
theorem opEq_self {n : Nat} {a : D} (ha : gr n a = true) (hn : n ≤ 64) : opEq' a a = some (.bl true) := by
  obtain ⟨z, e, h⟩ := eqD_gr ha ha hn hn
  unfold opEq'
  rw [e, h.mpr rfl]
  rfl
theorem opNe_self {n : Nat} {a : D} (ha : gr n a = true) (hn : n ≤ 64) : opNe' a a = some (.bl false) := by
  obtain ⟨z, e, h⟩ := eqD_gr ha ha hn hn
  unfold opNe'
  rw [e, h.mpr rfl]
  rfl
theorem opEq_ne {n m : Nat} {a b : D} (ha : gr n a = true) (hb : gr m b = true) (hn : n ≤ 64) (hm : m ≤ 64) (hab : a ≠ b) : opEq' a b = some (.bl false) := by
  obtain ⟨z, e, h⟩ := eqD_gr ha hb hn hm
  unfold opEq'
  rw [e]
  cases z with
  | true => exact absurd (h.mp rfl) hab
  | false => rfl
theorem opNe_ne {n m : Nat} {a b : D} (ha : gr n a = true) (hb : gr m b = true) (hn : n ≤ 64) (hm : m ≤ 64) (hab : a ≠ b) : opNe' a b = some (.bl true) := by
  obtain ⟨z, e, h⟩ := eqD_gr ha hb hn hm
  unfold opNe'
  rw [e]
  cases z with
  | true => exact absurd (h.mp rfl) hab
  | false => rfl
end MR

set_option Elab.async false
set_option linter.all false
set_option maxRecDepth 100000
set_option exponentiation.threshold 30000
/-! P5: kin: who is dead, who takes after whom. -/
namespace MR
open PySem

theorem opIn_strs (x : Str) (l : List Str) : opIn (.str x) (.lst (l.map D.str)) = some (.bl (decide (x ∈ l))) := by
  have hf : (l.map D.str).all flatD = true := by
    rw [List.all_map, List.all_eq_true]
    intro _ _
    rfl
  have e : inA (.str x) (.lst (l.map D.str)) = some (inD (.str x) (l.map D.str)) := by
    show (if flatD (.str x) && (l.map D.str).all flatD then _ else _) = _
    rw [hf]
    rfl
  unfold opIn
  rw [e]
  have : inD (.str x) (l.map D.str) = decide (x ∈ l) := by
    unfold inD L2.inV
    rw [List.map_map, List.any_map]
    rw [Bool.eq_iff_iff, List.any_eq_true, decide_eq_true_iff]
    constructor
    · rintro ⟨y, hy, e⟩
      have e : L2.eqV (.str y) (.str x) = true := e
      have : y = x := by simpa [L2.eqV] using e
      exact this ▸ hy
    · intro h
      exact ⟨x, h, by show L2.eqV (.str x) (.str x) = true; simp [L2.eqV]⟩
  rw [this]
  rfl
theorem opNotIn_strs (x : Str) (l : List Str) : opNotIn (.str x) (.lst (l.map D.str)) = some (.bl (!decide (x ∈ l))) := by
  have h := opIn_strs x l
  unfold opIn at h
  unfold opNotIn
  cases e : inA (.str x) (.lst (l.map D.str)) with
  | none => rw [e] at h; cases h
  | some b =>
    rw [e] at h
    have h : some (D.bl b) = some (D.bl (decide (x ∈ l))) := h
    injection h with h
    injection h with h
    rw [h]
    rfl
def encO : Option Str → D
  | none => .non
  | some y => .str y
/-- the dict's values are texts -/
def SV' (h : List (Kk × D)) : Prop := ∀ k w, valD h k = some w → ∃ y, w = .str y
def nxt (h : List (Kk × D)) (x : Str) : Option Str := match valD h (.inr x) with
  | some (.str y) => some y
  | _ => none
theorem nxt_enc {h : List (Kk × D)} (hs : SV' h) (x : Str) : (valD h (.inr x)).getD .non = encO (nxt h x) := by
  unfold nxt
  cases e : valD h (.inr x) with
  | none => rfl
  | some w => obtain ⟨y, rfl⟩ := hs _ _ e; rfl
theorem nxt_some {h : List (Kk × D)} (hs : SV' h) (x : Str) : (valD h (.inr x)).isSome = (nxt h x).isSome := by
  unfold nxt
  cases e : valD h (.inr x) with
  | none => rfl
  | some w => obtain ⟨y, rfl⟩ := hs _ _ e; rfl
theorem nxt_val {h : List (Kk × D)} {x y : Str} (e : nxt h x = some y) : valD h (.inr x) = some (.str y) := by
  unfold nxt at e
  split at e
  · rename_i z hz; cases e; exact hz
  · cases e
/-- who takes -/
def tkF (nx : Str → Option Str) (dead : Str → Bool) : Nat → List Str → Str → Option (Option Str)
  | 0, _, _ => none
  | n + 1, met, last => match nx last with
    | none => some none
    | some one => if one ∈ met then some none else if dead one = true then tkF nx dead n (met ++ [one]) one else some (some one)
structure KinAt (S : Sto) (r a b : Nat) (h g : List (Kk × D)) : Prop where
  o : S[r]? = some (.ins "Kin" [("heirs", .obj a), ("gone", .obj b)])
  h : S[a]? = some (.con false (.dK h))
  g : S[b]? = some (.con false (.dK g))
section
variable {S : Sto} {r a b : Nat} {h g : List (Kk × D)}
theorem KinAt.ob (K : KinAt S r a b h g) : objAt ["Kin"] S (.obj r) = some (r, "Kin", [("heirs", .obj a), ("gone", .obj b)]) := objAt_obj K.o (by simp)
theorem KinAt.dh (K : KinAt S r a b h g) (σ : Sl) : deref σ S (.obj a) = some (.dK h) := deref_obj K.h
theorem KinAt.dg (K : KinAt S r a b h g) (σ : Sl) : deref σ S (.obj b) = some (.dK g) := deref_obj K.g
theorem KinAt.ch (K : KinAt S r a b h g) (σ : Sl) (w : D) : chg σ S (.obj a) w = some (σ, S.set a (.con false w)) := chg_obj K.h
theorem KinAt.cg (K : KinAt S r a b h g) (σ : Sl) (w : D) : chg σ S (.obj b) w = some (σ, S.set b (.con false w)) := chg_obj K.g
theorem is_dead_eq (K : KinAt S r a b h g) (x : Str) : m_Kin_is_dead [.obj r, .str x] S = .ok (.bl (valD g (.inr x)).isSome) S :=
  dDef_ret (σ' := [.val (.obj r), .val (.str x)]) (by simp [b_Kin_is_dead, K.ob, K.dg])
theorem die_eq (K : KinAt S r a b h g) (x : Str) (hl : g.length < most) : m_Kin_die [.obj r, .str x] S = .ok .non (S.set b (.con false (.dK (putD g (.inr x) (.bl true))))) :=
  dDef_next (σ' := [.val (.obj r), .val (.str x)]) (by simp [b_Kin_die, K.ob, K.dg, K.cg, hl])
theorem name_heir_eq (K : KinAt S r a b h g) (x y : Str) (hl : h.length < most) : m_Kin_name_heir [.obj r, .str x, .str y] S = .ok .non (S.set a (.con false (.dK (putD h (.inr x) (.str y))))) :=
  dDef_next (σ' := [.val (.obj r), .val (.str x), .val (.str y)]) (by simp [b_Kin_name_heir, K.ob, K.dh, K.ch, hl])
def seenD (met : List Str) : List (Kk × D) := met.map fun x => (.inr x, .bl true)
theorem seenD_val (met : List Str) (x : Str) : (valD (seenD met) (.inr x)).isSome = decide (x ∈ met) := by
  induction met with
  | nil => rfl
  | cons y met ih =>
    show (valD ((.inr y, .bl true) :: seenD met) (.inr x)).isSome = _
    rw [valD_cons]
    by_cases e : y = x
    · subst e; simp
    · have : ¬ (Sum.inr y : Kk) = .inr x := fun z => e (Sum.inr.inj z)
      rw [if_neg this, ih]
      have : ¬ x = y := fun z => e z.symm
      simp [this]
theorem seenD_put {met : List Str} {x : Str} (hx : x ∉ met) : putD (seenD met) (.inr x) (.bl true) = seenD (met ++ [x]) := by
  unfold putD
  rw [valD_any, seenD_val]
  rw [if_neg (by simp [hx])]
  unfold seenD
  rw [List.map_append]
  rfl
theorem frz_enc (o : Option Str) (σ : Sl) : frz (encO o) σ S = .ok (encO o) σ S := by cases o <;> rfl
theorem taker_loop (K : KinAt S r a b h g) (hs : SV' h) {man : Str} : ∀ (n : Nat) (met : List Str) (last : Str) (res : Option Str), tkF (nxt h) (fun x => (valD g (.inr x)).isSome) n met last = some res → met.length + n ≤ 10000000 →
    ∃ σ' fl, sWhile wc_Kin_taker_1 wb_Kin_taker_2 n [.val (.obj r), .val (.str man), .own (.dK (seenD met)), .val (encO (nxt h last))] S = .ok fl σ' S ∧ ((fl = .next ∧ res = none) ∨ fl = .ret (encO res))
  | 0, met, last, res, e, _ => by cases e
  | n + 1, met, last, res, e, hn => by
    rw [tkF] at e
    cases ho : nxt h last with
    | none =>
      rw [ho] at e
      cases e
      exact ⟨[.val (.obj r), .val (.str man), .own (.dK (seenD met)), .val .non], .next, sWhile_false (by show wc_Kin_taker_1 [.val (.obj r), .val (.str man), .own (.dK (seenD met)), .val .non] S = _; simp [wc_Kin_taker_1]), .inl ⟨rfl, rfl⟩⟩
    | some one =>
      rw [ho] at e
      have e : (if one ∈ met then some none else if (valD g (.inr one)).isSome = true then tkF (nxt h) (fun x => (valD g (.inr x)).isSome) n (met ++ [one]) one else some (some one)) = some res := e
      have sv := seenD_val met one
      have hc : wc_Kin_taker_1 [.val (.obj r), .val (.str man), .own (.dK (seenD met)), .val (encO (some one))] S = .ok true [.val (.obj r), .val (.str man), .own (.dK (seenD met)), .val (encO (some one))] S := by
        show wc_Kin_taker_1 [.val (.obj r), .val (.str man), .own (.dK (seenD met)), .val (.str one)] S = .ok true [.val (.obj r), .val (.str man), .own (.dK (seenD met)), .val (.str one)] S
        simp [wc_Kin_taker_1]
      by_cases hm : one ∈ met
      · rw [if_pos hm] at e
        cases e
        refine ⟨[.val (.obj r), .val (.str man), .own (.dK (seenD met)), .val (.str one)], .ret .non, sWhile_ret hc ?_, .inr rfl⟩
        show wb_Kin_taker_2 [.val (.obj r), .val (.str man), .own (.dK (seenD met)), .val (.str one)] S = _
        simp [wb_Kin_taker_2, sv, hm]
      · rw [if_neg hm] at e
        by_cases hd : (valD g (.inr one)).isSome = true
        · rw [if_pos hd] at e
          obtain ⟨σ', fl, e2, q⟩ := taker_loop K hs (man := man) n (met ++ [one]) one res e (by rw [List.length_append, List.length_singleton]; omega)
          refine ⟨σ', fl, ?_, q⟩
          rw [← e2]
          have hl : (seenD met).length < most := by unfold seenD most; rw [List.length_map]; omega
          have hp := seenD_put hm
          have hx := nxt_enc hs one
          refine sWhile_next hc ?_
          show wb_Kin_taker_2 [.val (.obj r), .val (.str man), .own (.dK (seenD met)), .val (.str one)] S = _
          simp [wb_Kin_taker_2, sv, hm, K.ob, K.dg, K.dh, hd, hl, hp, hx, frz_enc]
        · rw [if_neg hd] at e
          cases e
          refine ⟨[.val (.obj r), .val (.str man), .own (.dK (seenD met)), .val (.str one)], .ret (.str one), sWhile_ret hc ?_, .inr rfl⟩
          show wb_Kin_taker_2 [.val (.obj r), .val (.str man), .own (.dK (seenD met)), .val (.str one)] S = _
          simp [wb_Kin_taker_2, sv, hm, K.ob, K.dg, hd]
theorem taker_eq (K : KinAt S r a b h g) (hs : SV' h) {man : Str} {n : Nat} {res : Option Str} (e : tkF (nxt h) (fun x => (valD g (.inr x)).isSome) n [man] man = some res) (hn : n ≤ 9999999) : m_Kin_taker [.obj r, .str man] S = .ok (encO res) S := by
  obtain ⟨σ', fl, e2, q⟩ := taker_loop K hs (man := man) n [man] man res e (by simp; omega)
  have e3 := sWhile_more e2 (Nat.le_trans (by omega : n ≤ 10000000) fuel_big)
  have hx := nxt_enc hs man
  have hp : putD ([] : List (Kk × D)) (.inr man) (.bl true) = seenD [man] := rfl
  refine dDef_ex (w := encO res) ?_
  show ∃ σ', b_Kin_taker [.val (.obj r), .val (.str man), .emp, .emp] S = _
  rcases q with ⟨rfl, rfl⟩ | rfl
  · exact ⟨σ', by simp [b_Kin_taker, K.ob, K.dh, hx, frz_enc, hp, e3]; rfl⟩
  · exact ⟨σ', by simp [b_Kin_taker, K.ob, K.dh, hx, frz_enc, hp, e3]⟩
end
/-! ### the law's own book of kin -/
structure BkAt (S : Sto) (bk a : Nat) (bd h : List (Kk × D)) (dl : List Str) : Prop where
  o : S[bk]? = some (.con false (.dK bd))
  vh : valD bd (.inr "heirs") = some (.obj a)
  vd : valD bd (.inr "dead") = some (.lst (dl.map D.str))
  h : S[a]? = some (.con false (.dK h))
section
variable {S : Sto} {bk a : Nat} {bd h : List (Kk × D)} {dl : List Str}
theorem BkAt.d (B : BkAt S bk a bd h dl) (σ : Sl) : deref σ S (.obj bk) = some (.dK bd) := deref_obj B.o
theorem BkAt.dh (B : BkAt S bk a bd h dl) (σ : Sl) : deref σ S (.obj a) = some (.dK h) := deref_obj B.h
theorem ltaker_loop (B : BkAt S bk a bd h dl) (hs : SV' h) {man : Str} : ∀ (n : Nat) (pre : List Str) (last : Str) (res : Option Str) (s3 : Slot), tkF (nxt h) (fun x => decide (x ∈ dl)) n (pre ++ [last]) last = some res → pre.length + n ≤ 10000000 →
    ∃ σ' fl, sWhile wc__law_taker_1 wb__law_taker_2 n [.val (.obj bk), .val (.str man), .own (.lst ((pre ++ [last]).map D.str)), s3] S = .ok fl σ' S ∧ ((fl = .next ∧ res = none) ∨ fl = .ret (encO res))
  | 0, pre, last, res, _, e, _ => by cases e
  | n + 1, pre, last, res, s3, e, hn => by
    rw [tkF] at e
    have hat : L2.atI ((pre ++ [last]).map D.str) (-1) = some (.str last) := by rw [List.map_append]; exact L2.atI_last _ _
    have hml : ((pre ++ [last]).map D.str).length < most := by rw [List.length_map, List.length_append, List.length_singleton]; unfold most; omega
    have hin := fun x => opIn_strs x (pre ++ [last])
    have hmap : ∀ one, (pre ++ [last]).map D.str ++ [.str one] = ((pre ++ [last]) ++ [one]).map D.str := fun one => by rw [List.map_append (l₂ := [one])]; rfl
    have hnd := fun x => opNotIn_strs x dl
    have vh := B.vh
    have vd := B.vd
    have ns := nxt_some hs last
    cases ho : nxt h last with
    | none =>
      rw [ho] at e ns
      cases e
      generalize (pre ++ [last]).map D.str = ml at *
      exact ⟨[.val (.obj bk), .val (.str man), .own (.lst ml), s3], .next, sWhile_false (by simp [wc__law_taker_1, hat, B.d, vh, B.dh, ns]), .inl ⟨rfl, rfl⟩⟩
    | some one =>
      have hv := nxt_val ho
      rw [ho] at e ns
      have e : (if one ∈ pre ++ [last] then some none else if decide (one ∈ dl) = true then tkF (nxt h) (fun x => decide (x ∈ dl)) n ((pre ++ [last]) ++ [one]) one else some (some one)) = some res := e
      have hin := hin one
      have hnd := hnd one
      have hmap := hmap one
      have hc : wc__law_taker_1 [.val (.obj bk), .val (.str man), .own (.lst ((pre ++ [last]).map D.str)), s3] S = .ok true [.val (.obj bk), .val (.str man), .own (.lst ((pre ++ [last]).map D.str)), s3] S := by
        generalize (pre ++ [last]).map D.str = ml at *
        simp [wc__law_taker_1, hat, B.d, vh, B.dh, ns]
      by_cases hm : one ∈ pre ++ [last]
      · rw [if_pos hm] at e
        cases e
        refine ⟨[.val (.obj bk), .val (.str man), .own (.lst ((pre ++ [last]).map D.str)), .val (.str one)], .ret .non, sWhile_ret hc ?_, .inr rfl⟩
        rw [decide_eq_true hm] at hin
        clear hc hm
        generalize (pre ++ [last]).map D.str = ml at *
        simp [wb__law_taker_2, hat, B.d, vh, B.dh, hv, hin]
      · rw [if_neg hm] at e
        rw [decide_eq_false hm] at hin
        by_cases hd : one ∈ dl
        · rw [if_pos (decide_eq_true hd)] at e
          rw [decide_eq_true hd] at hnd
          obtain ⟨σ', fl, e2, q⟩ := ltaker_loop B hs (man := man) n (pre ++ [last]) one res (.val (.str one)) e (by rw [List.length_append, List.length_singleton]; omega)
          refine ⟨σ', fl, ?_, q⟩
          rw [← e2]
          refine sWhile_next hc ?_
          rw [← hmap]
          clear hc hm e2 hmap e
          generalize (pre ++ [last]).map D.str = ml at *
          simp [wb__law_taker_2, hat, B.d, vh, B.dh, hv, hin, vd, hnd, hml]
        · rw [if_neg (by simp [hd])] at e
          rw [decide_eq_false hd] at hnd
          cases e
          refine ⟨[.val (.obj bk), .val (.str man), .own (.lst ((pre ++ [last]).map D.str)), .val (.str one)], .ret (.str one), sWhile_ret hc ?_, .inr rfl⟩
          clear hc hm hmap
          generalize (pre ++ [last]).map D.str = ml at *
          simp [wb__law_taker_2, hat, B.d, vh, B.dh, hv, hin, vd, hnd]
theorem ltaker_eq (B : BkAt S bk a bd h dl) (hs : SV' h) {man : Str} {n : Nat} {res : Option Str} (e : tkF (nxt h) (fun x => decide (x ∈ dl)) n [man] man = some res) (hn : n ≤ 9999999) : m__law_taker [.obj bk, .str man] S = .ok (encO res) S := by
  obtain ⟨σ', fl, e2, q⟩ := ltaker_loop B hs (man := man) n [] man res .emp e (by simp; omega)
  have e3 := sWhile_more e2 (Nat.le_trans (by omega : n ≤ 10000000) fuel_big)
  have e3 : sWhile wc__law_taker_1 wb__law_taker_2 fuel [.val (.obj bk), .val (.str man), .own (.lst [.str man]), .emp] S = .ok fl σ' S := e3
  have m1 : 1 ≤ most := by decide
  refine dDef_ex (w := encO res) ?_
  show ∃ σ', b__law_taker [.val (.obj bk), .val (.str man), .emp, .emp] S = _
  rcases q with ⟨rfl, rfl⟩ | rfl
  · exact ⟨σ', by simp [b__law_taker, m1, e3]; rfl⟩
  · exact ⟨σ', by simp [b__law_taker, m1, e3]⟩
end
/-! ### the walk along heirs ends -/
theorem tkF_ends {nx : Str → Option Str} {dead : Str → Bool} {vs : List Str} (hv : ∀ x y, nx x = some y → y ∈ vs) : ∀ (n : Nat) (met : List Str) (last : Str), (∀ x ∈ vs, x ∉ met → True) → (vs.filter fun x => decide (x ∉ met)).length < n → ∃ res, tkF nx dead n met last = some res
  | 0, _, _, _, h => by omega
  | n + 1, met, last, _, h => by
    rw [tkF]
    cases e : nx last with
    | none => exact ⟨none, rfl⟩
    | some one =>
      dsimp only
      by_cases hm : one ∈ met
      · rw [if_pos hm]; exact ⟨none, rfl⟩
      · rw [if_neg hm]
        by_cases hd : dead one = true
        · rw [if_pos hd]
          refine tkF_ends hv n (met ++ [one]) one (fun _ _ _ => trivial) ?_
          have h1 : one ∈ vs.filter fun x => decide (x ∉ met) := List.mem_filter.mpr ⟨hv last one e, by simp [hm]⟩
          have h2 : (vs.filter fun x => decide (x ∉ met ++ [one])).length < (vs.filter fun x => decide (x ∉ met)).length := by
            have e1 : (vs.filter fun x => decide (x ∉ met ++ [one])) = (vs.filter fun x => decide (x ∉ met)).filter fun x => decide (x ≠ one) := by
              rw [List.filter_filter]
              congr 1
              funext x
              by_cases hx : x ∈ met <;> by_cases hx2 : x = one <;> simp [hx, hx2]
            rw [e1]
            generalize (vs.filter fun x => decide (x ∉ met)) = l at h1
            induction l with
            | nil => cases h1
            | cons y l ih =>
              rw [List.filter_cons, List.length_cons]
              by_cases hy : y = one
              · subst hy
                simp only [ne_eq, not_true, decide_false, Bool.false_eq_true, if_false]
                have := List.length_filter_le (fun x => decide (x ≠ y)) l
                simp only [ne_eq] at this
                omega
              · simp only [ne_eq, hy, not_false_eq_true, decide_true, if_true, List.length_cons]
                have h3 : one ∈ l := by
                  rcases List.mem_cons.mp h1 with rfl | h3
                  · exact absurd rfl hy
                  · exact h3
                have := ih h3
                simp only [ne_eq] at this
                omega
          omega
        · rw [if_neg hd]; exact ⟨some one, rfl⟩
theorem tkF_congr {nx : Str → Option Str} {d1 d2 : Str → Bool} (h : ∀ x, d1 x = d2 x) (n : Nat) (met : List Str) (last : Str) : tkF nx d1 n met last = tkF nx d2 n met last := by
  have : d1 = d2 := funext h
  rw [this]
end MR

set_option Elab.async false
set_option linter.all false
set_option maxRecDepth 100000
set_option exponentiation.threshold 30000
/-! Q k13: the law holds of the denotations. -/
namespace MR
open PySem

def valsOf (h : List (Kk × D)) : List Str := h.filterMap fun p => match p.2 with
  | .str y => some y
  | _ => none
theorem valD_mem {κ : Type} [DecidableEq κ] {h : List (κ × D)} {k : κ} {w : D} (e : valD h k = some w) : (k, w) ∈ h := by
  unfold valD at e
  obtain ⟨p, hp, rfl⟩ := Option.map_eq_some_iff.mp e
  have h1 := List.mem_of_find?_eq_some hp
  have h2 := List.find?_some hp
  have h2 : p.1 = k := of_decide_eq_true h2
  subst h2
  exact h1
theorem nxt_mem {h : List (Kk × D)} (x y : Str) (e : nxt h x = some y) : y ∈ valsOf h := List.mem_filterMap.mpr ⟨_, valD_mem (nxt_val e), rfl⟩
theorem tk_some {h : List (Kk × D)} (hl : h.length ≤ 1000) (dead : Str → Bool) (man : Str) : ∃ res, tkF (nxt h) dead 1001 [man] man = some res := by
  refine tkF_ends nxt_mem 1001 [man] man (fun _ _ _ => trivial) ?_
  have h1 := List.length_filter_le (fun x => decide (x ∉ [man])) (valsOf h)
  have h2 : (valsOf h).length ≤ h.length := List.length_filterMap_le ..
  omega
/-- the two books say the same -/
structure Twin (m : Nat) (S : Sto) (r a b bk a' : Nat) (h g bd : List (Kk × D)) (dl : List Str) : Prop where
  K : KinAt S r a b h g
  B : BkAt S bk a' bd h dl
  s : SV' h
  d : ∀ x, (valD g (.inr x)).isSome = decide (x ∈ dl)
  l : h.length ≤ m
  lg : g.length ≤ m
  lb : bd.length ≤ 8 + m
  ld : dl.length ≤ m
section
variable {m : Nat} {S : Sto} {r a b bk a' : Nat} {h g bd : List (Kk × D)} {dl : List Str} {s0 s1 s2 s3 s4 s5 s6 s7 s8 s9 s10 s14 : Slot}
theorem plain_enc (o : Option Str) : plain 8 (encO o) = true := by cases o <;> rfl
theorem check3 (T : Twin m S r a b bk a' h g bd dl) (hm0 : m ≤ 100) (x : Str) : fb_law_3 [s0, s1, s2, s3, s4, s5, s6, s7, s8, s9, s10, .val (.obj r), .val (.obj bk), .val (.str x), s14] S = .ok .next [s0, s1, s2, s3, s4, s5, s6, s7, s8, s9, s10, .val (.obj r), .val (.obj bk), .val (.str x), s14] S := by
  have e1 := is_dead_eq T.K x
  rw [T.d x] at e1
  obtain ⟨res, er⟩ := tk_some (h := h) (by have := T.l; omega) (fun x => decide (x ∈ dl)) x
  have e2 := ltaker_eq T.B T.s er (by decide)
  have er2 := er
  rw [← tkF_congr T.d] at er2
  have e3 := taker_eq T.K T.s er2 (by decide)
  have q1 := same_ok (S := S) (d := .bl (decide (x ∈ dl))) rfl
  have q2 := same_ok (S := S) (plain_enc res)
  have hf := frz_enc (S := S) res
  have ho := opIn_strs x dl
  have vd := T.B.vd
  have ob := T.K.ob
  generalize decide (x ∈ dl) = z at *
  simp [fb_law_3, ob, e1, T.B.d, vd, ho, q1, e2, e3, q2, hf]
theorem check4 (T : Twin m S r a b bk a' h g bd dl) (hm0 : m ≤ 100) (men : List Str) (hm : men.length ≤ 100) {s13 : Slot} : ∃ x13, fb_law_4 [s0, s1, .val (.lst (men.map D.str)), s3, s4, s5, s6, s7, s8, s9, s10, .val (.obj r), .val (.obj bk), s13, s14] S = .ok .next [s0, s1, .val (.lst (men.map D.str)), s3, s4, s5, s6, s7, s8, s9, s10, .val (.obj r), .val (.obj bk), .val x13, s14] S := by
  have ha : opAdd (.lst (men.map D.str)) (.lst [.str ""]) = some (.lst ((men ++ [("" : Str)]).map D.str)) := by
    rw [opAdd_lst (by simp; unfold most; omega), List.map_append]
    rfl
  have m1 : 1 ≤ most := by decide
  obtain ⟨x13, e⟩ : ∃ x13, forL (gN 13) fb_law_3 ((men ++ [("" : Str)]).map D.str) [s0, s1, .val (.lst (men.map D.str)), s3, s4, s5, s6, s7, s8, s9, s10, .val (.obj r), .val (.obj bk), s13, s14] S = .ok .next [s0, s1, .val (.lst (men.map D.str)), s3, s4, s5, s6, s7, s8, s9, s10, .val (.obj r), .val (.obj bk), .val x13, s14] S := by
    have key : ∀ (l : List Str) (s13 : Slot), ∃ x13, forL (gN 13) fb_law_3 ((l ++ [("" : Str)]).map D.str) [s0, s1, .val (.lst (men.map D.str)), s3, s4, s5, s6, s7, s8, s9, s10, .val (.obj r), .val (.obj bk), s13, s14] S = .ok .next [s0, s1, .val (.lst (men.map D.str)), s3, s4, s5, s6, s7, s8, s9, s10, .val (.obj r), .val (.obj bk), .val x13, s14] S := by
      intro l
      induction l with
      | nil => exact fun s13 => ⟨.str "", by rw [List.nil_append, List.map_singleton, forL_cons rfl (check3 T hm0 "")]; rfl⟩
      | cons x l ih =>
        intro s13
        obtain ⟨s13', e⟩ := ih (.val (.str x))
        refine ⟨s13', ?_⟩
        rw [List.cons_append, List.map_cons, forL_cons rfl (check3 T hm0 x)]
        exact e
    exact key men s13
  refine ⟨x13, ?_⟩
  generalize (men ++ [("" : Str)]).map D.str = ml at *
  simp [fb_law_4, m1, ha, e]
end
theorem cutL_nat {α : Type} (l : List α) (a b : Nat) (hb : b ≤ l.length) (hab : a ≤ b) : cutL l (some (a : Int)) (some (b : Int)) = (l.drop a).take (b - a) := by
  unfold cutL
  have h1 : HT.sIx l.length 0 (some (a : Int)) = min a l.length := HT.sIx_nat ..
  have h2 : HT.sIx l.length l.length (some (b : Int)) = min b l.length := HT.sIx_nat ..
  rw [h1, h2, Nat.min_eq_left (by omega), Nat.min_eq_left (by omega)]
theorem filter_ne_len {l : List Str} {x : Str} (hn : l.Nodup) (hx : x ∈ l) : (l.filter fun y => !decide (y = x)).length + 1 = l.length := by
  induction l with
  | nil => cases hx
  | cons y l ih =>
    rw [List.nodup_cons] at hn
    rw [List.filter_cons, List.length_cons]
    by_cases e : y = x
    · subst e
      have : (l.filter fun z => !decide (z = y)) = l := by
        rw [List.filter_eq_self]
        intro z hz
        have : z ≠ y := fun q => hn.1 (q ▸ hz)
        simp [this]
      simp [this]
    · have h2 : x ∈ l := by
        rcases List.mem_cons.mp hx with rfl | h2
        · exact absurd rfl e
        · exact h2
      have := ih hn.2 h2
      simp only [e, decide_false, Bool.not_false, if_true, List.length_cons]
      omega
theorem atI_strs {l : List Str} {i : Int} (h0 : 0 ≤ i) (h1 : i < l.length) : ∃ x ∈ l, L2.atI (l.map D.str) i = some (.str x) := by
  obtain ⟨n, rfl⟩ := Int.eq_ofNat_of_zero_le h0
  have hn : n < l.length := by omega
  refine ⟨l[n]'hn, List.getElem_mem .., L2.atI_nat ?_⟩
  rw [List.getElem?_map, List.getElem?_eq_getElem hn]
  rfl
theorem others_lc {σ : Sl} {S : Sto} {men : List Str} {man : Str} {s0 s1 s3 s4 s5 s6 s7 s9 s10 s11 s12 s13 s14 : Slot} (hm : men.length ≤ 100) (hno : noOwn [s0, s1, .val (.lst (men.map D.str)), s3, s4, s5, s6, s7, .val (.str man), s9, s10, s11, s12, s13, s14] [13] = true) :
    dLc (iLst (dVar 2)) (gN 13) lt_law_1 le_law_2 [13] [s0, s1, .val (.lst (men.map D.str)), s3, s4, s5, s6, s7, .val (.str man), s9, s10, s11, s12, s13, s14] S = .ok (.lst ((men.filter fun y => !decide (y = man)).map D.str)) [s0, s1, .val (.lst (men.map D.str)), s3, s4, s5, s6, s7, .val (.str man), s9, s10, s11, s12, s13, s14] S := by
  have := dLc_gen (it := iLst (dVar 2)) (g := gN 13) (c := lt_law_1) (e := le_law_2) (vs := [13]) (σ := [s0, s1, .val (.lst (men.map D.str)), s3, s4, s5, s6, s7, .val (.str man), s9, s10, s11, s12, s13, s14]) (σ' := [s0, s1, .val (.lst (men.map D.str)), s3, s4, s5, s6, s7, .val (.str man), s9, s10, s11, s12, s13, s14]) (S := S) (items := men.map D.str)
    (fun d => [s0, s1, .val (.lst (men.map D.str)), s3, s4, s5, s6, s7, .val (.str man), s9, s10, s11, s12, .val d, s14]) (fun d => match d with
      | .str y => !decide (y = man)
      | _ => false) (fun d => d) (by simp) hno (by rw [List.length_map]; unfold most; omega) fun d hd => by
        obtain ⟨y, _, rfl⟩ := List.mem_map.mp hd
        refine ⟨rfl, rfl, by simp [lt_law_1], fun _ => by simp [le_law_2]⟩
  rw [this]
  congr 2
  rw [List.map_id', List.filter_map]
  rfl
theorem SV'_put {h : List (Kk × D)} (hs : SV' h) (k : Kk) (y : Str) : SV' (putD h k (.str y)) := fun j w e => by
  rw [valD_put] at e
  split at e
  · cases e; exact ⟨y, rfl⟩
  · exact hs j w e
/-- an heir is named in both books -/
theorem Twin.name {m : Nat} {S : Sto} {r a b bk a' : Nat} {h g bd : List (Kk × D)} {dl : List Str} (T : Twin m S r a b bk a' h g bd dl) (hne : a ≠ r ∧ a ≠ b ∧ a ≠ bk ∧ a ≠ a' ∧ a' ≠ r ∧ a' ≠ b ∧ a' ≠ bk) (x y : Str) :
    Twin (m + 1) ((S.set a' (.con false (.dK (putD h (.inr x) (.str y))))).set a (.con false (.dK (putD h (.inr x) (.str y))))) r a b bk a' (putD h (.inr x) (.str y)) g bd dl := by
  obtain ⟨n1, n2, n3, n4, n5, n6, n7⟩ := hne
  have la : a < S.length := (List.getElem?_eq_some_iff.mp T.K.h).1
  have la' : a' < S.length := (List.getElem?_eq_some_iff.mp T.B.h).1
  have p := putD_len (l := h) (k := .inr x) (w := .str y)
  refine ⟨⟨?_, ?_, ?_⟩, ⟨?_, T.B.vh, T.B.vd, ?_⟩, SV'_put T.s _ _, T.d, by have := T.l; omega, by have := T.lg; omega, by have := T.lb; omega, by have := T.ld; omega⟩
  · rw [List.getElem?_set_ne n1, List.getElem?_set_ne n5]; exact T.K.o
  · rw [List.getElem?_set_self (by rw [List.length_set]; exact la)]
  · rw [List.getElem?_set_ne n2, List.getElem?_set_ne n6]; exact T.K.g
  · rw [List.getElem?_set_ne n3, List.getElem?_set_ne n7]; exact T.B.o
  · rw [List.getElem?_set_ne n4, List.getElem?_set_self la']
/-- a man dies in both books -/
theorem Twin.die {m : Nat} {S : Sto} {r a b bk a' : Nat} {h g bd : List (Kk × D)} {dl : List Str} (T : Twin m S r a b bk a' h g bd dl) (hne : b ≠ r ∧ b ≠ a ∧ b ≠ bk ∧ b ≠ a' ∧ bk ≠ r ∧ bk ≠ a ∧ bk ≠ a') (x : Str) :
    Twin (m + 1) ((S.set bk (.con false (.dK (putD bd (.inr "dead") (.lst ((dl ++ [x]).map D.str)))))).set b (.con false (.dK (putD g (.inr x) (.bl true))))) r a b bk a' h (putD g (.inr x) (.bl true)) (putD bd (.inr "dead") (.lst ((dl ++ [x]).map D.str))) (dl ++ [x]) := by
  obtain ⟨n1, n2, n3, n4, n5, n6, n7⟩ := hne
  have lb : b < S.length := (List.getElem?_eq_some_iff.mp T.K.g).1
  have lbk : bk < S.length := (List.getElem?_eq_some_iff.mp T.B.o).1
  have p := putD_len (l := g) (k := .inr x) (w := .bl true)
  have p2 := putD_len (l := bd) (k := .inr "dead") (w := .lst ((dl ++ [x]).map D.str))
  have ne : ¬ (Sum.inr ("dead" : Str) : Kk) = .inr "heirs" := by decide +kernel
  refine ⟨⟨?_, ?_, ?_⟩, ⟨?_, ?_, ?_, ?_⟩, T.s, fun z => ?_, by have := T.l; omega, by have := T.lg; omega, by have := T.lb; omega, by have := T.ld; rw [List.length_append, List.length_singleton]; omega⟩
  · rw [List.getElem?_set_ne n1, List.getElem?_set_ne n5]; exact T.K.o
  · rw [List.getElem?_set_ne n2, List.getElem?_set_ne n6]; exact T.K.h
  · rw [List.getElem?_set_self (by rw [List.length_set]; exact lb)]
  · rw [List.getElem?_set_ne n3, List.getElem?_set_self lbk]
  · rw [valD_put, if_neg ne]; exact T.B.vh
  · rw [valD_put, if_pos rfl]
  · rw [List.getElem?_set_ne n4, List.getElem?_set_ne n7]; exact T.B.h
  · rw [valD_put]
    by_cases e : x = z
    · subst e; simp
    · have e1 : ¬ (Sum.inr x : Kk) = .inr z := fun q => e (Sum.inr.inj q)
      have e2 : ¬ z = x := fun q => e q.symm
      rw [if_neg e1, T.d z]
      simp [e2]
/-- what is done elsewhere changes nothing -/
theorem Twin.other {m : Nat} {S : Sto} {r a b bk a' : Nat} {h g bd : List (Kk × D)} {dl : List Str} (T : Twin m S r a b bk a' h g bd dl) {i j : Nat} {o o2 : Ob} (hi : i ≠ r ∧ i ≠ a ∧ i ≠ b ∧ i ≠ bk ∧ i ≠ a') (hj : j ≠ r ∧ j ≠ a ∧ j ≠ b ∧ j ≠ bk ∧ j ≠ a') : Twin (m + 1) ((S.set i o).set j o2) r a b bk a' h g bd dl := by
  obtain ⟨i1, i2, i3, i4, i5⟩ := hi
  obtain ⟨j1, j2, j3, j4, j5⟩ := hj
  refine ⟨⟨?_, ?_, ?_⟩, ⟨?_, T.B.vh, T.B.vd, ?_⟩, T.s, T.d, by have := T.l; omega, by have := T.lg; omega, by have := T.lb; omega, by have := T.ld; omega⟩
  · rw [List.getElem?_set_ne j1, List.getElem?_set_ne i1]; exact T.K.o
  · rw [List.getElem?_set_ne j2, List.getElem?_set_ne i2]; exact T.K.h
  · rw [List.getElem?_set_ne j3, List.getElem?_set_ne i3]; exact T.K.g
  · rw [List.getElem?_set_ne j4, List.getElem?_set_ne i4]; exact T.B.o
  · rw [List.getElem?_set_ne j5, List.getElem?_set_ne i5]; exact T.B.h
def Wld (m : Nat) (S : Sto) : Prop := ∃ h1 g1 bd1 d1 h2 g2 bd2 d2, Twin m S 0 1 2 12 10 h1 g1 bd1 d1 ∧ Twin m S 3 4 5 19 17 h2 g2 bd2 d2
theorem zip_ok {m : Nat} {S : Sto} (W : Wld m S) (hm0 : m ≤ 100) (men : List Str) (hm : men.length ≤ 100) {s0 s1 s5 s6 s7 s8 s9 s10 s11 s12 s13 s14 : Slot} : ∃ x13,
    sFor (iZip (dVar 3) (dVar 4)) (gT 2 (gsCons (gN 11) (gsCons (gN 12) gsNil))) fb_law_4 [s0, s1, .val (.lst (men.map D.str)), .val (.lst [.obj 0, .obj 3]), .val (.lst [.obj 12, .obj 19]), s5, s6, s7, s8, s9, s10, s11, s12, s13, s14] S =
      .ok .next [s0, s1, .val (.lst (men.map D.str)), .val (.lst [.obj 0, .obj 3]), .val (.lst [.obj 12, .obj 19]), s5, s6, s7, s8, s9, s10, .val (.obj 3), .val (.obj 19), .val x13, s14] S := by
  obtain ⟨h1, g1, bd1, d1, h2, g2, bd2, d2, T1, T2⟩ := W
  obtain ⟨x1, e1⟩ := check4 (s0 := s0) (s1 := s1) (s3 := .val (.lst [.obj 0, .obj 3])) (s4 := .val (.lst [.obj 12, .obj 19])) (s5 := s5) (s6 := s6) (s7 := s7) (s8 := s8) (s9 := s9) (s10 := s10) (s14 := s14) T1 hm0 men hm (s13 := s13)
  obtain ⟨x2, e2⟩ := check4 (s0 := s0) (s1 := s1) (s3 := .val (.lst [.obj 0, .obj 3])) (s4 := .val (.lst [.obj 12, .obj 19])) (s5 := s5) (s6 := s6) (s7 := s7) (s8 := s8) (s9 := s9) (s10 := s10) (s14 := s14) T2 hm0 men hm (s13 := .val x1)
  refine ⟨x2, ?_⟩
  have ez : iZip (dVar 3) (dVar 4) [s0, s1, .val (.lst (men.map D.str)), .val (.lst [.obj 0, .obj 3]), .val (.lst [.obj 12, .obj 19]), s5, s6, s7, s8, s9, s10, s11, s12, s13, s14] S = .ok [.tup [.obj 0, .obj 12], .tup [.obj 3, .obj 19]] [s0, s1, .val (.lst (men.map D.str)), .val (.lst [.obj 0, .obj 3]), .val (.lst [.obj 12, .obj 19]), s5, s6, s7, s8, s9, s10, s11, s12, s13, s14] S := by
    simp [pairs]
  rw [sFor_def, ez]
  show forL _ _ _ _ _ = _
  rw [forL_cons (g := gT 2 (gsCons (gN 11) (gsCons (gN 12) gsNil))) (d := .tup [.obj 0, .obj 12]) rfl e1, forL_cons (g := gT 2 (gsCons (gN 11) (gsCons (gN 12) gsNil))) (d := .tup [.obj 3, .obj 19]) rfl e2]
  rfl
theorem cut3 {fs : List Int} (hl : fs.length = 80) (k : Nat) (hk : k < 21) : ∃ d0 d1 d2 : Int, cutL (fs.map D.int) (some (10 + 3 * (k : Int))) (some (13 + 3 * (k : Int))) = [.int d0, .int d1, .int d2] := by
  have e := cutL_nat fs (10 + 3 * k) (13 + 3 * k) (by omega) (by omega)
  rw [cutL_map]
  have e : cutL fs (some (10 + 3 * (k : Int))) (some (13 + 3 * (k : Int))) = (fs.drop (10 + 3 * k)).take (13 + 3 * k - (10 + 3 * k)) := by
    have h1 : ((10 + 3 * k : Nat) : Int) = 10 + 3 * (k : Int) := by omega
    have h2 : ((13 + 3 * k : Nat) : Int) = 13 + 3 * (k : Int) := by omega
    rw [← h1, ← h2]
    exact e
  rw [e]
  have hlen : ((fs.drop (10 + 3 * k)).take (13 + 3 * k - (10 + 3 * k))).length = 3 := by rw [List.length_take, List.length_drop]; omega
  generalize (fs.drop (10 + 3 * k)).take (13 + 3 * k - (10 + 3 * k)) = l at hlen
  match l, hlen with
  | [a, b, c], _ => exact ⟨a, b, c, rfl⟩
theorem turn {fs : List Int} (hl : fs.length = 80) {men : List Str} (hm : Nms 6 men) (k : Nat) (hk : k < 21) {m : Nat} (hm0 : m ≤ 50) {S : Sto} (W : Wld m S) (hS : S.length = 20) {s0 s6 s7 s8 s9 s10 s11 s12 s13 s14 : Slot} (h13 : ∀ c, s13 ≠ .own c) :
    ∃ S' u6 u7 u8 u9 u10 u11 u12 x13, Wld (m + 1) S' ∧ S'.length = 20 ∧ fb_law_5 [s0, .val (.lst (fs.map D.int)), .val (.lst (men.map D.str)), .val (.lst [.obj 0, .obj 3]), .val (.lst [.obj 12, .obj 19]), .val (.int k), s6, s7, s8, s9, s10, s11, s12, s13, s14] S =
      .ok .next [s0, .val (.lst (fs.map D.int)), .val (.lst (men.map D.str)), .val (.lst [.obj 0, .obj 3]), .val (.lst [.obj 12, .obj 19]), .val (.int k), u6, u7, u8, u9, u10, u11, u12, .val x13, s14] S' := by
  obtain ⟨y0, y1, y2, ec⟩ := cut3 hl k hk
  have m3 : mulOk 3 (k : Int) := mulS (by omega) (by omega)
  have d5 : divOk 5 := by decide
  obtain ⟨man, hman, eman⟩ := atI_strs (l := men) (i := y1 % 6) (by omega) (by rw [hm.len]; omega)
  have hf := filter_ne_len hm.nd hman
  rw [hm.len] at hf
  obtain ⟨heir, hheir, eheir⟩ := atI_strs (l := men.filter fun y => !decide (y = man)) (i := y2 % 5) (by omega) (by omega)
  have h0 : L2.atI [D.int y0, .int y1, .int y2] 0 = some (.int y0) := rfl
  have h1 : L2.atI [D.int y0, .int y1, .int y2] 1 = some (.int y1) := rfl
  have h2 : L2.atI [D.int y0, .int y1, .int y2] 2 = some (.int y2) := rfl
  have hml : men.length ≤ 100 := by rw [hm.len]; omega
  have hno : noOwn [s0, .val (.lst (fs.map D.int)), .val (.lst (men.map D.str)), .val (.lst [.obj 0, .obj 3]), .val (.lst [.obj 12, .obj 19]), .val (.int k), .val (.lst [.int y0, .int y1, .int y2]), .val (.int (y0.fdiv 5 % 2)), .val (.str man), s9, s10, s11, s12, s13, s14] [13] = true := by
    cases s13 with
    | own c => exact absurd rfl (h13 c)
    | _ => rfl
  have elc := others_lc (S := S) (σ := []) (s3 := .val (.lst [.obj 0, .obj 3])) (s4 := .val (.lst [.obj 12, .obj 19])) hml hno
  have k0 : L2.atI [D.obj 0, .obj 3] 0 = some (.obj 0) := rfl
  have k1 : L2.atI [D.obj 0, .obj 3] 1 = some (.obj 3) := rfl
  have b0 : L2.atI [D.obj 12, .obj 19] 0 = some (.obj 12) := rfl
  have b1 : L2.atI [D.obj 12, .obj 19] 1 = some (.obj 19) := rfl
  obtain ⟨h1', g1, bd1, dl1, h2', g2, bd2, dl2, T1, T2⟩ := W
  -- the deed
  obtain ⟨S', u9, W', hS', ed⟩ : ∃ S' u9, Wld (m + 1) S' ∧ S'.length = 20 ∧ (sIf (tVal (d2 opGt (d2 opMod (d2 opIx (dVar 6) (dC (.int 0))) (dC (.int 5))) (dC (.int 1)))) (sSeq (sSet 9 (d2 opIx (dLc (iLst (dVar 2)) (gN 13) lt_law_1 le_law_2 [13]) (d2 opMod (d2 opIx (dVar 6) (dC (.int 2))) (dC (.int 5))))) (sSeq (sDPutD (d2 opGet (d2 opGet (dVar 4) (dVar 7)) (dC (.str "heirs"))) (dVar 8) (dVar 9)) (sSet 10 (dMet "name_heir" [("Kin", m_Kin_name_heir)] (d2 opGet (dVar 3) (dVar 7)) (aCons (dVar 8) (aCons (dVar 9) aNil)))))) (sSeq (sDPutD (d2 opGet (dVar 4) (dVar 7)) (dC (.str "dead")) (d2 opAdd (d2 opGet (d2 opGet (dVar 4) (dVar 7)) (dC (.str "dead"))) (dLst (aCons (dVar 8) aNil)))) (sSet 10 (dMet "die" [("Kin", m_Kin_die)] (d2 opGet (dVar 3) (dVar 7)) (aCons (dVar 8) aNil)))))
      [s0, .val (.lst (fs.map D.int)), .val (.lst (men.map D.str)), .val (.lst [.obj 0, .obj 3]), .val (.lst [.obj 12, .obj 19]), .val (.int k), .val (.lst [.int y0, .int y1, .int y2]), .val (.int (y0.fdiv 5 % 2)), .val (.str man), s9, s10, s11, s12, s13, s14] S = .ok .next
      [s0, .val (.lst (fs.map D.int)), .val (.lst (men.map D.str)), .val (.lst [.obj 0, .obj 3]), .val (.lst [.obj 12, .obj 19]), .val (.int k), .val (.lst [.int y0, .int y1, .int y2]), .val (.int (y0.fdiv 5 % 2)), .val (.str man), u9, .val .non, s11, s12, s13, s14] S' := by
    have m1 : 1 ≤ most := by decide
    have hat : y0.fdiv 5 % 2 = 0 ∨ y0.fdiv 5 % 2 = 1 := by omega
    generalize men.map D.str = ML at *
    generalize (men.filter fun y => !decide (y = man)).map D.str = OL at *
    generalize fs.map D.int = FL at *
    generalize y0.fdiv 5 % 2 = at_ at *
    by_cases hk2 : 1 < y0 % 5
    · rcases hat with rfl | rfl
      · have T1' := T1.name (by decide) man heir
        have hn := name_heir_eq (S := S.set 10 (.con false (.dK (putD h1' (.inr man) (.str heir))))) (r := 0) (a := 1) (b := 2) (h := h1') (g := g1) ⟨by rw [List.getElem?_set_ne (by decide)]; exact T1.K.o, by rw [List.getElem?_set_ne (by decide)]; exact T1.K.h, by rw [List.getElem?_set_ne (by decide)]; exact T1.K.g⟩ man heir (by have := T1.l; unfold most; omega)
        have hob : objAt ["Kin"] (S.set 10 (.con false (.dK (putD h1' (.inr man) (.str heir))))) (.obj 0) = some (0, "Kin", [("heirs", .obj 1), ("gone", .obj 2)]) := objAt_obj (by rw [List.getElem?_set_ne (by decide)]; exact T1.K.o) (by simp)
        have hlt : h1'.length < most := by have := T1.l; unfold most; omega
        have hch : ∀ (σ : Sl) (w : D), chg σ S (.obj 10) w = some (σ, S.set 10 (.con false w)) := fun σ w => chg_obj T1.B.h
        have vh := T1.B.vh
        refine ⟨_, .val (.str heir), ⟨_, _, _, _, _, _, _, _, T1', T2.other (by decide) (by decide)⟩, by simp [hS], ?_⟩
        simp [h0, h2, hk2, elc, eheir, b0, k0, T1.B.d, vh, T1.B.dh, hlt, hch, hob, hn]
      · have T2' := T2.name (by decide) man heir
        have hn := name_heir_eq (S := S.set 17 (.con false (.dK (putD h2' (.inr man) (.str heir))))) (r := 3) (a := 4) (b := 5) (h := h2') (g := g2) ⟨by rw [List.getElem?_set_ne (by decide)]; exact T2.K.o, by rw [List.getElem?_set_ne (by decide)]; exact T2.K.h, by rw [List.getElem?_set_ne (by decide)]; exact T2.K.g⟩ man heir (by have := T2.l; unfold most; omega)
        have hob : objAt ["Kin"] (S.set 17 (.con false (.dK (putD h2' (.inr man) (.str heir))))) (.obj 3) = some (3, "Kin", [("heirs", .obj 4), ("gone", .obj 5)]) := objAt_obj (by rw [List.getElem?_set_ne (by decide)]; exact T2.K.o) (by simp)
        have hlt : h2'.length < most := by have := T2.l; unfold most; omega
        have hch : ∀ (σ : Sl) (w : D), chg σ S (.obj 17) w = some (σ, S.set 17 (.con false w)) := fun σ w => chg_obj T2.B.h
        have vh := T2.B.vh
        refine ⟨_, .val (.str heir), ⟨_, _, _, _, _, _, _, _, T1.other (by decide) (by decide), T2'⟩, by simp [hS], ?_⟩
        simp [h0, h2, hk2, elc, eheir, b1, k1, T2.B.d, vh, T2.B.dh, hlt, hch, hob, hn]
    · rcases hat with rfl | rfl
      · have T1' := T1.die (by decide) man
        have ha : opAdd (.lst (dl1.map D.str)) (.lst [.str man]) = some (.lst ((dl1 ++ [man]).map D.str)) := by
          rw [opAdd_lst (by rw [List.length_map]; have := T1.ld; unfold most; simp; omega), List.map_append]
          rfl
        generalize (dl1 ++ [man]).map D.str = DL at *
        have hn := die_eq (S := S.set 12 (.con false (.dK (putD bd1 (.inr "dead") (.lst DL))))) (r := 0) (a := 1) (b := 2) (h := h1') (g := g1) ⟨by rw [List.getElem?_set_ne (by decide)]; exact T1.K.o, by rw [List.getElem?_set_ne (by decide)]; exact T1.K.h, by rw [List.getElem?_set_ne (by decide)]; exact T1.K.g⟩ man (by have := T1.lg; unfold most; omega)
        have hob : objAt ["Kin"] (S.set 12 (.con false (.dK (putD bd1 (.inr "dead") (.lst DL))))) (.obj 0) = some (0, "Kin", [("heirs", .obj 1), ("gone", .obj 2)]) := objAt_obj (by rw [List.getElem?_set_ne (by decide)]; exact T1.K.o) (by simp)
        have hlt : bd1.length < most := by have := T1.lb; unfold most; omega
        have hch : ∀ (σ : Sl) (w : D), chg σ S (.obj 12) w = some (σ, S.set 12 (.con false w)) := fun σ w => chg_obj T1.B.o
        have vd := T1.B.vd
        refine ⟨_, s9, ⟨_, _, _, _, _, _, _, _, T1', T2.other (by decide) (by decide)⟩, by simp [hS], ?_⟩
        simp [h0, hk2, b0, k0, T1.B.d, vd, m1, ha, hlt, hch, hob, hn]
      · have T2' := T2.die (by decide) man
        have ha : opAdd (.lst (dl2.map D.str)) (.lst [.str man]) = some (.lst ((dl2 ++ [man]).map D.str)) := by
          rw [opAdd_lst (by rw [List.length_map]; have := T2.ld; unfold most; simp; omega), List.map_append]
          rfl
        generalize (dl2 ++ [man]).map D.str = DL at *
        have hn := die_eq (S := S.set 19 (.con false (.dK (putD bd2 (.inr "dead") (.lst DL))))) (r := 3) (a := 4) (b := 5) (h := h2') (g := g2) ⟨by rw [List.getElem?_set_ne (by decide)]; exact T2.K.o, by rw [List.getElem?_set_ne (by decide)]; exact T2.K.h, by rw [List.getElem?_set_ne (by decide)]; exact T2.K.g⟩ man (by have := T2.lg; unfold most; omega)
        have hob : objAt ["Kin"] (S.set 19 (.con false (.dK (putD bd2 (.inr "dead") (.lst DL))))) (.obj 3) = some (3, "Kin", [("heirs", .obj 4), ("gone", .obj 5)]) := objAt_obj (by rw [List.getElem?_set_ne (by decide)]; exact T2.K.o) (by simp)
        have hlt : bd2.length < most := by have := T2.lb; unfold most; omega
        have hch : ∀ (σ : Sl) (w : D), chg σ S (.obj 19) w = some (σ, S.set 19 (.con false w)) := fun σ w => chg_obj T2.B.o
        have vd := T2.B.vd
        refine ⟨_, s9, ⟨_, _, _, _, _, _, _, _, T1.other (by decide) (by decide), T2'⟩, by simp [hS], ?_⟩
        simp [h0, hk2, b1, k1, T2.B.d, vd, m1, ha, hlt, hch, hob, hn]
  obtain ⟨x13, ez⟩ := zip_ok W' (by omega) men hml (s0 := s0) (s1 := .val (.lst (fs.map D.int))) (s5 := .val (.int k)) (s6 := .val (.lst [.int y0, .int y1, .int y2])) (s7 := .val (.int (y0.fdiv 5 % 2))) (s8 := .val (.str man)) (s9 := u9) (s10 := .val .non) (s11 := s11) (s12 := s12) (s13 := s13) (s14 := s14)
  refine ⟨S', .val (.lst [.int y0, .int y1, .int y2]), .val (.int (y0.fdiv 5 % 2)), .val (.str man), u9, .val .non, .val (.obj 3), .val (.obj 19), x13, W', hS', ?_⟩
  unfold fb_law_5
  rw [sSeq_next (σ1 := [s0, .val (.lst (fs.map D.int)), .val (.lst (men.map D.str)), .val (.lst [.obj 0, .obj 3]), .val (.lst [.obj 12, .obj 19]), .val (.int k), .val (.lst [.int y0, .int y1, .int y2]), s7, s8, s9, s10, s11, s12, s13, s14]) (S1 := S) (by simp [m3, ec])]
  rw [sSeq_next (σ1 := [s0, .val (.lst (fs.map D.int)), .val (.lst (men.map D.str)), .val (.lst [.obj 0, .obj 3]), .val (.lst [.obj 12, .obj 19]), .val (.int k), .val (.lst [.int y0, .int y1, .int y2]), .val (.int (y0.fdiv 5 % 2)), s8, s9, s10, s11, s12, s13, s14]) (S1 := S) (by simp [h0, d5])]
  rw [sSeq_next (σ1 := [s0, .val (.lst (fs.map D.int)), .val (.lst (men.map D.str)), .val (.lst [.obj 0, .obj 3]), .val (.lst [.obj 12, .obj 19]), .val (.int k), .val (.lst [.int y0, .int y1, .int y2]), .val (.int (y0.fdiv 5 % 2)), .val (.str man), s9, s10, s11, s12, s13, s14]) (S1 := S) (by simp [h1, eman])]
  rw [sSeq_next ed]
  rw [sSeq_next (σ1 := [s0, .val (.lst (fs.map D.int)), .val (.lst (men.map D.str)), .val (.lst [.obj 0, .obj 3]), .val (.lst [.obj 12, .obj 19]), .val (.int k), .val (.lst [.int y0, .int y1, .int y2]), .val (.int (y0.fdiv 5 % 2)), .val (.str man), u9, .val .non, s11, s12, s13, s14]) (S1 := S') (by simp)]
  exact ez
def tkN (nx : Nat → Option Nat) (dead : Nat → Bool) : Nat → List Nat → Nat → Option (Option Nat)
  | 0, _, _ => none
  | n + 1, met, last => match nx last with
    | none => some none
    | some one => if met.contains one then some none else if dead one then tkN nx dead n (met ++ [one]) one else some (some one)
def nxN (odd : Bool) (j : Nat) : Option Nat := if j + 1 < 24 then some (j + 1) else if odd then some 0 else none
theorem line_ok : ∀ (odd : Bool) (a k : Fin 24), tkN (nxN odd) (fun j => j != a.val) 30 [k.val] k.val = some (if k.val == a.val || (decide (k.val > a.val) && !odd) then none else some a.val) := by decide +kernel
theorem line_dead : ∀ (odd : Bool) (k : Fin 24), tkN (nxN odd) (fun _ => true) 30 [k.val] k.val = some none := by decide +kernel
theorem tkN_map {nx' : Nat → Option Nat} {dead' : Nat → Bool} {nx : Str → Option Str} {dead : Str → Bool} {f : Nat → Str} {N : Nat} (hf : ∀ i j, i < N → j < N → f i = f j → i = j) (hc : ∀ i j, i < N → nx' i = some j → j < N)
    (hn : ∀ i, i < N → nx (f i) = (nx' i).map f) (hd : ∀ i, i < N → dead (f i) = dead' i) : ∀ (n : Nat) (met : List Nat) (last : Nat), (∀ i ∈ met, i < N) → last < N → tkF nx dead n (met.map f) (f last) = (tkN nx' dead' n met last).map (Option.map f)
  | 0, _, _, _, _ => rfl
  | n + 1, met, last, hm, hl => by
    rw [tkF, tkN, hn last hl]
    cases e : nx' last with
    | none => rfl
    | some one =>
      have ho := hc last one hl e
      dsimp only [Option.map]
      have hmem : (f one ∈ met.map f) ↔ met.contains one = true := by
        rw [List.contains_iff_mem, List.mem_map]
        constructor
        · rintro ⟨i, hi, e⟩
          exact hf i one (hm i hi) ho e ▸ hi
        · intro h
          exact ⟨one, h, rfl⟩
      by_cases h1 : met.contains one = true
      · rw [if_pos (hmem.mpr h1), if_pos h1]
      · rw [if_neg (fun z => h1 (hmem.mp z)), if_neg h1, hd one ho]
        by_cases h2 : dead' one = true
        · rw [if_pos h2, if_pos h2]
          have := tkN_map hf hc hn hd n (met ++ [one]) one (fun i hi => by
            rcases List.mem_append.mp hi with hi | hi
            · exact hm i hi
            · rw [List.mem_singleton] at hi; subst hi; exact ho) ho
          rw [List.map_append] at this
          exact this
        · rw [if_neg h2, if_neg h2]
section
variable {S : Sto} {r a b : Nat} {h g : List (Kk × D)}
theorem KinAt.setH (K : KinAt S r a b h g) (n1 : a ≠ r) (n2 : a ≠ b) (h' : List (Kk × D)) : KinAt (S.set a (.con false (.dK h'))) r a b h' g := by
  have la : a < S.length := (List.getElem?_eq_some_iff.mp K.h).1
  exact ⟨by rw [List.getElem?_set_ne n1]; exact K.o, by rw [List.getElem?_set_self la], by rw [List.getElem?_set_ne n2]; exact K.g⟩
theorem KinAt.setG (K : KinAt S r a b h g) (n1 : b ≠ r) (n2 : b ≠ a) (g' : List (Kk × D)) : KinAt (S.set b (.con false (.dK g'))) r a b h g' := by
  have lb : b < S.length := (List.getElem?_eq_some_iff.mp K.g).1
  exact ⟨by rw [List.getElem?_set_ne n1]; exact K.o, by rw [List.getElem?_set_ne n2]; exact K.h, by rw [List.getElem?_set_self lb]⟩
end
/-- the line's names by their places -/
def fN (ys : List Str) (j : Nat) : Str := ys.getD j ""
theorem fN_at {ys : List Str} (hy : Nms 24 ys) {j : Nat} (hj : j < 24) : L2.atI (ys.map D.str) (j : Int) = some (.str (fN ys j)) := by
  have hn : j < ys.length := by rw [hy.len]; exact hj
  refine L2.atI_nat ?_
  rw [List.getElem?_map, List.getElem?_eq_getElem hn]
  unfold fN
  rw [List.getD_eq_getElem?_getD, List.getElem?_eq_getElem hn]
  rfl
theorem fN_inj {ys : List Str} (hy : Nms 24 ys) (i j : Nat) (hi : i < 24) (hj : j < 24) (e : fN ys i = fN ys j) : i = j := by
  have h1 : i < ys.length := by rw [hy.len]; exact hi
  have h2 : j < ys.length := by rw [hy.len]; exact hj
  unfold fN at e
  rw [List.getD_eq_getElem?_getD, List.getD_eq_getElem?_getD, List.getElem?_eq_getElem h1, List.getElem?_eq_getElem h2] at e
  exact (List.getElem_inj (h₀ := h1) (h₁ := h2) hy.nd).mp e
theorem ran_get {n : Nat} {i : Nat} {d : D} (hi : (ran 0 (n : Int))[i]? = some d) : i < n ∧ d = .int (i : Nat) := by
  have hin : i < n := by
    have := (List.getElem?_eq_some_iff.mp hi).1
    simp [ran] at this
    omega
  refine ⟨hin, ?_⟩
  unfold ran at hi
  rw [List.getElem?_map] at hi
  obtain ⟨k, hk, rfl⟩ := Option.map_eq_some_iff.mp hi
  rw [List.getElem?_range (by omega)] at hk
  cases hk
  simp
theorem nxt_put {h : List (Kk × D)} {x y z : Str} : nxt (putD h (.inr x) (.str y)) z = if x = z then some y else nxt h z := by
  unfold nxt
  rw [valD_put]
  by_cases e : x = z
  · subst e; simp
  · have : ¬ (Sum.inr x : Kk) = .inr z := fun q => e (Sum.inr.inj q)
    rw [if_neg this, if_neg e]
section
variable {ys : List Str} (hy : Nms 24 ys) {num : Int} {S : Sto} {r a b : Nat}
theorem line1 (hy : Nms 24 ys) (n1 : a ≠ r) (n2 : a ≠ b) (K : KinAt S r a b [] []) {s2 s4 s5 s6 : Slot} : ∃ S' h u4, forL (gN 4) fb__law_long_line_1 (ran 0 24) [.val (.lst (ys.map D.str)), .val (.int num), s2, .val (.obj r), s4, s5, s6] S = .ok .next [.val (.lst (ys.map D.str)), .val (.int num), s2, .val (.obj r), u4, s5, s6] S' ∧
    KinAt S' r a b h [] ∧ SV' h ∧ h.length ≤ 24 ∧ ∀ j, j < 24 → nxt h (fN ys j) = (nxN (decide (num % 2 = 1)) j).map (fN ys) := by
  obtain ⟨σ', S', e, h, u4, rfl, K', hs, hl, hn⟩ := forL_inv (g := gN 4) (f := fb__law_long_line_1) (fun i σ S' => ∃ h u4, σ = [.val (.lst (ys.map D.str)), .val (.int num), s2, .val (.obj r), u4, s5, s6] ∧ KinAt S' r a b h [] ∧ SV' h ∧ h.length ≤ i ∧ ∀ j, j < 24 → nxt h (fN ys j) = if j < i then (nxN (decide (num % 2 = 1)) j).map (fN ys) else none) (ran 0 ((24 : Nat) : Int)) 0 [.val (.lst (ys.map D.str)), .val (.int num), s2, .val (.obj r), s4, s5, s6] S
    ⟨[], s4, rfl, K, fun k w e => (by cases e), Nat.le_refl _, fun j _ => by rw [if_neg (by omega)]; rfl⟩ (by
    rintro i d σ S' hi ⟨h, u4, rfl, K', hs, hl, hn⟩
    obtain ⟨hi24, rfl⟩ := ran_get hi
    rw [Nat.zero_add] at hl hn ⊢
    refine ⟨_, rfl, ?_⟩
    have hlen : opLen (.lst (ys.map D.str)) = some (.int 24) := by rw [opLen_lst, List.length_map, hy.len]; rfl
    have e1 := fN_at hy hi24
    have e2 : L2.atI (ys.map D.str) (((i : Int) + 1) % 24) = some (.str (fN ys ((i + 1) % 24))) := by
      have := fN_at hy (j := (i + 1) % 24) (by omega)
      rw [show (((i + 1) % 24 : Nat) : Int) = ((i : Int) + 1) % 24 by omega] at this
      exact this
    generalize ys.map D.str = ML at *
    by_cases hc : i + 1 < 24 ∨ num % 2 = 1
    · have hh := name_heir_eq K' (fN ys i) (fN ys ((i + 1) % 24)) (by unfold most; omega)
      refine ⟨[.val (.lst ML), .val (.int num), s2, .val (.obj r), .val (.int i), s5, s6], _, ?_, _, _, rfl, K'.setH n1 n2 _, SV'_put hs (.inr (fN ys i)) (fN ys ((i + 1) % 24)), ?_, ?_⟩
      · have ob := K'.ob
        show fb__law_long_line_1 [.val (.lst ML), .val (.int num), s2, .val (.obj r), .val (.int i), s5, s6] S' = _
        by_cases h1 : (i : Int) + 1 < 24
        · simp [fb__law_long_line_1, hlen, e1, e2, ob, hh, h1]
        · have h2 : num % 2 = 1 := by omega
          simp [fb__law_long_line_1, hlen, e1, e2, ob, hh, h1, h2]
      · have := putD_len (l := h) (k := .inr (fN ys i)) (w := .str (fN ys ((i + 1) % 24)))
        omega
      · intro j hj
        rw [nxt_put, hn j hj]
        by_cases ej : fN ys i = fN ys j
        · have := fN_inj hy i j hi24 hj ej
          subst this
          rw [if_pos rfl, if_pos (by omega)]
          unfold nxN
          by_cases h1 : i + 1 < 24
          · rw [if_pos h1, Nat.mod_eq_of_lt h1]; rfl
          · have h2 : num % 2 = 1 := by omega
            have h3 : (i + 1) % 24 = 0 := by omega
            rw [if_neg h1, decide_eq_true h2, h3]
            rfl
        · have : i ≠ j := fun q => ej (by rw [q])
          rw [if_neg ej]
          by_cases h1 : j < i
          · rw [if_pos h1, if_pos (by omega)]
          · rw [if_neg h1, if_neg (by omega)]
    · refine ⟨[.val (.lst ML), .val (.int num), s2, .val (.obj r), .val (.int i), s5, s6], S', ?_, h, _, rfl, K', hs, by omega, ?_⟩
      · have h1 : ¬ (i : Int) + 1 < 24 := by omega
        have h2 : ¬ num % 2 = 1 := by omega
        show fb__law_long_line_1 [.val (.lst ML), .val (.int num), s2, .val (.obj r), .val (.int i), s5, s6] S' = _
        simp [fb__law_long_line_1, hlen, h1, h2]
      · intro j hj
        rw [hn j hj]
        by_cases h1 : j < i
        · rw [if_pos h1, if_pos (by omega)]
        · rw [if_neg h1]
          by_cases h2 : j < i + 1
          · rw [if_pos h2]
            have : j = i := by omega
            subst this
            unfold nxN
            rw [if_neg (by omega), decide_eq_false (by omega)]
            rfl
          · rw [if_neg h2])
  refine ⟨S', h, u4, e, K', hs, by simpa [ran] using hl, fun j hj => ?_⟩
  rw [hn j hj, if_pos (by simp [ran]; omega)]
end
section
variable {ys : List Str} {num : Int} {S : Sto} {r a b : Nat} {h g : List (Kk × D)}
theorem gone_put {g : List (Kk × D)} {x z : Str} : (valD (putD g (.inr x) (.bl true)) (.inr z)).isSome = (decide (x = z) || (valD g (.inr z)).isSome) := by
  rw [valD_put]
  by_cases e : x = z
  · subst e; simp
  · have : ¬ (Sum.inr x : Kk) = .inr z := fun q => e (Sum.inr.inj q)
    rw [if_neg this, decide_eq_false e]
    rfl
theorem line2 (hy : Nms 24 ys) (n1 : b ≠ r) (n2 : b ≠ a) (K : KinAt S r a b h []) {al : Nat} {s4 s5 s6 : Slot} : ∃ S' g u4, forL (gN 4) fb__law_long_line_2 (ran 0 24) [.val (.lst (ys.map D.str)), .val (.int num), .val (.int al), .val (.obj r), s4, s5, s6] S = .ok .next [.val (.lst (ys.map D.str)), .val (.int num), .val (.int al), .val (.obj r), u4, s5, s6] S' ∧
    KinAt S' r a b h g ∧ g.length ≤ 24 ∧ ∀ j, j < 24 → (valD g (.inr (fN ys j))).isSome = (j != al) := by
  obtain ⟨σ', S', e, g, u4, rfl, K', hl, hn⟩ := forL_inv (g := gN 4) (f := fb__law_long_line_2) (fun i σ S' => ∃ g u4, σ = [.val (.lst (ys.map D.str)), .val (.int num), .val (.int al), .val (.obj r), u4, s5, s6] ∧ KinAt S' r a b h g ∧ g.length ≤ i ∧ ∀ j, j < 24 → (valD g (.inr (fN ys j))).isSome = (decide (j < i) && (j != al))) (ran 0 ((24 : Nat) : Int)) 0 [.val (.lst (ys.map D.str)), .val (.int num), .val (.int al), .val (.obj r), s4, s5, s6] S
    ⟨[], s4, rfl, K, Nat.le_refl _, fun j _ => rfl⟩ (by
    rintro i d σ S' hi ⟨g, u4, rfl, K', hl, hn⟩
    obtain ⟨hi24, rfl⟩ := ran_get hi
    rw [Nat.zero_add] at hl hn ⊢
    refine ⟨_, rfl, ?_⟩
    have e1 := fN_at hy hi24
    generalize ys.map D.str = ML at *
    have ob := K'.ob
    by_cases hc : i = al
    · subst hc
      refine ⟨[.val (.lst ML), .val (.int num), .val (.int i), .val (.obj r), .val (.int i), s5, s6], S', ?_, g, _, rfl, K', by omega, ?_⟩
      · show fb__law_long_line_2 [.val (.lst ML), .val (.int num), .val (.int i), .val (.obj r), .val (.int i), s5, s6] S' = _
        simp [fb__law_long_line_2]
      · intro j hj
        rw [hn j hj]
        by_cases h1 : j = i
        · subst h1; simp
        · by_cases h2 : j < i
          · have : j < i + 1 := by omega
            simp [h1, h2, this]
          · have : ¬ j < i + 1 := by omega
            simp [h1, h2, this]
    · have hh := die_eq K' (fN ys i) (by unfold most; omega)
      refine ⟨[.val (.lst ML), .val (.int num), .val (.int al), .val (.obj r), .val (.int i), s5, s6], _, ?_, _, _, rfl, K'.setG n1 n2 (putD g (.inr (fN ys i)) (.bl true)), ?_, ?_⟩
      · show fb__law_long_line_2 [.val (.lst ML), .val (.int num), .val (.int al), .val (.obj r), .val (.int i), s5, s6] S' = _
        have hc2 : ¬ (i : Int) = (al : Int) := by omega
        simp [fb__law_long_line_2, hc, hc2, e1, ob, hh]
      · have := putD_len (l := g) (k := .inr (fN ys i)) (w := .bl true)
        omega
      · intro j hj
        rw [gone_put, hn j hj]
        by_cases h1 : i = j
        · subst h1
          simp [hc]
        · have : ¬ fN ys i = fN ys j := fun q => h1 (fN_inj hy i j hi24 hj q)
          rw [decide_eq_false this]
          by_cases h2 : j < i
          · have : j < i + 1 := by omega
            simp [h2, this]
          · have : ¬ j < i + 1 := by omega
            simp [h2, this])
  refine ⟨S', g, u4, e, K', by simpa [ran] using hl, fun j hj => ?_⟩
  rw [hn j hj]
  have : j < 0 + (ran 0 ((24 : Nat) : Int)).length := by simp [ran]; omega
  rw [decide_eq_true this]
  rfl
end
section
variable {ys : List Str} {num : Int} {S : Sto} {r a b : Nat} {h g : List (Kk × D)}
theorem nxN_lt (odd : Bool) (i j : Nat) (hi : i < 24) (e : nxN odd i = some j) : j < 24 := by
  unfold nxN at e
  split at e
  · cases e; assumption
  · split at e
    · cases e; omega
    · cases e
theorem line_tk (hy : Nms 24 ys) (hs : SV' h) (K : KinAt S r a b h g) (hn : ∀ j, j < 24 → nxt h (fN ys j) = (nxN (decide (num % 2 = 1)) j).map (fN ys)) {dead' : Nat → Bool} (hd : ∀ j, j < 24 → (valD g (.inr (fN ys j))).isSome = dead' j) {k : Nat} (hk : k < 24) {res : Option Nat} (e : tkN (nxN (decide (num % 2 = 1))) dead' 30 [k] k = some res) :
    m_Kin_taker [.obj r, .str (fN ys k)] S = .ok (encO (res.map (fN ys))) S := by
  refine taker_eq K hs (n := 30) ?_ (by decide)
  have := tkN_map (nx' := nxN (decide (num % 2 = 1))) (dead' := dead') (nx := nxt h) (dead := fun x => (valD g (.inr x)).isSome) (f := fN ys) (N := 24) (fN_inj hy) (fun i j hi e => nxN_lt _ i j hi e) hn hd 30 [k] k (fun i hi => by rw [List.mem_singleton] at hi; omega) hk
  rw [e] at this
  exact this
theorem line3 (hy : Nms 24 ys) (hs : SV' h) (K : KinAt S r a b h g) {al : Nat} (hal : al < 24) (hn : ∀ j, j < 24 → nxt h (fN ys j) = (nxN (decide (num % 2 = 1)) j).map (fN ys)) (hd : ∀ j, j < 24 → (valD g (.inr (fN ys j))).isSome = (j != al)) {s4 s5 s6 : Slot} :
    ∃ u4 u5, forL (gN 4) fb__law_long_line_3 (ran 0 24) [.val (.lst (ys.map D.str)), .val (.int num), .val (.int al), .val (.obj r), s4, s5, s6] S = .ok .next [.val (.lst (ys.map D.str)), .val (.int num), .val (.int al), .val (.obj r), u4, u5, s6] S := by
  obtain ⟨σ', S', e, rfl, u4, u5, rfl⟩ := forL_inv (g := gN 4) (f := fb__law_long_line_3) (fun i σ S' => S' = S ∧ ∃ u4 u5, σ = [.val (.lst (ys.map D.str)), .val (.int num), .val (.int al), .val (.obj r), u4, u5, s6]) (ran 0 ((24 : Nat) : Int)) 0 [.val (.lst (ys.map D.str)), .val (.int num), .val (.int al), .val (.obj r), s4, s5, s6] S
    ⟨rfl, s4, s5, rfl⟩ (by
    rintro i d σ S' hi ⟨rfl, u4, u5, rfl⟩
    obtain ⟨hi24, rfl⟩ := ran_get hi
    refine ⟨_, rfl, ?_⟩
    have e1 := fN_at hy hi24
    have e2 := fN_at hy hal
    have ob := K.ob
    have et := line_tk hy hs K hn hd hi24 (line_ok (decide (num % 2 = 1)) ⟨al, hal⟩ ⟨i, hi24⟩)
    dsimp only at et
    generalize ys.map D.str = ML at *
    have q0 := same_ok (S := S') (d := .non) rfl
    have q1 := same_ok (S := S') (d := .str (fN ys al)) rfl
    by_cases hc : i = al ∨ (al < i ∧ num % 2 = 0)
    · have hb : (i == al || (decide (i > al) && !decide (num % 2 = 1))) = true := by
        rcases hc with hc | ⟨h1, h2⟩
        · simp [hc]
        · have : ¬ num % 2 = 1 := by omega
          simp [h1, this]
      rw [if_pos hb] at et
      have et : m_Kin_taker [.obj r, .str (fN ys i)] S' = .ok .non S' := et
      refine ⟨[.val (.lst ML), .val (.int num), .val (.int al), .val (.obj r), .val (.int i), .val .non, s6], S', ?_, rfl, _, _, rfl⟩
      show fb__law_long_line_3 [.val (.lst ML), .val (.int num), .val (.int al), .val (.obj r), .val (.int i), u5, s6] S' = _
      by_cases hia : i = al
      · simp [fb__law_long_line_3, e1, e2, ob, et, q0, hia]
        subst hia
        simp [e1, ob, et, q0]
      · have h1 : ¬ (i : Int) = (al : Int) := by omega
        have h2 : (al : Int) < (i : Int) := by omega
        have h3 : num % 2 = 0 := by omega
        simp [fb__law_long_line_3, e1, e2, ob, et, q0, hia, h1, h2, h3]
    · have hb : ¬ (i == al || (decide (i > al) && !decide (num % 2 = 1))) = true := by
        have h1 : ¬ i = al := fun z => hc (.inl z)
        by_cases h2 : al < i
        · have : num % 2 = 1 := by omega
          simp [h1, this]
        · have : ¬ i > al := by omega
          simp [h1, this]
      rw [if_neg hb] at et
      have et : m_Kin_taker [.obj r, .str (fN ys i)] S' = .ok (.str (fN ys al)) S' := et
      refine ⟨[.val (.lst ML), .val (.int num), .val (.int al), .val (.obj r), .val (.int i), .val (.str (fN ys al)), s6], S', ?_, rfl, _, _, rfl⟩
      show fb__law_long_line_3 [.val (.lst ML), .val (.int num), .val (.int al), .val (.obj r), .val (.int i), u5, s6] S' = _
      have hia : ¬ i = al := fun z => hc (.inl z)
      have h1 : ¬ (i : Int) = (al : Int) := by omega
      by_cases h2 : al < i
      · have h3 : ¬ num % 2 = 0 := by omega
        have h2' : (al : Int) < (i : Int) := by omega
        simp [fb__law_long_line_3, e1, e2, ob, et, q1, hia, h1, h2, h2', h3]
      · have h2' : ¬ (al : Int) < (i : Int) := by omega
        simp [fb__law_long_line_3, e1, e2, ob, et, q1, hia, h1, h2, h2'])
  exact ⟨u4, u5, e⟩
end
theorem kin_init (S : Sto) : m_Kin___init__ [.obj S.length] (S ++ [.ins "Kin" []]) = .ok .non (S ++ [.ins "Kin" [("heirs", .obj (S.length + 1)), ("gone", .obj (S.length + 2))], .con false (.dK []), .con false (.dK [])]) := by
  refine dDef_next (σ' := [.val (.obj S.length)]) ?_
  have o1 : objAt ["Kin"] (S ++ [.ins "Kin" [], .con false (.dK [])]) (.obj S.length) = some (S.length, "Kin", []) := objAt_obj (by simp) (by simp)
  have o2 : objAt ["Kin"] (S ++ [.ins "Kin" [("heirs", .obj (S.length + 1))], .con false (.dK []), .con false (.dK [])]) (.obj S.length) = some (S.length, "Kin", [("heirs", .obj (S.length + 1))]) := objAt_obj (by simp) (by simp)
  simp [b_Kin___init__, o1, o2]
theorem kin_made (S : Sto) : KinAt (S ++ [.ins "Kin" [("heirs", .obj (S.length + 1)), ("gone", .obj (S.length + 2))], .con false (.dK []), .con false (.dK [])]) S.length (S.length + 1) (S.length + 2) [] [] := ⟨by simp, by simp, by simp⟩
theorem long_line_ok {ys : List Str} (hy : Nms 24 ys) (num : Int) {al : Nat} (hal : al < 24) (S : Sto) : ∃ S', m__law_long_line [.lst (ys.map D.str), .int num, .int al] S = .ok (.bl true) S' := by
  have K0 := kin_made S
  have ei := kin_init S
  generalize hS0 : (S ++ [.ins "Kin" [("heirs", .obj (S.length + 1)), ("gone", .obj (S.length + 2))], .con false (.dK []), .con false (.dK [])]) = S0 at K0 ei
  obtain ⟨S1, h, u4, e1, K1, hs, hl, hn⟩ := line1 (num := num) hy (by omega) (by omega) K0 (s2 := .val (.int al)) (s4 := .emp) (s5 := .emp) (s6 := .emp)
  obtain ⟨S2, g, v4, e2, K2, hlg, hd⟩ := line2 (num := num) hy (by omega) (by omega) K1 (al := al) (s4 := u4) (s5 := .emp) (s6 := .emp)
  obtain ⟨w4, w5, e3⟩ := line3 hy hs K2 hal hn hd (s4 := v4) (s5 := .emp) (s6 := .emp)
  have hdie := die_eq K2 (fN ys al) (by unfold most; omega)
  have K3 := K2.setG (by omega) (by omega) (putD g (.inr (fN ys al)) (.bl true))
  have hd3 : ∀ j, j < 24 → (valD (putD g (.inr (fN ys al)) (.bl true)) (.inr (fN ys j))).isSome = (fun _ => true) j := fun j hj => by
    rw [gone_put, hd j hj]
    by_cases e : al = j
    · subst e; simp
    · have : ¬ j = al := fun z => e z.symm
      simp [this]
  generalize hS3 : S2.set (S.length + 2) (.con false (.dK (putD g (.inr (fN ys al)) (.bl true)))) = S3 at hdie K3
  have et : ∀ y ∈ ys, m_Kin_taker [.obj S.length, .str y] S3 = .ok .non S3 := fun y hm => by
    obtain ⟨k, hk⟩ := List.getElem?_of_mem hm
    have lk : k < 24 := by rw [← hy.len]; exact (List.getElem?_eq_some_iff.mp hk).1
    have hf : fN ys k = y := by unfold fN; rw [List.getD_eq_getElem?_getD, hk]; rfl
    have := line_tk hy hs K3 hn hd3 lk (line_dead (decide (num % 2 = 1)) ⟨k, lk⟩)
    rw [hf] at this
    exact this
  have ob3 := K3.ob
  have ob2 := K2.ob
  have elc : dLc (iLst (dVar 0)) (gN 6) tTrue le__law_long_line_4 [6] [.val (.lst (ys.map D.str)), .val (.int num), .val (.int al), .val (.obj S.length), w4, w5, .emp] S3 = .ok (.lst ((ys.map D.str).map fun _ => .bl true)) [.val (.lst (ys.map D.str)), .val (.int num), .val (.int al), .val (.obj S.length), w4, w5, .emp] S3 := by
    refine dLc_map (items := ys.map D.str) (fun d => [.val (.lst (ys.map D.str)), .val (.int num), .val (.int al), .val (.obj S.length), w4, w5, .val d]) (fun _ => .bl true) (by simp) rfl (by rw [List.length_map, hy.len]; decide) fun d hd => ?_
    obtain ⟨y, hm, rfl⟩ := List.mem_map.mp hd
    have e := et y hm
    exact ⟨rfl, rfl, by simp [le__law_long_line_4, ob3, e]⟩
  have hall : opAll (.lst ((ys.map D.str).map fun _ => .bl true)) = some (.bl true) := by
    rw [opAll_map (fun _ => true)]
    simp
  have hlen : opLen (.lst (ys.map D.str)) = some (.int 24) := by rw [opLen_lst, List.length_map, hy.len]; rfl
  have ea := fN_at hy hal
  have sm : small 24 := by decide
  refine ⟨S3, dDef_ex ?_⟩
  show ∃ σ', b__law_long_line [.val (.lst (ys.map D.str)), .val (.int num), .val (.int al), .emp, .emp, .emp, .emp] S = _
  generalize ((ys.map D.str).map fun _ => D.bl true) = AL at *
  generalize ys.map D.str = ML at *
  refine ⟨[.val (.lst ML), .val (.int num), .val (.int al), .val (.obj S.length), w4, w5, .emp], ?_⟩
  unfold b__law_long_line
  rw [sSeq_next (σ1 := [.val (.lst ML), .val (.int num), .val (.int al), .val (.obj S.length), .emp, .emp, .emp]) (S1 := S0) (by simp [ei])]
  rw [sSeq_next (σ1 := [.val (.lst ML), .val (.int num), .val (.int al), .val (.obj S.length), u4, .emp, .emp]) (S1 := S1) (by simp [hlen, sm, e1])]
  rw [sSeq_next (σ1 := [.val (.lst ML), .val (.int num), .val (.int al), .val (.obj S.length), v4, .emp, .emp]) (S1 := S2) (by simp [hlen, sm, e2])]
  rw [sSeq_next (σ1 := [.val (.lst ML), .val (.int num), .val (.int al), .val (.obj S.length), w4, w5, .emp]) (S1 := S2) (by simp [hlen, sm, e3])]
  rw [sSeq_next (σ1 := [.val (.lst ML), .val (.int num), .val (.int al), .val (.obj S.length), w4, w5, .emp]) (S1 := S3) (by simp [ob2, ea, hdie])]
  simp [elc, hall]
def bookD (n : Nat) : List (Kk × D) := mergeD [] [(.inr "lords", .obj n), (.inr "holders", .obj (n + 1)), (.inr "own", .obj (n + 2)), (.inr "due", .obj (n + 3)), (.inr "known", .lst []), (.inr "heirs", .obj (n + 4)), (.inr "dead", .lst []), (.inr "lieges", .obj (n + 5))]
def bookC (v : Int) : Sto := [.con false (.dK [(.inr "", .non)]), .con false (.dK [(.inr "", .str "")]), .con false (.dK [(.inr "", .int v)]), .con false (.dK [(.inr "", .tup [.int 0, .int 1])]), .con false (.dK []), .con false (.dK [])]
theorem book_ok (v : Int) (S : Sto) : m__law_book [.int v] S = .ok (.dK (bookD S.length)) (S ++ bookC v) := by
  refine dDef_ret (σ' := [.val (.int v)]) ?_
  have m0 : 0 ≤ most := by decide
  have m2 : 2 ≤ most := by decide
  have p : ∀ (k : Kk) (w : D), putD ([] : List (Kk × D)) k w = [(k, w)] := fun _ _ => rfl
  have e : bookD S.length = mergeD [] [(.inr "lords", .obj S.length), (.inr "holders", .obj (S.length + 1)), (.inr "own", .obj (S.length + 2)), (.inr "due", .obj (S.length + 3)), (.inr "known", .lst []), (.inr "heirs", .obj (S.length + 4)), (.inr "dead", .lst []), (.inr "lieges", .obj (S.length + 5))] := rfl
  rw [e]
  simp [b__law_book, bookC, m0, m2, p]
theorem bookD_heirs (n : Nat) : valD (bookD n) (.inr "heirs") = some (.obj (n + 4)) := by
  unfold bookD
  simp only [mergeD_cons, mergeD_nil]
  rw [valD_put, if_neg (by decide +kernel), valD_put, if_neg (by decide +kernel), valD_put, if_pos rfl]
theorem bookD_dead (n : Nat) : valD (bookD n) (.inr "dead") = some (.lst []) := by
  unfold bookD
  simp only [mergeD_cons, mergeD_nil]
  rw [valD_put, if_neg (by decide +kernel), valD_put, if_pos rfl]
theorem bookD_len (n : Nat) : (bookD n).length ≤ 8 := by
  unfold bookD
  simp only [mergeD_cons, mergeD_nil]
  have h := fun (l : List (Kk × D)) (k : Kk) (w : D) => putD_len (l := l) (k := k) (w := w)
  refine Nat.le_trans (h _ _ _) (Nat.succ_le_succ (Nat.le_trans (h _ _ _) (Nat.succ_le_succ (Nat.le_trans (h _ _ _) (Nat.succ_le_succ (Nat.le_trans (h _ _ _) (Nat.succ_le_succ (Nat.le_trans (h _ _ _) (Nat.succ_le_succ (Nat.le_trans (h _ _ _) (Nat.succ_le_succ (Nat.le_trans (h _ _ _) (Nat.succ_le_succ (Nat.le_trans (h _ _ _) (Nat.le_refl _)))))))))))))))
def kinC (n : Nat) : Sto := [.ins "Kin" [("heirs", .obj (n + 1)), ("gone", .obj (n + 2))], .con false (.dK []), .con false (.dK [])]
def S6 : Sto := kinC 0 ++ kinC 3
def S20 : Sto := S6 ++ bookC 1 ++ [.con false (.dK (bookD 6))] ++ bookC 1 ++ [.con false (.dK (bookD 13))]
theorem world0 : Wld 0 S20 := by
  refine ⟨[], [], bookD 6, [], [], [], bookD 13, [], ⟨⟨rfl, rfl, rfl⟩, ⟨rfl, bookD_heirs 6, bookD_dead 6, rfl⟩, fun k w e => (by cases e), fun x => rfl, Nat.le_refl _, Nat.le_refl _, bookD_len 6, Nat.le_refl _⟩, ⟨⟨rfl, rfl, rfl⟩, ⟨rfl, bookD_heirs 13, bookD_dead 13, rfl⟩, fun k w e => (by cases e), fun x => rfl, Nat.le_refl _, Nat.le_refl _, bookD_len 13, Nat.le_refl _⟩⟩
theorem law_true : ∀ ns : List Int, ns.length ≤ 63 → ∃ S', m_law [.scr ns] [] = .ok (.bl true) S' := by
  intro ns _
  obtain ⟨fs, hl, hg, ef⟩ := feed_ok ns 80 (by decide) []
  have ef : m__law_feed [.scr ns, .int 80] [] = .ok (.lst (fs.map D.int)) [] := ef
  have c1 : cutL (fs.map D.int) (some 4) (some 8) = ((fs.drop 4).take 4).map D.int := by rw [cutL_map]; congr 1; exact cutL_nat fs 4 8 (by omega) (by omega)
  obtain ⟨men, hm, em⟩ := names_ok (l := (fs.drop 4).take 4) (by rw [List.length_take, List.length_drop]; omega) (fun v hv => hg.drop 4 v (List.mem_of_mem_take hv)) 6 (by decide) []
  have em : m__law_names [.lst (((fs.drop 4).take 4).map D.int), .int 6] [] = .ok (.lst (men.map D.str)) [] := em
  have a0 := atI_map (f := D.int) (l := fs) (n := 0) (by omega)
  have a77 := atI_map (f := D.int) (l := fs) (n := 77) (by omega)
  have a78 := atI_map (f := D.int) (l := fs) (n := 78) (by omega)
  generalize fs[0]'(by omega) = x0 at a0
  generalize fs[77]'(by omega) = x77 at a77
  generalize fs[78]'(by omega) = x78 at a78
  have a0 : L2.atI (fs.map D.int) 0 = some (.int x0) := a0
  have a77 : L2.atI (fs.map D.int) 77 = some (.int x77) := a77
  have a78 : L2.atI (fs.map D.int) 78 = some (.int x78) := a78
  obtain ⟨N, hN, eN⟩ : ∃ N : Nat, N < 21 ∧ x0 % 21 = N := ⟨(x0 % 21).toNat, by omega, by omega⟩
  obtain ⟨σ', S', ⟨hW, hS, u5, u6, u7, u8, u9, u10, u11, u12, u13, rfl, h13⟩, el⟩ : ∃ σ' S', (Wld N S' ∧ S'.length = 20 ∧ ∃ u5 u6 u7 u8 u9 u10 u11 u12 u13, σ' = [.val (.scr ns), .val (.lst (fs.map D.int)), .val (.lst (men.map D.str)), .val (.lst [.obj 0, .obj 3]), .val (.lst [.obj 12, .obj 19]), u5, u6, u7, u8, u9, u10, u11, u12, u13, .emp] ∧ ∀ c, u13 ≠ .own c) ∧
      forL (gN 5) fb_law_5 (ran 0 (N : Int)) [.val (.scr ns), .val (.lst (fs.map D.int)), .val (.lst (men.map D.str)), .val (.lst [.obj 0, .obj 3]), .val (.lst [.obj 12, .obj 19]), .emp, .emp, .emp, .emp, .emp, .emp, .emp, .emp, .emp, .emp] S20 = .ok .next σ' S' := by
    obtain ⟨σ', S', e, hp⟩ := forL_inv (g := gN 5) (f := fb_law_5) (fun i σ S' => Wld i S' ∧ S'.length = 20 ∧ ∃ u5 u6 u7 u8 u9 u10 u11 u12 u13, σ = [.val (.scr ns), .val (.lst (fs.map D.int)), .val (.lst (men.map D.str)), .val (.lst [.obj 0, .obj 3]), .val (.lst [.obj 12, .obj 19]), u5, u6, u7, u8, u9, u10, u11, u12, u13, .emp] ∧ ∀ c, u13 ≠ .own c) (ran 0 (N : Int)) 0 _ S20
      ⟨world0, rfl, .emp, .emp, .emp, .emp, .emp, .emp, .emp, .emp, .emp, rfl, fun c h => (by cases h)⟩ (by
      rintro i d σ S' hi ⟨hW, hS, u5, u6, u7, u8, u9, u10, u11, u12, u13, rfl, h13⟩
      obtain ⟨hiN, rfl⟩ := ran_get hi
      rw [Nat.zero_add] at hW ⊢
      refine ⟨_, rfl, ?_⟩
      obtain ⟨S2, v6, v7, v8, v9, v10, v11, v12, x13, hW2, hS2, e2⟩ := turn hl hm i (by omega) (by omega) hW hS (s0 := .val (.scr ns)) (s6 := u6) (s7 := u7) (s8 := u8) (s9 := u9) (s10 := u10) (s11 := u11) (s12 := u12) (s13 := u13) (s14 := .emp) h13
      exact ⟨_, S2, e2, hW2, hS2, _, _, _, _, _, _, _, _, _, rfl, fun c h => by cases h⟩)
    refine ⟨σ', S', ?_, e⟩
    have : 0 + (ran 0 (N : Int)).length = N := by simp [ran]
    rw [this] at hp
    exact hp
  have c2 : cutL (fs.map D.int) (some 73) none = (fs.drop 73).map D.int := by rw [cutL_map]; congr 1; exact cutL_from fs 73
  obtain ⟨line, hline, eline⟩ := names_ok (l := fs.drop 73) (by rw [List.length_drop]; omega) (hg.drop 73) 24 (by decide) S'
  have eline : m__law_names [.lst ((fs.drop 73).map D.int), .int 24] S' = .ok (.lst (line.map D.str)) S' := eline
  obtain ⟨al, hal, eal⟩ : ∃ al : Nat, al < 24 ∧ x78 % 24 = al := ⟨(x78 % 24).toNat, by omega, by omega⟩
  obtain ⟨S'', elong⟩ := long_line_ok hline x77 hal S'
  have k0 := kin_init []
  have k0 : m_Kin___init__ [.obj 0] [.ins "Kin" []] = .ok .non (kinC 0) := k0
  have k1 : m_Kin___init__ [.obj 3] (kinC 0 ++ [.ins "Kin" []]) = .ok .non S6 := kin_init (kinC 0)
  have bk1 := book_ok 1 S6
  have bk1 : m__law_book [.int 1] S6 = .ok (.dK (bookD 6)) (S6 ++ bookC 1) := bk1
  have bk2 : m__law_book [.int 1] (S6 ++ bookC 1 ++ [.con false (.dK (bookD 6))]) = .ok (.dK (bookD 13)) (S6 ++ bookC 1 ++ [.con false (.dK (bookD 6))] ++ bookC 1) := book_ok 1 _
  have l3 : (kinC 0).length = 3 := rfl
  have l12 : List.length (S6 ++ bookC 1) = 12 := rfl
  have l19 : List.length (S6 ++ bookC 1 ++ [Ob.con false (.dK (bookD 6))] ++ bookC 1) = 19 := rfl
  have m2 : 2 ≤ most := by decide
  have g3 : dLst (aCons (dMake "Kin" m_Kin___init__ aNil) (aCons (dMake "Kin" m_Kin___init__ aNil) aNil)) [.val (.scr ns), .val (.lst (fs.map D.int)), .val (.lst (men.map D.str)), .emp, .emp, .emp, .emp, .emp, .emp, .emp, .emp, .emp, .emp, .emp, .emp] [] = .ok (.lst [.obj 0, .obj 3]) [.val (.scr ns), .val (.lst (fs.map D.int)), .val (.lst (men.map D.str)), .emp, .emp, .emp, .emp, .emp, .emp, .emp, .emp, .emp, .emp, .emp, .emp] S6 := by
    simp [k0, l3, k1, m2]
  have g4 : dLst (aCons (dAlloc (dCall m__law_book (aCons (dC (.int 1)) aNil))) (aCons (dAlloc (dCall m__law_book (aCons (dC (.int 1)) aNil))) aNil)) [.val (.scr ns), .val (.lst (fs.map D.int)), .val (.lst (men.map D.str)), .val (.lst [.obj 0, .obj 3]), .emp, .emp, .emp, .emp, .emp, .emp, .emp, .emp, .emp, .emp, .emp] S6 = .ok (.lst [.obj 12, .obj 19]) [.val (.scr ns), .val (.lst (fs.map D.int)), .val (.lst (men.map D.str)), .val (.lst [.obj 0, .obj 3]), .emp, .emp, .emp, .emp, .emp, .emp, .emp, .emp, .emp, .emp, .emp] S20 := by
    unfold S20
    generalize S6 = A at *
    generalize bookC 1 = B at *
    generalize bookD 6 = b6 at *
    generalize bookD 13 = b13 at *
    rw [dLst_def, aCons_def, dV_def, dAlloc_def, dCall_def]
    simp only [aCons_def, dV_def, dC_ok, Res.bind_ok, frz_int, aNil_def, bk1, scalar_dK, l12, dAlloc_def, dCall_def, bk2, l19, frz_obj, Bool.false_eq_true, if_false, List.length_cons, List.length_nil]
    rfl
  have sm : small (x0 % 21) := ⟨by omega, by omega⟩
  refine ⟨S'', ?_⟩
  unfold m_law
  refine dDef_ex ?_
  show ∃ σ', b_law [.val (.scr ns), .emp, .emp, .emp, .emp, .emp, .emp, .emp, .emp, .emp, .emp, .emp, .emp, .emp, .emp] [] = _
  rw [← eN] at el
  rw [← eal] at elong
  refine ⟨[.val (.scr ns), .val (.lst (fs.map D.int)), .val (.lst (men.map D.str)), .val (.lst [.obj 0, .obj 3]), .val (.lst [.obj 12, .obj 19]), u5, u6, u7, u8, u9, u10, u11, u12, u13, .val (.lst (line.map D.str))], ?_⟩
  generalize men.map D.str = ML at *
  generalize line.map D.str = LL at *
  generalize ((fs.drop 4).take 4).map D.int = F4 at *
  generalize (fs.drop 73).map D.int = F7 at *
  generalize fs.map D.int = FL at *
  unfold b_law
  rw [sSeq_next (σ1 := [.val (.scr ns), .val (.lst FL), .emp, .emp, .emp, .emp, .emp, .emp, .emp, .emp, .emp, .emp, .emp, .emp, .emp]) (S1 := []) (by simp [ef])]
  rw [sSeq_next (σ1 := [.val (.scr ns), .val (.lst FL), .val (.lst ML), .emp, .emp, .emp, .emp, .emp, .emp, .emp, .emp, .emp, .emp, .emp, .emp]) (S1 := []) (by simp [c1, em])]
  rw [sSeq_next (σ1 := [.val (.scr ns), .val (.lst FL), .val (.lst ML), .val (.lst [.obj 0, .obj 3]), .emp, .emp, .emp, .emp, .emp, .emp, .emp, .emp, .emp, .emp, .emp]) (S1 := S6) (by rw [sSet_def, dV_def, g3]; rfl)]
  rw [sSeq_next (σ1 := [.val (.scr ns), .val (.lst FL), .val (.lst ML), .val (.lst [.obj 0, .obj 3]), .val (.lst [.obj 12, .obj 19]), .emp, .emp, .emp, .emp, .emp, .emp, .emp, .emp, .emp, .emp]) (S1 := S20) (by rw [sSet_def, dV_def, g4]; rfl)]
  rw [sSeq_next (σ1 := [.val (.scr ns), .val (.lst FL), .val (.lst ML), .val (.lst [.obj 0, .obj 3]), .val (.lst [.obj 12, .obj 19]), u5, u6, u7, u8, u9, u10, u11, u12, u13, .emp]) (S1 := S') (by simp [a0, sm, el])]
  simp [c2, eline, a77, a78, elong]
end MR

set_option Elab.async false
set_option linter.all false
set_option maxRecDepth 100000
set_option maxHeartbeats 0
/-! The ties of the linked text to the denotations, and the head (printed by gen.py). -/
namespace MR
open PySem PySem.Spec PyProof.Rows L2
def top (i : Nat) : Stmt := PySem.Challenge.pw_manrent_k13_takers_told.main.body.getD i (.Pass ⟨0, 0, 0, 0⟩)
structure Tx (K : PySem.W.Frag) (mg : Str → Option Value) : Prop where
  cf_Kin_gone : ClsF K ["Kin"] "gone"
  cf_Kin_heirs : ClsF K ["Kin"] "heirs"
  all : mg "all" = none
  bool : mg "bool" = none
  int : mg "int" = none
  isinstance : mg "isinstance" = none
  len : mg "len" = none
  list : mg "list" = none
  range : mg "range" = none
  str : mg "str" = none
  tuple : mg "tuple" = none
  zip : mg "zip" = none
section
variable {P : Program} {w : World} {K : PySem.W.Frag} {mg : Str → Option Value} {base : Heap}
abbrev s__law_feed : Stmt := top 3
abbrev N__law_feed : List Str := ["_law_script", "_law_many", "_law_feed_here", "_law_salt", "_law_cell", "_law_rest", "_law_k"]
theorem sc__law_feed : FnScope N__law_feed ["_law_script", "_law_many"] (defScope s__law_feed) := ⟨rfl, rfl, rfl, by decide +kernel, rfl, by decide +kernel, by decide +kernel⟩
theorem t__law_feed {f : Addr} {fd : FuncData} (T : Tx K mg) (FD : FunD K "_law_feed" "_law_feed" (defArgs s__law_feed) (defBody s__law_feed) (defScope s__law_feed) [] [] f fd) (hm : mg "_law_feed" = some (.ref f))  : Fn true P w K mg base "_law_feed" 1 2 m__law_feed := by
  have sc := sc__law_feed
  refine fn_mk (n := 7) FD hm sc rfl rfl (fun _ _ _ _ _ _ us hl => match us, hl with | [_, _], _ => rfl) fun cdv A outer s H E hr => ?_
  have tk := takes_of (X := cxOf (L2.CX P w) P w K mg base N__law_feed "_law_feed" (defScope s__law_feed) f cdv A outer s H E) rfl rfl rfl rfl
  have hp := passes_of (X := cxOf (L2.CX P w) P w K mg base N__law_feed "_law_feed" (defScope s__law_feed) f cdv A outer s H E) rfl
  exact (cs_cons (cs_setO (i := 2) sc.nd (cf_lst ca_nil) rfl (Or.inl rfl) rfl (.inl rfl))
      (cs_cons (cs_set (i := 3) sc.nd c_int rfl (Or.inl rfl) rfl (.inl rfl))
      (cs_cons (cs_for (tvs := [4]) hp (ci_list (c_f (cf_sl (c_var 0) co_none (co_some c_int)))) (cg_name 4 sc.nd) (cs_cons (cs_set (i := 3) sc.nd (c_op op_mod os_mod (c_op op_addA os_add (c_op op_addA os_add (c_op op_mulA os_mul' (c_var 3) c_int) (c_op op_mod os_mod (c_var 4) c_int)) c_int) c_int) rfl (Or.inl rfl) rfl (.inl rfl))
      (cs_cons (cs_set (i := 5) sc.nd (c_op op_sub os_sub (c_var 4) (c_op op_pow os_pow c_int c_int)) rfl (Or.inl rfl) rfl (.inl rfl))
      (cs_cons (cs_if (ct_cmp op_lt os_lt (c_var 5) c_int (nomark _)) (cs_one (cs_expr (c_app (c_var 2) (c_op op_mod os_mod (c_var 4) c_int) rfl rfl rfl rfl) rfl)) cs_nil)
      (cs_one (cs_for (tvs := [6]) hp (ci_ran1 T.range c_int rfl rfl) (cg_name 6 sc.nd) (cs_one (cs_if (ct_cmp op_gt os_gt (c_var 5) c_int (nomark _)) (cs_cons (cs_expr (c_app (c_var 2) (c_op op_mod os_mod (c_var 5) c_int) rfl rfl rfl rfl) rfl)
      (cs_one (cs_set (i := 5) sc.nd (c_op op_divNW os_div (c_var 5) c_int) rfl (Or.inl rfl) rfl (.inl rfl)))) cs_nil)) rfl (fun _ => rfl)))))) rfl (fun _ => rfl))
      (cs_cons (cs_for (tvs := [6]) hp (ci_ran1 T.range (c_op op_sub os_sub (c_var 1) (c_b1 call_len b_len T.len (c_var 2) (by decide +kernel) rfl (by decide) (by decide) rfl)) rfl rfl) (cg_name 6 sc.nd) (cs_cons (cs_set (i := 3) sc.nd (c_op op_mod os_mod (c_op op_addA os_add (c_op op_addA os_add (c_op op_addA os_add (c_op op_mulA os_mul' (c_op op_mulA os_mul' (c_var 3) (c_var 3)) (c_var 3)) (c_op op_mulA os_mul' c_int (c_var 3))) (c_op op_mulA os_mul' c_int (c_var 6))) c_int) c_int) rfl (Or.inl rfl) rfl (.inl rfl))
      (cs_one (cs_expr (c_app (c_var 2) (c_op op_mod os_mod (c_op op_divNW os_div (c_var 3) c_int) c_int) rfl rfl rfl rfl) rfl))) rfl (fun _ => rfl))
      (cs_one (cs_retF (cf_sl (c_var 2) co_none (co_some (c_var 1)))))))))
abbrev s__law_names : Stmt := top 5
abbrev N__law_names : List Str := ["_law_d", "_law_many", "_law_letters", "_law_base", "_law_at", "_law_names_here", "_law_k", "_law_sign", "_law_name"]
theorem sc__law_names : FnScope N__law_names ["_law_d", "_law_many"] (defScope s__law_names) := ⟨rfl, rfl, rfl, by decide +kernel, rfl, by decide +kernel, by decide +kernel⟩
theorem t__law_names {f : Addr} {fd : FuncData} (T : Tx K mg) (FD : FunD K "_law_names" "_law_names" (defArgs s__law_names) (defBody s__law_names) (defScope s__law_names) [] [] f fd) (hm : mg "_law_names" = some (.ref f))  : Fn true P w K mg base "_law_names" 1 2 m__law_names := by
  have sc := sc__law_names
  refine fn_mk (n := 9) FD hm sc rfl rfl (fun _ _ _ _ _ _ us hl => match us, hl with | [_, _], _ => rfl) fun cdv A outer s H E hr => ?_
  have tk := takes_of (X := cxOf (L2.CX P w) P w K mg base N__law_names "_law_names" (defScope s__law_names) f cdv A outer s H E) rfl rfl rfl rfl
  have hp := passes_of (X := cxOf (L2.CX P w) P w K mg base N__law_names "_law_names" (defScope s__law_names) f cdv A outer s H E) rfl
  exact (cs_cons (cs_set (i := 2) sc.nd c_str rfl (Or.inr rfl) rfl (.inl rfl))
      (cs_cons (cs_set (i := 3) sc.nd (c_f (cf_join c_str (c_f (cf_lc sc.nd (blkOk_by (own := [("_law_k", 6)]) (N := N__law_names) (sc := defScope s__law_names) (by decide +kernel)) rfl (ci_ran1 T.range (c_op op_mod os_mod (c_ix (c_var 0) c_int (fun _ _ => rfl)) c_int) rfl rfl) (fun _ _ _ _ _ => (cg_name 6 sc.nd)) (fun _ _ _ _ _ => cts_nil) (fun _ _ _ _ _ => (c_ix (c_var 2) (c_op op_mod os_mod (c_op op_addA os_add (c_ix (c_var 0) c_int (fun _ _ => rfl)) (c_op op_mulA os_mul' (c_op op_addA os_add (c_var 6) c_int) (c_op op_divNW os_div (c_ix (c_var 0) c_int (fun _ _ => rfl)) c_int))) c_int) (fun _ _ => rfl))) rfl (fun _ => rfl))) rfl rfl rfl)) rfl (Or.inl rfl) rfl (.inl rfl))
      (cs_cons (cs_set (i := 4) sc.nd (c_op op_mod os_mod (c_ix (c_var 0) c_int (fun _ _ => rfl)) (c_op op_addA os_add (c_b1 call_len b_len T.len (c_var 3) (by decide +kernel) rfl (by decide) (by decide) rfl) c_int)) rfl (Or.inl rfl) rfl (.inl rfl))
      (cs_cons (cs_setO (i := 5) sc.nd (cf_lst ca_nil) rfl (Or.inl rfl) rfl (.inl rfl))
      (cs_cons (cs_for (tvs := [6]) hp (ci_ran1 T.range (c_var 1) rfl rfl) (cg_name 6 sc.nd) (cs_cons (cs_set (i := 7) sc.nd (c_ix (c_var 2) (c_op op_mod os_mod (c_op op_addA os_add (c_ix (c_var 0) c_int (fun _ _ => rfl)) (c_op op_mulA os_mul' c_int (c_var 6))) c_int) (fun _ _ => rfl)) rfl (Or.inl rfl) rfl (.inl rfl))
      (cs_cons (cs_set (i := 8) sc.nd (c_op op_addA os_add (c_op op_addA os_add (c_f (cf_sl (c_var 3) co_none (co_some (c_var 4)))) (c_var 7)) (c_f (cf_sl (c_var 3) (co_some (c_var 4)) co_none))) rfl (Or.inl rfl) rfl (.inl rfl))
      (cs_cons (cs_if (ct_cmp (op_eqA hr) os_eq (c_op op_mod os_mod (c_op op_divNW os_div (c_ix (c_var 0) c_int (fun _ _ => rfl)) c_int) c_int) c_int (nomark _)) (cs_one (cs_set (i := 8) sc.nd (c_op op_mulA os_mul' (c_var 7) (c_op op_addA os_add c_int (c_op op_mod os_mod (c_op op_addA os_add (c_ix (c_var 0) c_int (fun _ _ => rfl)) (c_op op_mulA os_mul' c_int (c_var 6))) c_int))) rfl (Or.inl rfl) rfl (.inl rfl))) cs_nil)
      (cs_one (cs_expr (c_app (c_var 5) (c_var 8) rfl rfl rfl rfl) rfl))))) rfl (fun _ => rfl))
      (cs_one (cs_retO 5)))))))
abbrev s_Kin___init__ : Stmt := inClass (top 1) 0
abbrev N_Kin___init__ : List Str := ["self"]
theorem sc_Kin___init__ : FnScope N_Kin___init__ ["self"] (defScope s_Kin___init__) := ⟨rfl, rfl, rfl, by decide +kernel, rfl, by decide +kernel, by decide +kernel⟩
theorem t_Kin___init__ {f : Addr} {fd : FuncData} (T : Tx K mg) (FD : FunD K "__init__" "Kin.__init__" (defArgs s_Kin___init__) (defBody s_Kin___init__) (defScope s_Kin___init__) [] [] f fd) (hg : mg "Kin" = some (.ref (ca K "Kin"))) (hM : Mk K (ca K "Kin") f)  : MkD P w K mg base "Kin" 1 1 m_Kin___init__ := by
  have sc := sc_Kin___init__
  refine mk_mk (n := 1) FD hg hM sc rfl rfl (fun _ _ _ _ _ _ us hl => match us, hl with | [_], _ => rfl) fun cdv A outer s H E hr => ?_
  have tk := takes_of (X := cxOf (L2.CX P w) P w K mg base N_Kin___init__ "Kin.__init__" (defScope s_Kin___init__) f cdv A outer s H E) rfl rfl rfl rfl
  have hp := passes_of (X := cxOf (L2.CX P w) P w K mg base N_Kin___init__ "Kin.__init__" (defScope s_Kin___init__) f cdv A outer s H E) rfl
  exact (cs_cons (cs_fld (f := "heirs") T.cf_Kin_heirs (c_var 0) (c_alloc cf_dnew) rfl)
      (cs_one (cs_fld (f := "gone") T.cf_Kin_gone (c_var 0) (c_alloc cf_dnew) rfl)))
abbrev s__law_book : Stmt := top 6
abbrev N__law_book : List Str := ["_law_acres"]
theorem sc__law_book : FnScope N__law_book ["_law_acres"] (defScope s__law_book) := ⟨rfl, rfl, rfl, by decide +kernel, rfl, by decide +kernel, by decide +kernel⟩
theorem t__law_book {f : Addr} {fd : FuncData} (T : Tx K mg) (FD : FunD K "_law_book" "_law_book" (defArgs s__law_book) (defBody s__law_book) (defScope s__law_book) [] [] f fd) (hm : mg "_law_book" = some (.ref f))  : Fn true P w K mg base "_law_book" 1 1 m__law_book := by
  have sc := sc__law_book
  refine fn_mk (n := 1) FD hm sc rfl rfl (fun _ _ _ _ _ _ us hl => match us, hl with | [_], _ => rfl) fun cdv A outer s H E hr => ?_
  have tk := takes_of (X := cxOf (L2.CX P w) P w K mg base N__law_book "_law_book" (defScope s__law_book) f cdv A outer s H E) rfl rfl rfl rfl
  have hp := passes_of (X := cxOf (L2.CX P w) P w K mg base N__law_book "_law_book" (defScope s__law_book) f cdv A outer s H E) rfl
  exact (cs_one (cs_retF (cf_disp (sp_cons c_str (c_alloc (cf_disp (sp_cons c_str c_non sp_nil) rfl rfl (by simp) (by decide))) (sp_cons c_str (c_alloc (cf_disp (sp_cons c_str c_str sp_nil) rfl rfl (by simp) (by decide))) (sp_cons c_str (c_alloc (cf_disp (sp_cons c_str (c_var 0) sp_nil) rfl rfl (by simp) (by decide))) (sp_cons c_str (c_alloc (cf_disp (sp_cons c_str (c_tup (ca_cons c_int (ca_cons c_int ca_nil rfl) rfl)) sp_nil) rfl rfl (by simp) (by decide))) (sp_cons c_str (c_f (cf_lst ca_nil)) (sp_cons c_str (c_alloc cf_dnew) (sp_cons c_str (c_f (cf_lst ca_nil)) (sp_cons c_str (c_alloc cf_dnew) sp_nil)))))))) rfl rfl (by simp) (by decide))))
abbrev s_Kin_name_heir : Stmt := inClass (top 1) 1
abbrev N_Kin_name_heir : List Str := ["self", "man", "heir"]
theorem sc_Kin_name_heir : FnScope N_Kin_name_heir ["self", "man", "heir"] (defScope s_Kin_name_heir) := ⟨rfl, rfl, rfl, by decide +kernel, rfl, by decide +kernel, by decide +kernel⟩
theorem t_Kin_name_heir {f : Addr} {fd : FuncData} (T : Tx K mg) (FD : FunD K "name_heir" "Kin.name_heir" (defArgs s_Kin_name_heir) (defBody s_Kin_name_heir) (defScope s_Kin_name_heir) [] [] f fd) (hc : Cls K (ca K "Kin")) (hm : Meth K (ca K "Kin") "name_heir" f)  : Mt false P w K mg base "Kin" "name_heir" 1 3 m_Kin_name_heir := by
  have sc := sc_Kin_name_heir
  refine mt_mk (n := 3) FD hc hm sc rfl rfl (fun _ _ _ _ _ _ us hl => match us, hl with | [_, _, _], _ => rfl) fun cdv A outer s H E hr => ?_
  have tk := takes_of (X := cxOf (L2.CX P w) P w K mg base N_Kin_name_heir "Kin.name_heir" (defScope s_Kin_name_heir) f cdv A outer s H E) rfl rfl rfl rfl
  have hp := passes_of (X := cxOf (L2.CX P w) P w K mg base N_Kin_name_heir "Kin.name_heir" (defScope s_Kin_name_heir) f cdv A outer s H E) rfl
  exact (cs_one (cs_dput hr (c_fld (f := "heirs") T.cf_Kin_heirs (c_var 0) rfl) (c_var 1) (c_var 2) rfl))
abbrev s_Kin_die : Stmt := inClass (top 1) 2
abbrev N_Kin_die : List Str := ["self", "man"]
theorem sc_Kin_die : FnScope N_Kin_die ["self", "man"] (defScope s_Kin_die) := ⟨rfl, rfl, rfl, by decide +kernel, rfl, by decide +kernel, by decide +kernel⟩
theorem t_Kin_die {f : Addr} {fd : FuncData} (T : Tx K mg) (FD : FunD K "die" "Kin.die" (defArgs s_Kin_die) (defBody s_Kin_die) (defScope s_Kin_die) [] [] f fd) (hc : Cls K (ca K "Kin")) (hm : Meth K (ca K "Kin") "die" f)  : Mt false P w K mg base "Kin" "die" 1 2 m_Kin_die := by
  have sc := sc_Kin_die
  refine mt_mk (n := 2) FD hc hm sc rfl rfl (fun _ _ _ _ _ _ us hl => match us, hl with | [_, _], _ => rfl) fun cdv A outer s H E hr => ?_
  have tk := takes_of (X := cxOf (L2.CX P w) P w K mg base N_Kin_die "Kin.die" (defScope s_Kin_die) f cdv A outer s H E) rfl rfl rfl rfl
  have hp := passes_of (X := cxOf (L2.CX P w) P w K mg base N_Kin_die "Kin.die" (defScope s_Kin_die) f cdv A outer s H E) rfl
  exact (cs_one (cs_dput hr (c_fld (f := "gone") T.cf_Kin_gone (c_var 0) rfl) (c_var 1) c_bl rfl))
abbrev s_Kin_is_dead : Stmt := inClass (top 1) 3
abbrev N_Kin_is_dead : List Str := ["self", "man"]
theorem sc_Kin_is_dead : FnScope N_Kin_is_dead ["self", "man"] (defScope s_Kin_is_dead) := ⟨rfl, rfl, rfl, by decide +kernel, rfl, by decide +kernel, by decide +kernel⟩
theorem t_Kin_is_dead {f : Addr} {fd : FuncData} (T : Tx K mg) (FD : FunD K "is_dead" "Kin.is_dead" (defArgs s_Kin_is_dead) (defBody s_Kin_is_dead) (defScope s_Kin_is_dead) [] [] f fd) (hc : Cls K (ca K "Kin")) (hm : Meth K (ca K "Kin") "is_dead" f)  : Mt false P w K mg base "Kin" "is_dead" 1 2 m_Kin_is_dead := by
  have sc := sc_Kin_is_dead
  refine mt_mk (n := 2) FD hc hm sc rfl rfl (fun _ _ _ _ _ _ us hl => match us, hl with | [_, _], _ => rfl) fun cdv A outer s H E hr => ?_
  have tk := takes_of (X := cxOf (L2.CX P w) P w K mg base N_Kin_is_dead "Kin.is_dead" (defScope s_Kin_is_dead) f cdv A outer s H E) rfl rfl rfl rfl
  have hp := passes_of (X := cxOf (L2.CX P w) P w K mg base N_Kin_is_dead "Kin.is_dead" (defScope s_Kin_is_dead) f cdv A outer s H E) rfl
  exact (cs_one (cs_ret (c_cmp (op_inG hr) os_inG (c_var 1) (c_fld (f := "gone") T.cf_Kin_gone (c_var 0) rfl) rfl)))
abbrev s__law_same : Stmt := top 4
abbrev N__law_same : List Str := ["_law_found", "_law_due", "_law_one", "_law_other"]
theorem sc__law_same : FnScope N__law_same ["_law_found", "_law_due"] (defScope s__law_same) := ⟨rfl, rfl, rfl, by decide +kernel, rfl, by decide +kernel, by decide +kernel⟩
theorem t__law_same_ {f : Addr} {fd : FuncData} (T : Tx K mg) (FD : FunD K "_law_same" "_law_same" (defArgs s__law_same) (defBody s__law_same) (defScope s__law_same) [] [] f fd) (hm : mg "_law_same" = some (.ref f))  : ∀ n : Nat, Fn false P w K mg base "_law_same" (0 + n) 2 (r__law_same n) := by
  have sc := sc__law_same
  intro n
  induction n with
  | zero => exact fn_zero FD hm (ps := ["_law_found", "_law_due"]) rfl (fun _ _ _ _ _ _ us hl => match us, hl with | [_, _], _ => rfl)
  | succ n C_self =>
    refine fn_mk (k := 0 + n) (n := 4) FD hm sc rfl rfl (fun _ _ _ _ _ _ us hl => match us, hl with | [_, _], _ => rfl) fun cdv A outer s H E hr => ?_
    have tk := takes_of (X := cxOf (L2.CX P w) P w K mg base N__law_same "_law_same" (defScope s__law_same) f cdv A outer s H E) rfl rfl rfl rfl
    have hp := passes_of (X := cxOf (L2.CX P w) P w K mg base N__law_same "_law_same" (defScope s__law_same) f cdv A outer s H E) rfl
    exact (cs_cons (cs_if (ct_isN (c_var 1)) (cs_one (cs_ret (c_isN (c_var 0)))) cs_nil)
        (cs_cons (cs_if (ct_val (c_isi .bool T.isinstance T.bool (c_var 1) (by decide +kernel) rfl rfl (by decide) (by decide) rfl rfl) (fun _ => rfl)) (cs_one (cs_ret (c_and (c_isi .bool T.isinstance T.bool (c_var 0) (by decide +kernel) rfl rfl (by decide) (by decide) rfl rfl) (c_one (c_cmp (op_eqA hr) os_eq (c_var 0) (c_var 1) (nomark _)))))) cs_nil)
        (cs_cons (cs_if (ct_val (c_isi .tuple T.isinstance T.tuple (c_var 1) (by decide +kernel) rfl rfl (by decide) (by decide) rfl rfl) (fun _ => rfl)) (cs_cons (cs_if (PW.pt (cw_or (ct_not (ct_val (c_isi .tuple T.isinstance T.tuple (c_var 0) (by decide +kernel) rfl rfl (by decide) (by decide) rfl rfl) (fun _ => rfl))) (cw_or1 (ct_cmp (op_neA hr) os_ne (c_b1 call_len b_len T.len (c_var 0) (by decide +kernel) rfl (by decide) (by decide) rfl) (c_b1 call_len b_len T.len (c_var 1) (by decide +kernel) rfl (by decide) (by decide) rfl) (nomark _))))) (cs_one (cs_ret c_bl)) cs_nil)
        (cs_one (cs_ret (c_b1 (cr_all rfl) b_all T.all (c_f (cf_lc sc.nd (blkOk_by (own := [("_law_one", 2), ("_law_other", 3)]) (N := N__law_same) (sc := defScope s__law_same) (by decide +kernel)) rfl (ci_zip T.zip (c_var 0) (c_var 1) rfl rfl rfl rfl) (fun _ _ _ _ _ => (cg_tup (cgs_cons (cg_name 2 sc.nd) (cgs_cons (cg_name 3 sc.nd) cgs_nil rfl) rfl) rfl rfl rfl)) (fun _ _ _ _ _ => cts_nil) (fun _ _ _ _ _ => (c_e (c_call C_self takes0 hr (Nat.le_refl _) (ca_cons (c_var 2) (ca_cons (c_var 3) ca_nil rfl) rfl) rfl rfl (by decide) rfl rfl (la_cons (la_cons la_nil))))) rfl (fun _ => rfl))) (by decide +kernel) rfl (by decide) (by decide) rfl)))) cs_nil)
        (cs_cons (cs_if (ct_val (c_isi .list T.isinstance T.list (c_var 1) (by decide +kernel) rfl rfl (by decide) (by decide) rfl rfl) (fun _ => rfl)) (cs_cons (cs_if (PW.pt (cw_or (ct_not (ct_val (c_isi .list T.isinstance T.list (c_var 0) (by decide +kernel) rfl rfl (by decide) (by decide) rfl rfl) (fun _ => rfl))) (cw_or1 (ct_cmp (op_neA hr) os_ne (c_b1 call_len b_len T.len (c_var 0) (by decide +kernel) rfl (by decide) (by decide) rfl) (c_b1 call_len b_len T.len (c_var 1) (by decide +kernel) rfl (by decide) (by decide) rfl) (nomark _))))) (cs_one (cs_ret c_bl)) cs_nil)
        (cs_one (cs_ret (c_b1 (cr_all rfl) b_all T.all (c_f (cf_lc sc.nd (blkOk_by (own := [("_law_one", 2), ("_law_other", 3)]) (N := N__law_same) (sc := defScope s__law_same) (by decide +kernel)) rfl (ci_zip T.zip (c_var 0) (c_var 1) rfl rfl rfl rfl) (fun _ _ _ _ _ => (cg_tup (cgs_cons (cg_name 2 sc.nd) (cgs_cons (cg_name 3 sc.nd) cgs_nil rfl) rfl) rfl rfl rfl)) (fun _ _ _ _ _ => cts_nil) (fun _ _ _ _ _ => (c_e (c_call C_self takes0 hr (Nat.le_refl _) (ca_cons (c_var 2) (ca_cons (c_var 3) ca_nil rfl) rfl) rfl rfl (by decide) rfl rfl (la_cons (la_cons la_nil))))) rfl (fun _ => rfl))) (by decide +kernel) rfl (by decide) (by decide) rfl)))) cs_nil)
        (cs_cons (cs_if (ct_val (c_isi .str T.isinstance T.str (c_var 1) (by decide +kernel) rfl rfl (by decide) (by decide) rfl rfl) (fun _ => rfl)) (cs_one (cs_ret (c_and (c_isi .str T.isinstance T.str (c_var 0) (by decide +kernel) rfl rfl (by decide) (by decide) rfl rfl) (c_one (c_cmp (op_eqA hr) os_eq (c_var 0) (c_var 1) (nomark _)))))) cs_nil)
        (cs_one (cs_ret (c_and (c_isi .int T.isinstance T.int (c_var 0) (by decide +kernel) rfl rfl (by decide) (by decide) rfl rfl) (c_and (c_not (c_isi .bool T.isinstance T.bool (c_var 0) (by decide +kernel) rfl rfl (by decide) (by decide) rfl rfl)) (c_one (c_cmp (op_eqA hr) os_eq (c_var 0) (c_var 1) (nomark _))))))))))))
theorem t__law_same {f : Addr} {fd : FuncData} (T : Tx K mg) (FD : FunD K "_law_same" "_law_same" (defArgs s__law_same) (defBody s__law_same) (defScope s__law_same) [] [] f fd) (hm : mg "_law_same" = some (.ref f))  : Fn false P w K mg base "_law_same" 8 2 m__law_same := t__law_same_ T FD hm  8
abbrev s__law_taker : Stmt := top 7
abbrev N__law_taker : List Str := ["_law_book_here", "_law_man", "_law_met", "_law_one"]
theorem sc__law_taker : FnScope N__law_taker ["_law_book_here", "_law_man"] (defScope s__law_taker) := ⟨rfl, rfl, rfl, by decide +kernel, rfl, by decide +kernel, by decide +kernel⟩
theorem t__law_taker {f : Addr} {fd : FuncData} (T : Tx K mg) (FD : FunD K "_law_taker" "_law_taker" (defArgs s__law_taker) (defBody s__law_taker) (defScope s__law_taker) [] [] f fd) (hm : mg "_law_taker" = some (.ref f))  : Fn false P w K mg base "_law_taker" 1 2 m__law_taker := by
  have sc := sc__law_taker
  refine fn_mk (n := 4) FD hm sc rfl rfl (fun _ _ _ _ _ _ us hl => match us, hl with | [_, _], _ => rfl) fun cdv A outer s H E hr => ?_
  have tk := takes_of (X := cxOf (L2.CX P w) P w K mg base N__law_taker "_law_taker" (defScope s__law_taker) f cdv A outer s H E) rfl rfl rfl rfl
  have hp := passes_of (X := cxOf (L2.CX P w) P w K mg base N__law_taker "_law_taker" (defScope s__law_taker) f cdv A outer s H E) rfl
  exact (cs_cons (cs_setO (i := 2) sc.nd (cf_lst (ca_cons (c_var 1) ca_nil rfl)) rfl (Or.inl rfl) rfl (.inl rfl))
      (cs_cons (cs_while fuel hp (ct_cmp (op_inG hr) os_inG (c_ix (c_var 2) (c_neg c_int) (fun _ _ => rfl)) (c_get hr (c_var 0) c_str (fun _ _ => rfl) (fun _ _ => rfl)) rfl) (cs_cons (cs_set (i := 3) sc.nd (c_get hr (c_get hr (c_var 0) c_str (fun _ _ => rfl) (fun _ _ => rfl)) (c_ix (c_var 2) (c_neg c_int) (fun _ _ => rfl)) (fun _ _ => rfl) (fun _ _ => rfl)) rfl (Or.inl rfl) rfl (.inl rfl))
      (cs_cons (cs_if (ct_cmp (op_inG hr) os_inG (c_var 3) (c_var 2) rfl) (cs_one (cs_ret c_non)) cs_nil)
      (cs_cons (cs_if (ct_cmp (op_notInG hr) os_notInG (c_var 3) (c_get hr (c_var 0) c_str (fun _ _ => rfl) (fun _ _ => rfl)) rfl) (cs_one (cs_ret (c_var 3))) cs_nil)
      (cs_one (cs_expr (c_app (c_var 2) (c_var 3) rfl rfl rfl rfl) rfl))))))
      (cs_one (cs_ret c_non))))
abbrev s_Kin_taker : Stmt := inClass (top 1) 4
abbrev N_Kin_taker : List Str := ["self", "man", "seen", "one"]
theorem sc_Kin_taker : FnScope N_Kin_taker ["self", "man"] (defScope s_Kin_taker) := ⟨rfl, rfl, rfl, by decide +kernel, rfl, by decide +kernel, by decide +kernel⟩
theorem t_Kin_taker {f : Addr} {fd : FuncData} (T : Tx K mg) (FD : FunD K "taker" "Kin.taker" (defArgs s_Kin_taker) (defBody s_Kin_taker) (defScope s_Kin_taker) [] [] f fd) (hc : Cls K (ca K "Kin")) (hm : Meth K (ca K "Kin") "taker" f)  : Mt false P w K mg base "Kin" "taker" 1 2 m_Kin_taker := by
  have sc := sc_Kin_taker
  refine mt_mk (n := 4) FD hc hm sc rfl rfl (fun _ _ _ _ _ _ us hl => match us, hl with | [_, _], _ => rfl) fun cdv A outer s H E hr => ?_
  have tk := takes_of (X := cxOf (L2.CX P w) P w K mg base N_Kin_taker "Kin.taker" (defScope s_Kin_taker) f cdv A outer s H E) rfl rfl rfl rfl
  have hp := passes_of (X := cxOf (L2.CX P w) P w K mg base N_Kin_taker "Kin.taker" (defScope s_Kin_taker) f cdv A outer s H E) rfl
  exact (cs_cons (cs_setO (i := 2) sc.nd (cf_disp (sp_cons (c_var 1) c_bl sp_nil) rfl rfl (by simp) (by decide)) rfl (Or.inl rfl) rfl (.inl rfl))
      (cs_cons (cs_set (i := 3) sc.nd (c_dget1 hr (c_fld (f := "heirs") T.cf_Kin_heirs (c_var 0) rfl) (c_var 1) ⟨rfl, rfl, rfl, rfl⟩) rfl (Or.inl rfl) rfl (.inl rfl))
      (cs_cons (cs_while fuel hp (ct_notN (c_var 3)) (cs_cons (cs_if (ct_cmp (op_inG hr) os_inG (c_var 3) (c_var 2) rfl) (cs_one (cs_ret c_non)) cs_nil)
      (cs_cons (cs_if (ct_cmp (op_notInG hr) os_notInG (c_var 3) (c_fld (f := "gone") T.cf_Kin_gone (c_var 0) rfl) rfl) (cs_one (cs_ret (c_var 3))) cs_nil)
      (cs_cons (cs_dput hr (c_var 2) (c_var 3) c_bl rfl)
      (cs_one (cs_set (i := 3) sc.nd (c_dget1 hr (c_fld (f := "heirs") T.cf_Kin_heirs (c_var 0) rfl) (c_var 3) ⟨rfl, rfl, rfl, rfl⟩) rfl (Or.inl rfl) rfl (.inl rfl)))))))
      (cs_one (cs_ret c_non)))))
abbrev s__law_long_line : Stmt := top 8
abbrev N__law_long_line : List Str := ["_law_names_here", "_law_number", "_law_alive", "_law_kin", "_law_k", "_law_due", "_law_name"]
theorem sc__law_long_line : FnScope N__law_long_line ["_law_names_here", "_law_number", "_law_alive"] (defScope s__law_long_line) := ⟨rfl, rfl, rfl, by decide +kernel, rfl, by decide +kernel, by decide +kernel⟩
theorem t__law_long_line {f : Addr} {fd : FuncData} (T : Tx K mg) (FD : FunD K "_law_long_line" "_law_long_line" (defArgs s__law_long_line) (defBody s__law_long_line) (defScope s__law_long_line) [] [] f fd) (hm : mg "_law_long_line" = some (.ref f)) (C_Kin___init__ : MkD P w K mg base "Kin" 1 1 m_Kin___init__) (C_Kin_name_heir : Mt false P w K mg base "Kin" "name_heir" 1 3 m_Kin_name_heir) (C_Kin_die : Mt false P w K mg base "Kin" "die" 1 2 m_Kin_die) (C_Kin_taker : Mt false P w K mg base "Kin" "taker" 1 2 m_Kin_taker) (C__law_same : Fn false P w K mg base "_law_same" 8 2 m__law_same) : Fn false P w K mg base "_law_long_line" 9 3 m__law_long_line := by
  have sc := sc__law_long_line
  refine fn_mk (n := 7) FD hm sc rfl rfl (fun _ _ _ _ _ _ us hl => match us, hl with | [_, _, _], _ => rfl) fun cdv A outer s H E hr => ?_
  have tk := takes_of (X := cxOf (L2.CX P w) P w K mg base N__law_long_line "_law_long_line" (defScope s__law_long_line) f cdv A outer s H E) rfl rfl rfl rfl
  have hp := passes_of (X := cxOf (L2.CX P w) P w K mg base N__law_long_line "_law_long_line" (defScope s__law_long_line) f cdv A outer s H E) rfl
  exact (cs_cons (cs_set (i := 3) sc.nd (c_e (c_make0 (c := "Kin") C_Kin___init__ tk hr (by omega) rfl rfl (by decide))) rfl (Or.inr rfl) rfl (.inl rfl))
      (cs_cons (cs_for (tvs := [4]) hp (ci_ran1 T.range (c_b1 call_len b_len T.len (c_var 0) (by decide +kernel) rfl (by decide) (by decide) rfl) rfl rfl) (cg_name 4 sc.nd) (cs_one (cs_if (PW.pt (cw_or (ct_cmp op_lt os_lt (c_op op_addA os_add (c_var 4) c_int) (c_b1 call_len b_len T.len (c_var 0) (by decide +kernel) rfl (by decide) (by decide) rfl) (nomark _)) (cw_or1 (ct_cmp (op_eqA hr) os_eq (c_op op_mod os_mod (c_var 1) c_int) c_int (nomark _))))) (cs_one (cs_expr (c_e (c_met (m := "name_heir") (tbl := [("Kin", m_Kin_name_heir)]) (mt_cons C_Kin_name_heir (by omega) mt_nil) (by simp) tk hr (c_var 3) (ca_cons (c_get hr (c_var 0) (c_var 4) (fun _ _ => rfl) (fun _ _ => rfl)) (ca_cons (c_ix (c_var 0) (c_op op_mod os_mod (c_op op_addA os_add (c_var 4) c_int) (c_b1 call_len b_len T.len (c_var 0) (by decide +kernel) rfl (by decide) (by decide) rfl)) (fun _ _ => rfl)) ca_nil rfl) rfl) (la_met (la_cons (la_cons la_nil))) rfl rfl rfl)) rfl)) cs_nil)) rfl (fun _ => rfl))
      (cs_cons (cs_for (tvs := [4]) hp (ci_ran1 T.range (c_b1 call_len b_len T.len (c_var 0) (by decide +kernel) rfl (by decide) (by decide) rfl) rfl rfl) (cg_name 4 sc.nd) (cs_one (cs_if (ct_cmp (op_neA hr) os_ne (c_var 4) (c_var 2) (nomark _)) (cs_one (cs_expr (c_e (c_met (m := "die") (tbl := [("Kin", m_Kin_die)]) (mt_cons C_Kin_die (by omega) mt_nil) (by simp) tk hr (c_var 3) (ca_cons (c_get hr (c_var 0) (c_var 4) (fun _ _ => rfl) (fun _ _ => rfl)) ca_nil rfl) (la_met (la_cons la_nil)) rfl rfl rfl)) rfl)) cs_nil)) rfl (fun _ => rfl))
      (cs_cons (cs_for (tvs := [4]) hp (ci_ran1 T.range (c_b1 call_len b_len T.len (c_var 0) (by decide +kernel) rfl (by decide) (by decide) rfl) rfl rfl) (cg_name 4 sc.nd) (cs_cons (cs_set (i := 5) sc.nd (c_get hr (c_var 0) (c_var 2) (fun _ _ => rfl) (fun _ _ => rfl)) rfl (Or.inl rfl) rfl (.inl rfl))
      (cs_cons (cs_if (PW.pt (cw_or (ct_cmp (op_eqA hr) os_eq (c_var 4) (c_var 2) (nomark _)) (cw_or1 (PW.pt (cw_and (ct_cmp op_gt os_gt (c_var 4) (c_var 2) (nomark _)) (cw_and1 (ct_cmp (op_eqA hr) os_eq (c_op op_mod os_mod (c_var 1) c_int) c_int (nomark _)))))))) (cs_one (cs_set (i := 5) sc.nd c_non rfl (Or.inl rfl) rfl (.inl rfl))) cs_nil)
      (cs_one (cs_if (ct_not (ct_val (c_e (c_call C__law_same tk hr (by omega) (ca_cons (c_e (c_met (m := "taker") (tbl := [("Kin", m_Kin_taker)]) (mt_cons C_Kin_taker (by omega) mt_nil) (by simp) tk hr (c_var 3) (ca_cons (c_get hr (c_var 0) (c_var 4) (fun _ _ => rfl) (fun _ _ => rfl)) ca_nil rfl) (la_met (la_cons la_nil)) rfl rfl rfl)) (ca_cons (c_var 5) ca_nil rfl) rfl) rfl rfl (by decide) rfl rfl (la_cons (la_cons la_nil)))) (fun _ => rfl))) (cs_one (cs_ret c_bl)) cs_nil)))) rfl (fun _ => rfl))
      (cs_cons (cs_expr (c_e (c_met (m := "die") (tbl := [("Kin", m_Kin_die)]) (mt_cons C_Kin_die (by omega) mt_nil) (by simp) tk hr (c_var 3) (ca_cons (c_get hr (c_var 0) (c_var 2) (fun _ _ => rfl) (fun _ _ => rfl)) ca_nil rfl) (la_met (la_cons la_nil)) rfl rfl rfl)) rfl)
      (cs_one (cs_ret (c_b1 (cr_all rfl) b_all T.all (c_f (cf_lc sc.nd (blkOk_by (own := [("_law_name", 6)]) (N := N__law_long_line) (sc := defScope s__law_long_line) (by decide +kernel)) rfl (ci_list (c_var 0)) (fun _ _ _ _ _ => (cg_name 6 sc.nd)) (fun _ _ _ _ _ => cts_nil) (fun _ _ _ _ _ => (c_isN (c_e (c_met (m := "taker") (tbl := [("Kin", m_Kin_taker)]) (mt_cons C_Kin_taker (by omega) mt_nil) (by simp) takes0 hr (c_var 3) (ca_cons (c_var 6) ca_nil rfl) (la_met (la_cons la_nil)) rfl rfl rfl)))) rfl (fun _ => rfl))) (by decide +kernel) rfl (by decide) (by decide) rfl))))))))
abbrev s_law : Stmt := top 9
abbrev N_law : List Str := ["_law_script", "_law_feed_here", "_law_men", "_law_kins", "_law_books", "_law_k", "_law_d", "_law_at", "_law_man", "_law_heir", "_law_told", "_law_kin", "_law_book_here", "_law_one", "_law_line"]
theorem sc_law : FnScope N_law ["_law_script"] (defScope s_law) := ⟨rfl, rfl, rfl, by decide +kernel, rfl, by decide +kernel, by decide +kernel⟩
theorem o_law {f : Addr} {fd : FuncData} (T : Tx K mg) (FD : FunD K "law" "law" (defArgs s_law) (defBody s_law) (defScope s_law) [] [] f fd) (C__law_feed : Fn true P w K mg base "_law_feed" 1 2 m__law_feed) (C__law_names : Fn true P w K mg base "_law_names" 1 2 m__law_names) (C_Kin___init__ : MkD P w K mg base "Kin" 1 1 m_Kin___init__) (C__law_book : Fn true P w K mg base "_law_book" 1 1 m__law_book) (C_Kin_name_heir : Mt false P w K mg base "Kin" "name_heir" 1 3 m_Kin_name_heir) (C_Kin_die : Mt false P w K mg base "Kin" "die" 1 2 m_Kin_die) (C_Kin_is_dead : Mt false P w K mg base "Kin" "is_dead" 1 2 m_Kin_is_dead) (C__law_same : Fn false P w K mg base "_law_same" 8 2 m__law_same) (C__law_taker : Fn false P w K mg base "_law_taker" 1 2 m__law_taker) (C_Kin_taker : Mt false P w K mg base "Kin" "taker" 1 2 m_Kin_taker) (C__law_long_line : Fn false P w K mg base "_law_long_line" 9 3 m__law_long_line) : FnOk P w K mg base (L2.CX P w) 10 f fd ["_law_script"] (spD false K 1 m_law) := by
  have sc := sc_law
  refine def_ok (n := 15) FD sc rfl fun cdv A outer s H E hr => ?_
  have tk := takes_of (X := cxOf (L2.CX P w) P w K mg base N_law "law" (defScope s_law) f cdv A outer s H E) rfl rfl rfl rfl
  have hp := passes_of (X := cxOf (L2.CX P w) P w K mg base N_law "law" (defScope s_law) f cdv A outer s H E) rfl
  exact (cs_cons (cs_set (i := 1) sc.nd (c_f (cf_call C__law_feed tk hr (by omega) (ca_cons (c_var 0) (ca_cons c_int ca_nil rfl) rfl) rfl rfl (by decide) rfl rfl (la_cons (la_cons la_nil)))) rfl (Or.inl rfl) rfl (.inl rfl))
      (cs_cons (cs_set (i := 2) sc.nd (c_f (cf_call C__law_names tk hr (by omega) (ca_cons (c_f (cf_sl (c_var 1) (co_some c_int) (co_some c_int))) (ca_cons c_int ca_nil rfl) rfl) rfl rfl (by decide) rfl rfl (la_cons (la_cons la_nil)))) rfl (Or.inl rfl) rfl (.inl rfl))
      (cs_cons (cs_set (i := 3) sc.nd (c_f (cf_lst (ca_cons (c_e (c_make0 (c := "Kin") C_Kin___init__ tk hr (by omega) rfl rfl (by decide))) (ca_cons (c_e (c_make0 (c := "Kin") C_Kin___init__ tk hr (by omega) rfl rfl (by decide))) ca_nil rfl) rfl))) rfl (Or.inl rfl) rfl (.inl rfl))
      (cs_cons (cs_set (i := 4) sc.nd (c_f (cf_lst (ca_cons (c_alloc (cf_call C__law_book tk hr (by omega) (ca_cons c_int ca_nil rfl) rfl rfl (by decide) rfl rfl (la_cons la_nil))) (ca_cons (c_alloc (cf_call C__law_book tk hr (by omega) (ca_cons c_int ca_nil rfl) rfl rfl (by decide) rfl rfl (la_cons la_nil))) ca_nil rfl) rfl))) rfl (Or.inl rfl) rfl (.inl rfl))
      (cs_cons (cs_for (tvs := [5]) hp (ci_ran1 T.range (c_op op_mod os_mod (c_ix (c_var 1) c_int (fun _ _ => rfl)) c_int) rfl rfl) (cg_name 5 sc.nd) (cs_cons (cs_set (i := 6) sc.nd (c_f (cf_sl (c_var 1) (co_some (c_op op_addA os_add c_int (c_op op_mulA os_mul' c_int (c_var 5)))) (co_some (c_op op_addA os_add c_int (c_op op_mulA os_mul' c_int (c_var 5)))))) rfl (Or.inl rfl) rfl (.inl rfl))
      (cs_cons (cs_set (i := 7) sc.nd (c_op op_mod os_mod (c_op op_divNW os_div (c_ix (c_var 6) c_int (fun _ _ => rfl)) c_int) c_int) rfl (Or.inl rfl) rfl (.inl rfl))
      (cs_cons (cs_set (i := 8) sc.nd (c_ix (c_var 2) (c_op op_mod os_mod (c_ix (c_var 6) c_int (fun _ _ => rfl)) c_int) (fun _ _ => rfl)) rfl (Or.inr rfl) rfl (.inl rfl))
      (cs_cons (cs_if (ct_cmp op_gt os_gt (c_op op_mod os_mod (c_ix (c_var 6) c_int (fun _ _ => rfl)) c_int) c_int (nomark _)) (cs_cons (cs_set (i := 9) sc.nd (c_ix (c_f (cf_lc sc.nd (blkOk_by (own := [("_law_one", 13)]) (N := N_law) (sc := defScope s_law) (by decide +kernel)) rfl (ci_list (c_var 2)) (fun _ _ _ _ _ => (cg_name 13 sc.nd)) (fun _ _ _ _ _ => cts_one (ct_cmp (op_neA hr) os_ne (c_var 13) (c_var 8) (nomark _))) (fun _ _ _ _ _ => (c_var 13)) rfl (fun _ => rfl))) (c_op op_mod os_mod (c_ix (c_var 6) c_int (fun _ _ => rfl)) c_int) (fun _ _ => rfl)) rfl (Or.inl rfl) rfl (.inl rfl))
      (cs_cons (cs_dput hr (c_get hr (c_get hr (c_var 4) (c_var 7) (fun _ _ => rfl) (fun _ _ => rfl)) c_str (fun _ _ => rfl) (fun _ _ => rfl)) (c_var 8) (c_var 9) rfl)
      (cs_one (cs_set (i := 10) sc.nd (c_e (c_met (m := "name_heir") (tbl := [("Kin", m_Kin_name_heir)]) (mt_cons C_Kin_name_heir (by omega) mt_nil) (by simp) tk hr (c_get hr (c_var 3) (c_var 7) (fun _ _ => rfl) (fun _ _ => rfl)) (ca_cons (c_var 8) (ca_cons (c_var 9) ca_nil rfl) rfl) (la_met (la_cons (la_cons la_nil))) rfl rfl rfl)) rfl (Or.inl rfl) rfl (.inl rfl))))) (cs_cons (cs_dput hr (c_get hr (c_var 4) (c_var 7) (fun _ _ => rfl) (fun _ _ => rfl)) c_str (c_op op_addA os_add (c_get hr (c_get hr (c_var 4) (c_var 7) (fun _ _ => rfl) (fun _ _ => rfl)) c_str (fun _ _ => rfl) (fun _ _ => rfl)) (c_f (cf_lst (ca_cons (c_var 8) ca_nil rfl)))) rfl)
      (cs_one (cs_set (i := 10) sc.nd (c_e (c_met (m := "die") (tbl := [("Kin", m_Kin_die)]) (mt_cons C_Kin_die (by omega) mt_nil) (by simp) tk hr (c_get hr (c_var 3) (c_var 7) (fun _ _ => rfl) (fun _ _ => rfl)) (ca_cons (c_var 8) ca_nil rfl) (la_met (la_cons la_nil)) rfl rfl rfl)) rfl (Or.inl rfl) rfl (.inl rfl)))))
      (cs_cons (cs_if (ct_notN (c_var 10)) (cs_one (cs_ret c_bl)) cs_nil)
      (cs_one (cs_for (tvs := [11, 12]) hp (ci_zip T.zip (c_var 3) (c_var 4) rfl rfl rfl rfl) (cg_tup (cgs_cons (cg_name 11 sc.nd) (cgs_cons (cg_name 12 sc.nd) cgs_nil rfl) rfl) rfl rfl rfl) (cs_one (cs_for (tvs := [13]) hp (ci_list (c_op op_addA os_add (c_var 2) (c_f (cf_lst (ca_cons c_str ca_nil rfl))))) (cg_name 13 sc.nd) (cs_cons (cs_if (ct_not (ct_val (c_e (c_call C__law_same tk hr (by omega) (ca_cons (c_e (c_met (m := "is_dead") (tbl := [("Kin", m_Kin_is_dead)]) (mt_cons C_Kin_is_dead (by omega) mt_nil) (by simp) tk hr (c_var 11) (ca_cons (c_var 13) ca_nil rfl) (la_met (la_cons la_nil)) rfl rfl rfl)) (ca_cons (c_cmp (op_inG hr) os_inG (c_var 13) (c_get hr (c_var 12) c_str (fun _ _ => rfl) (fun _ _ => rfl)) rfl) ca_nil rfl) rfl) rfl rfl (by decide) rfl rfl (la_cons (la_cons la_nil)))) (fun _ => rfl))) (cs_one (cs_ret c_bl)) cs_nil)
      (cs_one (cs_if (ct_not (ct_val (c_e (c_call C__law_same tk hr (by omega) (ca_cons (c_e (c_met (m := "taker") (tbl := [("Kin", m_Kin_taker)]) (mt_cons C_Kin_taker (by omega) mt_nil) (by simp) tk hr (c_var 11) (ca_cons (c_var 13) ca_nil rfl) (la_met (la_cons la_nil)) rfl rfl rfl)) (ca_cons (c_e (c_call C__law_taker tk hr (by omega) (ca_cons (c_var 12) (ca_cons (c_var 13) ca_nil rfl) rfl) rfl rfl (by decide) rfl rfl (la_cons (la_cons la_nil)))) ca_nil rfl) rfl) rfl rfl (by decide) rfl rfl (la_cons (la_cons la_nil)))) (fun _ => rfl))) (cs_one (cs_ret c_bl)) cs_nil))) rfl (fun _ => rfl))) rfl (fun _ => rfl)))))))) rfl (fun _ => rfl))
      (cs_cons (cs_set (i := 14) sc.nd (c_f (cf_call C__law_names tk hr (by omega) (ca_cons (c_f (cf_sl (c_var 1) (co_some c_int) co_none)) (ca_cons c_int ca_nil rfl) rfl) rfl rfl (by decide) rfl rfl (la_cons (la_cons la_nil)))) rfl (Or.inl rfl) rfl (.inl rfl))
      (cs_one (cs_ret (c_e (c_call C__law_long_line tk hr (by omega) (ca_cons (c_var 14) (ca_cons (c_ix (c_var 1) c_int (fun _ _ => rfl)) (ca_cons (c_op op_mod os_mod (c_ix (c_var 1) c_int (fun _ _ => rfl)) c_int) ca_nil rfl) rfl) rfl) rfl rfl (by decide) rfl rfl (la_cons (la_cons (la_cons la_nil)))))))))))))
end
def fns : List He.DefD := [⟨("_law_feed", none), "_law_feed", "_law_feed", defArgs s__law_feed, defBody s__law_feed, defScope s__law_feed, [], []⟩,
  ⟨("_law_names", none), "_law_names", "_law_names", defArgs s__law_names, defBody s__law_names, defScope s__law_names, [], []⟩,
  ⟨("Kin", some "__init__"), "__init__", "Kin.__init__", defArgs s_Kin___init__, defBody s_Kin___init__, defScope s_Kin___init__, [], []⟩,
  ⟨("_law_book", none), "_law_book", "_law_book", defArgs s__law_book, defBody s__law_book, defScope s__law_book, [], []⟩,
  ⟨("Kin", some "name_heir"), "name_heir", "Kin.name_heir", defArgs s_Kin_name_heir, defBody s_Kin_name_heir, defScope s_Kin_name_heir, [], []⟩,
  ⟨("Kin", some "die"), "die", "Kin.die", defArgs s_Kin_die, defBody s_Kin_die, defScope s_Kin_die, [], []⟩,
  ⟨("Kin", some "is_dead"), "is_dead", "Kin.is_dead", defArgs s_Kin_is_dead, defBody s_Kin_is_dead, defScope s_Kin_is_dead, [], []⟩,
  ⟨("_law_same", none), "_law_same", "_law_same", defArgs s__law_same, defBody s__law_same, defScope s__law_same, [], []⟩,
  ⟨("_law_taker", none), "_law_taker", "_law_taker", defArgs s__law_taker, defBody s__law_taker, defScope s__law_taker, [], []⟩,
  ⟨("Kin", some "taker"), "taker", "Kin.taker", defArgs s_Kin_taker, defBody s_Kin_taker, defScope s_Kin_taker, [], []⟩,
  ⟨("_law_long_line", none), "_law_long_line", "_law_long_line", defArgs s__law_long_line, defBody s__law_long_line, defScope s__law_long_line, [], []⟩,
  ⟨("law", none), "law", "law", defArgs s_law, defBody s_law, defScope s_law, [], []⟩]
def fas : List He.Fa := [.cls "Kin", .noat "Kin" "gone", .noat "Kin" "heirs", .free "all", .free "bool", .free "int", .free "isinstance", .free "len", .free "list", .free "range", .free "str", .free "tuple", .free "zip", .glo "_law_feed", .glo "_law_names", .glo "Kin", .mkr "Kin", .glo "_law_book", .meth "Kin" "name_heir", .meth "Kin" "die", .meth "Kin" "is_dead", .glo "_law_same", .glo "_law_taker", .meth "Kin" "taker", .glo "_law_long_line", .glo "law"]
abbrev R : PySem.W.OpenRow := PySem.W.OpenLaw.row PySem.Challenge.rw_manrent_k13_takers_told
def tbs : Tups := []
abbrev hk : PySem.W.Hook := hookM 5 fas fns tbs
def ob (s : PySem.W.SharedT) : AlM := obsM 5 fas fns tbs (HandSHeadRun.getT s)
theorem ob_eq (s : PySem.W.SharedT) : ob s = hk.obs s.abs := obsM_eq (HandSHeadRun.getT_eq s)
def loose : List Str := ["Kin", "_law_feed", "_law_same", "_law_names", "_law_book", "_law_taker", "_law_long_line"]
theorem run (w : World) : HandSHeadRun.RunEq R (PySem.W.view R.prog [9]) hk ob 4000 loose w := by
  intro os
  kernel_rfl
theorem facts {P : Program} {w : World} {K : PySem.W.Frag} {h : Heap} {mg : Str → Option Value} {f : Addr} (X : K.In h) (G : h.Ns mainGlobals mg) (hfa : mg ("law" : Str) = some (.ref f)) (c0 : SaysM fas fns tbs K) :
    ∃ fd : FuncData, (∀ (s : Shared) (v : Value), BindsTo s fd ⟨[v], []⟩ [("_law_script", v)]) ∧ ∀ base : Heap, K.In base → base.Ns mainGlobals mg → FnOk P w K mg base (L2.CX P w) 10 f fd ["_law_script"] (spD false K 1 m_law) := by
  have c := c0.d
  have T : Tx K mg := ⟨(clsF_cons (He.cls_ok (c.fact 0 rfl)) (He.noat_ok (c.fact 1 rfl)) clsF_nil), (clsF_cons (He.cls_ok (c.fact 0 rfl)) (He.noat_ok (c.fact 2 rfl)) clsF_nil), He.free_ok X G (c.fact 3 rfl), He.free_ok X G (c.fact 4 rfl), He.free_ok X G (c.fact 5 rfl), He.free_ok X G (c.fact 6 rfl), He.free_ok X G (c.fact 7 rfl), He.free_ok X G (c.fact 8 rfl), He.free_ok X G (c.fact 9 rfl), He.free_ok X G (c.fact 10 rfl), He.free_ok X G (c.fact 11 rfl), He.free_ok X G (c.fact 12 rfl)⟩
  obtain ⟨fd__law_feed, F__law_feed⟩ := c.def_ 0 rfl
  have C__law_feed : ∀ base : Heap, Fn true P w K mg base "_law_feed" 1 2 m__law_feed := fun base => t__law_feed T F__law_feed (He.glo_ok X G (c.fact 13 rfl)) 
  obtain ⟨fd__law_names, F__law_names⟩ := c.def_ 1 rfl
  have C__law_names : ∀ base : Heap, Fn true P w K mg base "_law_names" 1 2 m__law_names := fun base => t__law_names T F__law_names (He.glo_ok X G (c.fact 14 rfl)) 
  obtain ⟨fd_Kin___init__, F_Kin___init__⟩ := c.def_ 2 rfl
  have C_Kin___init__ : ∀ base : Heap, MkD P w K mg base "Kin" 1 1 m_Kin___init__ := fun base => t_Kin___init__ T F_Kin___init__ (He.glo_ok X G (c.fact 15 rfl)) (He.mkr_ok (c.fact 16 rfl)) 
  obtain ⟨fd__law_book, F__law_book⟩ := c.def_ 3 rfl
  have C__law_book : ∀ base : Heap, Fn true P w K mg base "_law_book" 1 1 m__law_book := fun base => t__law_book T F__law_book (He.glo_ok X G (c.fact 17 rfl)) 
  obtain ⟨fd_Kin_name_heir, F_Kin_name_heir⟩ := c.def_ 4 rfl
  have C_Kin_name_heir : ∀ base : Heap, Mt false P w K mg base "Kin" "name_heir" 1 3 m_Kin_name_heir := fun base => t_Kin_name_heir T F_Kin_name_heir (He.cls_ok (c.fact 0 rfl)) (He.meth_ok (c.fact 18 rfl)) 
  obtain ⟨fd_Kin_die, F_Kin_die⟩ := c.def_ 5 rfl
  have C_Kin_die : ∀ base : Heap, Mt false P w K mg base "Kin" "die" 1 2 m_Kin_die := fun base => t_Kin_die T F_Kin_die (He.cls_ok (c.fact 0 rfl)) (He.meth_ok (c.fact 19 rfl)) 
  obtain ⟨fd_Kin_is_dead, F_Kin_is_dead⟩ := c.def_ 6 rfl
  have C_Kin_is_dead : ∀ base : Heap, Mt false P w K mg base "Kin" "is_dead" 1 2 m_Kin_is_dead := fun base => t_Kin_is_dead T F_Kin_is_dead (He.cls_ok (c.fact 0 rfl)) (He.meth_ok (c.fact 20 rfl)) 
  obtain ⟨fd__law_same, F__law_same⟩ := c.def_ 7 rfl
  have C__law_same : ∀ base : Heap, Fn false P w K mg base "_law_same" 8 2 m__law_same := fun base => t__law_same T F__law_same (He.glo_ok X G (c.fact 21 rfl)) 
  obtain ⟨fd__law_taker, F__law_taker⟩ := c.def_ 8 rfl
  have C__law_taker : ∀ base : Heap, Fn false P w K mg base "_law_taker" 1 2 m__law_taker := fun base => t__law_taker T F__law_taker (He.glo_ok X G (c.fact 22 rfl)) 
  obtain ⟨fd_Kin_taker, F_Kin_taker⟩ := c.def_ 9 rfl
  have C_Kin_taker : ∀ base : Heap, Mt false P w K mg base "Kin" "taker" 1 2 m_Kin_taker := fun base => t_Kin_taker T F_Kin_taker (He.cls_ok (c.fact 0 rfl)) (He.meth_ok (c.fact 23 rfl)) 
  obtain ⟨fd__law_long_line, F__law_long_line⟩ := c.def_ 10 rfl
  have C__law_long_line : ∀ base : Heap, Fn false P w K mg base "_law_long_line" 9 3 m__law_long_line := fun base => t__law_long_line T F__law_long_line (He.glo_ok X G (c.fact 24 rfl)) (C_Kin___init__ base) (C_Kin_name_heir base) (C_Kin_die base) (C_Kin_taker base) (C__law_same base)
  obtain ⟨fd_law, F_law⟩ := c.def_ 11 rfl
  have e := hfa.symm.trans (He.glo_ok X G (c.fact 25 rfl))
  cases e
  have b := FunD.bindsA (ps := ["_law_script"]) F_law fun _ _ _ _ _ _ us hl => match us, hl with | [_], _ => rfl
  refine ⟨fd_law, fun s v => b s [v] rfl, fun base _ _ => ?_⟩
  exact o_law (P := P) (w := w) (base := base) T F_law (C__law_feed base) (C__law_names base) (C_Kin___init__ base) (C__law_book base) (C_Kin_name_heir base) (C_Kin_die base) (C_Kin_is_dead base) (C__law_same base) (C__law_taker base) (C_Kin_taker base) (C__law_long_line base)
end MR
open PySem PySem.W PySem.Calls PyProof.Rows
theorem PySem.Challenge.cw_manrent_k13_takers_told_holds : PySem.Challenge.rw_manrent_k13_takers_told.Holds := by
  w_on; o_law
  refine HandSHeadRun.head_any (r := MR.R) (q := view MR.R.prog [9]) (H := MR.hk) (ob := MR.ob) (M := 4000) (loose := MR.loose) (d := HandSHeadRun.topDef MR.R.prog 9) (kwd := []) MR.ob_eq
    (by kernel_rfl) (fun s => by kernel_rfl) MR.run (by kernel_rfl) (by kernel_rfl) (by kernel_rfl) (by rfl) (by first | assumption | decide +kernel) (by decide +kernel) ⟨rfl, rfl, rfl, rfl, rfl, by decide +kernel⟩ ?hw ?hc
  case hw => w_witness2
  case hc =>
    refine L2.walk_ofE (l := PySem.Challenge.rw_manrent_k13_takers_told) (n := 63) (k := 10) (x := "_law_script") (CX := fun a b c d e f => ∃ w, L2.CX (PySem.Challenge.rw_manrent_k13_takers_told).prog w a b c d e f) rfl (by decide) (by kernel_rfl) ⟨rfl, by decide, by decide⟩ ?F ?G
    case F =>
      intro w mg fa h Y G hmg0
      obtain ⟨K, KX, c⟩ := Y
      have hmg : mg ("law" : PySem.Str) = some (.ref fa) := by
        have e : (HandSHeadRun.topDef MR.R.prog 9).name = ("law" : PySem.Str) := by kernel_rfl
        rw [← e]
        exact hmg0
      obtain ⟨fd, hb, hF⟩ := MR.facts (P := (PySem.Challenge.rw_manrent_k13_takers_told).prog) (w := w) KX G hmg c
      exact ⟨K, fd, MR.spD false K 1 MR.m_law, KX, hb, fun H a ns hl _ hS => MR.law_sp MR.law_true H a ns hl hS, fun base k1 k2 => MR.fnok_w (hF base k1 k2)⟩
    case G =>
      intro H s e s' ⟨w, z⟩
      exact MR.cx_no z
