import PyProof.Rows.All
import Wide.All
import OpenK.AllK
import Wide.FinOn
import HandS.Head0
import HandS.Head1
import HandS.Head2
import HandS.HeadEnd
import HandS.ForMost
import HandS.ForExc
import HandS.HeadHook1
import HandS.CallSlots
import HandS.Wide
import HandS.IsInst
import HandS.Zip
import HandS.Defaults
import HandS.HeadHook2
import HandS.ExcOwn
import HandS.Small
import HandS.Style
import HandS.Strs
import HandS.More
import HandS.TupSets
import PyProof.Rows.SortShellAny
import KE.KDictList
import HandS.ExcIs
import HandS.SortKw
import KE.SortKeyHeap
import HandS.Conv
import KE.DataCmp
import HandS.Deep
import PyProof.Draws
import PyProof.EnumMake
import PyProof.ListIndex
import KE.GoesMore
import KE.KEqDict
import HandS.SetFor
import HandS.DictTup
import HandS.NoneIn
import KE.KDictZip
import KE.KTurns
import HandS.GenBody
import PyProof.NeKinds
import HandS.DictEq
import PyProof.DictFindH
import HandS.HeadHook3
import KE.KStateDown
import HandS.TupAny
import PySem.Challenge.RW_manrent_k04_rows_well_made
set_option Elab.async false
set_option linter.all false
set_option maxRecDepth 100000
namespace MR
open PySem

abbrev Kk := Sum Int Str

/-- a datum. scr: the script (read only). fK, fT: a dict that is never written again. obj: an object or container of the store. loc: the container that the frame's slot owns -/
inductive D where
  | non | bl (b : Bool) | int (i : Int) | str (x : Str)
  | tup (l : List D) | lst (l : List D)
  | dK (l : List (Kk × D)) | dT (l : List (List Kk × D))
  | obj (r : Nat) | loc (i : Nat) | scr (l : List Int)
  | fK (l : List (Kk × D)) | fT (l : List (List Kk × D)) | cst (l : List D)

inductive Slot where
  | emp | val (w : D) | own (w : D) | exn (a : PySem.Addr)
abbrev Sl := List Slot
inductive Ob where
  | ins (c : String) (fs : List (String × D))
  | con (lk : Bool) (w : D)
abbrev Sto := List Ob

/-- an exception: its class, its field (of NoText) -/
structure Exn where
  c : String
  x : Option Int

inductive Res (α : Type) where
  | ok (a : α) (σ : Sl) (S : Sto)
  | exc (e : Exn) (σ : Sl) (S : Sto)
  | fail

def Res.bind {α β : Type} (r : Res α) (k : α → Sl → Sto → Res β) : Res β := match r with
  | .ok a σ S => k a σ S
  | .exc e σ S => .exc e σ S
  | .fail => .fail
@[simp] theorem Res.bind_ok {α β : Type} {a : α} {σ : Sl} {S : Sto} {k : α → Sl → Sto → Res β} : (Res.ok a σ S).bind k = k a σ S := rfl
@[simp] theorem Res.bind_exc {α β : Type} {e : Exn} {σ : Sl} {S : Sto} {k : α → Sl → Sto → Res β} : (Res.exc e σ S).bind k = .exc e σ S := rfl
@[simp] theorem Res.bind_fail {α β : Type} {k : α → Sl → Sto → Res β} : (Res.fail : Res α).bind k = .fail := rfl

abbrev DE := Sl → Sto → Res D
abbrev DT := Sl → Sto → Res Bool
abbrev DA := Sl → Sto → Res (List D)
inductive Fl where
  | next | ret (w : D) | brk | cnt
abbrev DS := Sl → Sto → Res Fl
/-- a def as a function of data and the store -/
inductive Out where
  | ok (w : D) (S : Sto)
  | exc (e : Exn) (S : Sto)
  | fail
abbrev Den := List D → Sto → Out

/-- what a container lets read: a list that is walked is not read meanwhile -/
abbrev conD (lk : Bool) (c : D) : Option D := match c with
  | .lst l => (match lk with
    | true => none
    | false => some (.lst l))
  | c => some c
/-- what stands behind a value: a container by place, or itself -/
def deref (σ : Sl) (S : Sto) : D → Option D
  | .loc i => (match σ[i]? with
    | some (.own c) => some c
    | _ => none)
  | .obj r => (match S[r]? with
    | some (.con lk c) => conD lk c
    | _ => none)
  | w => some w
/-- a slot's container is frozen: a value from here on -/
def frz (w : D) (σ : Sl) (S : Sto) : Res D := match w with
  | .loc i => (match σ[i]? with
    | some (.own c) => .ok c (σ.set i (.val c)) S
    | _ => .fail)
  | w => .ok w σ S
def ofOpt {α : Type} (o : Option α) (σ : Sl) (S : Sto) : Res α := match o with
  | some a => .ok a σ S
  | none => .fail

def dVar (i : Nat) : DE := fun σ S => match σ[i]? with
  | some (.val w) => .ok w σ S
  | some (.own _) => .ok (.loc i) σ S
  | _ => .fail
def dC (w : D) : DE := fun σ S => .ok w σ S
/-- as a value that may be kept -/
def dV (f : DE) : DE := fun σ S => (f σ S).bind frz

def d1 (op : D → Option D) (f : DE) : DE := fun σ S => (f σ S).bind fun x σ S => ofOpt ((deref σ S x).bind op) σ S
def d2 (op : D → D → Option D) (f g : DE) : DE := fun σ S => (f σ S).bind fun x σ S => (g σ S).bind fun y σ S => ofOpt ((deref σ S x).bind fun a => (deref σ S y).bind fun b => op a b) σ S

def most : Nat := 16777216
def opAdd : D → D → Option D
  | .int i, .int j => some (.int (i + j))
  | .str x, .str y => if x.length + y.length ≤ most then some (.str (x ++ y)) else none
  | .lst x, .lst y => if x.length + y.length ≤ most then some (.lst (x ++ y)) else none
  | .tup x, .tup y => if x.length ≠ 0 ∧ y.length ≠ 0 ∧ x.length + y.length ≤ most then some (.tup (x ++ y)) else none
  | _, _ => none
def opSub : D → D → Option D
  | .int i, .int j => some (.int (i - j))
  | _, _ => none
def mulOk (i j : Int) : Prop := i.natAbs.log2 + j.natAbs.log2 < 1000000
instance (i j : Int) : Decidable (mulOk i j) := by unfold mulOk; infer_instance
def opMod : D → D → Option D
  | .int i, .int j => if 0 < j then some (.int (i % j)) else none
  | _, _ => none
def divOk (j : Int) : Prop := j ≠ 0 ∧ j.natAbs.log2 < 9000
instance (j : Int) : Decidable (divOk j) := by unfold divOk; infer_instance
def opDiv : D → D → Option D
  | .int i, .int j => if divOk j then some (.int (i.fdiv j)) else none
  | _, _ => none
def opLt : D → D → Option D
  | .int i, .int j => some (.bl (decide (i < j)))
  | _, _ => none
def opLe : D → D → Option D
  | .int i, .int j => some (.bl (decide (i ≤ j)))
  | _, _ => none
def opGt : D → D → Option D
  | .int i, .int j => some (.bl (decide (j < i)))
  | _, _ => none
def opGe : D → D → Option D
  | .int i, .int j => some (.bl (decide (j ≤ i)))
  | _, _ => none
def tVal (f : DE) : DT := fun σ S => (f σ S).bind fun x σ S => match x with
  | .bl b => .ok b σ S
  | _ => .fail
def tAnd (f g : DT) : DT := fun σ S => (f σ S).bind fun b σ S => if b = true then g σ S else .ok false σ S
def tOr (f g : DT) : DT := fun σ S => (f σ S).bind fun b σ S => if b = true then .ok true σ S else g σ S
def tNot (f : DT) : DT := fun σ S => (f σ S).bind fun b σ S => .ok (!b) σ S
def aNil : DA := fun σ S => .ok [] σ S
def aCons (f : DE) (r : DA) : DA := fun σ S => (dV f σ S).bind fun x σ S => (r σ S).bind fun xs σ S => .ok (x :: xs) σ S
def dTup (r : DA) : DE := fun σ S => (r σ S).bind fun xs σ S => if xs.length ≤ most then .ok (.tup xs) σ S else .fail
def dLst (r : DA) : DE := fun σ S => (r σ S).bind fun xs σ S => if xs.length ≤ most then .ok (.lst xs) σ S else .fail
def dCall (d : Den) (r : DA) : DE := fun σ S => (r σ S).bind fun xs σ S => match d xs S with
  | .ok w S' => .ok w σ S'
  | .exc e S' => .exc e σ S'
  | .fail => .fail

def sNil : DS := fun σ S => .ok .next σ S
def sSeq (f g : DS) : DS := fun σ S => (f σ S).bind fun x σ S => match x with
  | .next => g σ S
  | x => .ok x σ S
def sSet (i : Nat) (f : DE) : DS := fun σ S => (dV f σ S).bind fun w σ S => .ok .next (σ.set i (.val w)) S
def sRet (f : DE) : DS := fun σ S => (dV f σ S).bind fun w σ S => .ok (.ret w) σ S
def sIf (c : DT) (f g : DS) : DS := fun σ S => (c σ S).bind fun b σ S => if b = true then f σ S else g σ S
def sExpr (f : DE) : DS := fun σ S => (f σ S).bind fun _ σ S => .ok .next σ S
/-- a, b = e1, e2 -/
def sPar (i j : Nat) (r : DA) : DS := fun σ S => (r σ S).bind fun xs σ S => match xs with
  | [v, w] => .ok .next ((σ.set i (.val v)).set j (.val w)) S
  | _ => .fail

/-- a def's body as a function: n slots, its arguments first -/
def dDef (n : Nat) (f : DS) : Den := fun ws S => match f (ws.map Slot.val ++ List.replicate (n - ws.length) .emp) S with
  | .ok .next _ S' => .ok .non S'
  | .ok (.ret w) _ S' => .ok w S'
  | .ok _ _ _ => .fail
  | .exc e _ S' => .exc e S'
  | .fail => .fail

end MR

set_option Elab.async false
set_option linter.all false
set_option maxRecDepth 100000
namespace MR
open PySem PySem.Spec PyProof.Rows L2

def isDc : HO → Prop
  | .dK _ => True
  | .dT _ => True
  | _ => False
/-- I: what is frozen (a dict may be locked by a loop) -/
def Sub (I H : Hp) : Prop := ∀ a o, I a = some o → H a = some o ∨ (isDc o ∧ ∃ ob, H a = some (.frz ob o))

/-- two texts: a key of the dicts that are keyed by pairs -/
def pairV : List V → Bool
  | [.str _, .str _] => true
  | _ => false
/-- a tuple; one of two texts is none of the module's -/
def SqP (K : PySem.W.Frag) (I : Hp) (a : Addr) (vs : List V) : Prop := I a = some (.tup vs) ∨ (SqT K I a vs ∧ pairV vs = false)
theorem SqP.sq {K : PySem.W.Frag} {I : Hp} {a : Addr} {vs : List V} (h : SqP K I a vs) : SqT K I a vs := h.elim (fun h => .inl (.inl h)) (·.1)
instance {K : PySem.W.Frag} {I : Hp} {a : Addr} {vs : List V} : Coe (SqP K I a vs) (SqT K I a vs) := ⟨SqP.sq⟩
mutual
inductive Rep (K : PySem.W.Frag) (ρ : List Addr) (I : Hp) : V → D → Prop
  | non : Rep K ρ I .non .non
  | bl {b : Bool} : Rep K ρ I (.bl b) (.bl b)
  | int {i : Int} : Rep K ρ I (.int i) (.int i)
  | str {x : Str} : Rep K ρ I (.str x) (.str x)
  | tup {a : Addr} {vs : List V} {ws : List D} (h : SqP K I a vs) (r : Reps K ρ I vs ws) : Rep K ρ I (.ref a) (.tup ws)
  | lst {a : Addr} {vs : List V} {ws : List D} (h : I a = some (.lst vs)) (r : Reps K ρ I vs ws) : Rep K ρ I (.ref a) (.lst ws)
  | dK {a : Addr} {kvs : List (Key × V)} {kws : List (Kk × D)} (h : I a = some (.dK kvs)) (e : kvs.map (·.1) = kws.map (·.1)) (r : Reps K ρ I (kvs.map (·.2)) (kws.map (·.2))) : Rep K ρ I (.ref a) (.dK kws)
  | dT {a : Addr} {kvs : List (List Key × V)} {kws : List (List Kk × D)} (h : I a = some (.dT kvs)) (e : kvs.map (·.1) = kws.map (·.1)) (r : Reps K ρ I (kvs.map (·.2)) (kws.map (·.2))) : Rep K ρ I (.ref a) (.dT kws)
  | obj {r : Nat} {a : Addr} (h : ρ[r]? = some a) : Rep K ρ I (.ref a) (.obj r)
  | scr {a : Addr} {ns : List Int} (h : SqL K I a (ns.map V.int)) : Rep K ρ I (.ref a) (.scr ns)
  | fK {a : Addr} {o : Obj} {kvs : List (Key × V)} {kws : List (Kk × D)} (h : I a = some (.frz o (.dK kvs))) (e : kvs.map (·.1) = kws.map (·.1)) (r : Reps K ρ I (kvs.map (·.2)) (kws.map (·.2))) : Rep K ρ I (.ref a) (.fK kws)
  | fT {a : Addr} {o : Obj} {kvs : List (List Key × V)} {kws : List (List Kk × D)} (h : I a = some (.frz o (.dT kvs))) (e : kvs.map (·.1) = kws.map (·.1)) (r : Reps K ρ I (kvs.map (·.2)) (kws.map (·.2))) : Rep K ρ I (.ref a) (.fT kws)
  | cst {a : Addr} {vs : List V} {ws : List D} (h : SqT K I a vs) (r : Reps K ρ I vs ws) : Rep K ρ I (.ref a) (.cst ws)
inductive Reps (K : PySem.W.Frag) (ρ : List Addr) (I : Hp) : List V → List D → Prop
  | nil : Reps K ρ I [] []
  | cons {v : V} {vs : List V} {w : D} {ws : List D} (h : Rep K ρ I v w) (r : Reps K ρ I vs ws) : Reps K ρ I (v :: vs) (w :: ws)
end

/-- more is frozen, more objects are there -/
structure Gr (ρ : List Addr) (I : Hp) (ρ' : List Addr) (I' : Hp) : Prop where
  ex : ∀ a o, I a = some o → I' a = some o
  pre : ∀ (r : Nat) (a : Addr), ρ[r]? = some a → ρ'[r]? = some a
theorem Gr.refl {ρ : List Addr} {I : Hp} : Gr ρ I ρ I := ⟨fun _ _ h => h, fun _ _ h => h⟩
theorem Gr.trans {ρ ρ' ρ'' : List Addr} {I I' I'' : Hp} (a : Gr ρ I ρ' I') (b : Gr ρ' I' ρ'' I'') : Gr ρ I ρ'' I'' := ⟨fun x o h => b.ex x o (a.ex x o h), fun r x h => b.pre r x (a.pre r x h)⟩
theorem SqT.gr {K : PySem.W.Frag} {ρ ρ' : List Addr} {I I' : Hp} {a : Addr} {vs : List V} (g : Gr ρ I ρ' I') (h : SqT K I a vs) : SqT K I' a vs := by
  rcases h with (h | ⟨o, h⟩) | h
  · exact .inl (.inl (g.ex _ _ h))
  · exact .inl (.inr ⟨o, g.ex _ _ h⟩)
  · exact .inr h
theorem SqL.gr {K : PySem.W.Frag} {ρ ρ' : List Addr} {I I' : Hp} {a : Addr} {vs : List V} (g : Gr ρ I ρ' I') (h : SqL K I a vs) : SqL K I' a vs := by
  rcases h with (h | ⟨o, h⟩) | h
  · exact .inl (.inl (g.ex _ _ h))
  · exact .inl (.inr ⟨o, g.ex _ _ h⟩)
  · exact .inr h
theorem SqP.gr {K : PySem.W.Frag} {ρ ρ' : List Addr} {I I' : Hp} {a : Addr} {vs : List V} (g : Gr ρ I ρ' I') (h : SqP K I a vs) : SqP K I' a vs := h.elim (fun h => .inl (g.ex _ _ h)) fun h => .inr ⟨SqT.gr g h.1, h.2⟩
mutual
theorem Rep.gr {K : PySem.W.Frag} {ρ ρ' : List Addr} {I I' : Hp} (g : Gr ρ I ρ' I') : ∀ {v : V} {w : D}, Rep K ρ I v w → Rep K ρ' I' v w
  | _, _, .non => .non
  | _, _, .bl => .bl
  | _, _, .int => .int
  | _, _, .str => .str
  | _, _, .tup h r => .tup (SqP.gr g h) (Reps.gr g r)
  | _, _, .lst h r => .lst (g.ex _ _ h) (Reps.gr g r)
  | _, _, .dK h e r => .dK (g.ex _ _ h) e (Reps.gr g r)
  | _, _, .dT h e r => .dT (g.ex _ _ h) e (Reps.gr g r)
  | _, _, .obj h => .obj (g.pre _ _ h)
  | _, _, .scr h => .scr (SqL.gr g h)
  | _, _, .fK h e r => .fK (g.ex _ _ h) e (Reps.gr g r)
  | _, _, .fT h e r => .fT (g.ex _ _ h) e (Reps.gr g r)
  | _, _, .cst h r => .cst (SqT.gr g h) (Reps.gr g r)
theorem Reps.gr {K : PySem.W.Frag} {ρ ρ' : List Addr} {I I' : Hp} (g : Gr ρ I ρ' I') : ∀ {vs : List V} {ws : List D}, Reps K ρ I vs ws → Reps K ρ' I' vs ws
  | _, _, .nil => .nil
  | _, _, .cons h r => .cons (Rep.gr g h) (Reps.gr g r)
end
section
variable {K : PySem.W.Frag} {ρ : List Addr} {I : Hp}
theorem Reps.length : ∀ {vs : List V} {ws : List D}, Reps K ρ I vs ws → vs.length = ws.length
  | _, _, .nil => rfl
  | _, _, .cons _ r => congrArg (· + 1) r.length
theorem Reps.get : ∀ {vs : List V} {ws : List D} {i : Nat} {w : D}, Reps K ρ I vs ws → ws[i]? = some w → ∃ v, vs[i]? = some v ∧ Rep K ρ I v w
  | _, _, _, _, .nil, e => by cases e
  | _, _, 0, _, .cons h _, e => by cases e; exact ⟨_, rfl, h⟩
  | _, _, i + 1, _, .cons _ r, e => Reps.get (i := i) r e
theorem Reps.append : ∀ {vs vs' : List V} {ws ws' : List D}, Reps K ρ I vs ws → Reps K ρ I vs' ws' → Reps K ρ I (vs ++ vs') (ws ++ ws')
  | _, _, _, _, .nil, q => q
  | _, _, _, _, .cons h r, q => .cons h (Reps.append r q)
theorem Reps.take : ∀ {vs : List V} {ws : List D} (n : Nat), Reps K ρ I vs ws → Reps K ρ I (vs.take n) (ws.take n)
  | _, _, 0, _ => .nil
  | _, _, _ + 1, .nil => .nil
  | _, _, n + 1, .cons h r => .cons h (Reps.take n r)
theorem Reps.drop : ∀ {vs : List V} {ws : List D} (n : Nat), Reps K ρ I vs ws → Reps K ρ I (vs.drop n) (ws.drop n)
  | _, _, 0, r => r
  | _, _, _ + 1, .nil => .nil
  | _, _, n + 1, .cons _ r => Reps.drop n r
theorem Reps.set {v : V} {w : D} (h : Rep K ρ I v w) : ∀ {vs : List V} {ws : List D} (n : Nat), Reps K ρ I vs ws → Reps K ρ I (vs.set n v) (ws.set n w)
  | _, _, _, .nil => .nil
  | _, _, 0, .cons _ r => .cons h r
  | _, _, n + 1, .cons q r => .cons q (Reps.set h n r)
end

/-- a container that can be written, at a -/
def OwnAt (K : PySem.W.Frag) (ρ : List Addr) (I H : Hp) (a : Addr) : D → Prop
  | .lst ws => ∃ vs, H a = some (.lst vs) ∧ Reps K ρ I vs ws
  | .dK kws => ∃ kvs, H a = some (.dK kvs) ∧ kvs.map (·.1) = kws.map (·.1) ∧ Reps K ρ I (kvs.map (·.2)) (kws.map (·.2))
  | .dT kws => ∃ kvs, H a = some (.dT kvs) ∧ kvs.map (·.1) = kws.map (·.1) ∧ Reps K ρ I (kvs.map (·.2)) (kws.map (·.2))
  | _ => False
/-- .. while a loop walks it -/
def LockAt (K : PySem.W.Frag) (ρ : List Addr) (I H : Hp) (a : Addr) : D → Prop
  | .lst ws => ∃ ob vs, H a = some (.frz ob (.lst vs)) ∧ Reps K ρ I vs ws
  | .dK kws => ∃ ob kvs, H a = some (.frz ob (.dK kvs)) ∧ kvs.map (·.1) = kws.map (·.1) ∧ Reps K ρ I (kvs.map (·.2)) (kws.map (·.2))
  | .dT kws => ∃ ob kvs, H a = some (.frz ob (.dT kvs)) ∧ kvs.map (·.1) = kws.map (·.1) ∧ Reps K ρ I (kvs.map (·.2)) (kws.map (·.2))
  | _ => False
/-- the class's address -/
abbrev ca (K : PySem.W.Frag) (c : String) : Addr := He.ga K (Str.ofString c)
def CellAt (K : PySem.W.Frag) (ρ : List Addr) (I H : Hp) (a : Addr) : Ob → Prop
  | .ins c fs => ∃ dx fsV, H a = some (.ins (ca K c) dx fsV) ∧ fsV.map (·.1) = fs.map (fun p => Str.ofString p.1) ∧ Reps K ρ I (fsV.map (·.2)) (fs.map (·.2))
  | .con false c => OwnAt K ρ I H a c
  | .con true c => LockAt K ρ I H a c
def SlotAt (K : PySem.W.Frag) (ρ : List Addr) (I F H : Hp) (σV : L2.St) (i : Nat) : Slot → Prop
  | .emp => True
  | .val w => ∃ v, σV[i]? = some (some v) ∧ Rep K ρ I v w
  | .own c => ∃ a, σV[i]? = some (some (.ref a)) ∧ F a = none ∧ I a = none ∧ a ∉ ρ ∧ OwnAt K ρ I H a c
  | .exn b => σV[i]? = some (some (.ref b))
/-- what the callers want kept holds no cell of the store, but those that are locked -/
def FOk (F : Hp) (a : Addr) (o : Ob) : Prop := match o with
  | .con true _ => ∃ ob u, F a = some (.frz ob u)
  | _ => F a = none
theorem FOk.mono {F F' : Hp} {a : Addr} {o : Ob} (h : FOk F a o) (h0 : F a = none → F' a = none) (h1 : ∀ ob u, F a = some (.frz ob u) → F' a = some (.frz ob u)) : FOk F' a o := by
  cases o with
  | ins c fs => exact h0 h
  | con lk c =>
    cases lk with
    | false => exact h0 h
    | true => obtain ⟨ob, u, e⟩ := h; exact ⟨ob, u, h1 ob u e⟩
theorem FOk.not {F : Hp} {a : Addr} {o : Ob} {x : HO} (h : FOk F a o) (e : F a = some x) : ∃ ob u, x = .frz ob u := by
  cases o with
  | ins c fs => rw [show F a = none from h] at e; cases e
  | con lk c =>
    cases lk with
    | false => rw [show F a = none from h] at e; cases e
    | true => obtain ⟨ob, u, e'⟩ := h; rw [e'] at e; cases e; exact ⟨ob, u, rfl⟩
/-- the states of the two worlds: F what the callers want kept, I what is frozen, ρ where the store's objects stand -/
structure RB (K : PySem.W.Frag) (F I : Hp) (ρ : List Addr) (S : Sto) (H : Hp) (σV : L2.St) (σ : Sl) : Prop where
  fr : ∀ a o, F a = some o → H a = some o
  sub : Sub I H
  dis : ∀ a o, F a = some o → (∀ vs, o ≠ .tup vs) → I a = none
  store : ∀ (r : Nat) (o : Ob), S[r]? = some o → ∃ a, ρ[r]? = some a ∧ FOk F a o ∧ I a = none ∧ CellAt K ρ I H a o
  nd : ∀ (r r' : Nat) (a : Addr), ρ[r]? = some a → ρ[r']? = some a → r = r'
  rl : ρ.length = S.length
  len : σ.length = σV.length
  slot : ∀ (i : Nat) (s : Slot), σ[i]? = some s → SlotAt K ρ I F H σV i s
  inj : ∀ (i j : Nat) (c c' : D) (v : V), σ[i]? = some (.own c) → σ[j]? = some (.own c') → σV[i]? = some (some v) → σV[j]? = some (some v) → i = j

/-- a value of an expression, a slot's own container among them -/
def TRep (K : PySem.W.Frag) (ρ : List Addr) (I : Hp) (σV : L2.St) (v : V) (w : D) : Prop := (∃ i, w = .loc i ∧ σV[i]? = some (some v)) ∨ Rep K ρ I v w
theorem TRep.gr {K : PySem.W.Frag} {ρ ρ' : List Addr} {I I' : Hp} {σV : L2.St} {v : V} {w : D} (g : Gr ρ I ρ' I') (h : TRep K ρ I σV v w) : TRep K ρ' I' σV v w := by
  rcases h with h | h
  · exact .inl h
  · exact .inr (h.gr g)

/-- the exception's own dict, where its class has a field -/
def ExcAt (e : Exn) (d : Option Addr) (H : Hp) : Prop := match e.x with
  | none => d = none
  | some n => ∃ a, d = some a ∧ H a = some (.xd [(Str.ofString "at", .int n)])

def postR {α β : Type} (K : PySem.W.Frag) (Wx : WX) (T : List Addr → Hp → L2.St → β → α → Prop) (F I : Hp) (ρ : List Addr) (σV : L2.St) (r : Res α) (Q : β → Hp → Prop) : Prop := match r with
  | .ok a σ' S' => ∀ I' ρ' H' b, Gr ρ I ρ' I' → RB K F I' ρ' S' H' σV σ' → T ρ' I' σV b a → Q b H'
  | .exc e σ' S' => ∀ I' ρ' H' d, Gr ρ I ρ' I' → RB K F I' ρ' S' H' σV σ' → ExcAt e d H' → Wx (.ref (ca K e.c)) d σV H'
  | .fail => False
def semR {α β : Type} (K : PySem.W.Frag) (Wx : WX) (T : List Addr → Hp → L2.St → β → α → Prop) (f : Sl → Sto → Res α) (σV : L2.St) (H : Hp) (Q : β → Hp → Prop) : Prop :=
  ∃ F I ρ σ S, RB K F I ρ S H σV σ ∧ postR K Wx T F I ρ σV (f σ S) Q
abbrev semE (K : PySem.W.Frag) (Wx : WX) (f : DE) : TE := semR K Wx (TRep K) f
abbrev semT (K : PySem.W.Frag) (Wx : WX) (f : DT) : TT := semR K Wx (fun _ _ _ b a => b = a) f
abbrev semA (K : PySem.W.Frag) (Wx : WX) (f : DA) : TA := semR K Wx (fun ρ I _ vs ws => Reps K ρ I vs ws) f
/-- the value of a kept kind: no slot's own container -/
abbrev semV (K : PySem.W.Frag) (Wx : WX) (f : DE) : TE := semR K Wx (fun ρ I _ v w => Rep K ρ I v w) f

section
variable {K : PySem.W.Frag} {Wx : WX} {F I : Hp} {ρ : List Addr} {σV : L2.St} {H : Hp}
theorem post_gr {α β : Type} {T : List Addr → Hp → L2.St → β → α → Prop} {r : Res α} {Q : β → Hp → Prop} {I1 : Hp} {ρ1 : List Addr} (g : Gr ρ I ρ1 I1) (h : postR K Wx T F I ρ σV r Q) : postR K Wx T F I1 ρ1 σV r Q := by
  cases r with
  | ok a σ S => exact fun I' ρ' H' b g' => h I' ρ' H' b (g.trans g')
  | exc e σ S => exact fun I' ρ' H' d g' => h I' ρ' H' d (g.trans g')
  | fail => exact h
theorem post_bind {α α2 β β2 : Type} {T : List Addr → Hp → L2.St → β → α → Prop} {T2 : List Addr → Hp → L2.St → β2 → α2 → Prop} {r : Res α} {k : α → Sl → Sto → Res α2} {Q : β2 → Hp → Prop} {Q1 : β → Hp → Prop}
    (h : postR K Wx T2 F I ρ σV (r.bind k) Q)
    (q : ∀ I1 ρ1 σ1 S1 H1 a b, r = .ok a σ1 S1 → Gr ρ I ρ1 I1 → RB K F I1 ρ1 S1 H1 σV σ1 → T ρ1 I1 σV b a → postR K Wx T2 F I1 ρ1 σV (k a σ1 S1) Q → Q1 b H1) : postR K Wx T F I ρ σV r Q1 := by
  cases r with
  | ok a σ S => exact fun I' ρ' H' b g rb t => q I' ρ' σ S H' a b rfl g rb t (post_gr g h)
  | exc e σ S => exact h
  | fail => exact h
theorem post_opt {α β : Type} {T : List Addr → Hp → L2.St → β → α → Prop} {o : Option α} {σ : Sl} {S : Sto} {Q : β → Hp → Prop} (h : postR K Wx T F I ρ σV (ofOpt o σ S) Q) : ∃ a, o = some a ∧ postR K Wx T F I ρ σV (.ok a σ S) Q := by
  cases o with
  | none => exact h.elim
  | some a => exact ⟨a, rfl, h⟩
end

def At (K : PySem.W.Frag) (ρ : List Addr) (I H : Hp) (v : V) : D → Prop
  | .non => v = .non
  | .bl b => v = .bl b
  | .int i => v = .int i
  | .str x => v = .str x
  | .tup ws => ∃ a vs, v = .ref a ∧ SqP K H a vs ∧ Reps K ρ I vs ws
  | .lst ws => ∃ a vs, v = .ref a ∧ H a = some (.lst vs) ∧ Reps K ρ I vs ws
  | .dK kws => ∃ a kvs, v = .ref a ∧ Rd H a (.dK kvs) ∧ kvs.map (·.1) = kws.map (·.1) ∧ Reps K ρ I (kvs.map (·.2)) (kws.map (·.2))
  | .dT kws => ∃ a kvs, v = .ref a ∧ Rd H a (.dT kvs) ∧ kvs.map (·.1) = kws.map (·.1) ∧ Reps K ρ I (kvs.map (·.2)) (kws.map (·.2))
  | .obj r => ∃ a, v = .ref a ∧ ρ[r]? = some a
  | .loc _ => False
  | .scr ns => ∃ a, v = .ref a ∧ SqL K H a (ns.map V.int)
  | .fK kws => ∃ a o kvs, v = .ref a ∧ H a = some (.frz o (.dK kvs)) ∧ kvs.map (·.1) = kws.map (·.1) ∧ Reps K ρ I (kvs.map (·.2)) (kws.map (·.2))
  | .fT kws => ∃ a o kvs, v = .ref a ∧ H a = some (.frz o (.dT kvs)) ∧ kvs.map (·.1) = kws.map (·.1) ∧ Reps K ρ I (kvs.map (·.2)) (kws.map (·.2))
  | .cst ws => ∃ a vs, v = .ref a ∧ SqT K H a vs ∧ Reps K ρ I vs ws
theorem Sub.rd {I H : Hp} (s : Sub I H) {a : Addr} {o : HO} (h : I a = some o) : Rd H a o := by
  rcases s a o h with h | ⟨_, ob, h⟩
  · exact .inl h
  · exact .inr ⟨ob, h⟩
theorem Sub.sqT {K : PySem.W.Frag} {I H : Hp} (s : Sub I H) {a : Addr} {vs : List V} (h : SqT K I a vs) : SqT K H a vs := by
  rcases h with (h | ⟨o, h⟩) | h
  · rcases s a _ h with h | ⟨d, _⟩
    · exact .inl (.inl h)
    · exact d.elim
  · rcases s a _ h with h | ⟨d, _⟩
    · exact .inl (.inr ⟨o, h⟩)
    · exact d.elim
  · exact .inr h
theorem Sub.sqP {K : PySem.W.Frag} {I H : Hp} (s : Sub I H) {a : Addr} {vs : List V} (h : SqP K I a vs) : SqP K H a vs := by
  rcases h with h | h
  · rcases s a _ h with h | ⟨d, _⟩
    · exact .inl h
    · exact d.elim
  · exact .inr ⟨s.sqT h.1, h.2⟩
theorem Sub.sqL {K : PySem.W.Frag} {I H : Hp} (s : Sub I H) {a : Addr} {vs : List V} (h : SqL K I a vs) : SqL K H a vs := by
  rcases h with (h | ⟨o, h⟩) | h
  · rcases s a _ h with h | ⟨d, _⟩
    · exact .inl (.inl h)
    · exact d.elim
  · rcases s a _ h with h | ⟨d, _⟩
    · exact .inl (.inr ⟨o, h⟩)
    · exact d.elim
  · exact .inr h
theorem Rep.at {K : PySem.W.Frag} {ρ : List Addr} {I H : Hp} (s : Sub I H) {v : V} {w : D} (h : Rep K ρ I v w) : At K ρ I H v w := by
  cases h with
  | non => rfl
  | bl => rfl
  | int => rfl
  | str => rfl
  | tup h r => exact ⟨_, _, rfl, s.sqP h, r⟩
  | lst h r =>
    rcases s _ _ h with h | ⟨d, _⟩
    · exact ⟨_, _, rfl, h, r⟩
    · exact d.elim
  | dK h e r => exact ⟨_, _, rfl, s.rd h, e, r⟩
  | dT h e r => exact ⟨_, _, rfl, s.rd h, e, r⟩
  | obj h => exact ⟨_, rfl, h⟩
  | scr h => exact ⟨_, rfl, s.sqL h⟩
  | cst h r => exact ⟨_, _, rfl, s.sqT h, r⟩
  | fK h e r =>
    rcases s _ _ h with h | ⟨d, _⟩
    · exact ⟨_, _, _, rfl, h, e, r⟩
    · exact d.elim
  | fT h e r =>
    rcases s _ _ h with h | ⟨d, _⟩
    · exact ⟨_, _, _, rfl, h, e, r⟩
    · exact d.elim
theorem OwnAt.at {K : PySem.W.Frag} {ρ : List Addr} {I H : Hp} {a : Addr} {c : D} (h : OwnAt K ρ I H a c) : At K ρ I H (.ref a) c := by
  cases c with
  | lst ws => obtain ⟨vs, h, r⟩ := h; exact ⟨a, vs, rfl, h, r⟩
  | dK kws => obtain ⟨kvs, h, e, r⟩ := h; exact ⟨a, kvs, rfl, .inl h, e, r⟩
  | dT kws => obtain ⟨kvs, h, e, r⟩ := h; exact ⟨a, kvs, rfl, .inl h, e, r⟩
  | _ => exact h.elim
theorem LockAt.at {K : PySem.W.Frag} {ρ : List Addr} {I H : Hp} {a : Addr} {c d : D} (h : LockAt K ρ I H a c) (e : conD true c = some d) : At K ρ I H (.ref a) d := by
  cases c with
  | lst ws => cases e
  | dK kws => cases e; obtain ⟨ob, kvs, h, e, r⟩ := h; exact ⟨a, kvs, rfl, .inr ⟨ob, h⟩, e, r⟩
  | dT kws => cases e; obtain ⟨ob, kvs, h, e, r⟩ := h; exact ⟨a, kvs, rfl, .inr ⟨ob, h⟩, e, r⟩
  | _ => exact h.elim
theorem conD_false {c d : D} (e : conD false c = some d) : d = c := by cases c <;> (cases e; rfl)
section
variable {K : PySem.W.Frag} {F I : Hp} {ρ : List Addr} {S : Sto} {H : Hp} {σV : L2.St} {σ : Sl}
theorem RB.at (rb : RB K F I ρ S H σV σ) {v : V} {x a : D} (t : TRep K ρ I σV v x) (e : deref σ S x = some a) : At K ρ I H v a := by
  rcases t with ⟨i, rfl, hv⟩ | r
  · unfold deref at e
    split at e
    · rename_i i' h1
      injection h1 with h1
      subst h1
      split at e
      · rename_i c hc
        cases e
        obtain ⟨b, hb, _, _, _, ho⟩ := rb.slot _ _ hc
        rw [hv] at hb
        cases hb
        exact ho.at
      · cases e
    · rename_i h1; cases h1
    · rename_i h1 h2; exact absurd rfl (h1 _)
  · cases r with
    | obj h =>
      unfold deref at e
      simp only at e
      split at e
      · rename_i lk c hc
        obtain ⟨b, hb, _, _, ho⟩ := rb.store _ _ hc
        rw [h] at hb
        cases hb
        cases lk with
        | false => rw [conD_false e]; exact OwnAt.at ho
        | true => exact LockAt.at ho e
      · cases e
    | non => cases e; exact Rep.at rb.sub .non
    | bl => cases e; exact Rep.at rb.sub .bl
    | int => cases e; exact Rep.at rb.sub .int
    | str => cases e; exact Rep.at rb.sub .str
    | tup h r => cases e; exact Rep.at rb.sub (.tup h r)
    | lst h r => cases e; exact Rep.at rb.sub (.lst h r)
    | dK h k r => cases e; exact Rep.at rb.sub (.dK h k r)
    | dT h k r => cases e; exact Rep.at rb.sub (.dT h k r)
    | scr h => cases e; exact Rep.at rb.sub (.scr h)
    | fK h k r => cases e; exact Rep.at rb.sub (.fK h k r)
    | fT h k r => cases e; exact Rep.at rb.sub (.fT h k r)
    | cst h r => cases e; exact Rep.at rb.sub (.cst h r)

theorem Sub.none_of (s : Sub I H) {p : Addr} (h : H p = none) : I p = none := by
  cases e : I p with
  | none => rfl
  | some o =>
    rcases s p o e with q | ⟨_, _, q⟩
    · rw [h] at q; cases q
    · rw [h] at q; cases q
theorem OwnAt.gr {ρ' : List Addr} {I' H' : Hp} {a : Addr} {c : D} (g : Gr ρ I ρ' I') (k : ∀ o, H a = some o → H' a = some o) (h : OwnAt K ρ I H a c) : OwnAt K ρ' I' H' a c := by
  cases c with
  | lst ws => obtain ⟨vs, h, r⟩ := h; exact ⟨vs, k _ h, r.gr g⟩
  | dK kws => obtain ⟨kvs, h, e, r⟩ := h; exact ⟨kvs, k _ h, e, r.gr g⟩
  | dT kws => obtain ⟨kvs, h, e, r⟩ := h; exact ⟨kvs, k _ h, e, r.gr g⟩
  | _ => exact h.elim
theorem OwnAt.notTup {a : Addr} {c : D} {o : HO} (h : OwnAt K ρ I H a c) (e : H a = some o) : ∀ vs, o ≠ .tup vs := fun vs z => by
  subst z
  cases c with
  | lst ws => obtain ⟨vs, h, r⟩ := h; rw [e] at h; cases h
  | dK kws => obtain ⟨kvs, h, _, r⟩ := h; rw [e] at h; cases h
  | dT kws => obtain ⟨kvs, h, _, r⟩ := h; rw [e] at h; cases h
  | _ => exact h.elim
theorem LockAt.gr {ρ' : List Addr} {I' H' : Hp} {a : Addr} {c : D} (g : Gr ρ I ρ' I') (k : ∀ o, H a = some o → H' a = some o) (h : LockAt K ρ I H a c) : LockAt K ρ' I' H' a c := by
  cases c with
  | lst ws => obtain ⟨ob, vs, h, r⟩ := h; exact ⟨ob, vs, k _ h, r.gr g⟩
  | dK kws => obtain ⟨ob, kvs, h, e, r⟩ := h; exact ⟨ob, kvs, k _ h, e, r.gr g⟩
  | dT kws => obtain ⟨ob, kvs, h, e, r⟩ := h; exact ⟨ob, kvs, k _ h, e, r.gr g⟩
  | _ => exact h.elim
theorem CellAt.gr {ρ' : List Addr} {I' H' : Hp} {a : Addr} {c : Ob} (g : Gr ρ I ρ' I') (k : ∀ o, H a = some o → H' a = some o) (h : CellAt K ρ I H a c) : CellAt K ρ' I' H' a c := by
  cases c with
  | ins c fs => obtain ⟨dx, fsV, h, e, r⟩ := h; exact ⟨dx, fsV, k _ h, e, r.gr g⟩
  | con lk c =>
    cases lk with
    | false => exact OwnAt.gr g k h
    | true => exact LockAt.gr g k h
theorem OwnAt.there {a : Addr} {c : D} (h : OwnAt K ρ I H a c) : ∃ o, H a = some o := by
  cases c with
  | lst ws => obtain ⟨vs, h, r⟩ := h; exact ⟨_, h⟩
  | dK kws => obtain ⟨kvs, h, e, r⟩ := h; exact ⟨_, h⟩
  | dT kws => obtain ⟨kvs, h, e, r⟩ := h; exact ⟨_, h⟩
  | _ => exact h.elim
theorem OwnAt.nofrz {a : Addr} {c : D} (h : OwnAt K ρ I H a c) {ob : Obj} {u : HO} : ¬ H a = some (.frz ob u) := fun e => by
  cases c with
  | lst ws => obtain ⟨vs, h, r⟩ := h; rw [h] at e; cases e
  | dK kws => obtain ⟨kvs, h, e2, r⟩ := h; rw [h] at e; cases e
  | dT kws => obtain ⟨kvs, h, e2, r⟩ := h; rw [h] at e; cases e
  | _ => exact h.elim
theorem LockAt.there {a : Addr} {c : D} (h : LockAt K ρ I H a c) : ∃ o, H a = some o := by
  cases c with
  | lst ws => obtain ⟨ob, vs, h, r⟩ := h; exact ⟨_, h⟩
  | dK kws => obtain ⟨ob, kvs, h, e, r⟩ := h; exact ⟨_, h⟩
  | dT kws => obtain ⟨ob, kvs, h, e, r⟩ := h; exact ⟨_, h⟩
  | _ => exact h.elim
theorem CellAt.there {a : Addr} {c : Ob} (h : CellAt K ρ I H a c) : ∃ o, H a = some o := by
  cases c with
  | ins c fs => obtain ⟨dx, fsV, h, e, r⟩ := h; exact ⟨_, h⟩
  | con lk c =>
    cases lk with
    | false => exact OwnAt.there h
    | true => exact LockAt.there h
/-- a place that is free is no object's -/
theorem RB.nρ (rb : RB K F I ρ S H σV σ) {p : Addr} (hp : H p = none) : p ∉ ρ := fun hm => by
  obtain ⟨r, hr⟩ := List.getElem?_of_mem hm
  have lt : r < S.length := by rw [← rb.rl]; exact (List.getElem?_eq_some_iff.mp hr).1
  obtain ⟨a, ha, _, _, hc⟩ := rb.store r _ (List.getElem?_eq_getElem lt)
  rw [hr] at ha
  cases ha
  obtain ⟨o, ho⟩ := hc.there
  rw [hp] at ho
  cases ho
/-- a new frozen thing -/
theorem RB.new (rb : RB K F I ρ S H σV σ) {p : Addr} {o : HO} (hp : H p = none) : Gr ρ I ρ (upd I p o) ∧ RB K F (upd I p o) ρ S (upd H p o) σV σ := by
  have ip := rb.sub.none_of hp
  have g : Gr ρ I ρ (upd I p o) := ⟨fun a u h => by rw [upd_ne (ne_of_none h ip)]; exact h, fun _ _ h => h⟩
  refine ⟨g, ⟨fun a u h => ?_, fun a u h => ?_, fun a u h => ?_, fun r c h => ?_, rb.nd, rb.rl, rb.len, fun i s h => ?_, rb.inj⟩⟩
  · have q := rb.fr a u h
    rw [upd_ne (ne_of_none q hp)]
    exact q
  · by_cases e : a = p
    · subst e
      rw [upd_same] at h ⊢
      exact .inl h
    · rw [upd_ne e] at h ⊢
      exact rb.sub a u h
  · rw [upd_ne (ne_of_none (rb.fr a u h) hp)]
    exact rb.dis a u h
  · obtain ⟨a, ha, hf, hi, hc⟩ := rb.store r c h
    obtain ⟨u, hu⟩ := hc.there
    have ne := ne_of_none hu hp
    exact ⟨a, ha, hf, by rw [upd_ne ne]; exact hi, hc.gr g fun u hu => by rw [upd_ne ne]; exact hu⟩
  · have q := rb.slot i s h
    cases s with
    | emp => trivial
    | exn b => first | exact q | exact (List.getElem?_set_ne e).trans q | exact e.trans q
    | val w => obtain ⟨v, hv, r⟩ := q; exact ⟨v, hv, r.gr g⟩
    | own c =>
      obtain ⟨a, ha, hf, hi, hr, ho⟩ := q
      obtain ⟨u, hu⟩ := ho.there
      have ne := ne_of_none hu hp
      exact ⟨a, ha, hf, by rw [upd_ne ne]; exact hi, hr, ho.gr g fun u hu => by rw [upd_ne ne]; exact hu⟩
/-- a slot is set to a value -/
theorem RB.setV (rb : RB K F I ρ S H σV σ) {i : Nat} {v : V} {w : D} (r : Rep K ρ I v w) : RB K F I ρ S H (σV.set i (some v)) (σ.set i (.val w)) := by
  refine ⟨rb.fr, rb.sub, rb.dis, rb.store, rb.nd, rb.rl, by rw [List.length_set, List.length_set]; exact rb.len, fun j s h => ?_, fun j k c c' u h1 h2 h3 h4 => ?_⟩
  · by_cases e : i = j
    · subst e
      have lt : i < (σ.set i (.val w)).length := (List.getElem?_eq_some_iff.mp h).1
      rw [List.length_set] at lt
      rw [List.getElem?_set_self lt] at h
      cases h
      exact ⟨v, List.getElem?_set_self (by rw [← rb.len]; exact lt), r⟩
    · rw [List.getElem?_set_ne e] at h
      have q := rb.slot j s h
      cases s with
      | emp => trivial
      | exn b => first | exact q | exact (List.getElem?_set_ne e).trans q | exact e.trans q
      | val w => obtain ⟨v, hv, r⟩ := q; exact ⟨v, by rw [List.getElem?_set_ne e]; exact hv, r⟩
      | own c => obtain ⟨a, ha, q⟩ := q; exact ⟨a, by rw [List.getElem?_set_ne e]; exact ha, q⟩
  · have ne : ∀ {j : Nat} {c : D}, (σ.set i (.val w))[j]? = some (.own c) → i ≠ j := fun {j c} h e => by
      subst e
      have lt : i < (σ.set i (.val w)).length := (List.getElem?_eq_some_iff.mp h).1
      rw [List.length_set] at lt
      rw [List.getElem?_set_self lt] at h
      cases h
    have n1 := ne h1
    have n2 := ne h2
    rw [List.getElem?_set_ne n1] at h1 h3
    rw [List.getElem?_set_ne n2] at h2 h4
    exact rb.inj j k c c' u h1 h2 h3 h4
/-- a slot's own container is frozen -/
theorem RB.frz (rb : RB K F I ρ S H σV σ) {i : Nat} {c : D} {v : V} (hc : σ[i]? = some (.own c)) (hv : σV[i]? = some (some v)) : ∃ I', Gr ρ I ρ I' ∧ RB K F I' ρ S H σV (σ.set i (.val c)) ∧ Rep K ρ I' v c := by
  obtain ⟨a, ha, hf, hi, hr, ho⟩ := rb.slot i _ hc
  rw [hv] at ha
  cases ha
  obtain ⟨o, hao⟩ := ho.there
  have g : Gr ρ I ρ (upd I a o) := ⟨fun b u h => by rw [upd_ne (ne_of_none h hi)]; exact h, fun _ _ h => h⟩
  have rep : Rep K ρ (upd I a o) (.ref a) c := by
    cases c with
    | lst ws =>
      obtain ⟨vs, h, r⟩ := ho
      rw [hao] at h; cases h
      exact .lst upd_same (r.gr g)
    | dK kws =>
      obtain ⟨kvs, h, e, r⟩ := ho
      rw [hao] at h; cases h
      exact .dK upd_same e (r.gr g)
    | dT kws =>
      obtain ⟨kvs, h, e, r⟩ := ho
      rw [hao] at h; cases h
      exact .dT upd_same e (r.gr g)
    | _ => exact ho.elim
  have lt : i < σ.length := (List.getElem?_eq_some_iff.mp hc).1
  have ne : ∀ {j : Nat} {c' : D}, (σ.set i (.val c))[j]? = some (.own c') → i ≠ j := fun {j c'} h e => by
    subst e
    rw [List.getElem?_set_self lt] at h
    cases h
  refine ⟨upd I a o, g, ⟨rb.fr, fun b u h => ?_, fun b u h => ?_, fun r ob h => ?_, rb.nd, rb.rl, by rw [List.length_set]; exact rb.len, fun j s h => ?_, fun j k c1 c2 u h1 h2 h3 h4 => ?_⟩, rep⟩
  · by_cases e : b = a
    · subst e
      rw [upd_same] at h
      exact .inl (hao.trans h)
    · rw [upd_ne e] at h
      exact rb.sub b u h
  · rw [upd_ne (ne_of_none h hf)]
    exact rb.dis b u h
  · obtain ⟨b, hb, hfb, hib, hcb⟩ := rb.store r ob h
    have n : b ≠ a := fun e => hr (e ▸ List.mem_of_getElem? hb)
    exact ⟨b, hb, hfb, by rw [upd_ne n]; exact hib, hcb.gr g fun _ z => z⟩
  · by_cases e : i = j
    · subst e
      rw [List.getElem?_set_self lt] at h
      cases h
      exact ⟨_, hv, rep⟩
    · rw [List.getElem?_set_ne e] at h
      have q := rb.slot j s h
      cases s with
      | emp => trivial
      | exn b => first | exact q | exact (List.getElem?_set_ne e).trans q | exact e.trans q
      | val w => obtain ⟨v, hv, r⟩ := q; exact ⟨v, hv, r.gr g⟩
      | own c' =>
        obtain ⟨b, hb, hfb, hib, hrb, hob⟩ := q
        have n : b ≠ a := fun z => by
          subst z
          exact e (rb.inj i j c c' _ hc h hv hb)
        exact ⟨b, hb, hfb, by rw [upd_ne n]; exact hib, hrb, hob.gr g fun _ z => z⟩
  · have n1 := ne h1
    have n2 := ne h2
    rw [List.getElem?_set_ne n1] at h1
    rw [List.getElem?_set_ne n2] at h2
    exact rb.inj j k c1 c2 u h1 h2 h3 h4
end
end MR

set_option Elab.async false
set_option linter.all false
set_option maxRecDepth 100000
namespace MR
open PySem PySem.Spec PyProof.Rows L2

theorem _root_.L2.PE.imp {X : Cx} {e : Expr} {t t' : TE} (h : PE X e t) (i : ∀ σ H Q, t' σ H Q → t σ H Q) : PE X e t' := ⟨fun pins s σ H Q I q => h.run pins s σ H Q I (i _ _ _ q)⟩
theorem _root_.L2.PT.imp {X : Cx} {e : Expr} {t t' : TT} (h : PT X e t) (i : ∀ σ H Q, t' σ H Q → t σ H Q) : PT X e t' := ⟨fun pins s σ H Q I q => h.run pins s σ H Q I (i _ _ _ q)⟩
theorem _root_.L2.PW.imp {X : Cx} {e : Expr} {t t' : TT} (h : PW X e t) (i : ∀ σ H Q, t' σ H Q → t σ H Q) : PW X e t' := ⟨fun wh pins s σ H Q I q => h.run wh pins s σ H Q I (i _ _ _ q)⟩
theorem _root_.L2.PA.imp {X : Cx} {e : List Expr} {t t' : TA} (h : PA X e t) (i : ∀ σ H Q, t' σ H Q → t σ H Q) : PA X e t' := ⟨fun pos pins s σ H Q I q => h.run pos pins s σ H Q I (i _ _ _ q)⟩
theorem _root_.L2.PS.imp {X : Cx} {e : Stmt} {t t' : TS} (h : PS X e t) (i : ∀ D σ H, t' D σ H → t D σ H) : PS X e t' := ⟨fun pins s σ H D I q => h.run pins s σ H D I (i _ _ _ q)⟩
theorem _root_.L2.PSs.imp {X : Cx} {e : List Stmt} {t t' : TS} (h : PSs X e t) (i : ∀ D σ H, t' D σ H → t D σ H) : PSs X e t' := ⟨fun pins s σ H D I q => h.run pins s σ H D I (i _ _ _ q)⟩

abbrev SE (X : Cx) (Wx : WX) (e : Expr) (f : DE) : Prop := PE X e (semE X.K Wx f)
abbrev SV (X : Cx) (Wx : WX) (e : Expr) (f : DE) : Prop := PE X e (semV X.K Wx f)
abbrev ST (X : Cx) (Wx : WX) (e : Expr) (f : DT) : Prop := PT X e (semT X.K Wx f)
abbrev SW (X : Cx) (Wx : WX) (e : Expr) (f : DT) : Prop := PW X e (semT X.K Wx f)
abbrev SA (X : Cx) (Wx : WX) (es : List Expr) (f : DA) : Prop := PA X es (semA X.K Wx f)

section
variable {X : Cx} {Wx : WX}
theorem c_var (i : Nat) {x : Str} {pos : Pos} (hN : X.N[i]? = some x := by rfl) (hv : Vis X.env.scope x := by first | exact Or.inl rfl | exact Or.inr (Or.inl rfl) | exact Or.inr (Or.inr rfl)) (hd : (x == ("__debug__" : Str)) = false := by decide)
    (hcd : (x == ("__classdict__" : Str)) = false := by decide) : SE X Wx (.Name x pos) (dVar i) := by
  refine PE.imp (pe_var hN hv hd hcd) fun σV H Q h => ?_
  obtain ⟨F, I, ρ, σ, S, rb, h⟩ := h
  unfold dVar at h
  split at h
  · rename_i w hw
    obtain ⟨v, hv, r⟩ := rb.slot i _ hw
    exact ⟨v, hv, h I ρ H v Gr.refl rb (.inr r)⟩
  · rename_i c hc
    obtain ⟨a, ha, _⟩ := rb.slot i _ hc
    exact ⟨_, ha, h I ρ H _ Gr.refl rb (.inl ⟨i, rfl, ha⟩)⟩
  · exact h.elim
theorem sem_c {v : V} {w : D} {σV : L2.St} {H : Hp} {Q : VK} (r : ∀ ρ I, Sub I H → Rep X.K ρ I v w) (h : semE X.K Wx (dC w) σV H Q) : Q v H := by
  obtain ⟨F, I, ρ, σ, S, rb, h⟩ := h
  exact h I ρ H v Gr.refl rb (.inr (r ρ I rb.sub))
theorem c_int {i : Int} {j : Nat} {pos : Pos} : SE X Wx (.Constant (.int i) j pos) (dC (.int i)) := PE.imp pe_int fun _ _ _ h => sem_c (fun _ _ _ => .int) h
theorem c_bl {i : Bool} {j : Nat} {pos : Pos} : SE X Wx (.Constant (.bool i) j pos) (dC (.bl i)) := PE.imp pe_bl fun _ _ _ h => sem_c (fun _ _ _ => .bl) h
theorem c_str {x : Str} {j : Nat} {pos : Pos} : SE X Wx (.Constant (.str x) j pos) (dC (.str x)) := PE.imp pe_str fun _ _ _ h => sem_c (fun _ _ _ => .str) h
/-- a constant of the module: v its value, of which w is told whatever stands in the heap -/
theorem c_glob {x : Str} {v : V} {u : Value} {w : D} {pos : Pos} (hm : X.mg x = some u) (r : RelV v u) (t : ∀ ρ I, Rep X.K ρ I v w) (hg : Gl X x := by rfl) (hd : (x == ("__debug__" : Str)) = false := by decide) : SE X Wx (.Name x pos) (dC w) :=
  PE.imp (pe_glob hg hm r hd) fun _ _ _ h => sem_c (fun ρ I _ => t ρ I) h

/-- kept -/
theorem c_v {e : Expr} {f : DE} (h : SE X Wx e f) : SV X Wx e (dV f) := by
  refine PE.imp h fun σV H Q h => ?_
  obtain ⟨F, I, ρ, σ, S, rb, h⟩ := h
  refine ⟨F, I, ρ, σ, S, rb, post_bind h fun I1 ρ1 σ1 S1 H1 a b _ g rb1 t hp => ?_⟩
  rcases t with ⟨i, rfl, hv⟩ | r
  · unfold frz at hp
    simp only at hp
    split at hp
    · rename_i c hc
      obtain ⟨I2, g2, rb2, r2⟩ := rb1.frz hc hv
      exact hp I2 ρ1 H1 b g2 rb2 r2
    · exact hp.elim
  · have e : frz a σ1 S1 = .ok a σ1 S1 := by cases r <;> rfl
    rw [e] at hp
    exact hp I1 ρ1 H1 b Gr.refl rb1 r
theorem c_e {e : Expr} {f : DE} (h : SV X Wx e f) : SE X Wx e f := by
  refine PE.imp h fun σV H Q h => ?_
  obtain ⟨F, I, ρ, σ, S, rb, h⟩ := h
  refine ⟨F, I, ρ, σ, S, rb, ?_⟩
  cases e : f σ S with
  | ok a σ' S' =>
    rw [e] at h
    exact fun I' ρ' H' b g rb r => h I' ρ' H' b g rb (.inr r)
  | exc e' σ' S' =>
    rw [e] at h
    exact h
  | fail =>
    rw [e] at h
    exact h

/-- what an operation's rule asks is met where the datum operation succeeds -/
def OpS (K : PySem.W.Frag) (r : R2) (op : D → D → Option D) : Prop := ∀ (F I : Hp) (ρ : List Addr) (S : Sto) (H : Hp) (σV : L2.St) (σ : Sl) (v1 v2 : V) (a b z : D) (Q : VK), RB K F I ρ S H σV σ → At K ρ I H v1 a → At K ρ I H v2 b → op a b = some z →
  (∀ I' H' v, Gr ρ I ρ I' → RB K F I' ρ S H' σV σ → Rep K ρ I' v z → Q v H') → r v1 v2 H Q
theorem sem_op {r : R2} {op : D → D → Option D} {f g : DE} (ho : OpS X.K r op) {σV : L2.St} {H : Hp} {Q : VK} (h : semE X.K Wx (d2 op f g) σV H Q) : tOp r (semE X.K Wx f) (semE X.K Wx g) σV H Q := by
  obtain ⟨F, I, ρ, σ, S, rb, h⟩ := h
  refine ⟨F, I, ρ, σ, S, rb, post_bind h fun I1 ρ1 σ1 S1 H1 x v1 _ g1 rb1 t1 h1 => ?_⟩
  refine ⟨F, I1, ρ1, σ1, S1, rb1, post_bind h1 fun I2 ρ2 σ2 S2 H2 y v2 _ g2 rb2 t2 h2 => ?_⟩
  obtain ⟨z, ez, h3⟩ := post_opt h2
  obtain ⟨a, ea, ez⟩ := Option.bind_eq_some_iff.mp ez
  obtain ⟨b, eb, ez⟩ := Option.bind_eq_some_iff.mp ez
  exact ho F I2 ρ2 S2 H2 σV σ2 v1 v2 a b z Q rb2 (rb2.at (t1.gr g2) ea) (rb2.at t2 eb) ez fun I' H' v g' rb' r' => h3 I' ρ2 H' v g' rb' (.inr r')
theorem c_op {a b : Expr} {o : Operator} {pos : Pos} {r : R2} {op : D → D → Option D} {f g : DE} (hr : OpR X (binaryOp o) r) (hs : OpS X.K r op) (ha : SE X Wx a f) (hb : SE X Wx b g) : SE X Wx (.BinOp a o b pos) (d2 op f g) :=
  PE.imp (pe_op hr ha hb) fun _ _ _ h => sem_op hs h
theorem c_cmp {a b : Expr} {o : CmpOp} {pos : Pos} {r : R2} {op : D → D → Option D} {f g : DE} (hr : OpR X (compareOp o) r) (hs : OpS X.K r op) (ha : SE X Wx a f) (hb : SE X Wx b g) (hm : behindInMarks o b = false) : SE X Wx (.Compare a [o] [b] pos) (d2 op f g) :=
  PE.imp (pe_cmpR hr ha hb hm) fun _ _ _ h => sem_op hs h
theorem sem_tval {f : DE} {σV : L2.St} {H : Hp} {Q : Bool → Hp → Prop} (h : semT X.K Wx (tVal f) σV H Q) : semE X.K Wx f σV H fun x H' => ∃ k, x = .bl k ∧ Q k H' := by
  obtain ⟨F, I, ρ, σ, S, rb, h⟩ := h
  refine ⟨F, I, ρ, σ, S, rb, post_bind h fun I1 ρ1 σ1 S1 H1 x v1 _ g1 rb1 t1 h1 => ?_⟩
  rcases t1 with ⟨i, rfl, _⟩ | t1
  · exact h1.elim
  · cases t1 with
    | bl => exact ⟨_, rfl, h1 I1 ρ1 H1 _ Gr.refl rb1 rfl⟩
    | _ => exact h1.elim
theorem ct_cmp {a b : Expr} {o : CmpOp} {pos : Pos} {r : R2} {op : D → D → Option D} {f g : DE} (hr : OpR X (compareOp o) r) (hs : OpS X.K r op) (ha : SE X Wx a f) (hb : SE X Wx b g) (hm : behindInMarks o b = false) : ST X Wx (.Compare a [o] [b] pos) (tVal (d2 op f g)) :=
  PT.imp (pt_cmpR hr ha hb hm) fun _ _ _ h => sem_op hs (sem_tval h)
theorem ct_val {e : Expr} {f : DE} (h : SE X Wx e f) (he : ∀ whole, isTrue e X.env whole = (do let v ← whole; standAt e.pos; holding [v] (truthy v)) := by intro _; rfl) : ST X Wx e (tVal f) :=
  PT.imp (pt_val h he) fun _ _ _ h => sem_tval h

theorem ct_not {a : Expr} {pos : Pos} {f : DT} (h : ST X Wx a f) : ST X Wx (.UnaryOp .Not a pos) (tNot f) := by
  refine PT.imp (pt_not h) fun σV H Q h => ?_
  obtain ⟨F, I, ρ, σ, S, rb, h⟩ := h
  exact ⟨F, I, ρ, σ, S, rb, post_bind h fun I1 ρ1 σ1 S1 H1 x v1 _ g1 rb1 t1 h1 => h1 I1 ρ1 H1 _ Gr.refl rb1 (by rw [t1])⟩
theorem cw_and1 {a : Expr} {pos : Pos} {f : DT} (h : ST X Wx a f) : SW X Wx (.BoolOp .And [a] pos) f := pw_and1 h
theorem cw_or1 {a : Expr} {pos : Pos} {f : DT} (h : ST X Wx a f) : SW X Wx (.BoolOp .Or [a] pos) f := pw_or1 h
theorem cw_and {a b : Expr} {rest : List Expr} {pos : Pos} {f g : DT} (h : ST X Wx a f) (k : SW X Wx (.BoolOp .And (b :: rest) pos) g) : SW X Wx (.BoolOp .And (a :: b :: rest) pos) (tAnd f g) := by
  refine PW.imp (pw_and h k) fun σV H Q h => ?_
  obtain ⟨F, I, ρ, σ, S, rb, h⟩ := h
  refine ⟨F, I, ρ, σ, S, rb, post_bind h fun I1 ρ1 σ1 S1 H1 x v1 _ g1 rb1 t1 h1 => ?_⟩
  subst t1
  cases v1 with
  | true => exact ⟨F, I1, ρ1, σ1, S1, rb1, h1⟩
  | false => exact h1 I1 ρ1 H1 _ Gr.refl rb1 rfl
theorem cw_or {a b : Expr} {rest : List Expr} {pos : Pos} {f g : DT} (h : ST X Wx a f) (k : SW X Wx (.BoolOp .Or (b :: rest) pos) g) : SW X Wx (.BoolOp .Or (a :: b :: rest) pos) (tOr f g) := by
  refine PW.imp (pw_or h k) fun σV H Q h => ?_
  obtain ⟨F, I, ρ, σ, S, rb, h⟩ := h
  refine ⟨F, I, ρ, σ, S, rb, post_bind h fun I1 ρ1 σ1 S1 H1 x v1 _ g1 rb1 t1 h1 => ?_⟩
  subst t1
  cases v1 with
  | true => exact h1 I1 ρ1 H1 _ Gr.refl rb1 rfl
  | false => exact ⟨F, I1, ρ1, σ1, S1, rb1, h1⟩
/-- .. as values -/
theorem sem_vbl {f : DE} {g : Bool → DE} {σV : L2.St} {H : Hp} {Q : VK} (h : semE X.K Wx (fun σ S => (tVal f σ S).bind fun b σ S => g b σ S) σV H Q) : semE X.K Wx f σV H fun x H1 => ∃ c, x = .bl c ∧ semE X.K Wx (g c) σV H1 Q := by
  obtain ⟨F, I, ρ, σ, S, rb, h⟩ := h
  refine ⟨F, I, ρ, σ, S, rb, ?_⟩
  have h2 : postR X.K Wx (TRep X.K) F I ρ σV ((f σ S).bind fun x σ S => ((match x with
    | .bl b => Res.ok b σ S
    | _ => .fail) : Res Bool).bind fun b σ S => g b σ S) Q := by
    unfold tVal at h
    dsimp only at h
    cases e : f σ S with
    | ok a σ' S' => rw [e] at h; exact h
    | exc a σ' S' => rw [e] at h; exact h
    | fail => rw [e] at h; exact h
  refine post_bind h2 fun I1 ρ1 σ1 S1 H1 x v1 _ g1 rb1 t1 h1 => ?_
  rcases t1 with ⟨i, rfl, _⟩ | t1
  · exact h1.elim
  · cases t1 with
    | bl => exact ⟨_, rfl, F, I1, ρ1, σ1, S1, rb1, h1⟩
    | _ => exact h1.elim
def vAnd (f g : DE) : DE := fun σ S => (tVal f σ S).bind fun b σ S => (if b = true then g else dC (.bl false)) σ S
def vOr (f g : DE) : DE := fun σ S => (tVal f σ S).bind fun b σ S => (if b = true then dC (.bl true) else g) σ S
def vNot (f : DE) : DE := fun σ S => (tVal f σ S).bind fun b σ S => (dC (.bl (!b))) σ S
theorem c_one {a : Expr} {op : BoolOp} {pos : Pos} {f : DE} (h : SE X Wx a f) : SE X Wx (.BoolOp op [a] pos) f := pe_one h
theorem c_and {a b : Expr} {rest : List Expr} {pos : Pos} {f g : DE} (h : SE X Wx a f) (k : SE X Wx (.BoolOp .And (b :: rest) pos) g) : SE X Wx (.BoolOp .And (a :: b :: rest) pos) (vAnd f g) := by
  refine PE.imp (pe_and h k) fun σV H Q h => ?_
  obtain ⟨F, I, ρ, σ, S, rb, h⟩ := sem_vbl (g := fun b => if b = true then g else dC (.bl false)) h
  refine ⟨F, I, ρ, σ, S, rb, ?_⟩
  cases e : f σ S with
  | ok a σ' S' =>
    rw [e] at h
    intro I' ρ' H' v gr rb' t
    obtain ⟨c, rfl, q⟩ := h I' ρ' H' v gr rb' t
    refine ⟨c, rfl, ?_⟩
    cases c with
    | true => exact q
    | false => exact sem_c (fun _ _ _ => .bl) q
  | exc a σ' S' => rw [e] at h; exact h
  | fail => rw [e] at h; exact h
theorem c_not {a : Expr} {pos : Pos} {f : DE} (h : SE X Wx a f) : SE X Wx (.UnaryOp .Not a pos) (vNot f) := by
  refine PE.imp (pe_not h) fun σV H Q h => ?_
  obtain ⟨F, I, ρ, σ, S, rb, h⟩ := sem_vbl (g := fun b => dC (.bl (!b))) h
  refine ⟨F, I, ρ, σ, S, rb, ?_⟩
  cases e : f σ S with
  | ok a σ' S' =>
    rw [e] at h
    intro I' ρ' H' v gr rb' t
    obtain ⟨c, rfl, q⟩ := h I' ρ' H' v gr rb' t
    exact ⟨c, rfl, sem_c (fun _ _ _ => .bl) q⟩
  | exc a σ' S' => rw [e] at h; exact h
  | fail => rw [e] at h; exact h

theorem ca_nil : SA X Wx [] aNil := by
  refine PA.imp pa_nil fun σV H Q h => ?_
  obtain ⟨F, I, ρ, σ, S, rb, h⟩ := h
  exact h I ρ H [] Gr.refl rb .nil
theorem ca_cons {e : Expr} {es : List Expr} {f : DE} {r : DA} (h : SE X Wx e f) (k : SA X Wx es r) (hs : starEach (e :: es) X.env = (false, eval e X.env) :: starEach es X.env := by rfl) : SA X Wx (e :: es) (aCons f r) := by
  refine PA.imp (pa_cons (c_v h) k hs) fun σV H Q h => ?_
  obtain ⟨F, I, ρ, σ, S, rb, h⟩ := h
  refine ⟨F, I, ρ, σ, S, rb, post_bind h fun I1 ρ1 σ1 S1 H1 x v1 _ g1 rb1 t1 h1 => ?_⟩
  exact ⟨F, I1, ρ1, σ1, S1, rb1, post_bind h1 fun I2 ρ2 σ2 S2 H2 y v2 _ g2 rb2 t2 h2 => h2 I2 ρ2 H2 _ Gr.refl rb2 (.cons (t1.gr g2) t2)⟩
theorem most_eq : most = sizeLine := by decide
theorem c_tup {es : List Expr} {x1} {pos : Pos} {r : DA} (h : SA X Wx es r) : SE X Wx (.Tuple es x1 pos) (dTup r) := by
  refine PE.imp (pe_tup h) fun σV H Q h => ?_
  obtain ⟨F, I, ρ, σ, S, rb, h⟩ := h
  refine ⟨F, I, ρ, σ, S, rb, post_bind h fun I1 ρ1 σ1 S1 H1 x v1 _ g1 rb1 t1 h1 => ?_⟩
  split at h1
  · rename_i hl
    refine ⟨by rw [t1.length, ← most_eq]; exact hl, fun p hp => ?_⟩
    obtain ⟨g2, rb2⟩ := rb1.new (o := .tup v1) hp
    exact h1 _ ρ1 _ _ g2 rb2 (.inr (.tup (.inl upd_same) (t1.gr g2)))
  · exact h1.elim
end

section
variable {K : PySem.W.Frag}
theorem ops_int0 {g : Int → Int → V} {op : D → D → Option D} (h : ∀ a b z, op a b = some z → ∃ i j, a = .int i ∧ b = .int j ∧ ∀ ρ I, Rep K ρ I (g i j) z) : OpS K (rI0 g) op := by
  intro F I ρ S H σV σ v1 v2 a b z Q rb h1 h2 ez q
  obtain ⟨i, j, rfl, rfl, r⟩ := h a b z ez
  exact ⟨i, j, h1, h2, q I H _ Gr.refl rb (r ρ I)⟩
theorem ops_int {C : Int → Int → Prop} {g : Int → Int → V} {op : D → D → Option D} (h : ∀ a b z, op a b = some z → ∃ i j, a = .int i ∧ b = .int j ∧ C i j ∧ ∀ ρ I, Rep K ρ I (g i j) z) : OpS K (rI C g) op := by
  intro F I ρ S H σV σ v1 v2 a b z Q rb h1 h2 ez q
  obtain ⟨i, j, rfl, rfl, c, r⟩ := h a b z ez
  exact ⟨i, j, h1, h2, c, q I H _ Gr.refl rb (r ρ I)⟩
theorem os_sub : OpS K (rI0 fun i j => .int (i - j)) opSub := ops_int0 fun a b z e => by
  unfold opSub at e; split at e
  · cases e; exact ⟨_, _, rfl, rfl, fun _ _ => .int⟩
  · cases e
theorem os_mod : OpS K (rI (fun _ j => 0 < j) fun i j => .int (i % j)) opMod := ops_int fun a b z e => by
  unfold opMod at e; split at e
  · split at e
    · cases e; exact ⟨_, _, rfl, rfl, by assumption, fun _ _ => .int⟩
    · cases e
  · cases e
def CDivNW (_ j : Int) : Prop := divOk j
theorem op_divNW {X : Cx} : OpR X (binaryOp .FloorDiv) (rI CDivNW fun i j => .int (i.fdiv j)) := opI fun i j _ _ _ _ _ hc q => floordiv_int hc.1 q (.inl (PyProof.noPylong_of_log2 hc.2))
theorem os_div : OpS K (rI CDivNW fun i j => .int (i.fdiv j)) opDiv := ops_int fun a b z e => by
  unfold opDiv at e; split at e
  · split at e
    · cases e; exact ⟨_, _, rfl, rfl, by assumption, fun _ _ => .int⟩
    · cases e
  · cases e
theorem os_lt : OpS K (rI0 fun i j => .bl (decide (i < j))) opLt := ops_int0 fun a b z e => by
  unfold opLt at e; split at e
  · cases e; exact ⟨_, _, rfl, rfl, fun _ _ => .bl⟩
  · cases e
theorem os_le : OpS K (rI0 fun i j => .bl (decide (i ≤ j))) opLe := ops_int0 fun a b z e => by
  unfold opLe at e; split at e
  · cases e; exact ⟨_, _, rfl, rfl, fun _ _ => .bl⟩
  · cases e
theorem os_gt : OpS K (rI0 fun i j => .bl (decide (j < i))) opGt := ops_int0 fun a b z e => by
  unfold opGt at e; split at e
  · cases e; exact ⟨_, _, rfl, rfl, fun _ _ => .bl⟩
  · cases e
end
end MR

set_option Elab.async false
set_option linter.all false
set_option maxRecDepth 100000
namespace MR
open PySem PySem.Spec PyProof.Rows L2

/-- what a def hands back: a kept value; or (fresh) a container that nobody else holds, or a scalar -/
def scalar : D → Bool
  | .non => true | .bl _ => true | .int _ => true | .str _ => true | .tup _ => true
  | _ => false
def RetAt (fr : Bool) (K : PySem.W.Frag) (F I : Hp) (ρ : List Addr) (H : Hp) (v : V) (w : D) : Prop := match fr with
  | false => Rep K ρ I v w
  | true => (∃ a, v = .ref a ∧ F a = none ∧ I a = none ∧ a ∉ ρ ∧ OwnAt K ρ I H a w) ∨ (scalar w = true ∧ Rep K ρ I v w)
def postS (fr : Bool) (K : PySem.W.Frag) (Wx : WX) (F I : Hp) (ρ : List Addr) (r : Res Fl) (D : Ends) : Prop := match r with
  | .ok .next σ' S' => ∀ I' ρ' H' σV', Gr ρ I ρ' I' → RB K F I' ρ' S' H' σV' σ' → D.nx σV' H'
  | .ok (.ret w) _ S' => ∀ I' ρ' H' v, Gr ρ I ρ' I' → RB K F I' ρ' S' H' [] [] → RetAt fr K F I' ρ' H' v w → D.rt v H'
  | .ok .brk σ' S' => ∀ I' ρ' H' σV', Gr ρ I ρ' I' → RB K F I' ρ' S' H' σV' σ' → D.bk σV' H'
  | .ok .cnt σ' S' => ∀ I' ρ' H' σV', Gr ρ I ρ' I' → RB K F I' ρ' S' H' σV' σ' → D.ct σV' H'
  | .exc e σ' S' => ∀ I' ρ' H' d σV', Gr ρ I ρ' I' → RB K F I' ρ' S' H' σV' σ' → ExcAt e d H' → Wx (.ref (ca K e.c)) d σV' H'
  | .fail => False
def semS (fr : Bool) (K : PySem.W.Frag) (Wx : WX) (f : DS) : TS := fun D σV H => ∃ F I ρ σ S, RB K F I ρ S H σV σ ∧ postS fr K Wx F I ρ (f σ S) D
abbrev SS (fr : Bool) (X : Cx) (Wx : WX) (st : Stmt) (f : DS) : Prop := PS X st (semS fr X.K Wx f)
abbrev SSs (fr : Bool) (X : Cx) (Wx : WX) (st : List Stmt) (f : DS) : Prop := PSs X st (semS fr X.K Wx f)

section
variable {fr : Bool} {K : PySem.W.Frag} {Wx : WX} {F I : Hp} {ρ : List Addr} {σV : L2.St} {H : Hp}
theorem postS_gr {r : Res Fl} {D : Ends} {I1 : Hp} {ρ1 : List Addr} (g : Gr ρ I ρ1 I1) (h : postS fr K Wx F I ρ r D) : postS fr K Wx F I1 ρ1 r D := by
  cases r with
  | ok a σ S =>
    cases a with
    | next => exact fun I' ρ' H' b g' => h I' ρ' H' b (g.trans g')
    | ret w => exact fun I' ρ' H' b g' => h I' ρ' H' b (g.trans g')
    | brk => exact fun I' ρ' H' b g' => h I' ρ' H' b (g.trans g')
    | cnt => exact fun I' ρ' H' b g' => h I' ρ' H' b (g.trans g')
  | exc e σ S => exact fun I' ρ' H' d s g' => h I' ρ' H' d s (g.trans g')
  | fail => exact h
theorem postS_bind {α β : Type} {T : List Addr → Hp → L2.St → β → α → Prop} {r : Res α} {k : α → Sl → Sto → Res Fl} {D : Ends} {Q1 : β → Hp → Prop}
    (h : postS fr K Wx F I ρ (r.bind k) D)
    (q : ∀ I1 ρ1 σ1 S1 H1 a b, r = .ok a σ1 S1 → Gr ρ I ρ1 I1 → RB K F I1 ρ1 S1 H1 σV σ1 → T ρ1 I1 σV b a → postS fr K Wx F I1 ρ1 (k a σ1 S1) D → Q1 b H1) : postR K Wx T F I ρ σV r Q1 := by
  cases r with
  | ok a σ S => exact fun I' ρ' H' b g rb t => q I' ρ' σ S H' a b rfl g rb t (postS_gr g h)
  | exc e σ S => exact fun I' ρ' H' d => h I' ρ' H' d σV
  | fail => exact h
theorem RB.drop {S : Sto} {σ : Sl} (rb : RB K F I ρ S H σV σ) : RB K F I ρ S H [] [] := ⟨rb.fr, rb.sub, rb.dis, rb.store, rb.nd, rb.rl, rfl, fun i s h => by simp at h, fun i j c c' v h => by simp at h⟩
end

section
variable {fr : Bool} {X : Cx} {Wx : WX}
theorem cs_nil : SSs fr X Wx [] sNil := by
  refine PSs.imp pss_nil fun D σV H h => ?_
  obtain ⟨F, I, ρ, σ, S, rb, h⟩ := h
  exact h I ρ H σV Gr.refl rb
theorem sem_seq {f g : DS} {D : Ends} {σV : L2.St} {H : Hp} (h : semS fr X.K Wx (sSeq f g) D σV H) : tSeq (semS fr X.K Wx f) (semS fr X.K Wx g) D σV H := by
  obtain ⟨F, I, ρ, σ, S, rb, h⟩ := h
  refine ⟨F, I, ρ, σ, S, rb, ?_⟩
  unfold sSeq at h
  cases e : f σ S with
  | ok a σ' S' =>
    rw [e] at h
    cases a with
    | next => exact fun I' ρ' H' σV' g' rb' => ⟨F, I', ρ', σ', S', rb', postS_gr g' h⟩
    | ret w => exact h
    | brk => exact h
    | cnt => exact h
  | exc a σ' S' => rw [e] at h; exact h
  | fail => rw [e] at h; exact h
theorem cs_cons {st : Stmt} {rest : List Stmt} {f g : DS} (h : SS fr X Wx st f) (k : SSs fr X Wx rest g) : SSs fr X Wx (st :: rest) (sSeq f g) := PSs.imp (pss_cons h k) fun _ _ _ h => sem_seq h
theorem cs_one {st : Stmt} {f : DS} (h : SS fr X Wx st f) : SSs fr X Wx [st] f := pss_one h
theorem cs_ret {e : Expr} {pos : Pos} {f : DE} (h : SE X Wx e f) : SS false X Wx (.Return (some e) pos) (sRet f) := by
  refine PS.imp (ps_ret (c_v h)) fun D σV H h => ?_
  obtain ⟨F, I, ρ, σ, S, rb, h⟩ := h
  exact ⟨F, I, ρ, σ, S, rb, postS_bind h fun I1 ρ1 σ1 S1 H1 x v1 _ g1 rb1 t1 h1 => h1 I1 ρ1 H1 v1 Gr.refl rb1.drop t1⟩
theorem cs_set {i : Nat} {x : Str} {e : Expr} {f : DE} {pos pos' : Pos} (hN : X.N.Nodup) (h : SE X Wx e f) (hi : X.N[i]? = some x := by rfl) (hx : Loc X.env.scope x := by first | exact Or.inl rfl | exact Or.inr rfl)
    (hs : swapsWith e (some (.Name x pos')) pos.line X.env = pure false := by rfl) (hf : X.fn x = true ∨ X.env.scope.names.lookup x = some .local := by first | exact .inl rfl | exact .inr rfl | assumption) : SS fr X Wx (.Assign [.Name x pos'] e pos) (sSet i f) := by
  refine PS.imp (ps_set hN hi hx (c_v h) hs hf) fun D σV H h => ?_
  obtain ⟨F, I, ρ, σ, S, rb, h⟩ := h
  exact ⟨F, I, ρ, σ, S, rb, postS_bind h fun I1 ρ1 σ1 S1 H1 x v1 _ g1 rb1 t1 h1 => h1 I1 ρ1 H1 _ Gr.refl (rb1.setV t1)⟩
theorem cs_expr {e : Expr} {f : DE} {pos : Pos} (h : SE X Wx e f) (hs : swapsWith e none pos.line X.env = pure false := by rfl) : SS fr X Wx (.Expr e pos) (sExpr f) := by
  refine PS.imp (ps_expr h hs) fun D σV H h => ?_
  obtain ⟨F, I, ρ, σ, S, rb, h⟩ := h
  exact ⟨F, I, ρ, σ, S, rb, postS_bind h fun I1 ρ1 σ1 S1 H1 x v1 _ g1 rb1 t1 h1 => h1 I1 ρ1 H1 _ Gr.refl rb1⟩
theorem cs_if {c : Expr} {a b : List Stmt} {pos : Pos} {t : DT} {f g : DS} (hc : ST X Wx c t) (ha : SSs fr X Wx a f) (hb : SSs fr X Wx b g) : SS fr X Wx (.If c a b pos) (sIf t f g) := by
  refine PS.imp (ps_if hc ha hb) fun D σV H h => ?_
  obtain ⟨F, I, ρ, σ, S, rb, h⟩ := h
  refine ⟨F, I, ρ, σ, S, rb, postS_bind h fun I1 ρ1 σ1 S1 H1 x v1 _ g1 rb1 t1 h1 => ?_⟩
  subst t1
  cases v1 with
  | true => exact ⟨F, I1, ρ1, σ1, S1, rb1, h1⟩
  | false => exact ⟨F, I1, ρ1, σ1, S1, rb1, h1⟩
end

def postD (fr : Bool) (K : PySem.W.Frag) (F I : Hp) (ρ : List Addr) (r : Out) (Q : VK) (E : XK) : Prop := match r with
  | .ok w S' => ∀ I' ρ' H' v, Gr ρ I ρ' I' → RB K F I' ρ' S' H' [] [] → RetAt fr K F I' ρ' H' v w → Q v H'
  | .exc e S' => ∀ I' ρ' H' d, Gr ρ I ρ' I' → RB K F I' ρ' S' H' [] [] → ExcAt e d H' → E (.ref (ca K e.c)) d H'
  | .fail => False
/-- a def's promise: as its denotation says -/
def spD (fr : Bool) (K : PySem.W.Frag) (n : Nat) (d : Den) : Sp := fun vs H Q E => vs.length = n ∧ ∃ F I ρ S ws, RB K F I ρ S H [] [] ∧ Reps K ρ I vs ws ∧ postD fr K F I ρ (d ws S) Q E
theorem RB.start {K : PySem.W.Frag} {F I : Hp} {ρ : List Addr} {S : Sto} {H : Hp} {vs : List V} {ws : List D} (rb : RB K F I ρ S H [] []) (r : Reps K ρ I vs ws) (N : List Str) : RB K F I ρ S H (start N vs) (ws.map Slot.val ++ List.replicate (N.length - ws.length) .emp) := by
  have no : ∀ {i : Nat} {c : D}, ¬ (ws.map Slot.val ++ List.replicate (N.length - ws.length) Slot.emp)[i]? = some (Slot.own c) := fun {i c} h => by
    have hm := List.mem_of_getElem? h
    rcases List.mem_append.mp hm with hm | hm
    · obtain ⟨w, _, e⟩ := List.mem_map.mp hm
      cases e
    · have := List.eq_of_mem_replicate hm
      cases this
  refine ⟨rb.fr, rb.sub, rb.dis, rb.store, rb.nd, rb.rl, ?_, fun i s h => ?_, fun i j c c' v h => absurd h no⟩
  · unfold L2.start
    simp only [List.length_append, List.length_map, List.length_replicate, r.length]
  · cases s with
    | emp => trivial
    | exn b =>
      rcases List.mem_append.mp (List.mem_of_getElem? h) with hm | hm
      · obtain ⟨w, _, e⟩ := List.mem_map.mp hm
        cases e
      · have := List.eq_of_mem_replicate hm
        cases this
    | own c => exact absurd h no
    | val w =>
      by_cases hi : i < ws.length
      · rw [List.getElem?_append_left (by rw [List.length_map]; exact hi), List.getElem?_map] at h
        obtain ⟨w', hw, e⟩ := Option.map_eq_some_iff.mp h
        cases e
        obtain ⟨v, hv, rv⟩ := r.get hw
        refine ⟨v, ?_, rv⟩
        unfold L2.start
        rw [List.getElem?_append_left (by rw [List.length_map, r.length]; exact hi), List.getElem?_map, hv]
        rfl
      · rw [List.getElem?_append_right (by rw [List.length_map]; omega)] at h
        have := List.eq_of_mem_replicate (List.mem_of_getElem? h)
        cases this
/-- THE RULE for a def -/
theorem def_ok {fr : Bool} {P : Program} {w : World} {K : PySem.W.Frag} {mg : Str → Option Value} {base : Heap} {x qual : Str} {params : Arguments} {body : List Stmt} {scope : Scope} {f : Addr} {fd : FuncData} {N ps : List Str} {k n : Nat} {d : DS}
    (F : FunD K x qual params body scope [] [] f fd) (S : FnScope N ps scope) (hn : N.length = n)
    (hb : ∀ (cdv : Value) (A : Around) (outer : List Env) (s : Shared) (H : Hp) (E : XK), Room k (A.deeper (envOfC qual scope s.heap.objs.size f cdv)) →
      SSs fr (cxOf (L2.CX P w) P w K mg base N qual scope f cdv A outer s H E) (fun cls d _ H => E cls d H) body d) :
    FnOk P w K mg base (L2.CX P w) (k + 1) f fd ps (spD fr K ps.length (dDef n d)) := by
  refine F.ok S (fun vs H Q E h => h.1) fun cdv A outer s H vs Q E hr h => ?_
  obtain ⟨hl, F0, I, ρ, S0, ws, rb, r, h⟩ := h
  refine ⟨_, hb cdv A outer s H E hr, F0, I, ρ, _, S0, rb.start r N, ?_⟩
  unfold dDef at h
  rw [hn]
  cases e : d (ws.map Slot.val ++ List.replicate (n - ws.length) .emp) S0 with
  | ok a σ' S' =>
    rw [e] at h
    cases a with
    | next =>
      intro I' ρ' H' σV' g rb'
      cases fr with
      | false => exact h I' ρ' H' .non g rb'.drop .non
      | true => exact h I' ρ' H' .non g rb'.drop (.inr ⟨rfl, .non⟩)
    | ret w => exact h
    | brk => exact h.elim
    | cnt => exact h.elim
  | exc a σ' S' =>
    rw [e] at h
    exact fun I' ρ' H' d σV' g rb' he => h I' ρ' H' d g rb'.drop he
  | fail => rw [e] at h; exact h

/-- a def of the module as callers take it -/
structure Fn (fr : Bool) (P : Program) (w : World) (K : PySem.W.Frag) (mg : Str → Option Value) (base : Heap) (x : Str) (k n : Nat) (d : Den) : Prop where
  ex : ∃ (f : Addr) (fd : FuncData) (ps : List Str), mg x = some (.ref f) ∧ PySem.W.keepIn K (.ref f) = true ∧ Binds K fd ps [] ∧ ps.length = n ∧ FnOk P w K mg base (L2.CX P w) k f fd ps (spD fr K n d)

section
variable {fr : Bool} {X : Cx} {Wx : WX}
open Classical in
/-- what a callee must leave as it is: the frame's wish, and what the slots own -/
noncomputable def fr1 (F H : Hp) (σV : L2.St) (σ : Sl) : Hp := fun a => if ∃ (i : Nat) (c : D), σ[i]? = some (.own c) ∧ σV[i]? = some (some (.ref a)) then H a else F a
theorem RB.callee {K : PySem.W.Frag} {F I : Hp} {ρ : List Addr} {S : Sto} {H : Hp} {σV : L2.St} {σ : Sl} (rb : RB K F I ρ S H σV σ) : RB K (fr1 F H σV σ) I ρ S H [] [] := by
  refine ⟨fun a o h => ?_, rb.sub, fun a o h => ?_, fun r o h => ?_, rb.nd, rb.rl, rfl, fun i s h => by simp at h, fun i j c c' v h => by simp at h⟩
  · unfold fr1 at h
    split at h
    · exact h
    · exact rb.fr a o h
  · unfold fr1 at h
    split at h
    · rename_i q
      obtain ⟨i, c, h1, h2⟩ := q
      obtain ⟨b, hb, _, hib, _⟩ := rb.slot i _ h1
      rw [h2] at hb
      cases hb
      exact fun _ => hib
    · exact rb.dis a o h
  · obtain ⟨a, ha, hf, hi, hc⟩ := rb.store r o h
    have e : fr1 F H σV σ a = F a := by
      unfold fr1
      split
      · rename_i q
        obtain ⟨i, c, h1, h2⟩ := q
        obtain ⟨b, hb, _, _, nb, _⟩ := rb.slot i _ h1
        rw [h2] at hb
        cases hb
        exact absurd (List.mem_of_getElem? ha) nb
      · rfl
    exact ⟨a, ha, hf.mono (fun z => e.trans z) fun ob u z => e.trans z, hi, hc⟩
theorem RB.back {K : PySem.W.Frag} {F I I' : Hp} {ρ ρ' : List Addr} {S S' : Sto} {H H' : Hp} {σV : L2.St} {σ : Sl} (rb : RB K F I ρ S H σV σ) (g : Gr ρ I ρ' I') (rb' : RB K (fr1 F H σV σ) I' ρ' S' H' [] []) : RB K F I' ρ' S' H' σV σ := by
  have own1 : ∀ {i : Nat} {c : D} {a : Addr}, σ[i]? = some (.own c) → σV[i]? = some (some (.ref a)) → fr1 F H σV σ a = H a := fun {i c a} h1 h2 => by
    unfold fr1
    rw [if_pos ⟨i, c, h1, h2⟩]
  have oth : ∀ {a : Addr} {o : HO}, F a = some o → fr1 F H σV σ a = some o := fun {a o} h => by
    unfold fr1
    split
    · exact rb.fr a o h
    · exact h
  have Fn : ∀ {a : Addr}, fr1 F H σV σ a = none → F a = none := fun {a} h => by
    cases e : F a with
    | none => rfl
    | some o =>
      rw [oth e] at h
      cases h
  refine ⟨fun a o h => rb'.fr a o (oth h), rb'.sub, fun a o h => rb'.dis a o (oth h), fun r o h => ?_, rb'.nd, rb'.rl, rb.len, fun i s h => ?_, rb.inj⟩
  · obtain ⟨a, ha, hf, hi, hc⟩ := rb'.store r o h
    refine ⟨a, ha, hf.mono Fn fun ob u z => ?_, hi, hc⟩
    unfold fr1 at z
    split at z
    · rename_i q
      obtain ⟨i, c, h1, h2⟩ := q
      obtain ⟨b, hb, _, _, _, ho⟩ := rb.slot i _ h1
      rw [h2] at hb
      cases hb
      exact absurd z ho.nofrz
    · exact z
  · have q := rb.slot i s h
    cases s with
    | emp => trivial
    | exn b => first | exact q | exact (List.getElem?_set_ne e).trans q | exact e.trans q
    | val w => obtain ⟨v, hv, r⟩ := q; exact ⟨v, hv, r.gr g⟩
    | own c =>
      obtain ⟨a, ha, hf, hi, hr, ho⟩ := q
      obtain ⟨o, hao⟩ := ho.there
      have fa : fr1 F H σV σ a = some o := (own1 h ha).trans hao
      have keep : H' a = some o := rb'.fr a o fa
      refine ⟨a, ha, hf, ?_, ?_, ho.gr g fun u hu => ?_⟩
      · exact rb'.dis a o fa (ho.notTup hao)
      · intro hm
        obtain ⟨r, hr'⟩ := List.getElem?_of_mem hm
        have lt : r < S'.length := by rw [← rb'.rl]; exact (List.getElem?_eq_some_iff.mp hr').1
        obtain ⟨b, hb, hfb, _⟩ := rb'.store r _ (List.getElem?_eq_getElem lt)
        rw [hr'] at hb
        cases hb
        obtain ⟨ob, u, e⟩ := hfb.not fa
        exact ho.nofrz (e ▸ hao)
      · rw [hao] at hu
        cases hu
        exact keep
end
end MR

set_option Elab.async false
set_option linter.all false
set_option maxRecDepth 100000
namespace MR
open PySem PySem.Spec PyProof.Rows L2

section
variable {K : PySem.W.Frag} {F I : Hp} {ρ : List Addr} {S : Sto} {H : Hp} {σV : L2.St} {σ : Sl}
/-- no slot owns what stands at a -/
def NoOwn (σV : L2.St) (σ : Sl) (a : Addr) : Prop := ∀ (i : Nat) (c : D), σ[i]? = some (.own c) → σV[i]? ≠ some (some (.ref a))
/-- a container at a that nobody else holds -/
structure Fresh (K : PySem.W.Frag) (F I : Hp) (ρ : List Addr) (H : Hp) (σV : L2.St) (σ : Sl) (a : Addr) (c : D) : Prop where
  nf : F a = none
  ni : I a = none
  nr : a ∉ ρ
  no : NoOwn σV σ a
  own : OwnAt K ρ I H a c
/-- it is frozen -/
theorem RB.frzA (rb : RB K F I ρ S H σV σ) {a : Addr} {c : D} (f : Fresh K F I ρ H σV σ a c) : ∃ I', Gr ρ I ρ I' ∧ RB K F I' ρ S H σV σ ∧ Rep K ρ I' (.ref a) c := by
  obtain ⟨hf, hi, hr, no, ho⟩ := f
  obtain ⟨o, hao⟩ := ho.there
  have g : Gr ρ I ρ (upd I a o) := ⟨fun b u h => by rw [upd_ne (ne_of_none h hi)]; exact h, fun _ _ h => h⟩
  have rep : Rep K ρ (upd I a o) (.ref a) c := by
    cases c with
    | lst ws =>
      obtain ⟨vs, h, r⟩ := ho
      rw [hao] at h; cases h
      exact .lst upd_same (r.gr g)
    | dK kws =>
      obtain ⟨kvs, h, e, r⟩ := ho
      rw [hao] at h; cases h
      exact .dK upd_same e (r.gr g)
    | dT kws =>
      obtain ⟨kvs, h, e, r⟩ := ho
      rw [hao] at h; cases h
      exact .dT upd_same e (r.gr g)
    | _ => exact ho.elim
  refine ⟨upd I a o, g, ⟨rb.fr, fun b u h => ?_, fun b u h => ?_, fun r ob h => ?_, rb.nd, rb.rl, rb.len, fun j s h => ?_, rb.inj⟩, rep⟩
  · by_cases e : b = a
    · subst e
      rw [upd_same] at h
      exact .inl (hao.trans h)
    · rw [upd_ne e] at h
      exact rb.sub b u h
  · rw [upd_ne (ne_of_none h hf)]
    exact rb.dis b u h
  · obtain ⟨b, hb, hfb, hib, hcb⟩ := rb.store r ob h
    have n : b ≠ a := fun e => hr (e ▸ List.mem_of_getElem? hb)
    exact ⟨b, hb, hfb, by rw [upd_ne n]; exact hib, hcb.gr g fun _ z => z⟩
  · have q := rb.slot j s h
    cases s with
    | emp => trivial
    | exn b => first | exact q | exact (List.getElem?_set_ne e).trans q | exact e.trans q
    | val w => obtain ⟨v, hv, r⟩ := q; exact ⟨v, hv, r.gr g⟩
    | own c' =>
      obtain ⟨b, hb, hfb, hib, hrb, hob⟩ := q
      have n : b ≠ a := fun z => no j c' h (z ▸ hb)
      exact ⟨b, hb, hfb, by rw [upd_ne n]; exact hib, hrb, hob.gr g fun _ z => z⟩
/-- a slot takes it -/
theorem RB.setO (rb : RB K F I ρ S H σV σ) {i : Nat} {a : Addr} {c : D} (f : Fresh K F I ρ H σV σ a c) : RB K F I ρ S H (σV.set i (some (.ref a))) (σ.set i (.own c)) := by
  refine ⟨rb.fr, rb.sub, rb.dis, rb.store, rb.nd, rb.rl, by rw [List.length_set, List.length_set]; exact rb.len, fun j s h => ?_, fun j k c1 c2 u h1 h2 h3 h4 => ?_⟩
  · by_cases e : i = j
    · subst e
      have lt : i < (σ.set i (.own c)).length := (List.getElem?_eq_some_iff.mp h).1
      rw [List.length_set] at lt
      rw [List.getElem?_set_self lt] at h
      cases h
      exact ⟨a, List.getElem?_set_self (by rw [← rb.len]; exact lt), f.nf, f.ni, f.nr, f.own⟩
    · rw [List.getElem?_set_ne e] at h
      have q := rb.slot j s h
      cases s with
      | emp => trivial
      | exn b => first | exact q | exact (List.getElem?_set_ne e).trans q | exact e.trans q
      | val w => obtain ⟨v, hv, r⟩ := q; exact ⟨v, by rw [List.getElem?_set_ne e]; exact hv, r⟩
      | own c => obtain ⟨a, ha, q⟩ := q; exact ⟨a, by rw [List.getElem?_set_ne e]; exact ha, q⟩
  · have at_i : ∀ {c1 : D} {u : V}, (σV.set i (some (.ref a)))[i]? = some (some u) → u = .ref a := fun {c1 u} h => by
      have lt : i < (σV.set i (some (.ref a))).length := (List.getElem?_eq_some_iff.mp h).1
      rw [List.length_set] at lt
      rw [List.getElem?_set_self lt] at h
      cases h
      rfl
    by_cases e1 : i = j
    · by_cases e2 : i = k
      · exact e1.symm.trans e2
      · subst e1
        have := at_i (c1 := c1) h3
        subst this
        rw [List.getElem?_set_ne e2] at h2 h4
        exact absurd h4 (f.no k c2 h2)
    · rw [List.getElem?_set_ne e1] at h1 h3
      by_cases e2 : i = k
      · subst e2
        have := at_i (c1 := c1) h4
        subst this
        exact absurd h3 (f.no j c1 h1)
      · rw [List.getElem?_set_ne e2] at h2 h4
        exact rb.inj j k c1 c2 u h1 h2 h3 h4
/-- a new container, fresh -/
theorem RB.newO (rb : RB K F I ρ S H σV σ) {p : Addr} {o : HO} (hp : H p = none) : RB K F I ρ S (upd H p o) σV σ ∧ F p = none ∧ I p = none ∧ p ∉ ρ ∧ NoOwn σV σ p := by
  have ip := rb.sub.none_of hp
  have k : ∀ b u, H b = some u → upd H p o b = some u := fun b u h => by rw [upd_ne (ne_of_none h hp)]; exact h
  refine ⟨⟨fun a u h => k a u (rb.fr a u h), fun a u h => ?_, rb.dis, fun r c h => ?_, rb.nd, rb.rl, rb.len, fun i s h => ?_, rb.inj⟩, ?_, ip, rb.nρ hp, fun i c h1 h2 => ?_⟩
  · rcases rb.sub a u h with q | ⟨d, ob, q⟩
    · exact .inl (k _ _ q)
    · exact .inr ⟨d, ob, k _ _ q⟩
  · obtain ⟨a, ha, hf, hi, hc⟩ := rb.store r c h
    exact ⟨a, ha, hf, hi, hc.gr Gr.refl (k a)⟩
  · have q := rb.slot i s h
    cases s with
    | emp => trivial
    | exn b => first | exact q | exact (List.getElem?_set_ne e).trans q | exact e.trans q
    | val w => exact q
    | own c => obtain ⟨a, ha, hf, hi, hr, ho⟩ := q; exact ⟨a, ha, hf, hi, hr, ho.gr Gr.refl (k a)⟩
  · cases e : F p with
    | none => rfl
    | some u =>
      have := rb.fr p u e
      rw [hp] at this
      cases this
  · obtain ⟨a, ha, _, _, _, ho⟩ := rb.slot i _ h1
    rw [h2] at ha
    cases ha
    obtain ⟨u, hu⟩ := ho.there
    rw [hp] at hu
    cases hu
end

def postF (K : PySem.W.Frag) (Wx : WX) (F I : Hp) (ρ : List Addr) (σV : L2.St) (r : Res D) (Q : VK) : Prop := match r with
  | .ok w σ' S' => ∀ I' ρ' H' v, Gr ρ I ρ' I' → RB K F I' ρ' S' H' σV σ' → ((∃ a, v = .ref a ∧ Fresh K F I' ρ' H' σV σ' a w) ∨ (scalar w = true ∧ Rep K ρ' I' v w)) → Q v H'
  | .exc e σ' S' => ∀ I' ρ' H' d, Gr ρ I ρ' I' → RB K F I' ρ' S' H' σV σ' → ExcAt e d H' → Wx (.ref (ca K e.c)) d σV H'
  | .fail => False
def semF (K : PySem.W.Frag) (Wx : WX) (f : DE) : TE := fun σV H Q => ∃ F I ρ σ S, RB K F I ρ S H σV σ ∧ postF K Wx F I ρ σV (f σ S) Q
abbrev SF (X : Cx) (Wx : WX) (e : Expr) (f : DE) : Prop := PE X e (semF X.K Wx f)
section
variable {fr : Bool} {X : Cx} {Wx : WX}
theorem postF_gr {K : PySem.W.Frag} {F I : Hp} {ρ : List Addr} {σV : L2.St} {r : Res D} {Q : VK} {I1 : Hp} {ρ1 : List Addr} (g : Gr ρ I ρ1 I1) (h : postF K Wx F I ρ σV r Q) : postF K Wx F I1 ρ1 σV r Q := by
  cases r with
  | ok a σ S => exact fun I' ρ' H' b g' => h I' ρ' H' b (g.trans g')
  | exc e σ S => exact fun I' ρ' H' d g' => h I' ρ' H' d (g.trans g')
  | fail => exact h
theorem postF_bind {K : PySem.W.Frag} {F I : Hp} {ρ : List Addr} {σV : L2.St} {α β : Type} {T : List Addr → Hp → L2.St → β → α → Prop} {r : Res α} {k : α → Sl → Sto → Res D} {Q : VK} {Q1 : β → Hp → Prop}
    (h : postF K Wx F I ρ σV (r.bind k) Q)
    (q : ∀ I1 ρ1 σ1 S1 H1 a b, r = .ok a σ1 S1 → Gr ρ I ρ1 I1 → RB K F I1 ρ1 S1 H1 σV σ1 → T ρ1 I1 σV b a → postF K Wx F I1 ρ1 σV (k a σ1 S1) Q → Q1 b H1) : postR K Wx T F I ρ σV r Q1 := by
  cases r with
  | ok a σ S => exact fun I' ρ' H' b g rb t => q I' ρ' σ S H' a b rfl g rb t (postF_gr g h)
  | exc e σ S => exact h
  | fail => exact h
/-- fresh, then kept as a value -/
theorem c_f {e : Expr} {f : DE} (h : SF X Wx e f) : SE X Wx e f := by
  refine PE.imp h fun σV H Q h => ?_
  obtain ⟨F, I, ρ, σ, S, rb, h⟩ := h
  refine ⟨F, I, ρ, σ, S, rb, ?_⟩
  cases e : f σ S with
  | ok a σ' S' =>
    rw [e] at h
    intro I' ρ' H' v g rb' t
    rcases t with ⟨b, rfl, fr⟩ | ⟨_, r⟩
    · obtain ⟨I2, g2, rb2, r2⟩ := rb'.frzA fr
      exact h I2 ρ' H' _ (g.trans g2) rb2 (.inr r2)
    · exact h I' ρ' H' v g rb' (.inr r)
  | exc a σ' S' => rw [e] at h; exact h
  | fail => rw [e] at h; exact h
def sSetO (i : Nat) (f : DE) : DS := fun σ S => (f σ S).bind fun w σ S => .ok .next (σ.set i (if scalar w then .val w else .own w)) S
theorem sem_setO {fr : Bool} {i : Nat} {f : DE} {D : Ends} {σV : L2.St} {H : Hp} (h : semS fr X.K Wx (sSetO i f) D σV H) : semF X.K Wx f σV H fun v H' => D.nx (σV.set i (some v)) H' := by
  obtain ⟨F, I, ρ, σ, S, rb, h⟩ := h
  refine ⟨F, I, ρ, σ, S, rb, ?_⟩
  unfold sSetO at h
  cases e : f σ S with
  | ok a σ' S' =>
    rw [e] at h
    intro I' ρ' H' v g rb' t
    have h2 : postS fr X.K Wx F I ρ (.ok .next (σ'.set i (if scalar a then .val a else .own a)) S') D := h
    rcases t with ⟨b, rfl, fr⟩ | ⟨hs, r⟩
    · have ns : scalar a = false := by
        have := fr.own
        cases a <;> first | rfl | exact this.elim
      rw [ns] at h2
      exact h2 I' ρ' H' _ g (rb'.setO fr)
    · rw [hs] at h2
      exact h2 I' ρ' H' _ g (rb'.setV r)
  | exc a σ' S' => rw [e] at h; exact fun I' ρ' H' d => h I' ρ' H' d σV
  | fail => rw [e] at h; exact h
theorem cs_setO {i : Nat} {x : Str} {e : Expr} {f : DE} {pos pos' : Pos} (hN : X.N.Nodup) (h : SF X Wx e f) (hi : X.N[i]? = some x := by rfl) (hx : Loc X.env.scope x := by first | exact Or.inl rfl | exact Or.inr rfl)
    (hs : swapsWith e (some (.Name x pos')) pos.line X.env = pure false := by rfl) (hf : X.fn x = true ∨ X.env.scope.names.lookup x = some .local := by first | exact .inl rfl | exact .inr rfl | assumption) : SS fr X Wx (.Assign [.Name x pos'] e pos) (sSetO i f) :=
  PS.imp (ps_set hN hi hx h hs hf) fun D σV H h => sem_setO h
/-- return of a fresh container -/
def sRetF (f : DE) : DS := fun σ S => (f σ S).bind fun w σ S => .ok (.ret w) σ S
theorem cs_retF {e : Expr} {pos : Pos} {f : DE} (h : SF X Wx e f) : SS true X Wx (.Return (some e) pos) (sRetF f) := by
  refine PS.imp (ps_ret h) fun D σV H h => ?_
  obtain ⟨F, I, ρ, σ, S, rb, h⟩ := h
  refine ⟨F, I, ρ, σ, S, rb, ?_⟩
  unfold sRetF at h
  cases e : f σ S with
  | ok a σ' S' =>
    rw [e] at h
    intro I' ρ' H' v g rb' t
    rcases t with ⟨b, rfl, fr⟩ | t
    · exact h I' ρ' H' _ g rb'.drop (.inl ⟨b, rfl, fr.nf, fr.ni, fr.nr, fr.own⟩)
    · exact h I' ρ' H' _ g rb'.drop (.inr t)
  | exc a σ' S' => rw [e] at h; exact fun I' ρ' H' d => h I' ρ' H' d σV
  | fail => rw [e] at h; exact h
/-- return x, x's slot owning its container (or holding a scalar) -/
def sRetO (i : Nat) : DS := fun σ S => match σ[i]? with
  | some (.own c) => .ok (.ret c) σ S
  | some (.val w) => if scalar w then .ok (.ret w) σ S else .fail
  | _ => .fail
theorem cs_retO (i : Nat) {x : Str} {pos pos' : Pos} (hN : X.N[i]? = some x := by rfl) (hv : Vis X.env.scope x := by first | exact Or.inl rfl | exact Or.inr (Or.inl rfl) | exact Or.inr (Or.inr rfl)) (hd : (x == ("__debug__" : Str)) = false := by decide)
    (hcd : (x == ("__classdict__" : Str)) = false := by decide) : SS true X Wx (.Return (some (.Name x pos')) pos) (sRetO i) := by
  refine PS.imp (ps_ret (pe_var hN hv hd hcd)) fun D σV H h => ?_
  obtain ⟨F, I, ρ, σ, S, rb, h⟩ := h
  unfold sRetO at h
  split at h
  · rename_i c hc
    obtain ⟨a, ha, hf, hi, hr, ho⟩ := rb.slot i _ hc
    exact ⟨_, ha, h I ρ H _ Gr.refl rb.drop (.inl ⟨a, rfl, hf, hi, hr, ho⟩)⟩
  · rename_i w hw
    split at h
    · rename_i hs
      obtain ⟨v, hv, r⟩ := rb.slot i _ hw
      exact ⟨v, hv, h I ρ H _ Gr.refl rb.drop (.inr ⟨hs, r⟩)⟩
    · exact h.elim
  · exact h.elim
/-- return None and other scalars in a def that hands back fresh containers -/
def sRetS (f : DE) : DS := fun σ S => (f σ S).bind fun w σ S => if scalar w then .ok (.ret w) σ S else .fail
theorem cf_lst {es : List Expr} {pos : Pos} {r : DA} (h : SA X Wx es r) : SF X Wx (.List es pos) (dLst r) := by
  refine PE.imp (pe_lst h) fun σV H Q h => ?_
  obtain ⟨F, I, ρ, σ, S, rb, h⟩ := h
  refine ⟨F, I, ρ, σ, S, rb, postF_bind h fun I1 ρ1 σ1 S1 H1 x v1 _ g1 rb1 t1 h1 => ?_⟩
  split at h1
  · rename_i hl
    refine ⟨by rw [t1.length, ← most_eq]; exact hl, fun p hp => ?_⟩
    obtain ⟨rb2, nf, ni, nr, no⟩ := rb1.newO (o := .lst v1) hp
    exact h1 _ ρ1 _ _ Gr.refl rb2 (.inl ⟨p, rfl, nf, ni, nr, no, v1, upd_same, t1⟩)
  · exact h1.elim

theorem post_call {K : PySem.W.Frag} {F I : Hp} {ρ : List Addr} {S : Sto} {H : Hp} {σV : L2.St} {σ : Sl} {vs : List V} {ws : List D} {d : Den} {n : Nat} {Q : VK} (rb : RB K F I ρ S H σV σ) (r : Reps K ρ I vs ws) (hn : vs.length = n)
    (h : postR K Wx (fun ρ I _ v w => Rep K ρ I v w) F I ρ σV (match d ws S with
      | .ok w S' => .ok w σ S'
      | .exc e S' => .exc e σ S'
      | .fail => .fail) Q) : spD false K n d vs H Q (WE Wx σV) := by
  refine ⟨hn, fr1 F H σV σ, I, ρ, S, ws, rb.callee, r, ?_⟩
  cases e : d ws S with
  | ok w S' =>
    rw [e] at h
    exact fun I' ρ' H' v g rb' t => h I' ρ' H' v g (rb.back g rb') t
  | exc x S' =>
    rw [e] at h
    exact fun I' ρ' H' v g rb' t => h I' ρ' H' v g (rb.back g rb') t
  | fail => rw [e] at h; exact h
theorem post_callF {K : PySem.W.Frag} {F I : Hp} {ρ : List Addr} {S : Sto} {H : Hp} {σV : L2.St} {σ : Sl} {vs : List V} {ws : List D} {d : Den} {n : Nat} {Q : VK} (rb : RB K F I ρ S H σV σ) (r : Reps K ρ I vs ws) (hn : vs.length = n)
    (h : postF K Wx F I ρ σV (match d ws S with
      | .ok w S' => .ok w σ S'
      | .exc e S' => .exc e σ S'
      | .fail => .fail) Q) : spD true K n d vs H Q (WE Wx σV) := by
  refine ⟨hn, fr1 F H σV σ, I, ρ, S, ws, rb.callee, r, ?_⟩
  cases e : d ws S with
  | ok w S' =>
    rw [e] at h
    intro I' ρ' H' v g rb' t
    rcases t with ⟨a, rfl, nf, ni, nr, ho⟩ | t
    · have rb2 := rb.back g rb'
      have no : F a = none ∧ NoOwn σV σ a := by
        have no1 : NoOwn σV σ a := fun i c h1 h2 => by
          obtain ⟨b, hb, _, _, _, hob⟩ := rb.slot i _ h1
          obtain ⟨u, hu⟩ := hob.there
          rw [h2] at hb
          cases hb
          unfold fr1 at nf
          rw [if_pos ⟨i, c, h1, h2⟩, hu] at nf
          cases nf
        refine ⟨?_, no1⟩
        unfold fr1 at nf
        rw [if_neg (fun ⟨i, c, h1, h2⟩ => no1 i c h1 h2)] at nf
        exact nf
      exact h I' ρ' H' _ g rb2 (.inl ⟨a, rfl, no.1, ni, nr, no.2, ho⟩)
    · exact h I' ρ' H' v g (rb.back g rb') (.inr t)
  | exc x S' =>
    rw [e] at h
    exact fun I' ρ' H' v g rb' t => h I' ρ' H' v g (rb.back g rb') t
  | fail => rw [e] at h; exact h
variable {k n m : Nat} {x : Str} {d : Den} {p pos : Pos} {e : Expr} {es : List Expr} {r : DA}
theorem c_call (C : Fn false X.prog X.w X.K X.mg X.base x k n d) (tk : Takes X Wx) (hr : Room m X.A) (hkm : k ≤ m) (ha : SA X Wx (e :: es) r) (hn : (e :: es).length = n := by rfl) (hg : Gl X x := by rfl) (hdb : (x == ("__debug__" : Str)) = false := by decide)
    (he : starEach (e :: es) X.env = (false, eval e X.env) :: starEach es X.env := by rfl) (hpl : (backTo pos (starEach es X.env)).any (·.1) = false := by rfl) (hlen : ∀ σ S ws σ' S', r σ S = .ok ws σ' S' → ws.length = n) : SV X Wx (.Call (.Name x p) (e :: es) [] pos) (dCall d r) := by
  obtain ⟨f, fd, ps, hm, hk, hb, hp, ok⟩ := C.ex
  refine PE.imp (pe_callSD (E := WE Wx) ok (hr.mono hkm) hg hm hk hb .nil (fun σ => passAt tk σ) ha hdb he hpl) fun σV H Q h => ?_
  obtain ⟨F, I, ρ, σ, S, rb, h⟩ := h
  refine ⟨F, I, ρ, σ, S, rb, post_bind h fun I1 ρ1 σ1 S1 H1 ws vs er g1 rb1 t1 h1 => ?_⟩
  rw [List.append_nil]
  exact post_call rb1 t1 (by rw [t1.length]; exact hlen _ _ _ _ _ er) h1
theorem cf_call (C : Fn true X.prog X.w X.K X.mg X.base x k n d) (tk : Takes X Wx) (hr : Room m X.A) (hkm : k ≤ m) (ha : SA X Wx (e :: es) r) (hn : (e :: es).length = n := by rfl) (hg : Gl X x := by rfl) (hdb : (x == ("__debug__" : Str)) = false := by decide)
    (he : starEach (e :: es) X.env = (false, eval e X.env) :: starEach es X.env := by rfl) (hpl : (backTo pos (starEach es X.env)).any (·.1) = false := by rfl) (hlen : ∀ σ S ws σ' S', r σ S = .ok ws σ' S' → ws.length = n) : SF X Wx (.Call (.Name x p) (e :: es) [] pos) (dCall d r) := by
  obtain ⟨f, fd, ps, hm, hk, hb, hp, ok⟩ := C.ex
  refine PE.imp (pe_callSD (E := WE Wx) ok (hr.mono hkm) hg hm hk hb .nil (fun σ => passAt tk σ) ha hdb he hpl) fun σV H Q h => ?_
  obtain ⟨F, I, ρ, σ, S, rb, h⟩ := h
  refine ⟨F, I, ρ, σ, S, rb, postF_bind h fun I1 ρ1 σ1 S1 H1 ws vs er g1 rb1 t1 h1 => ?_⟩
  rw [List.append_nil]
  exact post_callF rb1 t1 (by rw [t1.length]; exact hlen _ _ _ _ _ er) h1
end

def chg (σ : Sl) (S : Sto) (x c' : D) : Option (Sl × Sto) := match x with
  | .loc i => (match σ[i]? with
    | some (.own _) => some (σ.set i (.own c'), S)
    | _ => none)
  | .obj r => (match S[r]? with
    | some (.con false _) => some (σ, S.set r (.con false c'))
    | _ => none)
  | _ => none
def ofMut {α : Type} (a : α) (o : Option (Sl × Sto)) : Res α := match o with
  | some (σ, S) => .ok a σ S
  | none => .fail
section
variable {K : PySem.W.Frag} {F I : Hp} {ρ : List Addr} {S : Sto} {H : Hp} {σV : L2.St} {σ : Sl}
/-- the place of a container that may be changed, and what comes of a change -/
theorem RB.chg (rb : RB K F I ρ S H σV σ) {v : V} {x c c' : D} {σ' : Sl} {S' : Sto} (t : TRep K ρ I σV v x) (e : deref σ S x = some c) (em : chg σ S x c' = some (σ', S')) : ∃ a, v = .ref a ∧ OwnAt K ρ I H a c ∧ ∀ o, OwnAt K ρ I (upd H a o) a c' → RB K F I ρ S' (upd H a o) σV σ' := by
  rcases t with ⟨i, rfl, hv⟩ | t
  · unfold MR.chg at em
    dsimp only at em
    split at em
    · rename_i c0 hc
      cases em
      unfold deref at e
      dsimp only at e
      rw [hc] at e
      cases e
      obtain ⟨a, ha, hf, hi, hr, ho⟩ := rb.slot i _ hc
      rw [hv] at ha
      cases ha
      have lt : i < σ.length := (List.getElem?_eq_some_iff.mp hc).1
      refine ⟨a, rfl, ho, fun o new => ?_⟩
      have k : ∀ b u, b ≠ a → H b = some u → upd H a o b = some u := fun b u n h => by rw [upd_ne n]; exact h
      refine ⟨fun b u h => k b u (ne_of_none h hf) (rb.fr b u h), fun b u h => ?_, rb.dis, fun r ob h => ?_, rb.nd, rb.rl, by rw [List.length_set]; exact rb.len, fun j s h => ?_, fun j q c1 c2 u h1 h2 h3 h4 => ?_⟩
      · have n := ne_of_none h hi
        rcases rb.sub b u h with z | ⟨d, ob, z⟩
        · exact .inl (k _ _ n z)
        · exact .inr ⟨d, ob, k _ _ n z⟩
      · obtain ⟨b, hb, hfb, hib, hcb⟩ := rb.store r ob h
        have n : b ≠ a := fun z => hr (z ▸ List.mem_of_getElem? hb)
        exact ⟨b, hb, hfb, hib, hcb.gr Gr.refl fun u => k b u n⟩
      · by_cases ij : i = j
        · subst ij
          rw [List.getElem?_set_self lt] at h
          cases h
          exact ⟨a, hv, hf, hi, hr, new⟩
        · rw [List.getElem?_set_ne ij] at h
          have q := rb.slot j s h
          cases s with
          | emp => trivial
          | exn b => first | exact q | exact (List.getElem?_set_ne e).trans q | exact e.trans q
          | val w => exact q
          | own c2 =>
            obtain ⟨b, hb, hfb, hib, hrb, hob⟩ := q
            have n : b ≠ a := fun z => ij (rb.inj i j _ c2 _ hc h hv (z ▸ hb))
            exact ⟨b, hb, hfb, hib, hrb, hob.gr Gr.refl fun u => k b u n⟩
      · have own_of : ∀ {j : Nat} {c1 : D}, (σ.set i (.own c'))[j]? = some (.own c1) → ∃ c3, σ[j]? = some (.own c3) := fun {j c1} h => by
          by_cases ij : i = j
          · subst ij; exact ⟨_, hc⟩
          · rw [List.getElem?_set_ne ij] at h; exact ⟨_, h⟩
        obtain ⟨c3, h1⟩ := own_of h1
        obtain ⟨c4, h2⟩ := own_of h2
        exact rb.inj j q c3 c4 u h1 h2 h3 h4
    · cases em
  · cases t with
    | @obj r a hra =>
      unfold MR.chg at em
      dsimp only at em
      split at em
      · rename_i _ c0 hc
        cases em
        unfold deref at e
        dsimp only at e
        rw [hc] at e
        have e := conD_false e
        subst e
        obtain ⟨b, hb, hf, hi, ho⟩ := rb.store _ _ hc
        rw [hra] at hb
        cases hb
        have lt : r < S.length := (List.getElem?_eq_some_iff.mp hc).1
        refine ⟨a, rfl, ho, fun o new => ?_⟩
        have k : ∀ b u, b ≠ a → H b = some u → upd H a o b = some u := fun b u n h => by rw [upd_ne n]; exact h
        refine ⟨fun b u h => k b u (ne_of_none h hf) (rb.fr b u h), fun b u h => ?_, rb.dis, fun r2 ob h => ?_, rb.nd, by rw [List.length_set]; exact rb.rl, rb.len, fun j s h => ?_, rb.inj⟩
        · have n := ne_of_none h hi
          rcases rb.sub b u h with z | ⟨d, ob, z⟩
          · exact .inl (k _ _ n z)
          · exact .inr ⟨d, ob, k _ _ n z⟩
        · by_cases er : r = r2
          · subst er
            rw [List.getElem?_set_self lt] at h
            cases h
            exact ⟨a, hra, hf, hi, new⟩
          · rw [List.getElem?_set_ne er] at h
            obtain ⟨b, hb, hfb, hib, hcb⟩ := rb.store r2 ob h
            have n : b ≠ a := fun z => er (rb.nd r r2 a hra (z ▸ hb))
            exact ⟨b, hb, hfb, hib, hcb.gr Gr.refl fun u => k b u n⟩
        · have q := rb.slot j s h
          cases s with
          | emp => trivial
          | exn b => first | exact q | exact (List.getElem?_set_ne e).trans q | exact e.trans q
          | val w => exact q
          | own c2 =>
            obtain ⟨b, hb, hfb, hib, hrb, hob⟩ := q
            have n : b ≠ a := fun z => hrb (z ▸ List.mem_of_getElem? hra)
            exact ⟨b, hb, hfb, hib, hrb, hob.gr Gr.refl fun u => k b u n⟩
      · cases em
    | _ => cases em
end
def isLst : D → Bool
  | .lst _ => true
  | _ => false
/-- a method of a list: the list is looked up ahead of the arguments, and again behind them -/
def dMeth (is : D → Bool) (k : D → D → List D → Sl → Sto → Res D) (fo : DE) (fa : DA) : DE := fun σ S => (fo σ S).bind fun x σ S => if ((deref σ S x).map is) = some true then (fa σ S).bind fun ws σ S => (match deref σ S x with
  | some c => k x c ws σ S
  | none => .fail) else .fail
def kApp : D → D → List D → Sl → Sto → Res D := fun x c ws σ S => match c, ws with
  | .lst xs, [w] => if xs.length < most then ofMut .non (chg σ S x (.lst (xs ++ [w]))) else .fail
  | _, _ => .fail
section
variable {X : Cx} {Wx : WX}
theorem SqL_at {K : PySem.W.Frag} {H : Hp} {a : Addr} {xs : List V} (h : H a = some (.lst xs)) : SqL K H a xs := .inl (.inl h)
/-- what a method's rule asks is met where its datum step succeeds -/
def MtS (K : PySem.W.Frag) (r : V → List V → Hp → VK → Prop) (k : D → D → List D → Sl → Sto → Res D) : Prop := ∀ (Wx : WX) (F I : Hp) (ρ : List Addr) (S : Sto) (H : Hp) (σV : L2.St) (σ : Sl) (v : V) (vs : List V) (x c : D) (ws : List D) (Q : VK), RB K F I ρ S H σV σ → TRep K ρ I σV v x → deref σ S x = some c →
  Reps K ρ I vs ws → postR K Wx (TRep K) F I ρ σV (k x c ws σ S) Q → r v vs H Q
def TyS (K : PySem.W.Frag) (T : String) (is : D → Bool) : Prop := ∀ (ρ : List Addr) (I H : Hp) (v : V) (c : D), At K ρ I H v c → is c = true → tyV K T v H
theorem ty_list {K : PySem.W.Frag} : TyS K "list" isLst := fun ρ I H v c h e => by
  cases c with
  | lst ws => obtain ⟨a, vs, rfl, h, _⟩ := h; exact .inl ⟨rfl, vs, SqL_at h⟩
  | _ => cases e
theorem sem_meth {T : String} {is : D → Bool} {r : V → List V → Hp → VK → Prop} {k : D → D → List D → Sl → Sto → Res D} {fo : DE} {fa : DA} (ht : TyS X.K T is) (hs : MtS X.K r k) {σV : L2.St} {H : Hp} {Q : VK} (h : semE X.K Wx (dMeth is k fo fa) σV H Q) :
    tBM X.K T r (semE X.K Wx fo) (semA X.K Wx fa) σV H Q := by
  obtain ⟨F, I, ρ, σ, S, rb, h⟩ := h
  refine ⟨F, I, ρ, σ, S, rb, post_bind h fun I1 ρ1 σ1 S1 H1 x v1 _ g1 rb1 t1 h1 => ?_⟩
  split at h1
  · rename_i hi
    obtain ⟨c, hc, hic⟩ := Option.map_eq_some_iff.mp hi
    refine ⟨ht ρ1 I1 H1 v1 c (rb1.at t1 hc) hic, F, I1, ρ1, σ1, S1, rb1, post_bind h1 fun I2 ρ2 σ2 S2 H2 ws vs _ g2 rb2 t2 h2 => ?_⟩
    split at h2
    · rename_i c2 hc2
      exact hs Wx F I2 ρ2 S2 H2 σV σ2 v1 vs x c2 ws Q rb2 (t1.gr g2) hc2 t2 h2
    · exact h2.elim
  · exact h1.elim
theorem post_mut {K : PySem.W.Frag} {F I : Hp} {ρ : List Addr} {S : Sto} {H : Hp} {σV : L2.St} {σ : Sl} {v y : V} {x c c' z : D} {Q : VK} (rb : RB K F I ρ S H σV σ) (t : TRep K ρ I σV v x) (e : deref σ S x = some c) (ry : Rep K ρ I y z)
    (h : postR K Wx (TRep K) F I ρ σV (ofMut z (chg σ S x c')) Q) : ∃ a, v = .ref a ∧ OwnAt K ρ I H a c ∧ ∀ o, OwnAt K ρ I (upd H a o) a c' → Q y (upd H a o) := by
  cases em : chg σ S x c' with
  | none => rw [em] at h; exact h.elim
  | some q =>
    obtain ⟨σ', S'⟩ := q
    rw [em] at h
    obtain ⟨a, rfl, ho, k⟩ := rb.chg t e em
    exact ⟨a, rfl, ho, fun o new => h I ρ _ y Gr.refl (k o new) (.inr ry)⟩
theorem ms_app {K : PySem.W.Frag} : MtS K rAppend kApp := by
  intro Wx F I ρ S H σV σ v vs x c ws Q rb t e r h
  unfold kApp at h
  split at h
  · rename_i xs w
    split at h
    · rename_i hl
      obtain ⟨a, rfl, ⟨vs0, hv, rv⟩, k⟩ := post_mut rb t e .non h
      cases r with
      | cons r1 r2 =>
        cases r2
        refine ⟨a, vs0, _, rfl, rfl, hv, by rw [rv.length, ← most_eq]; exact hl, k _ ⟨_, upd_same, rv.append (.cons r1 .nil)⟩⟩
    · exact h.elim
  · exact h.elim
theorem c_app {o e : Expr} {apos cpos : Pos} {fo fe : DE} (ho : SE X Wx o fo) (he : SE X Wx e fe) (hbase : attributeBase o "append" X.env (eval o X.env) = eval o X.env := by rfl)
    (hfew : ((backTo cpos (starEach [e] X.env)).all (fun x => !x.1) && (backToKw cpos (keywordEach [] X.env)).all (fun x => x.1.isSome) && decide ([e].length + ([] : List Keyword).length + (if ([] : List Keyword).isEmpty then 0 else 1) < 30)) = true := by rfl)
    (hline : (apos.endLine == cpos.line) = true := by rfl) (hs : starEach [e] X.env = (false, eval e X.env) :: starEach [] X.env := by rfl) : SE X Wx (.Call (.Attribute o "append" apos) [e] [] cpos) (dMeth isLst kApp fo (aCons fe aNil)) :=
  PE.imp (pe_bm PySem.F.plainAttrs_list PySem.F.slot_list_append PySem.F.type_list_append mt_append ho (ca_cons he ca_nil hs) hbase hfew hline hs) fun _ _ _ h => sem_meth ty_list ms_app h
end
end MR

set_option Elab.async false
set_option linter.all false
set_option maxRecDepth 100000
namespace MR
open PySem PySem.Spec PyProof.Rows L2

section
variable {X : Cx} {Wx : WX}
def B1 (K : PySem.W.Frag) (r : List V → Hp → VK → Prop) (op : D → Option D) : Prop := ∀ (F I : Hp) (ρ : List Addr) (S : Sto) (H : Hp) (σV : L2.St) (σ : Sl) (v : V) (a z : D) (Q : VK), RB K F I ρ S H σV σ → At K ρ I H v a → op a = some z →
  (∀ I' H' v, Gr ρ I ρ I' → RB K F I' ρ S H' σV σ → Rep K ρ I' v z → Q v H') → r [v] H Q
def B2 (K : PySem.W.Frag) (r : List V → Hp → VK → Prop) (op : D → D → Option D) : Prop := OpS K (fun x y => r [x, y]) op
theorem sem_b1 {r : List V → Hp → VK → Prop} {op : D → Option D} {f : DE} (ho : B1 X.K r op) {σV : L2.St} {H : Hp} {Q : VK} (h : semE X.K Wx (d1 op f) σV H Q) : tCB r (tCons (semE X.K Wx f) tNil) σV H Q := by
  obtain ⟨F, I, ρ, σ, S, rb, h⟩ := h
  refine ⟨F, I, ρ, σ, S, rb, post_bind h fun I1 ρ1 σ1 S1 H1 x v1 _ g1 rb1 t1 h1 => ?_⟩
  obtain ⟨z, ez, h3⟩ := post_opt h1
  obtain ⟨a, ea, ez⟩ := Option.bind_eq_some_iff.mp ez
  exact ho F I1 ρ1 S1 H1 σV σ1 v1 a z Q rb1 (rb1.at t1 ea) ez fun I' H' v g' rb' r' => h3 I' ρ1 H' v g' rb' (.inr r')
theorem c_b1 {x : Str} {id : String} {e : Expr} {p pos : Pos} {f : DE} {r : List V → Hp → VK → Prop} {op : D → Option D} (hc : CallR X (.builtin id) r) (hs : B1 X.K r op) (hm : X.mg x = none) (h : SE X Wx e f) (hv : bootBuiltins x = some (.builtin id) := by decide +kernel) (hg : Gl X x := by rfl) (hn : x ≠ "__name__" := by decide) (hdb : (x == ("__debug__" : Str)) = false := by decide)
    (he : starEach [e] X.env = (false, eval e X.env) :: starEach [] X.env := by rfl) : SE X Wx (.Call (.Name x p) [e] [] pos) (d1 op f) :=
  PE.imp (pe_callB hc hg hm hv (pa_cons h pa_nil he) hn hdb he rfl) fun _ _ _ h => sem_b1 hs h
theorem c_t1 {x : Str} {id : String} {e : Expr} {p pos : Pos} {f : DE} {r : List V → Hp → VK → Prop} {op : D → Option D} (hc : CallR X (.type id) r) (hs : B1 X.K r op) (hm : X.mg x = none) (h : SE X Wx e f) (hv : bootBuiltins x = some (.type id) := by decide +kernel) (hg : Gl X x := by rfl) (hn : x ≠ "__name__" := by decide) (hdb : (x == ("__debug__" : Str)) = false := by decide)
    (he : starEach [e] X.env = (false, eval e X.env) :: starEach [] X.env := by rfl) : SE X Wx (.Call (.Name x p) [e] [] pos) (d1 op f) :=
  PE.imp (pe_callTy hc hg hm hv (pa_cons h pa_nil he) hn hdb he rfl) fun _ _ _ h => sem_b1 hs h
theorem c_b2 {x : Str} {id : String} {e e2 : Expr} {p pos : Pos} {f g : DE} {r : List V → Hp → VK → Prop} {op : D → D → Option D} (hc : CallR X (.builtin id) r) (hs : B2 X.K r op) (hm : X.mg x = none) (h : SE X Wx e f) (k : SE X Wx e2 g) (hv : bootBuiltins x = some (.builtin id) := by decide +kernel) (hg : Gl X x := by rfl) (hn : x ≠ "__name__" := by decide) (hdb : (x == ("__debug__" : Str)) = false := by decide)
    (he : starEach [e, e2] X.env = (false, eval e X.env) :: starEach [e2] X.env := by rfl) (he2 : starEach [e2] X.env = (false, eval e2 X.env) :: starEach [] X.env := by rfl) (hpl : (backTo pos (starEach [e2] X.env)).any (·.1) = false := by rfl) : SE X Wx (.Call (.Name x p) [e, e2] [] pos) (d2 op f g) :=
  PE.imp (pe_callB hc hg hm hv (pa_cons h (pa_cons k pa_nil he2) he) hn hdb he hpl) fun σ H Q h => (sem_op (r := fun x y => r [x, y]) hs h : tOp (fun x y => r [x, y]) _ _ σ H Q)

end

def toData : D → Option PyData
  | .non => some .none
  | .bl b => some (.bool b)
  | .int i => some (.int i)
  | .str x => some (.str x)
  | .tup l => (toDatas l).map .tuple
  | .lst l => (toDatas l).map .list
  | _ => none
where toDatas : List D → Option (List PyData)
  | [] => some []
  | d :: ds => (toData d).bind fun x => (toDatas ds).map fun xs => x :: xs
def deepEq (a b : D) : Option Bool := (toData a).bind fun d => (toData b).bind fun e => if SeqAt.shaped d && SeqAt.shaped e then some (PyData.eqv d e) else none
def eqD : D → D → Option Bool
  | .int i, .int j => some (decide (i = j))
  | .str i, .str j => some (decide (i = j))
  | .bl i, .bl j => some (decide (i = j))
  | .non, .non => some true
  | .non, .int _ => some false | .int _, .non => some false | .non, .str _ => some false | .str _, .non => some false | .non, .bl _ => some false | .bl _, .non => some false
  | .int _, .str _ => some false | .str _, .int _ => some false | .bl _, .str _ => some false | .str _, .bl _ => some false
  | a, b => deepEq a b
def opEq' (a b : D) : Option D := (eqD a b).map D.bl
def opNe' (a b : D) : Option D := (eqD a b).map fun x => D.bl (!x)
section
variable {K : PySem.W.Frag}
mutual
theorem Rep.dp {ρ : List Addr} {I H : Hp} (s : Sub I H) : ∀ {v : V} {w : D} {d : PyData}, Rep K ρ I v w → toData w = some d → Dp K H v d
  | _, _, _, .non, e => by cases e; exact .non
  | _, _, _, .bl, e => by cases e; exact .bl _
  | _, _, _, .int, e => by cases e; exact .int _
  | _, _, _, .str, e => by cases e; exact .str _
  | _, _, _, .tup h r, e => by
    obtain ⟨ds, e1, e2⟩ := Option.map_eq_some_iff.mp (show (toData.toDatas _).map PyData.tuple = some _ from e)
    subst e2
    exact .tup (s.sqT h.sq) (Reps.dp s r e1)
  | _, _, _, .lst h r, e => by
    obtain ⟨ds, e1, e2⟩ := Option.map_eq_some_iff.mp (show (toData.toDatas _).map PyData.list = some _ from e)
    subst e2
    exact .lst (s.sqL (.inl (.inl h))) (Reps.dp s r e1)
  | _, _, _, .dK _ _ _, e => by cases e
  | _, _, _, .dT _ _ _, e => by cases e
  | _, _, _, .obj _, e => by cases e
  | _, _, _, .scr _, e => by cases e
  | _, _, _, .fK _ _ _, e => by cases e
  | _, _, _, .fT _ _ _, e => by cases e
  | _, _, _, .cst _ _, e => by cases e
theorem Reps.dp {ρ : List Addr} {I H : Hp} (s : Sub I H) : ∀ {vs : List V} {ws : List D} {ds : List PyData}, Reps K ρ I vs ws → toData.toDatas ws = some ds → DpAll K H vs ds
  | _, _, _, .nil, e => by cases e; exact .nil
  | _, _, _, .cons h r, e => by
    obtain ⟨x, e1, e2⟩ := Option.bind_eq_some_iff.mp (show (toData _).bind _ = some _ from e)
    obtain ⟨xs, e3, e4⟩ := Option.map_eq_some_iff.mp e2
    subst e4
    exact .cons (Rep.dp s h e1) (Reps.dp s r e3)
end
theorem At.dp {ρ : List Addr} {I H : Hp} (s : Sub I H) {v : V} {a : D} {d : PyData} (h : At K ρ I H v a) (e : toData a = some d) : Dp K H v d := by
  cases a with
  | non => cases h; cases e; exact .non
  | bl b => cases h; cases e; exact .bl _
  | int i => cases h; cases e; exact .int _
  | str x => cases h; cases e; exact .str _
  | tup ws =>
    obtain ⟨a, vs, rfl, h, r⟩ := h
    obtain ⟨ds, e1, e2⟩ := Option.map_eq_some_iff.mp (show (toData.toDatas _).map PyData.tuple = some _ from e)
    subst e2
    exact .tup h.sq (Reps.dp s r e1)
  | lst ws =>
    obtain ⟨a, vs, rfl, h, r⟩ := h
    obtain ⟨ds, e1, e2⟩ := Option.map_eq_some_iff.mp (show (toData.toDatas _).map PyData.list = some _ from e)
    subst e2
    exact .lst (.inl (.inl h)) (Reps.dp s r e1)
  | _ => cases e
def rEqA (K : PySem.W.Frag) : R2 := fun x y H Q => rEq x y H Q ∨ rEqD K x y H Q
def rNeA (K : PySem.W.Frag) : R2 := fun x y H Q => rNe x y H Q ∨ rNeD K x y H Q
theorem eqD_cases {ρ : List Addr} {I H : Hp} {v1 v2 : V} {a b : D} {x : Bool} (h1 : At K ρ I H v1 a) (h2 : At K ρ I H v2 b) (e : eqD a b = some x) : (scal v1 v2 = true ∧ decide (v1 = v2) = x) ∨ deepEq a b = some x := by
  unfold eqD at e
  split at e
  all_goals first
    | (cases h1; cases h2; cases e; refine .inl ⟨rfl, ?_⟩; first | rfl | (simp))
    | exact .inr e
theorem os_eq : OpS K (rEqA K) opEq' := by
  intro F I ρ S H σV σ v1 v2 a b z Q rb h1 h2 ez q
  obtain ⟨x, e, rfl⟩ := Option.map_eq_some_iff.mp ez
  rcases eqD_cases h1 h2 e with ⟨hs, hx⟩ | hd
  · refine .inl ⟨hs, ?_⟩
    rw [hx]
    exact q I H _ Gr.refl rb .bl
  · obtain ⟨d, ed, hd⟩ := Option.bind_eq_some_iff.mp hd
    obtain ⟨d', ed', hd⟩ := Option.bind_eq_some_iff.mp hd
    split at hd
    · rename_i hsh
      obtain ⟨s1, s2⟩ := Bool.and_eq_true_iff.mp hsh
      cases hd
      exact .inr ⟨d, d', h1.dp rb.sub ed, h2.dp rb.sub ed', s1, s2, q I H _ Gr.refl rb .bl⟩
    · cases hd
theorem os_ne : OpS K (rNeA K) opNe' := by
  intro F I ρ S H σV σ v1 v2 a b z Q rb h1 h2 ez q
  obtain ⟨x, e, rfl⟩ := Option.map_eq_some_iff.mp ez
  rcases eqD_cases h1 h2 e with ⟨hs, hx⟩ | hd
  · refine .inl ⟨hs, ?_⟩
    rw [hx]
    exact q I H _ Gr.refl rb .bl
  · obtain ⟨d, ed, hd⟩ := Option.bind_eq_some_iff.mp hd
    obtain ⟨d', ed', hd⟩ := Option.bind_eq_some_iff.mp hd
    split at hd
    · rename_i hsh
      obtain ⟨s1, s2⟩ := Bool.and_eq_true_iff.mp hsh
      cases hd
      exact .inr ⟨d, d', h1.dp rb.sub ed, h2.dp rb.sub ed', s1, s2, q I H _ Gr.refl rb .bl⟩
    · cases hd
/-- a + b -/
def rAddA (K : PySem.W.Frag) : R2 := fun x y H Q => rI0 (fun i j => .int (i + j)) x y H Q ∨ ((∃ i j, x = .str i ∧ y = .str j ∧ i.length + j.length ≤ sizeLine ∧ Q (.str (i ++ j)) H) ∨ (rCat x y H Q ∨ rCatT K x y H Q))
theorem op_addA {X : Cx} : OpR X (binaryOp .Add) (rAddA X.K) := op_add.or (op_add_str.or (op_cat.or op_catT))
theorem os_add : OpS K (rAddA K) opAdd := by
  intro F I ρ S H σV σ v1 v2 a b z Q rb h1 h2 ez q
  unfold opAdd at ez
  split at ez
  · cases h1; cases h2; cases ez
    exact .inl ⟨_, _, rfl, rfl, q I H _ Gr.refl rb .int⟩
  · cases h1; cases h2
    split at ez
    · rename_i hl
      cases ez
      exact .inr (.inl ⟨_, _, rfl, rfl, by rw [← most_eq]; exact hl, q I H _ Gr.refl rb .str⟩)
    · cases ez
  · obtain ⟨a, vs, rfl, ha, ra⟩ := h1
    obtain ⟨b, ws, rfl, hb, rb'⟩ := h2
    split at ez
    · rename_i hl
      cases ez
      refine .inr (.inr (.inl ⟨a, b, vs, ws, rfl, rfl, ha, hb, by rw [ra.length, rb'.length, ← most_eq]; exact hl, fun p hp => ?_⟩))
      obtain ⟨g, rb2⟩ := rb.new (o := .lst (vs ++ ws)) hp
      exact q _ _ _ g rb2 (.lst upd_same ((ra.append rb').gr g))
    · cases ez
  · obtain ⟨a, vs, rfl, ha, ra⟩ := h1
    obtain ⟨b, ws, rfl, hb, rb'⟩ := h2
    split at ez
    · rename_i hl
      cases ez
      refine .inr (.inr (.inr ⟨a, b, vs, ws, rfl, rfl, ha, hb, fun z => hl.1 (by rw [← ra.length, z]; rfl), by rw [ra.length, rb'.length, ← most_eq]; exact hl.2.2, fun z => absurd (by rw [← rb'.length, z]; rfl) hl.2.1, fun _ p hp => ?_⟩))
      obtain ⟨g, rb2⟩ := rb.new (o := .tup (vs ++ ws)) hp
      exact q _ _ _ g rb2 (.tup (.inl upd_same) ((ra.append rb').gr g))
    · cases ez
  · cases ez
def opPow : D → D → Option D
  | .int i, .int j => if 0 ≤ j ∧ j ≤ 1000000 ∧ i.natAbs < 2 ^ 64 then some (.int (i ^ j.toNat)) else none
  | _, _ => none
theorem os_pow : OpS K (rI CPow fun i j => .int (i ^ j.toNat)) opPow := ops_int fun a b z e => by
  unfold opPow at e; split at e
  · split at e
    · cases e; exact ⟨_, _, rfl, rfl, by assumption, fun _ _ => .int⟩
    · cases e
  · cases e
def opIx : D → D → Option D
  | .lst xs, .int i => atI xs i
  | .tup xs, .int i => atI xs i
  | .str z, .int i => if z.length ≤ most then (atI z.cps.toList i).map fun c => .str ⟨#[c]⟩ else none
  | _, _ => none
theorem Reps.atI {ρ : List Addr} {I : Hp} {vs : List V} {ws : List D} {i : Int} {w : D} (r : Reps K ρ I vs ws) (e : L2.atI ws i = some w) : ∃ v, L2.atI vs i = some v ∧ Rep K ρ I v w := by
  unfold L2.atI at e ⊢
  rw [r.length]
  obtain ⟨j, e1, e2⟩ := Option.bind_eq_some_iff.mp e
  obtain ⟨v, e3, rv⟩ := r.get e2
  exact ⟨v, by rw [e1]; exact e3, rv⟩
theorem os_ix : OpS K (rIx K) opIx := by
  intro F I ρ S H σV σ v1 v2 a b z Q rb h1 h2 ez q
  unfold opIx at ez
  split at ez
  · obtain ⟨a, vs, rfl, ha, ra⟩ := h1
    cases h2
    obtain ⟨v, ev, rv⟩ := ra.atI ez
    exact .inl ⟨a, vs, _, v, rfl, rfl, SqL_at ha, ev, q I H v Gr.refl rb rv⟩
  · obtain ⟨a, vs, rfl, ha, ra⟩ := h1
    cases h2
    obtain ⟨v, ev, rv⟩ := ra.atI ez
    exact .inr (.inl ⟨a, vs, _, v, rfl, rfl, ha, ev, q I H v Gr.refl rb rv⟩)
  · cases h1; cases h2
    split at ez
    · rename_i hl
      obtain ⟨c, ec, rfl⟩ := Option.map_eq_some_iff.mp ez
      exact .inr (.inr ⟨_, _, c, rfl, rfl, by rw [← most_eq]; exact hl, ec, q I H _ Gr.refl rb .str⟩)
    · cases ez
  · cases ez
theorem c_ix {X : Cx} {Wx : WX} {a b : Expr} {pos : Pos} {f g : DE} (ha : SE X Wx a f) (hb : SE X Wx b g) (hs : PlainIx b := by intro _ _; rfl) : SE X Wx (.Subscript a b pos) (d2 opIx f g) :=
  PE.imp (pe_ix ix_seq ha hb hs) fun _ _ _ h => sem_op os_ix h
def opLen0 : D → Option D
  | .lst xs => some (.int xs.length)
  | .tup xs => some (.int xs.length)
  | .str z => if z.length ≤ most then some (.int z.length) else none
  | _ => none
theorem b_len0 : B1 K (fun xs H Q => ∃ x n, xs = [x] ∧ LenV K x H n ∧ Q (.int n) H) opLen0 := by
  intro F I ρ S H σV σ v a z Q rb h ez q
  unfold opLen0 at ez
  split at ez
  · obtain ⟨a, vs, rfl, ha, ra⟩ := h
    cases ez
    exact ⟨_, _, rfl, .inl ⟨vs, SqL_at ha, rfl⟩, q I H _ Gr.refl rb (by rw [ra.length]; exact .int)⟩
  · obtain ⟨a, vs, rfl, ha, ra⟩ := h
    cases ez
    exact ⟨_, _, rfl, .inr ⟨vs, ha, rfl⟩, q I H _ Gr.refl rb (by rw [ra.length]; exact .int)⟩
  · cases h
    split at ez
    · rename_i hl
      cases ez
      exact ⟨_, _, rfl, ⟨by rw [← most_eq]; exact hl, rfl⟩, q I H _ Gr.refl rb .int⟩
    · cases ez
  · cases ez
def opLen : D → Option D
  | .lst xs => some (.int xs.length)
  | .tup xs => some (.int xs.length)
  | .str z => if z.length ≤ most then some (.int z.length) else none
  | .dK l => some (.int l.length)
  | _ => none
theorem call_lenA {X : Cx} : CallR X (.builtin "len") (fun xs H Q => (∃ x n, xs = [x] ∧ LenV X.K x H n ∧ Q (.int n) H) ∨ ∃ a kvs, xs = [V.ref a] ∧ Rd H a (.dK kvs) ∧ Q (.int kvs.length) H) := by
  intro pins s σ H xs us Q I r h
  rcases h with h | ⟨a, kvs, rfl, ha, q⟩
  · exact call_len pins s σ H xs us Q I r h
  · obtain ⟨u, rfl, ru⟩ := vals1 r
    cases ru
    exact d_len I ha fun t s' I' => ⟨.int kvs.length, H, I', ⟨t, rfl⟩, q⟩
theorem b_len : B1 K (fun xs H Q => (∃ x n, xs = [x] ∧ LenV K x H n ∧ Q (.int n) H) ∨ ∃ a kvs, xs = [V.ref a] ∧ Rd H a (.dK kvs) ∧ Q (.int kvs.length) H) opLen := by
  intro F I ρ S H σV σ v a z Q rb h ez q
  cases a with
  | dK l =>
    cases ez
    obtain ⟨b, kvs, rfl, ha, e, r⟩ := h
    have el : kvs.length = l.length := by
      have := congrArg List.length e
      rwa [List.length_map, List.length_map] at this
    exact .inr ⟨b, kvs, rfl, ha, by rw [el]; exact q I H _ Gr.refl rb .int⟩
  | _ =>
    refine .inl ?_
    exact b_len0 F I ρ S H σV σ v _ z Q rb h ez q
def opAbs : D → Option D
  | .int i => some (.int (if i < 0 then -i else i))
  | _ => none
def opMin : D → D → Option D
  | .int i, .int j => some (.int (if j < i then j else i))
  | _, _ => none
def opMax : D → D → Option D
  | .int i, .int j => some (.int (if j > i then j else i))
  | _, _ => none
theorem b_max : B2 K (fun xs H Q => ∃ i j, xs = [.int i, .int j] ∧ Q (.int (if j > i then j else i)) H) opMax := by
  intro F I ρ S H σV σ v1 v2 a b z Q rb h1 h2 ez q
  unfold opMax at ez
  split at ez
  · cases h1; cases h2; cases ez
    exact ⟨_, _, rfl, q I H _ Gr.refl rb .int⟩
  · cases ez
def bools : List D → Option (List Bool)
  | [] => some []
  | .bl b :: r => (bools r).map fun bs => b :: bs
  | _ => none
theorem Reps.bools {ρ : List Addr} {I : Hp} : ∀ {vs : List V} {ws : List D} {bs : List Bool}, Reps K ρ I vs ws → MR.bools ws = some bs → vs = bs.map V.bl
  | _, _, _, .nil, e => by cases e; rfl
  | _, _, _, .cons h r, e => by
    unfold MR.bools at e
    split at e
    · rename_i h1; cases h1
    · rename_i b rest h1
      cases h1
      obtain ⟨bs, e1, rfl⟩ := Option.map_eq_some_iff.mp e
      cases h
      rw [Reps.bools r e1]
      rfl
    · cases e
def opAll : D → Option D
  | .lst xs => (bools xs).map fun bs => .bl (bs.all id)
  | _ => none
theorem b_all : B1 K (rAll K) opAll := by
  intro F I ρ S H σV σ v a z Q rb h ez q
  unfold opAll at ez
  split at ez
  · obtain ⟨a, vs, rfl, ha, ra⟩ := h
    obtain ⟨bs, e, rfl⟩ := Option.map_eq_some_iff.mp ez
    have := ra.bools e
    subst this
    exact ⟨a, bs, rfl, SqL_at ha, q I H _ Gr.refl rb .bl⟩
  · cases ez
/-- int(text) -/
def opIntS : D → Option D
  | .str a => if a.length ≤ 640 then (PySem.intText? a).map D.int else none
  | .int i => some (.int i)
  | .bl k => some (.int (if k then 1 else 0))
  | _ => none
def rIntA : List V → Hp → VK → Prop := fun xs H Q => (∃ a n, xs = [.str a] ∧ PySem.intText? a = some n ∧ a.length ≤ 640 ∧ Q (.int n) H) ∨ ((∃ i, xs = [.int i] ∧ Q (.int i) H) ∨ ∃ k, xs = [.bl k] ∧ Q (.int (if k then 1 else 0)) H)
theorem call_intA {X : Cx} : CallR X (.type "int") rIntA := by
  intro pins s σ H xs us Q I r h
  rcases h with h | h
  · exact call_int_str pins s σ H xs us Q I r h
  · exact call_int1 pins s σ H xs us Q I r h
theorem b_int : B1 K rIntA opIntS := by
  intro F I ρ S H σV σ v a z Q rb h ez q
  unfold opIntS at ez
  split at ez
  · cases h
    split at ez
    · rename_i hl
      obtain ⟨n, e, rfl⟩ := Option.map_eq_some_iff.mp ez
      exact .inl ⟨_, n, rfl, e, hl, q I H _ Gr.refl rb .int⟩
    · cases ez
  · cases h; cases ez
    exact .inr (.inl ⟨_, rfl, q I H _ Gr.refl rb .int⟩)
  · cases h; cases ez
    exact .inr (.inr ⟨_, rfl, q I H _ Gr.refl rb .int⟩)
  · cases ez
end
end MR

set_option Elab.async false
set_option linter.all false
set_option maxRecDepth 100000
namespace MR
open PySem PySem.Spec PyProof.Rows L2

section
variable {X : Cx} {Wx : WX}
def isN : D → Bool
  | .non => true
  | _ => false
def dIsN (f : DE) : DE := fun σ S => (f σ S).bind fun x σ S => .ok (.bl (isN x)) σ S
def dNotN (f : DE) : DE := fun σ S => (f σ S).bind fun x σ S => .ok (.bl (!isN x)) σ S
theorem TRep.isN {K : PySem.W.Frag} {F I : Hp} {ρ : List Addr} {S : Sto} {H : Hp} {σV : L2.St} {σ : Sl} {v : V} {x : D} (rb : RB K F I ρ S H σV σ) (t : TRep K ρ I σV v x) (hl : ∀ i, x = .loc i → ∃ c, σ[i]? = some (.own c)) : decide (v = V.non) = MR.isN x := by
  rcases t with ⟨i, rfl, hv⟩ | t
  · obtain ⟨c, hc⟩ := hl i rfl
    obtain ⟨a, ha, _⟩ := rb.slot i _ hc
    rw [hv] at ha
    cases ha
    rfl
  · cases t <;> rfl
theorem sem_isN {f : DE} {σV : L2.St} {H : Hp} {Q : VK} (h : semE X.K Wx (dIsN (dV f)) σV H Q) : tIsN (semV X.K Wx (dV f)) σV H Q := by
  obtain ⟨F, I, ρ, σ, S, rb, h⟩ := h
  refine ⟨F, I, ρ, σ, S, rb, post_bind h fun I1 ρ1 σ1 S1 H1 x v1 _ g1 rb1 t1 h1 => ?_⟩
  have e : decide (v1 = V.non) = MR.isN x := by cases t1 <;> rfl
  rw [e]
  exact h1 I1 ρ1 H1 _ Gr.refl rb1 (.inr .bl)
theorem c_isN {a : Expr} {j : Nat} {pos pos' : Pos} {f : DE} (h : SE X Wx a f) : SE X Wx (.Compare a [.Is] [.Constant .none j pos'] pos) (dIsN (dV f)) := PE.imp (pe_cmp (pc_isN (c_v h))) fun _ _ _ h => sem_isN h
inductive Kd where
  | int | bool | str | tuple | list | dict
def Kd.nm : Kd → String
  | .int => "int" | .bool => "bool" | .str => "str" | .tuple => "tuple" | .list => "list" | .dict => "dict"
def isiD : Kd → D → Option Bool
  | .int, .int _ => some true | .int, .bl _ => some true
  | .bool, .bl _ => some true
  | .str, .str _ => some true
  | .tuple, .tup _ => some true
  | .list, .lst _ => some true
  | .dict, .dK _ => some true
  | _, .non => some false | _, .bl _ => some false | _, .int _ => some false | _, .str _ => some false | _, .tup _ => some false | _, .lst _ => some false | _, .dK _ => some false
  | _, _ => none
def opIsi (k : Kd) (a : D) : Option D := (isiD k a).map D.bl
theorem SqT_ty {K : PySem.W.Frag} {H : Hp} {a : Addr} {vs : List V} (h : SqT K H a vs) : TyX K H (.ref a) (.type "tuple") := by
  rcases h with (h | ⟨o, h⟩) | h
  · exact .base (.tup h)
  · exact .fTuple h
  · obtain ⟨o, its, n, h1, h2, _⟩ := h
    exact .kTuple h1 h2
theorem os_isi {K : PySem.W.Frag} (k : Kd) {F I : Hp} {ρ : List Addr} {S : Sto} {H : Hp} {σV : L2.St} {σ : Sl} {v : V} {a z : D} {Q : VK} (rb : RB K F I ρ S H σV σ) (h : At K ρ I H v a) (ez : opIsi k a = some z) (q : ∀ v, Rep K ρ I v z → Q v H) : rIsi K [v, .ty k.nm] H Q := by
  obtain ⟨b, eb, rfl⟩ := Option.map_eq_some_iff.mp ez
  cases a with
  | non => cases h; cases k <;> cases eb <;> exact ⟨_, _, _, _, _, rfl, .ty _, .base .non, kit_ty (by decide +kernel), q _ .bl⟩
  | bl b => cases h; cases k <;> cases eb <;> exact ⟨_, _, _, _, _, rfl, .ty _, .base (.bl _), kit_ty (by decide +kernel), q _ .bl⟩
  | int i => cases h; cases k <;> cases eb <;> exact ⟨_, _, _, _, _, rfl, .ty _, .base (.int _), kit_ty (by decide +kernel), q _ .bl⟩
  | str x => cases h; cases k <;> cases eb <;> exact ⟨_, _, _, _, _, rfl, .ty _, .base (.str _), kit_ty (by decide +kernel), q _ .bl⟩
  | tup ws => obtain ⟨a, vs, rfl, h, _⟩ := h; cases k <;> cases eb <;> exact ⟨_, _, _, _, _, rfl, .ty _, SqT_ty h.sq, kit_ty (by decide +kernel), q _ .bl⟩
  | lst ws => obtain ⟨a, vs, rfl, h, _⟩ := h; cases k <;> cases eb <;> exact ⟨_, _, _, _, _, rfl, .ty _, .base (.lst h), kit_ty (by decide +kernel), q _ .bl⟩
  | dK ws =>
    obtain ⟨a, kvs, rfl, h, _⟩ := h
    have ty : TyX K H (.ref a) (.type "dict") := by
      rcases h with h | ⟨o, h⟩
      · exact .base (.dK h)
      · exact .fDict h
    cases k <;> cases eb <;> exact ⟨_, _, _, _, _, rfl, .ty _, ty, kit_ty (by decide +kernel), q _ .bl⟩
  | _ => cases k <;> cases eb
theorem sem_isi {k : Kd} {f : DE} {σV : L2.St} {H : Hp} {Q : VK} (h : semE X.K Wx (d1 (opIsi k) f) σV H Q) : tCB (rIsi X.K) (tCons (semE X.K Wx f) (tCons (tC (.ty k.nm)) tNil)) σV H Q := by
  obtain ⟨F, I, ρ, σ, S, rb, h⟩ := h
  refine ⟨F, I, ρ, σ, S, rb, post_bind h fun I1 ρ1 σ1 S1 H1 x v1 _ g1 rb1 t1 h1 => ?_⟩
  obtain ⟨z, ez, h3⟩ := post_opt h1
  obtain ⟨a, ea, ez⟩ := Option.bind_eq_some_iff.mp ez
  exact os_isi k rb1 (rb1.at t1 ea) ez fun v r => h3 I1 ρ1 H1 v Gr.refl rb1 (.inr r)
theorem c_isi (k : Kd) {e : Expr} {p q pos : Pos} {f : DE} (hm : X.mg "isinstance" = none) (hk : X.mg (Str.ofString k.nm) = none) (h : SE X Wx e f) (hv : bootBuiltins (Str.ofString k.nm) = some (.type k.nm) := by decide +kernel) (hg : Gl X "isinstance" := by rfl) (hg2 : Gl X (Str.ofString k.nm) := by rfl) (hn : (Str.ofString k.nm) ≠ "__name__" := by decide) (hdb : (Str.ofString k.nm == ("__debug__" : Str)) = false := by decide)
    (he : starEach [e, .Name (Str.ofString k.nm) q] X.env = (false, eval e X.env) :: starEach [.Name (Str.ofString k.nm) q] X.env := by rfl) (hpl : (backTo pos (starEach [.Name (Str.ofString k.nm) q] X.env)).any (·.1) = false := by rfl) :
    SE X Wx (.Call (.Name "isinstance" p) [e, .Name (Str.ofString k.nm) q] [] pos) (d1 (opIsi k) f) :=
  PE.imp (pe_callB call_isi hg hm (by decide +kernel) (pa_cons h (pa_cons (pe_bltn (v := .ty k.nm) hg2 hk hv rfl hn hdb) pa_nil) he) (by decide) (by decide) he hpl) fun _ _ _ h => sem_isi h

def cutL {α : Type} (xs : List α) (lo hi : Option Int) : List α := (xs.drop (HT.sIx xs.length 0 lo)).take (HT.sIx xs.length xs.length hi - HT.sIx xs.length 0 lo)
def opSl : D → Option Int → Option Int → Option D
  | .lst xs, lo, hi => some (.lst (cutL xs lo hi))
  | .scr ns, lo, hi => some (.lst ((cutL ns lo hi).map D.int))
  | .tup xs, lo, hi => if HT.sIx xs.length 0 lo = 0 ∧ HT.sIx xs.length xs.length hi = xs.length then none else some (.tup (cutL xs lo hi))
  | .str z, lo, hi => if z.length ≤ most then some (.str (cutS z lo hi)) else none
  | _, _, _ => none
/-- a slice's part: left out, or an int -/
abbrev DO := Sl → Sto → Res (Option Int)
def oNone : DO := fun σ S => .ok none σ S
def oSome (f : DE) : DO := fun σ S => (f σ S).bind fun x σ S => match x with
  | .int i => .ok (some i) σ S
  | _ => .fail
abbrev semO (K : PySem.W.Frag) (Wx : WX) (f : DO) : TO := semR K Wx (fun _ _ _ b a => b = a) f
abbrev SO (X : Cx) (Wx : WX) (e : Option Expr) (f : DO) : Prop := PO X e (semO X.K Wx f)
theorem _root_.L2.PO.imp {X : Cx} {e : Option Expr} {t t' : TO} (h : PO X e t) (i : ∀ σ H Q, t' σ H Q → t σ H Q) : PO X e t' := ⟨fun pins s σ H Q I q => h.run pins s σ H Q I (i _ _ _ q)⟩
theorem co_none : SO X Wx none oNone := PO.imp po_none fun σV H Q h => by
  obtain ⟨F, I, ρ, σ, S, rb, h⟩ := h
  exact h I ρ H none Gr.refl rb rfl
theorem co_some {e : Expr} {f : DE} (h : SE X Wx e f) : SO X Wx (some e) (oSome f) := PO.imp (po_some h) fun σV H Q h => by
  obtain ⟨F, I, ρ, σ, S, rb, h⟩ := h
  refine ⟨F, I, ρ, σ, S, rb, post_bind h fun I1 ρ1 σ1 S1 H1 x v1 _ g1 rb1 t1 h1 => ?_⟩
  rcases t1 with ⟨i, rfl, _⟩ | t1
  · exact h1.elim
  · cases t1 with
    | int => exact ⟨_, rfl, h1 I1 ρ1 H1 _ Gr.refl rb1 rfl⟩
    | _ => exact h1.elim
def dSl (f : DE) (lo hi : DO) : DE := fun σ S => (f σ S).bind fun x σ S => (lo σ S).bind fun l σ S => (hi σ S).bind fun u σ S => ofOpt ((deref σ S x).bind fun a => opSl a l u) σ S
def rSlA (K : PySem.W.Frag) : V → Option Int → Option Int → Hp → VK → Prop := fun x lo hi H Q => rSlL K x lo hi H Q ∨ (rSlT K x lo hi H Q ∨ (∃ z, x = .str z ∧ z.length ≤ sizeLine ∧ Q (.str (cutS z lo hi)) H))
theorem Reps.cut {K : PySem.W.Frag} {ρ : List Addr} {I : Hp} {vs : List V} {ws : List D} (r : Reps K ρ I vs ws) (lo hi : Option Int) : Reps K ρ I (cutV vs lo hi) (cutL ws lo hi) := by
  unfold cutV cutL
  rw [r.length]
  exact (r.drop _).take _
theorem cutV_map (ns : List Int) (lo hi : Option Int) : cutV (ns.map V.int) lo hi = (cutL ns lo hi).map V.int := by
  unfold cutV cutL
  rw [List.length_map, List.map_take, List.map_drop]
theorem Reps.ints {K : PySem.W.Frag} {ρ : List Addr} {I : Hp} : ∀ ns : List Int, Reps K ρ I (ns.map V.int) (ns.map D.int)
  | [] => .nil
  | _ :: r => .cons .int (Reps.ints r)
theorem sl_all : SlR X (rSlA X.K) := sl_list.or (sl_tup.or sl_str)
theorem cf_sl {e : Expr} {lo hi : Option Expr} {p2 pos : Pos} {f : DE} {l u : DO} (h : SE X Wx e f) (hl : SO X Wx lo l) (hu : SO X Wx hi u) : SF X Wx (.Subscript e (.Slice lo hi none p2) pos) (dSl f l u) := by
  refine PE.imp (pe_slice sl_all h hl hu) fun σV H Q h => ?_
  obtain ⟨F, I, ρ, σ, S, rb, h⟩ := h
  refine ⟨F, I, ρ, σ, S, rb, postF_bind h fun I1 ρ1 σ1 S1 H1 x v1 _ g1 rb1 t1 h1 => ?_⟩
  refine ⟨F, I1, ρ1, σ1, S1, rb1, postF_bind h1 fun I2 ρ2 σ2 S2 H2 a2 b2 _ g2 rb2 t2 h2 => ?_⟩
  subst t2
  refine ⟨F, I2, ρ2, σ2, S2, rb2, postF_bind h2 fun I3 ρ3 σ3 S3 H3 a3 b3 _ g3 rb3 t3 h3 => ?_⟩
  subst t3
  cases ez : (deref σ3 S3 x).bind fun a => opSl a b2 b3 with
  | none => rw [ez] at h3; exact h3.elim
  | some z =>
    rw [ez] at h3
    obtain ⟨a, ea, ez⟩ := Option.bind_eq_some_iff.mp ez
    have hat := rb3.at ((t1.gr g2).gr g3) ea
    unfold opSl at ez
    split at ez
    · cases ez
      obtain ⟨a, vs, rfl, ha, ra⟩ := hat
      refine .inl ⟨a, vs, rfl, SqL_at ha, fun p hp => ?_⟩
      obtain ⟨rb4, nf, ni, nr, no⟩ := rb3.newO (o := .lst (cutV vs b2 b3)) hp
      exact h3 _ ρ3 _ _ Gr.refl rb4 (.inl ⟨p, rfl, nf, ni, nr, no, _, upd_same, ra.cut _ _⟩)
    · cases ez
      obtain ⟨a, rfl, ha⟩ := hat
      refine .inl ⟨a, _, rfl, ha, fun p hp => ?_⟩
      obtain ⟨rb4, nf, ni, nr, no⟩ := rb3.newO (o := .lst (cutV _ b2 b3)) hp
      exact h3 _ ρ3 _ _ Gr.refl rb4 (.inl ⟨p, rfl, nf, ni, nr, no, _, upd_same, by rw [cutV_map]; exact Reps.ints _⟩)
    · split at ez
      · cases ez
      · rename_i hw
        cases ez
        obtain ⟨a, vs, rfl, ha, ra⟩ := hat
        refine .inr (.inl ⟨a, vs, rfl, ha, by rw [ra.length]; exact hw, fun p hp => ?_⟩)
        obtain ⟨g4, rb4⟩ := rb3.new (o := .tup (cutV vs b2 b3)) hp
        exact h3 _ ρ3 _ _ g4 rb4 (.inr ⟨rfl, .tup (.inl upd_same) ((ra.cut _ _).gr g4)⟩)
    · cases hat
      split at ez
      · rename_i hl
        cases ez
        exact .inr (.inr ⟨_, rfl, by rw [← most_eq]; exact hl, h3 I3 ρ3 H3 _ Gr.refl rb3 (.inr ⟨rfl, .str⟩)⟩)
      · cases ez
    · cases ez

abbrev DG := D → Sl → Option Sl
abbrev DGs := List D → Sl → Option Sl
def gN (i : Nat) : DG := fun d σ => some (σ.set i (.val d))
def gsNil : DGs := fun ds σ => match ds with
  | [] => some σ
  | _ => none
def gsCons (g : DG) (gs : DGs) : DGs := fun ds σ => match ds with
  | d :: r => (g d σ).bind fun σ' => gs r σ'
  | [] => none
def gT (n : Nat) (gs : DGs) : DG := fun d σ => match d with
  | .tup ws => if ws.length = n then gs ws σ else none
  | _ => none
end
end MR

set_option Elab.async false
set_option linter.all false
set_option maxRecDepth 100000
namespace MR
open PySem PySem.Spec PyProof.Rows L2

theorem _root_.L2.PG.imp {X : Cx} {e : Expr} {t t' : TG} (h : PG X e t) (i : ∀ v σ H Q, t' v σ H Q → t v σ H Q) : PG X e t' := ⟨fun pins s σ H v u Q I r q => h.run pins s σ H v u Q I r (i _ _ _ _ q)⟩
theorem _root_.L2.PGs.imp {X : Cx} {e : List Expr} {t t' : TGs} (h : PGs X e t) (i : ∀ v σ H Q, t' v σ H Q → t v σ H Q) : PGs X e t' := ⟨fun pins s σ H v u Q I r q => h.run pins s σ H v u Q I r (i _ _ _ _ q)⟩
theorem _root_.L2.PI.imp {X : Cx} {tg e : Expr} {t t' : TI} (h : PI X tg e t) (i : ∀ σ H Q, t' σ H Q → t σ H Q) : PI X tg e t' := ⟨fun pins s σ H Q I q => h.run pins s σ H Q I (i _ _ _ q)⟩
theorem _root_.L2.PTs.imp {X : Cx} {e : List Expr} {t t' : TT} (h : PTs X e t) (i : ∀ σ H Q, t' σ H Q → t σ H Q) : PTs X e t' := ⟨fun pins s σ H Q I q => h.run pins s σ H Q I (i _ _ _ q)⟩
section
variable {X : Cx} {Wx : WX}
theorem wipe_get (σ : L2.St) : ∀ (vs : List Nat) (j : Nat), (wipe σ vs)[j]? = if j ∈ vs then (σ[j]?).map (fun _ => none) else σ[j]?
  | [], j => by simp [wipe]
  | v :: vs, j => by
    unfold wipe
    by_cases e : v = j
    · subst e
      rw [if_pos (List.mem_cons_self ..)]
      by_cases lt : v < (wipe σ vs).length
      · rw [List.getElem?_set_self lt]
        rw [wipe_length] at lt
        rw [List.getElem?_eq_getElem lt]
        rfl
      · rw [List.getElem?_eq_none (by rw [List.length_set]; omega)]
        rw [wipe_length] at lt
        rw [List.getElem?_eq_none (by omega)]
        rfl
    · rw [List.getElem?_set_ne e, wipe_get σ vs j]
      have : (j ∈ v :: vs) ↔ j ∈ vs := by
        rw [List.mem_cons]
        exact ⟨fun h => h.elim (fun z => absurd z.symm e) id, .inr⟩
      by_cases h : j ∈ vs
      · rw [if_pos h, if_pos (this.mpr h)]
      · rw [if_neg h, if_neg (fun z => h (this.mp z))]
theorem wipe_set {σ : L2.St} {vs : List Nat} {i : Nat} {x : Option V} (h : i ∈ vs) : wipe (σ.set i x) vs = wipe σ vs := by
  apply List.ext_getElem?
  intro j
  rw [wipe_get, wipe_get]
  by_cases hj : j ∈ vs
  · rw [if_pos hj, if_pos hj]
    by_cases e : i = j
    · subst e
      by_cases lt : i < σ.length
      · rw [List.getElem?_set_self lt, List.getElem?_eq_getElem lt]
        rfl
      · rw [List.getElem?_eq_none (by rw [List.length_set]; omega), List.getElem?_eq_none (by omega)]
    · rw [List.getElem?_set_ne e]
  · have ne : i ≠ j := fun e => by subst e; exact hj h
    rw [if_neg hj, if_neg hj, List.getElem?_set_ne ne]
/-- vs: the slots that the target may set -/
def semG (K : PySem.W.Frag) (vs : List Nat) (g : DG) : TG := fun v σV H Q => ∃ F I ρ σ S d σ', RB K F I ρ S H σV σ ∧ Rep K ρ I v d ∧ g d σ = some σ' ∧ ∀ σV', wipe σV' vs = wipe σV vs → RB K F I ρ S H σV' σ' → Q σV' H
def semGs (K : PySem.W.Frag) (vs : List Nat) (g : DGs) : TGs := fun us σV H Q => ∃ F I ρ σ S ds σ', RB K F I ρ S H σV σ ∧ Reps K ρ I us ds ∧ g ds σ = some σ' ∧ ∀ σV', wipe σV' vs = wipe σV vs → RB K F I ρ S H σV' σ' → Q σV' H
abbrev SG (X : Cx) (vs : List Nat) (e : Expr) (g : DG) : Prop := PG X e (semG X.K vs g)
abbrev SGs (X : Cx) (vs : List Nat) (e : List Expr) (g : DGs) : Prop := PGs X e (semGs X.K vs g)
variable {tvs : List Nat}
theorem cg_name (i : Nat) {x : Str} {pos : Pos} (hN : X.N.Nodup) (hi : X.N[i]? = some x := by rfl) (hx : Loc X.env.scope x := by first | exact Or.inl rfl | exact Or.inr rfl) (hf : X.fn x = true ∨ X.env.scope.names.lookup x = some .local := by first | exact .inl rfl | exact .inr rfl | assumption) (hv : i ∈ tvs := by decide) : SG X tvs (.Name x pos) (gN i) := by
  refine PG.imp (pg_name hN hi hx hf) fun v σV H Q h => ?_
  obtain ⟨F, I, ρ, σ, S, d, σ', rb, r, e, q⟩ := h
  cases e
  exact q _ (wipe_set hv) (rb.setV r)
theorem cgs_nil : SGs X tvs [] gsNil := by
  refine PGs.imp pgs_nil fun vs σV H Q h => ?_
  obtain ⟨F, I, ρ, σ, S, ds, σ', rb, r, e, q⟩ := h
  cases r with
  | nil => cases e; exact ⟨rfl, q _ rfl rb⟩
  | cons _ _ => cases e
theorem cgs_cons {e : Expr} {es : List Expr} {g : DG} {gs : DGs} (h : SG X tvs e g) (k : SGs X tvs es gs) (hs : (assignEach (e :: es) X.env).map (·.2) = assign e X.env :: (assignEach es X.env).map (·.2) := by rfl) : SGs X tvs (e :: es) (gsCons g gs) := by
  refine PGs.imp (pgs_cons h k hs) fun vs σV H Q h => ?_
  obtain ⟨F, I, ρ, σ, S, ds, σ', rb, r, e, q⟩ := h
  cases r with
  | nil => cases e
  | cons h1 h2 =>
    obtain ⟨σ1, e1, e2⟩ := Option.bind_eq_some_iff.mp e
    exact ⟨_, _, rfl, F, I, ρ, σ, S, _, σ1, rb, h1, e1, fun σV' ew rb' => ⟨F, I, ρ, σ1, S, _, σ', rb', h2, e2, fun σV2 ew2 => q σV2 (ew2.trans ew)⟩⟩
theorem cg_tup {es : List Expr} {k n : Nat} {pos : Pos} {gs : DGs} (h : SGs X tvs es gs) (hc : X.calm = true := by rfl) (hn : (assignEach es X.env).length = n := by rfl) (hst : (assignEach es X.env).findIdx? (·.1) = none := by rfl) : SG X tvs (.Tuple es k pos) (gT n gs) := by
  refine PG.imp (pg_tup hc h hn hst) fun v σV H Q h => ?_
  obtain ⟨F, I, ρ, σ, S, d, σ', rb, r, e, q⟩ := h
  unfold gT at e
  split at e
  · rename_i ws
    split at e
    · rename_i hl
      cases r with
      | tup ht hr => exact ⟨_, _, rfl, rb.sub.sqT ht, by rw [hr.length]; exact hl, F, I, ρ, σ, S, ws, σ', rb, hr, e, q⟩
    · cases e
  · cases e
/-- J walks the items, whatever is done meanwhile to what is not frozen -/
def Walks (K : PySem.W.Frag) (F I : Hp) (ρ : List Addr) (J : It) (items : List D) : Prop := ∀ (I2 : Hp) (ρ2 : List Addr) (S2 : Sto) (H2 : Hp) (σV2 : L2.St) (σ2 : Sl), Gr ρ I ρ2 I2 → RB K F I2 ρ2 S2 H2 σV2 σ2 →
  (∀ (i : Nat) (d : D), items[i]? = some d → J.go i H2 ∧ ∀ x H3, J.yld i H2 x H3 → ∃ I3, Gr ρ2 I2 ρ2 I3 ∧ RB K F I3 ρ2 S2 H3 σV2 σ2 ∧ Rep K ρ2 I3 x d) ∧ J.stop items.length H2
abbrev DI := Sl → Sto → Res (List D)
def postI (K : PySem.W.Frag) (Wx : WX) (F I : Hp) (ρ : List Addr) (σV : L2.St) (r : Res (List D)) (R : It → Hp → Prop) : Prop := match r with
  | .ok items σ' S' => ∀ I' ρ' H' J, Gr ρ I ρ' I' → RB K F I' ρ' S' H' σV σ' → (∀ F', (∀ a o, F a = some o → F' a = some o) → Walks K F' I' ρ' J items) → R J H'
  | .exc e σ' S' => ∀ I' ρ' H' d, Gr ρ I ρ' I' → RB K F I' ρ' S' H' σV σ' → ExcAt e d H' → Wx (.ref (ca K e.c)) d σV H'
  | .fail => False
def semI (K : PySem.W.Frag) (Wx : WX) (f : DI) : TI := fun σV H R => ∃ F I ρ σ S, RB K F I ρ S H σV σ ∧ postI K Wx F I ρ σV (f σ S) R
abbrev SI (X : Cx) (Wx : WX) (tg iter : Expr) (f : DI) : Prop := PI X tg iter (semI X.K Wx f)
theorem postI_gr {K : PySem.W.Frag} {F I : Hp} {ρ : List Addr} {σV : L2.St} {r : Res (List D)} {R : It → Hp → Prop} {I1 : Hp} {ρ1 : List Addr} (g : Gr ρ I ρ1 I1) (h : postI K Wx F I ρ σV r R) : postI K Wx F I1 ρ1 σV r R := by
  cases r with
  | ok a σ S => exact fun I' ρ' H' b g' => h I' ρ' H' b (g.trans g')
  | exc e σ S => exact fun I' ρ' H' d g' => h I' ρ' H' d (g.trans g')
  | fail => exact h
theorem postI_bind {K : PySem.W.Frag} {F I : Hp} {ρ : List Addr} {σV : L2.St} {α β : Type} {T : List Addr → Hp → L2.St → β → α → Prop} {r : Res α} {k : α → Sl → Sto → Res (List D)} {R : It → Hp → Prop} {Q1 : β → Hp → Prop}
    (h : postI K Wx F I ρ σV (r.bind k) R)
    (q : ∀ I1 ρ1 σ1 S1 H1 a b, r = .ok a σ1 S1 → Gr ρ I ρ1 I1 → RB K F I1 ρ1 S1 H1 σV σ1 → T ρ1 I1 σV b a → postI K Wx F I1 ρ1 σV (k a σ1 S1) R → Q1 b H1) : postR K Wx T F I ρ σV r Q1 := by
  cases r with
  | ok a σ S => exact fun I' ρ' H' b g rb t => q I' ρ' σ S H' a b rfl g rb t (postI_gr g h)
  | exc e σ S => exact h
  | fail => exact h
/-- a list, kept -/
def iLst (f : DE) : DI := fun σ S => (dV f σ S).bind fun x σ S => match x with
  | .lst ws => .ok ws σ S
  | _ => .fail
theorem walks_list {K : PySem.W.Frag} {I : Hp} {ρ : List Addr} {a : Addr} {vs : List V} {ws : List D} (h : I a = some (.lst vs)) (r : Reps K ρ I vs ws) : ∀ F, Walks K F I ρ (Itl K a) ws := fun F I2 ρ2 S2 H2 σV2 σ2 g rb => by
  have ha : SqL K H2 a vs := rb.sub.sqL (.inl (.inl (g.ex _ _ h)))
  refine ⟨fun i d hd => ?_, vs, ha, by rw [r.length]; exact Nat.le_refl _⟩
  obtain ⟨v, hv, rv⟩ := r.get hd
  refine ⟨⟨vs, v, ha, hv⟩, fun x H3 y => ?_⟩
  obtain ⟨rfl, y⟩ := y
  have := y vs ha
  rw [hv] at this
  cases this
  exact ⟨I2, Gr.refl, rb, rv.gr g⟩
/-- a tuple -/
def iTup (f : DE) : DI := fun σ S => (dV f σ S).bind fun x σ S => match x with
  | .tup ws => .ok ws σ S
  | _ => .fail
theorem ci_list {tg e : Expr} {f : DE} (h : SE X Wx e f) : SI X Wx tg e (iLst f) := by
  refine PI.imp (pi_list (c_v h)) fun σV H R h => ?_
  obtain ⟨F, I, ρ, σ, S, rb, h⟩ := h
  refine ⟨F, I, ρ, σ, S, rb, postI_bind h fun I1 ρ1 σ1 S1 H1 x v1 _ g1 rb1 t1 h1 => ?_⟩
  cases t1 with
  | lst hl hr => exact ⟨_, rfl, ⟨_, rb1.sub.sqL (.inl (.inl hl))⟩, h1 I1 ρ1 H1 _ Gr.refl rb1 fun F' _ => walks_list hl hr F'⟩
  | _ => exact h1.elim
/-- a text's signs -/
def signs (x : Str) : List D := x.cps.toList.map fun c => .str ⟨#[c]⟩
def iStr (f : DE) : DI := fun σ S => (dV f σ S).bind fun x σ S => match x with
  | .str z => .ok (signs z) σ S
  | _ => .fail
theorem ci_str {tg e : Expr} {f : DE} (h : SE X Wx e f) : SI X Wx tg e (iStr f) := by
  refine PI.imp (pi_str (c_v h)) fun σV H R h => ?_
  obtain ⟨F, I, ρ, σ, S, rb, h⟩ := h
  refine ⟨F, I, ρ, σ, S, rb, postI_bind h fun I1 ρ1 σ1 S1 H1 x v1 _ g1 rb1 t1 h1 => ?_⟩
  cases t1 with
  | @str z =>
    refine ⟨z, rfl, h1 I1 ρ1 H1 _ Gr.refl rb1 fun F' _ I2 ρ2 S2 H2 σV2 σ2 g rb => ⟨fun i d hd => ?_, by unfold signs; rw [List.length_map, Array.length_toList]; exact Nat.le_refl _⟩⟩
    unfold signs at hd
    rw [List.getElem?_map] at hd
    obtain ⟨c, hc, rfl⟩ := Option.map_eq_some_iff.mp hd
    rw [Array.getElem?_toList] at hc
    refine ⟨(Array.getElem?_eq_some_iff.mp hc).1, fun x H3 y => ?_⟩
    obtain ⟨rfl, c', hc', rfl⟩ := y
    rw [hc] at hc'
    cases hc'
    exact ⟨I2, Gr.refl, rb, .str⟩
  | _ => exact h1.elim
/-- range -/
def ran (lo hi : Int) : List D := (List.range (hi - lo).toNat).map fun k => .int (lo + (k : Nat))
def small (i : Int) : Prop := -(2 ^ 62) ≤ i ∧ i < 2 ^ 62
instance (i : Int) : Decidable (small i) := by unfold small; infer_instance
def iRan1 (f : DE) : DI := fun σ S => (f σ S).bind fun x σ S => match x with
  | .int j => if small j then .ok (ran 0 j) σ S else .fail
  | _ => .fail
theorem walks_ran {K : PySem.W.Frag} {F I : Hp} {ρ : List Addr} (lo hi : Int) : Walks K F I ρ (Itr lo (hi - lo).toNat) (ran lo hi) := fun I2 ρ2 S2 H2 σV2 σ2 g rb => by
  refine ⟨fun i d hd => ?_, by unfold ran; rw [List.length_map, List.length_range]; exact Nat.le_refl _⟩
  unfold ran at hd
  rw [List.getElem?_map] at hd
  obtain ⟨k, hk, rfl⟩ := Option.map_eq_some_iff.mp hd
  have hlt : i < (hi - lo).toNat := by
    have := (List.getElem?_eq_some_iff.mp hk).1
    rw [List.length_range] at this
    exact this
  rw [List.getElem?_range hlt] at hk
  cases hk
  refine ⟨hlt, fun x H3 y => ?_⟩
  obtain ⟨rfl, rfl⟩ := y
  exact ⟨I2, Gr.refl, rb, .int⟩
theorem ci_ran1 {tg a : Expr} {p pos : Pos} {f : DE} (hm : X.mg "range" = none) (h : SE X Wx a f) (hg : Gl X "range" := by rfl) (hs : starEach [a] X.env = [(false, eval a X.env)] := by rfl) : SI X Wx tg (.Call (.Name "range" p) [a] [] pos) (iRan1 f) := by
  refine PI.imp (pi_range1 hg hm (pa_cons h pa_nil hs) hs) fun σV H R h => ?_
  obtain ⟨F, I, ρ, σ, S, rb, h⟩ := h
  refine ⟨F, I, ρ, σ, S, rb, postI_bind h fun I1 ρ1 σ1 S1 H1 x v1 er1 g1 rb1 t1 h1 => ?_⟩
  split at h1
  · rename_i j
    split at h1
    · rename_i hj
      rcases t1 with ⟨i, q, _⟩ | t1
      · cases q
      · cases t1
        refine ⟨j, rfl, hj.1, hj.2, ?_⟩
        have w : ∀ F', Walks X.K F' I1 ρ1 (Itr 0 j.toNat) (ran 0 j) := fun F' => by
          have := walks_ran (K := X.K) (F := F') (I := I1) (ρ := ρ1) 0 j
          rw [Int.sub_zero] at this
          exact this
        exact h1 I1 ρ1 H1 _ Gr.refl rb1 fun F' _ => w F'
    · exact h1.elim
  · exact h1.elim
/-- zip of two lists, of two tuples -/
def pairs : List D → List D → List D
  | x :: xs, y :: ys => .tup [x, y] :: pairs xs ys
  | _, _ => []
def iZip (f g : DE) : DI := fun σ S => (dV f σ S).bind fun x σ S => (dV g σ S).bind fun y σ S => match x, y with
  | .lst xs, .lst ys => .ok (pairs xs ys) σ S
  | .tup xs, .tup ys => .ok (pairs xs ys) σ S
  | _, _ => .fail
theorem pairs_get : ∀ {xs ys : List D} {i : Nat} {d : D}, (pairs xs ys)[i]? = some d → ∃ x y, xs[i]? = some x ∧ ys[i]? = some y ∧ d = .tup [x, y]
  | x :: xs, y :: ys, 0, d, h => by cases h; exact ⟨x, y, rfl, rfl, rfl⟩
  | x :: xs, y :: ys, i + 1, d, h => pairs_get (xs := xs) (ys := ys) (i := i) h
  | [], _, i, d, h => by simp [pairs] at h
  | _ :: _, [], i, d, h => by simp [pairs] at h
theorem pairs_len : ∀ (xs ys : List D), xs.length ≤ (pairs xs ys).length ∨ ys.length ≤ (pairs xs ys).length
  | x :: xs, y :: ys => by
    rcases pairs_len xs ys with h | h
    · exact .inl (Nat.succ_le_succ h)
    · exact .inr (Nat.succ_le_succ h)
  | [], _ => .inl (Nat.zero_le _)
  | _ :: _, [] => .inr (Nat.zero_le _)
theorem walks_zipT {K : PySem.W.Frag} {I : Hp} {ρ : List Addr} {a b : Addr} {vs us : List V} {ws zs : List D} (h : SqT K I a vs) (r : Reps K ρ I vs ws) (h' : SqT K I b us) (r' : Reps K ρ I us zs) : ∀ F, Walks K F I ρ (RZ.ItzT K a b) (pairs ws zs) := fun F I2 ρ2 S2 H2 σV2 σ2 g rb => by
  have ha : SqT K H2 a vs := rb.sub.sqT (SqT.gr g h)
  have hb : SqT K H2 b us := rb.sub.sqT (SqT.gr g h')
  refine ⟨fun i d hd => ?_, vs, us, ha, hb, by rw [r.length, r'.length]; exact pairs_len ws zs⟩
  obtain ⟨x, y, hx, hy, rfl⟩ := pairs_get hd
  obtain ⟨v, hv, rv⟩ := r.get hx
  obtain ⟨u, hu, ru⟩ := r'.get hy
  refine ⟨⟨vs, us, v, u, ha, hb, hv, hu⟩, fun z H3 q => ?_⟩
  obtain ⟨T, x', y', rfl, hT, rfl, q1, q2⟩ := q
  have e1 := q1 vs ha
  have e2 := q2 us hb
  rw [hv] at e1
  rw [hu] at e2
  cases e1; cases e2
  obtain ⟨g3, rb3⟩ := rb.new (o := .tup [v, u]) hT
  exact ⟨_, g3, rb3, .tup (.inl upd_same) (.cons ((rv.gr g).gr g3) (.cons ((ru.gr g).gr g3) .nil))⟩
/-- enumerate of a list -/
def enum (lo : Int) : List D → List D
  | [] => []
  | d :: ds => .tup [.int lo, d] :: enum (lo + 1) ds
def iEnum (f : DE) : DI := fun σ S => (dV f σ S).bind fun x σ S => match x with
  | .lst xs => .ok (enum 0 xs) σ S
  | _ => .fail
theorem enum_get : ∀ {xs : List D} {lo : Int} {i : Nat} {d : D}, (enum lo xs)[i]? = some d → ∃ x, xs[i]? = some x ∧ d = .tup [.int (lo + (i : Nat)), x]
  | x :: xs, lo, 0, d, h => by cases h; exact ⟨x, rfl, by simp⟩
  | x :: xs, lo, i + 1, d, h => by
    obtain ⟨y, hy, rfl⟩ := enum_get (xs := xs) (lo := lo + 1) (i := i) h
    exact ⟨y, hy, by congr 3; omega⟩
  | [], lo, i, d, h => by simp [enum] at h
theorem enum_len : ∀ (xs : List D) (lo : Int), (enum lo xs).length = xs.length
  | [], _ => rfl
  | _ :: xs, lo => congrArg (· + 1) (enum_len xs (lo + 1))
def forL (g : DG) (f : DS) : List D → DS
  | [] => fun σ S => .ok .next σ S
  | d :: ds => fun σ S => match g d σ with
    | none => .fail
    | some σ => (f σ S).bind fun x σ S => (match x with
      | .next => forL g f ds σ S
      | .cnt => forL g f ds σ S
      | .brk => .ok .next σ S
      | .ret w => .ok (.ret w) σ S)
def sFor (it : DI) (g : DG) (f : DS) : DS := fun σ S => (it σ S).bind fun ds σ S => forL g f ds σ S
theorem cs_for {fr : Bool} {tg iter : Expr} {body : List Stmt} {pos : Pos} {it : DI} {g : DG} {f : DS} (hp : PassesOwn (model X.prog X.w) X.A X.env X.xe) (hi : SI X Wx tg iter it) (hg : SG X tvs tg g) (hb : SSs fr X Wx body f) (hc : X.calm = true := by rfl) (hs : ∀ x, foldedSetIterable iter X.env x = pure x := by intro _; rfl) : SS fr X Wx (.For tg iter body [] pos) (sFor it g f) := by
  refine PS.imp (ps_for hp hc hi hg hb hs) fun D σV H h => ?_
  obtain ⟨F, I, ρ, σ, S, rb, h⟩ := h
  refine ⟨F, I, ρ, σ, S, rb, ?_⟩
  unfold sFor at h
  cases e : it σ S with
  | exc a σ' S' => rw [e] at h; exact fun I' ρ' H' d => h I' ρ' H' d σV
  | fail => rw [e] at h; exact h
  | ok items σ' S' =>
    rw [e] at h
    intro I' ρ' H' J g' rb' wk
    have wk := wk F fun _ _ z => z
    have h : postS fr X.K Wx F I' ρ' (forL g f items σ' S') D := postS_gr g' h
    refine ⟨fun i m σV H => i + m = items.length ∧ ∃ I2 ρ2 σ2 S2, Gr ρ' I' ρ2 I2 ∧ RB X.K F I2 ρ2 S2 H σV σ2 ∧ postS fr X.K Wx F I2 ρ2 (forL g f (items.drop i) σ2 S2) D, ⟨items.length, Nat.zero_add _, I', ρ', σ', S', Gr.refl, rb', h⟩, ?_⟩
    intro i m σV2 H2 ⟨hm, I2, ρ2, σ2, S2, g2, rb2, h2⟩
    obtain ⟨w1, w2⟩ := wk I2 ρ2 S2 H2 σV2 σ2 g2 rb2
    cases m with
    | zero =>
      have hi : i = items.length := hm
      subst hi
      rw [List.drop_length] at h2
      exact .inl ⟨w2, h2 I2 ρ2 H2 σV2 Gr.refl rb2⟩
    | succ m =>
      have lt : i < items.length := by omega
      rw [List.drop_eq_getElem_cons lt] at h2
      obtain ⟨go, yl⟩ := w1 i items[i] (List.getElem?_eq_getElem lt)
      refine .inr ⟨go, fun σV3 H3 => i + 1 + m = items.length ∧ ∃ I2 ρ2 σ2 S2, Gr ρ' I' ρ2 I2 ∧ RB X.K F I2 ρ2 S2 H3 σV3 σ2 ∧ postS fr X.K Wx F I2 ρ2 (forL g f (items.drop (i + 1)) σ2 S2) D, fun σ' H' q => ⟨m, Nat.lt_succ_self m, q⟩, fun x H3 y => ?_⟩
      obtain ⟨I3, g3, rb3, r3⟩ := yl x H3 y
      unfold forL at h2
      split at h2
      · exact h2.elim
      · rename_i σ3 e3
        refine ⟨F, I3, ρ2, σ2, S2, items[i], σ3, rb3, r3, e3, fun σV4 _ rb4 => ⟨F, I3, ρ2, σ3, S2, rb4, ?_⟩⟩
        have h3 := postS_gr g3 h2
        cases e4 : f σ3 S2 with
        | ok a σ5 S5 =>
          rw [e4] at h3
          cases a with
          | next => exact fun I6 ρ6 H6 σV6 g6 rb6 => ⟨by omega, I6, ρ6, σ5, S5, ((g2.trans g3).trans g6), rb6, postS_gr g6 h3⟩
          | cnt => exact fun I6 ρ6 H6 σV6 g6 rb6 => ⟨by omega, I6, ρ6, σ5, S5, ((g2.trans g3).trans g6), rb6, postS_gr g6 h3⟩
          | brk => exact h3
          | ret w => exact h3
        | exc a σ5 S5 => rw [e4] at h3; exact h3
        | fail => rw [e4] at h3; exact h3
end
end MR

set_option Elab.async false
set_option linter.all false
set_option maxRecDepth 100000
namespace MR
open PySem PySem.Spec PyProof.Rows L2

def wipeD (σ : Sl) : List Nat → Sl
  | [] => σ
  | v :: vs => (wipeD σ vs).set v .emp
def restD (σ0 σ : Sl) : List Nat → Sl
  | [] => σ
  | v :: vs => (restD σ0 σ vs).set v ((σ0[v]?).getD .emp)
def noOwn (σ : Sl) (vs : List Nat) : Bool := vs.all fun i => match σ[i]? with
  | some (.own _) => false
  | _ => true
theorem wipeD_len (σ : Sl) : ∀ vs : List Nat, (wipeD σ vs).length = σ.length
  | [] => rfl
  | v :: vs => by unfold wipeD; rw [List.length_set, wipeD_len σ vs]
theorem restD_len (σ0 σ : Sl) : ∀ vs : List Nat, (restD σ0 σ vs).length = σ.length
  | [] => rfl
  | v :: vs => by unfold restD; rw [List.length_set, restD_len σ0 σ vs]
theorem setAt {α : Type} (l : List α) (v j : Nat) (f : Nat → α) : (l.set v (f v))[j]? = if j = v then (l[j]?).map (fun _ => f j) else l[j]? := by
  by_cases e : j = v
  · subst e
    rw [if_pos rfl]
    by_cases lt : j < l.length
    · rw [List.getElem?_set_self lt, List.getElem?_eq_getElem lt]; rfl
    · rw [List.getElem?_eq_none (by rw [List.length_set]; omega), List.getElem?_eq_none (by omega)]; rfl
  · rw [if_neg e, List.getElem?_set_ne (Ne.symm e)]
theorem wipeD_get (σ : Sl) : ∀ (vs : List Nat) (j : Nat), (wipeD σ vs)[j]? = if j ∈ vs then (σ[j]?).map (fun _ => Slot.emp) else σ[j]?
  | [], j => by simp [wipeD]
  | v :: vs, j => by
    unfold wipeD
    rw [setAt (wipeD σ vs) v j (fun _ => Slot.emp), wipeD_get σ vs j]
    by_cases e : j = v
    · subst e
      rw [if_pos rfl, if_pos (List.mem_cons_self ..)]
      split
      · rw [Option.map_map]; rfl
      · rfl
    · rw [if_neg e]
      by_cases h : j ∈ vs
      · rw [if_pos h, if_pos (List.mem_cons_of_mem _ h)]
      · rw [if_neg h, if_neg (fun z => (List.mem_cons.mp z).elim e h)]
theorem restD_get (σ0 σ : Sl) : ∀ (vs : List Nat) (j : Nat), (restD σ0 σ vs)[j]? = if j ∈ vs then (σ[j]?).map (fun _ => (σ0[j]?).getD .emp) else σ[j]?
  | [], j => by simp [restD]
  | v :: vs, j => by
    unfold restD
    rw [setAt (restD σ0 σ vs) v j (fun v => (σ0[v]?).getD .emp), restD_get σ0 σ vs j]
    by_cases e : j = v
    · subst e
      rw [if_pos rfl, if_pos (List.mem_cons_self ..)]
      split
      · rw [Option.map_map]; rfl
      · rfl
    · rw [if_neg e]
      by_cases h : j ∈ vs
      · rw [if_pos h, if_pos (List.mem_cons_of_mem _ h)]
      · rw [if_neg h, if_neg (fun z => (List.mem_cons.mp z).elim e h)]

section
variable {K : PySem.W.Frag} {F I : Hp} {ρ : List Addr} {S : Sto} {H : Hp} {σV : L2.St} {σ : Sl}
theorem RB.wipe (rb : RB K F I ρ S H σV σ) (vs : List Nat) : RB K F I ρ S H (L2.wipe σV vs) (wipeD σ vs) := by
  have own : ∀ {i : Nat} {c : D}, (wipeD σ vs)[i]? = some (.own c) → i ∉ vs ∧ σ[i]? = some (.own c) := fun {i c} h => by
    rw [wipeD_get] at h
    split at h
    · obtain ⟨_, _, e⟩ := Option.map_eq_some_iff.mp h
      cases e
    · rename_i hi; exact ⟨hi, h⟩
  refine ⟨rb.fr, rb.sub, rb.dis, rb.store, rb.nd, rb.rl, by rw [wipeD_len, wipe_length]; exact rb.len, fun i s h => ?_, fun i j c c' v h1 h2 h3 h4 => ?_⟩
  · rw [wipeD_get] at h
    split at h
    · obtain ⟨_, _, e⟩ := Option.map_eq_some_iff.mp h
      subst e
      trivial
    · rename_i hi
      have e : (L2.wipe σV vs)[i]? = σV[i]? := by rw [wipe_get, if_neg hi]
      have q := rb.slot i s h
      cases s with
      | emp => trivial
      | exn b => first | exact q | exact (List.getElem?_set_ne e).trans q | exact e.trans q
      | val w => obtain ⟨v, hv, r⟩ := q; exact ⟨v, e.trans hv, r⟩
      | own c => obtain ⟨a, ha, q⟩ := q; exact ⟨a, e.trans ha, q⟩
  · obtain ⟨n1, h1⟩ := own h1
    obtain ⟨n2, h2⟩ := own h2
    rw [wipe_get, if_neg n1] at h3
    rw [wipe_get, if_neg n2] at h4
    exact rb.inj i j c c' v h1 h2 h3 h4
theorem RB.unwipe {I' : Hp} {ρ' : List Addr} {S' : Sto} {H' : Hp} {σ' : Sl} {vs : List Nat} (rb : RB K F I ρ S H σV σ) (g : Gr ρ I ρ' I') (no : noOwn σ vs = true) (rb' : RB K F I' ρ' S' H' (L2.wipe σV vs) σ') : RB K F I' ρ' S' H' σV (restD σ σ' vs) := by
  have own : ∀ {i : Nat} {c : D}, (restD σ σ' vs)[i]? = some (.own c) → i ∉ vs ∧ σ'[i]? = some (.own c) := fun {i c} h => by
    rw [restD_get] at h
    split at h
    · rename_i hi
      obtain ⟨_, _, e⟩ := Option.map_eq_some_iff.mp h
      have q := List.all_eq_true.mp no i hi
      cases z : σ[i]? with
      | none => rw [z] at e; cases e
      | some s =>
        rw [z] at e q
        have e2 : s = .own c := e
        subst e2
        cases q
    · rename_i hi; exact ⟨hi, h⟩
  refine ⟨rb'.fr, rb'.sub, rb'.dis, rb'.store, rb'.nd, rb'.rl, by rw [restD_len]; exact rb'.len.trans (wipe_length _ _), fun i s h => ?_, fun i j c c' v h1 h2 h3 h4 => ?_⟩
  · cases s with
    | emp => trivial
    | exn b =>
      rw [restD_get] at h
      split at h
      · rename_i hi
        obtain ⟨_, _, e⟩ := Option.map_eq_some_iff.mp h
        cases z : σ[i]? with
        | none => rw [z] at e; cases e
        | some s =>
          rw [z] at e
          have e2 : s = .exn b := e
          subst e2
          exact rb.slot i _ z
      · rename_i hi
        have hv : (L2.wipe σV vs)[i]? = some (some (.ref b)) := rb'.slot i _ h
        rw [wipe_get, if_neg hi] at hv
        exact hv
    | own c =>
      obtain ⟨hi, h⟩ := own h
      obtain ⟨a, ha, q⟩ := rb'.slot i _ h
      rw [wipe_get, if_neg hi] at ha
      exact ⟨a, ha, q⟩
    | val w =>
      rw [restD_get] at h
      split at h
      · rename_i hi
        obtain ⟨_, _, e⟩ := Option.map_eq_some_iff.mp h
        cases z : σ[i]? with
        | none => rw [z] at e; cases e
        | some s =>
          rw [z] at e
          have e2 : s = .val w := e
          subst e2
          obtain ⟨v, hv, r⟩ := rb.slot i _ z
          exact ⟨v, hv, r.gr g⟩
      · rename_i hi
        obtain ⟨v, hv, r⟩ := rb'.slot i _ h
        rw [wipe_get, if_neg hi] at hv
        exact ⟨v, hv, r⟩
  · obtain ⟨n1, h1⟩ := own h1
    obtain ⟨n2, h2⟩ := own h2
    refine rb'.inj i j c c' v h1 h2 ?_ ?_
    · rw [wipe_get, if_neg n1]; exact h3
    · rw [wipe_get, if_neg n2]; exact h4
theorem RB.addF (rb : RB K F I ρ S H σV σ) {p : Addr} {o : HO} (hp : H p = none) : RB K (upd F p o) I ρ S (upd H p o) σV σ := by
  obtain ⟨rb2, nf, ni, nr, no⟩ := rb.newO (o := o) hp
  refine ⟨fun a u h => ?_, rb2.sub, fun a u h => ?_, fun r ob h => ?_, rb2.nd, rb2.rl, rb2.len, fun i s h => ?_, rb2.inj⟩
  · by_cases e : a = p
    · subst e; rw [upd_same] at h ⊢; exact h
    · rw [upd_ne e] at h; exact rb2.fr a u h
  · by_cases e : a = p
    · subst e; exact fun _ => ni
    · rw [upd_ne e] at h; exact rb2.dis a u h
  · obtain ⟨a, ha, hf, hi, hc⟩ := rb2.store r ob h
    have n : a ≠ p := fun e => nr (e ▸ List.mem_of_getElem? ha)
    exact ⟨a, ha, hf.mono (fun z => by rw [upd_ne n]; exact z) (fun _ _ z => by rw [upd_ne n]; exact z), hi, hc⟩
  · have q := rb2.slot i s h
    cases s with
    | emp => trivial
    | exn b => first | exact q | exact (List.getElem?_set_ne e).trans q | exact e.trans q
    | val w => exact q
    | own c =>
      obtain ⟨a, ha, hf, hi, hr, ho⟩ := q
      have n : a ≠ p := fun e => no i c h (e ▸ ha)
      exact ⟨a, ha, by rw [upd_ne n]; exact hf, hi, hr, ho⟩
theorem RB.delF {p : Addr} {o : HO} (rb : RB K (upd F p o) I ρ S H σV σ) (hp : F p = none) (nz : ∀ ob u, o ≠ .frz ob u) (nt : ∀ vs, o ≠ .tup vs) : RB K F I ρ S H σV σ ∧ I p = none ∧ p ∉ ρ ∧ NoOwn σV σ p ∧ H p = some o := by
  have k : ∀ a u, F a = some u → upd F p o a = some u := fun a u h => by rw [upd_ne (ne_of_none h hp)]; exact h
  have kn : ∀ a, upd F p o a = none → F a = none ∧ a ≠ p := fun a h => by
    have n : a ≠ p := fun e => by subst e; rw [upd_same] at h; cases h
    rw [upd_ne n] at h
    exact ⟨h, n⟩
  refine ⟨⟨fun a u h => rb.fr a u (k a u h), rb.sub, fun a u h => rb.dis a u (k a u h), fun r ob h => ?_, rb.nd, rb.rl, rb.len, fun i s h => ?_, rb.inj⟩, rb.dis p o upd_same nt, fun hm => ?_, fun i c h1 h2 => ?_, rb.fr p o upd_same⟩
  · obtain ⟨a, ha, hf, hi, hc⟩ := rb.store r ob h
    refine ⟨a, ha, hf.mono (fun z => (kn a z).1) (fun ob u z => ?_), hi, hc⟩
    by_cases e : a = p
    · subst e; rw [upd_same] at z; cases z; exact absurd rfl (nz _ _)
    · rw [upd_ne e] at z; exact z
  · have q := rb.slot i s h
    cases s with
    | emp => trivial
    | exn b => first | exact q | exact (List.getElem?_set_ne e).trans q | exact e.trans q
    | val w => exact q
    | own c =>
      obtain ⟨a, ha, hf, q⟩ := q
      exact ⟨a, ha, (kn a hf).1, q⟩
  · obtain ⟨r, hr⟩ := List.getElem?_of_mem hm
    have lt : r < S.length := by rw [← rb.rl]; exact (List.getElem?_eq_some_iff.mp hr).1
    obtain ⟨a, ha, hf, _⟩ := rb.store r _ (List.getElem?_eq_getElem lt)
    rw [hr] at ha
    cases ha
    obtain ⟨ob, u, e⟩ := hf.not upd_same
    exact nz _ _ e
  · obtain ⟨a, ha, hf, _⟩ := rb.slot i _ h1
    rw [h2] at ha
    cases ha
    exact (kn _ hf).2 rfl
theorem RB.fset {p : Addr} {o o' : HO} (rb : RB K (upd F p o) I ρ S H σV σ) (hp : F p = none) (nz : ∀ ob u, o ≠ .frz ob u) (nt : ∀ vs, o ≠ .tup vs) : RB K (upd F p o') I ρ S (upd H p o') σV σ := by
  obtain ⟨rb2, ni, nr, no, _⟩ := rb.delF hp nz nt
  have k : ∀ b u, b ≠ p → H b = some u → upd H p o' b = some u := fun b u n h => by rw [upd_ne n]; exact h
  refine ⟨fun a u h => ?_, fun a u h => ?_, fun a u h => ?_, fun r ob h => ?_, rb2.nd, rb2.rl, rb2.len, fun i s h => ?_, rb2.inj⟩
  · by_cases e : a = p
    · subst e; rw [upd_same] at h ⊢; exact h
    · rw [upd_ne e] at h; exact k a u e (rb2.fr a u h)
  · have n := ne_of_none h ni
    rcases rb2.sub a u h with q | ⟨d, ob, q⟩
    · exact .inl (k _ _ n q)
    · exact .inr ⟨d, ob, k _ _ n q⟩
  · by_cases e : a = p
    · subst e; exact fun _ => ni
    · rw [upd_ne e] at h; exact rb2.dis a u h
  · obtain ⟨a, ha, hf, hi, hc⟩ := rb2.store r ob h
    have n : a ≠ p := fun e => nr (e ▸ List.mem_of_getElem? ha)
    exact ⟨a, ha, hf.mono (fun z => by rw [upd_ne n]; exact z) (fun _ _ z => by rw [upd_ne n]; exact z), hi, hc.gr Gr.refl fun u => k a u n⟩
  · have q := rb2.slot i s h
    cases s with
    | emp => trivial
    | exn b => first | exact q | exact (List.getElem?_set_ne e).trans q | exact e.trans q
    | val w => exact q
    | own c =>
      obtain ⟨a, ha, hf, hi, hr, ho⟩ := q
      have n : a ≠ p := fun e => no i c h (e ▸ ha)
      exact ⟨a, ha, by rw [upd_ne n]; exact hf, hi, hr, ho.gr Gr.refl fun u => k a u n⟩
end

def lcL (g : DG) (c : DT) (e : DE) (vs : List Nat) : List D → List D → Sl → Sto → Res (List D)
  | [], acc, σ, S => .ok acc σ S
  | d :: ds, acc, σ, S => match g d σ with
    | none => .fail
    | some σ1 => (c σ1 S).bind fun b σ2 S2 => if b = true then (dV e σ2 S2).bind fun w σ3 S3 => (if acc.length < most then lcL g c e vs ds (acc ++ [w]) (wipeD σ3 vs) S3 else .fail)
        else lcL g c e vs ds acc (wipeD σ2 vs) S2
def noX {α : Type} : Res α → Res α
  | .exc _ _ _ => .fail
  | r => r
def dLc (it : DI) (g : DG) (c : DT) (e : DE) (vs : List Nat) : DE := fun σ S => (it σ S).bind fun items σ S => if noOwn σ vs = true then (noX (lcL g c e vs items [] (wipeD σ vs) S)).bind fun ws σ' S' => .ok (.lst ws) (restD σ σ' vs) S' else .fail
def tTrue : DT := fun σ S => .ok true σ S
abbrev W0 : WX := fun _ _ _ _ => False
section
variable {X : Cx} {Wx : WX}
theorem cts_nil : PTs X [] (semT X.K Wx tTrue) := PTs.imp pts_nil fun σV H Q h => by
  obtain ⟨F, I, ρ, σ, S, rb, h⟩ := h
  exact h I ρ H true Gr.refl rb rfl
theorem cts_one {c : Expr} {t : DT} (h : ST X Wx c t) : PTs X [c] (semT X.K Wx t) := pts_one h
theorem sem_lc {own : List (Str × Nat)} {it : DI} {g : DG} {c : DT} {f : DE} {σV : L2.St} {H : Hp} {Q : VK} (h : semF X.K Wx (dLc it g c f (own.map (·.2))) σV H Q) : tLc (semI X.K Wx it) (semG X.K (own.map (·.2)) g) (semT X.K W0 c) (semV X.K W0 (dV f)) (own.map (·.2)) σV H Q := by
  obtain ⟨F, I, ρ, σ, S, rb, h⟩ := h
  refine ⟨F, I, ρ, σ, S, rb, ?_⟩
  unfold dLc at h
  generalize hvs : own.map (·.2) = vs at h ⊢
  cases e : it σ S with
  | exc a σ' S' => rw [e] at h; exact h
  | fail => rw [e] at h; exact h
  | ok items σ' S' =>
    rw [e] at h
    intro I' ρ' H' J g' rb' wk Dl hD
    have h : postF X.K Wx F I' ρ' σV (if noOwn σ' vs = true then (noX (lcL g c f vs items [] (wipeD σ' vs) S')).bind fun ws σ'' S'' => .ok (.lst ws) (restD σ' σ'' vs) S'' else .fail) Q := postF_gr g' h
    split at h
    case isFalse => exact h.elim
    case isTrue hno =>
    have hF : F Dl = none := by
      cases q : F Dl with
      | none => rfl
      | some o => have := rb'.fr _ _ q; rw [hD] at this; cases this
    have rb0 := rb'.wipe vs
    refine ⟨fun i m H => i + m = items.length ∧ ∃ I2 ρ2 σ2 S2 acc accV, Gr ρ' I' ρ2 I2 ∧ RB X.K (upd F Dl (.lst accV)) I2 ρ2 S2 H (L2.wipe σV vs) σ2 ∧ Reps X.K ρ2 I2 accV acc ∧
      postF X.K Wx F I2 ρ2 σV ((noX (lcL g c f vs (items.drop i) acc σ2 S2)).bind fun ws σ'' S'' => .ok (.lst ws) (restD σ' σ'' vs) S'') Q, ⟨items.length, Nat.zero_add _, I', ρ', wipeD σ' vs, S', [], [], Gr.refl, rb0.addF hD, .nil, h⟩, ?_⟩
    intro i m H2 ⟨hm, I2, ρ2, σ2, S2, acc, accV, g2, rb2, racc, h2⟩
    obtain ⟨w1, w2⟩ := wk (upd F Dl (.lst accV)) (fun a o q => by rw [upd_ne (ne_of_none q hF)]; exact q) I2 ρ2 S2 H2 _ σ2 g2 rb2
    cases m with
    | zero =>
      have hi : i = items.length := hm
      subst hi
      rw [List.drop_length] at h2
      have h2 : postF X.K Wx F I2 ρ2 σV (.ok (.lst acc) (restD σ' σ2 vs) S2) Q := h2
      obtain ⟨rb3, ni, nr, no, hH⟩ := rb2.delF hF (fun _ _ z => by cases z) (fun _ z => by cases z)
      have rb4 := rb'.unwipe g2 hno rb3
      refine .inl ⟨w2, h2 I2 ρ2 H2 _ Gr.refl rb4 (.inl ⟨Dl, rfl, hF, ni, nr, fun j cc q1 q2 => ?_, accV, hH, racc⟩)⟩
      obtain ⟨b, hb, hfb, hib, hrb, hob⟩ := rb4.slot j _ q1
      rw [q2] at hb
      cases hb
      rw [restD_get] at q1
      split at q1
      · rename_i hj
        obtain ⟨_, _, ee⟩ := Option.map_eq_some_iff.mp q1
        have qq := List.all_eq_true.mp hno j hj
        cases z : σ'[j]? with
        | none => rw [z] at ee; cases ee
        | some s =>
          rw [z] at ee qq
          have e2 : s = .own cc := ee
          subst e2
          cases qq
      · rename_i hj
        refine no j cc q1 ?_
        rw [wipe_get, if_neg hj]
        exact q2
    | succ m =>
      have lt : i < items.length := by omega
      rw [List.drop_eq_getElem_cons lt] at h2
      obtain ⟨go, yl⟩ := w1 i items[i] (List.getElem?_eq_getElem lt)
      refine .inr ⟨go, fun H3 => i + 1 + m = items.length ∧ ∃ I2 ρ2 σ2 S2 acc accV, Gr ρ' I' ρ2 I2 ∧ RB X.K (upd F Dl (.lst accV)) I2 ρ2 S2 H3 (L2.wipe σV vs) σ2 ∧ Reps X.K ρ2 I2 accV acc ∧
        postF X.K Wx F I2 ρ2 σV ((noX (lcL g c f vs (items.drop (i + 1)) acc σ2 S2)).bind fun ws σ'' S'' => .ok (.lst ws) (restD σ' σ'' vs) S'') Q, fun H' q => ⟨m, Nat.lt_succ_self m, q⟩, fun x H3 y => ?_⟩
      obtain ⟨I3, g3, rb3, r3⟩ := yl x H3 y
      unfold lcL at h2
      cases eg : g items[i] σ2 with
      | none => rw [eg] at h2; exact h2.elim
      | some σ3 =>
        rw [eg] at h2
        subst hvs
        refine ⟨_, I3, ρ2, σ2, S2, items[i], σ3, rb3, r3, eg, fun σV4 ew rb4 => ⟨ew.trans ?_, _, I3, ρ2, σ3, S2, rb4, ?_⟩⟩
        · apply List.ext_getElem?
          intro j
          rw [wipe_get, wipe_get]
          split
          · rw [Option.map_map]; rfl
          · rfl
        have ew2 : L2.wipe σV4 (own.map (·.2)) = L2.wipe σV (own.map (·.2)) := ew.trans (by
          apply List.ext_getElem?
          intro j
          rw [wipe_get, wipe_get]
          split
          · rw [Option.map_map]; rfl
          · rfl)
        have h2 : postF X.K Wx F I3 ρ2 σV ((noX ((c σ3 S2).bind fun b σ2 S2 => if b = true then (dV f σ2 S2).bind fun w σ3 S3 => (if acc.length < most then lcL g c f (own.map (·.2)) (items.drop (i + 1)) (acc ++ [w]) (wipeD σ3 (own.map (·.2))) S3 else .fail) else lcL g c f (own.map (·.2)) (items.drop (i + 1)) acc (wipeD σ2 (own.map (·.2))) S2)).bind fun ws σ'' S'' => .ok (.lst ws) (restD σ' σ'' (own.map (·.2))) S'') Q := postF_gr g3 h2
        cases ec : c σ3 S2 with
        | exc a σ5 S5 => rw [ec] at h2; exact h2.elim
        | fail => rw [ec] at h2; exact h2.elim
        | ok b σ5 S5 =>
          rw [ec] at h2
          intro I5 ρ5 H5 b' g5 rb5 tb
          subst tb
          cases b' with
          | false =>
            rw [if_neg Bool.false_ne_true]
            have h3 : postF X.K Wx F I3 ρ2 σV ((noX (lcL g c f (own.map (·.2)) (items.drop (i + 1)) acc (wipeD σ5 (own.map (·.2))) S5)).bind fun ws σ'' S'' => .ok (.lst ws) (restD σ' σ'' (own.map (·.2))) S'') Q := h2
            have rb6 := rb5.wipe (own.map (·.2))
            rw [ew2] at rb6
            exact ⟨by omega, I5, ρ5, _, S5, acc, accV, (g2.trans g3).trans g5, rb6, racc.gr (g3.trans g5), postF_gr g5 h3⟩
          | true =>
            rw [if_pos rfl]
            have h3 : postF X.K Wx F I5 ρ5 σV ((noX ((dV f σ5 S5).bind fun w σ3 S3 => (if acc.length < most then lcL g c f (own.map (·.2)) (items.drop (i + 1)) (acc ++ [w]) (wipeD σ3 (own.map (·.2))) S3 else .fail))).bind fun ws σ'' S'' => .ok (.lst ws) (restD σ' σ'' (own.map (·.2))) S'') Q := postF_gr g5 h2
            refine ⟨_, I5, ρ5, σ5, S5, rb5, ?_⟩
            cases ev : dV f σ5 S5 with
            | exc a σ7 S7 => rw [ev] at h3; exact h3.elim
            | fail => rw [ev] at h3; exact h3.elim
            | ok w σ7 S7 =>
              rw [ev] at h3
              intro I7 ρ7 H7 v7 g7 rb7 r7
              have h4 : postF X.K Wx F I5 ρ5 σV ((noX (if acc.length < most then lcL g c f (own.map (·.2)) (items.drop (i + 1)) (acc ++ [w]) (wipeD σ7 (own.map (·.2))) S7 else .fail)).bind fun ws σ'' S'' => .ok (.lst ws) (restD σ' σ'' (own.map (·.2))) S'') Q := h3
              split at h4
              · rename_i hl
                obtain ⟨_, _, _, _, hH⟩ := rb7.delF hF (fun _ _ z => by cases z) (fun _ z => by cases z)
                refine ⟨accV, hH, by rw [racc.length, ← most_eq]; exact hl, by omega, I7, ρ7, _, S7, acc ++ [w], accV ++ [v7], ((g2.trans g3).trans g5).trans g7, ?_, ((racc.gr ((g3.trans g5).trans g7)).append (.cons r7 .nil)), postF_gr g7 h4⟩
                have rb8 := (rb7.fset (o' := .lst (accV ++ [v7])) hF (fun _ _ z => by cases z) (fun _ z => by cases z)).wipe (own.map (·.2))
                rw [ew2] at rb8
                exact rb8
              · exact h4.elim
theorem cf_lc {elt tg iter : Expr} {ifs : List Expr} {scope : Scope} {own : List (Str × Nat)} {pos : Pos} {it : DI} {g : DG} {c : DT} {f : DE} (hN : X.N.Nodup) (ok : BlkOk X.N X.env.scope scope own) {vs : List Nat} (hvs : own.map (·.2) = vs) (hi : SI X Wx tg iter it)
    (hg : ∀ (s : Shared) (H : Hp) (C : Addr) (cl : List (Str × Addr)) (fp : List Addr), SG (X.blk s H scope (compEnvC scope cl C X.env) fp) vs tg g)
    (ht : ∀ (s : Shared) (H : Hp) (C : Addr) (cl : List (Str × Addr)) (fp : List Addr), PTs (X.blk s H scope (compEnvC scope cl C X.env) fp) ifs (semT X.K W0 c))
    (he : ∀ (s : Shared) (H : Hp) (C : Addr) (cl : List (Str × Addr)) (fp : List Addr), SE (X.blk s H scope (compEnvC scope cl C X.env) fp) W0 elt f) (hc : X.calm = true := by rfl) (hs : ∀ x, foldedSetIterable iter X.env x = pure x := by intro _; rfl) :
    SF X Wx (.ListComp elt [⟨tg, iter, ifs, 0⟩] scope pos) (dLc it g c f vs) := by
  subst hvs
  exact PE.imp (pe_lc (g := semG X.K (own.map (·.2)) g) (tt := semT X.K W0 c) (te := semV X.K W0 (dV f)) hc hN hi ok hg ht (fun s H C cl fp => c_v (he s H C cl fp)) hs) fun _ _ _ h => sem_lc h
end
end MR

set_option Elab.async false
set_option linter.all false
set_option maxRecDepth 100000
namespace MR
open PySem PySem.Spec PyProof.Rows L2

section
variable {K : PySem.W.Frag} {X : Cx} {Wx : WX}
/-- flat data and their == -/
def flatD : D → Bool
  | .non => true | .bl _ => true | .int _ => true | .str _ => true
  | _ => false
def toV : D → V
  | .bl b => .bl b
  | .int i => .int i
  | .str x => .str x
  | _ => .non
def inD (x : D) (xs : List D) : Bool := inV (toV x) (xs.map toV)
theorem Rep.flat {ρ : List Addr} {I : Hp} {v : V} {w : D} (r : Rep K ρ I v w) (h : flatD w = true) : v = toV w ∧ flatV v = true := by
  cases r <;> first | exact ⟨rfl, rfl⟩ | cases h
theorem Reps.flat {ρ : List Addr} {I : Hp} : ∀ {vs : List V} {ws : List D}, Reps K ρ I vs ws → ws.all flatD = true → vs = ws.map toV ∧ vs.all flatV = true
  | _, _, .nil, _ => ⟨rfl, rfl⟩
  | _, _, .cons h r, e => by
    rw [List.all_cons, Bool.and_eq_true] at e
    obtain ⟨e1, e2⟩ := h.flat e.1
    obtain ⟨e3, e4⟩ := r.flat e.2
    exact ⟨by rw [e1, e3]; rfl, by rw [List.all_cons, e2, e4]; rfl⟩
theorem At.flat {ρ : List Addr} {I H : Hp} {v : V} {a : D} (r : At K ρ I H v a) (h : flatD a = true) : v = toV a ∧ flatV v = true := by
  cases a <;> first | (cases h; done) | (have r : v = _ := r; subst r; exact ⟨rfl, rfl⟩)
def inA : D → D → Option Bool
  | .str x, .str z => (match x.cps.toList with
    | [c] => some (decide (c ∈ z.cps.toList))
    | _ => none)
  | x, .lst xs => if flatD x && xs.all flatD then some (inD x xs) else none
  | x, .tup xs => if flatD x && xs.all flatD then some (inD x xs) else none
  | _, _ => none
def opIn (a b : D) : Option D := (inA a b).map D.bl
def opNotIn (a b : D) : Option D := (inA a b).map fun x => D.bl (!x)
def rInA (K : PySem.W.Frag) : R2 := fun x y H Q => (∃ (c : Nat) (z : Str), x = .str ⟨#[c]⟩ ∧ y = .str z ∧ Q (.bl (decide (c ∈ z.cps.toList))) H) ∨ rIn K false x y H Q
theorem op_inA : OpR X (compareOp .In) (rInA X.K) := op_in_sign.or op_in_seq
theorem inA_cases {ρ : List Addr} {I H : Hp} {v1 v2 : V} {a b : D} {x : Bool} (h1 : At K ρ I H v1 a) (h2 : At K ρ I H v2 b) (e : inA a b = some x) :
    (∃ (c : Nat) (z : Str), v1 = .str ⟨#[c]⟩ ∧ v2 = .str z ∧ decide (c ∈ z.cps.toList) = x) ∨ ∃ p xs, v2 = .ref p ∧ (SqL K H p xs ∨ SqT K H p xs) ∧ flatV v1 = true ∧ xs.all flatV = true ∧ inV v1 xs = x := by
  unfold inA at e
  split at e
  · rename_i x0 z0
    cases h1; cases h2
    cases hx : x0.cps.toList with
    | nil => rw [hx] at e; cases e
    | cons c r =>
      rw [hx] at e
      cases r with
      | cons _ _ => cases e
      | nil =>
        cases e
        have : x0 = ⟨#[c]⟩ := by
          obtain ⟨⟨l⟩⟩ := x0
          have : l = [c] := hx
          subst this
          rfl
        subst this
        exact .inl ⟨c, z0, rfl, rfl, rfl⟩
  · obtain ⟨p, vs, rfl, hp, r⟩ := h2
    split at e
    · rename_i hf
      obtain ⟨f1, f2⟩ := Bool.and_eq_true_iff.mp hf
      cases e
      obtain ⟨e1, e2⟩ := h1.flat f1
      obtain ⟨e3, e4⟩ := r.flat f2
      exact .inr ⟨p, vs, rfl, .inl (SqL_at hp), e2, e4, by rw [e1, e3]; rfl⟩
    · cases e
  · obtain ⟨p, vs, rfl, hp, r⟩ := h2
    split at e
    · rename_i hf
      obtain ⟨f1, f2⟩ := Bool.and_eq_true_iff.mp hf
      cases e
      obtain ⟨e1, e2⟩ := h1.flat f1
      obtain ⟨e3, e4⟩ := r.flat f2
      exact .inr ⟨p, vs, rfl, .inr hp, e2, e4, by rw [e1, e3]; rfl⟩
    · cases e
  · cases e
theorem os_in : OpS K (rInA K) opIn := by
  intro F I ρ S H σV σ v1 v2 a b z Q rb h1 h2 ez q
  obtain ⟨x, e, rfl⟩ := Option.map_eq_some_iff.mp ez
  rcases inA_cases h1 h2 e with ⟨c, z, rfl, rfl, hx⟩ | ⟨p, xs, rfl, hp, f1, f2, hx⟩
  · exact .inl ⟨c, z, rfl, rfl, by rw [hx]; exact q I H _ Gr.refl rb .bl⟩
  · exact .inr ⟨p, xs, rfl, hp, f1, f2, by rw [hx]; exact q I H _ Gr.refl rb .bl⟩
theorem c_in {a b : Expr} {pos : Pos} {f g : DE} (ha : SE X Wx a f) (hb : SE X Wx b g) (hm : behindInMarks .In b = false := by rfl) : SE X Wx (.Compare a [.In] [b] pos) (d2 opIn f g) := c_cmp op_inA os_in ha hb hm
theorem ct_in {a b : Expr} {pos : Pos} {f g : DE} (ha : SE X Wx a f) (hb : SE X Wx b g) (hm : behindInMarks .In b = false := by rfl) : ST X Wx (.Compare a [.In] [b] pos) (tVal (d2 opIn f g)) := ct_cmp op_inA os_in ha hb hm
def dChain (op op' : D → D → Option D) (f g h : DE) : DE := fun σ S => (f σ S).bind fun x σ S => (g σ S).bind fun y σ S => match (deref σ S x).bind fun a => (deref σ S y).bind fun b => op a b with
  | some (.bl true) => (h σ S).bind fun z σ S => ofOpt ((deref σ S y).bind fun a => (deref σ S z).bind fun b => op' a b) σ S
  | some (.bl false) => .ok (.bl false) σ S
  | _ => .fail
theorem sem_chain {r r' : R2} {op op' : D → D → Option D} {f g h : DE} (ho : OpS X.K r op) (ho' : OpS X.K r' op') {σV : L2.St} {H : Hp} {Q : VK} (hh : semE X.K Wx (dChain op op' f g h) σV H Q) : tChain r r' (semE X.K Wx f) (semE X.K Wx g) (semE X.K Wx h) σV H Q := by
  obtain ⟨F, I, ρ, σ, S, rb, hh⟩ := hh
  refine ⟨F, I, ρ, σ, S, rb, post_bind hh fun I1 ρ1 σ1 S1 H1 x v1 _ g1 rb1 t1 h1 => ?_⟩
  refine ⟨F, I1, ρ1, σ1, S1, rb1, post_bind h1 fun I2 ρ2 σ2 S2 H2 y v2 _ g2 rb2 t2 h2 => ?_⟩
  cases ez : (deref σ2 S2 x).bind fun a => (deref σ2 S2 y).bind fun b => op a b with
  | none => rw [ez] at h2; exact h2.elim
  | some z =>
    rw [ez] at h2
    obtain ⟨a, ea, ez⟩ := Option.bind_eq_some_iff.mp ez
    obtain ⟨b, eb, ez⟩ := Option.bind_eq_some_iff.mp ez
    refine ho F I2 ρ2 S2 H2 σV σ2 v1 v2 a b z _ rb2 (rb2.at (t1.gr g2) ea) (rb2.at t2 eb) ez fun I3 H3 v3 g3 rb3 r3 => ?_
    cases z with
    | bl k =>
      cases r3
      refine ⟨k, rfl, ?_⟩
      cases k with
      | false =>
        rw [if_neg Bool.false_ne_true]
        exact (post_gr g3 h2) I3 ρ2 H3 _ Gr.refl rb3 (.inr .bl)
      | true =>
        rw [if_pos rfl]
        refine ⟨F, I3, ρ2, σ2, S2, rb3, post_bind (post_gr g3 h2) fun I4 ρ4 σ4 S4 H4 w v4 _ g4 rb4 t4 h4 => ?_⟩
        obtain ⟨z4, ez4, h5⟩ := post_opt h4
        obtain ⟨a4, ea4, ez4⟩ := Option.bind_eq_some_iff.mp ez4
        obtain ⟨b4, eb4, ez4⟩ := Option.bind_eq_some_iff.mp ez4
        exact ho' F I4 ρ4 S4 H4 σV σ4 v2 v4 a4 b4 z4 Q rb4 (rb4.at ((t2.gr g3).gr g4) ea4) (rb4.at t4 eb4) ez4 fun I' H' v g' rb' r' => h5 I' ρ4 H' v g' rb' (.inr r')
    | _ => exact h2.elim
theorem c_chain {a b c : Expr} {o o' : CmpOp} {pos : Pos} {r r' : R2} {op op' : D → D → Option D} {f g h : DE} (hr : OpR X (compareOp o) r) (hs : OpS X.K r op) (hr' : OpR X (compareOp o') r') (hs' : OpS X.K r' op') (ha : SE X Wx a f) (hb : SE X Wx b g) (hc : SE X Wx c h) (hm : lastMarks [o, o'] [b, c] = false := by with_unfolding_all rfl) :
    SE X Wx (.Compare a [o, o'] [b, c] pos) (dChain op op' f g h) := PE.imp (pe_chain hr hr' ha hb hc hm) fun _ _ _ q => sem_chain hs hs' q
theorem ct_chain {a b c : Expr} {o o' : CmpOp} {pos : Pos} {r r' : R2} {op op' : D → D → Option D} {f g h : DE} (hr : OpR X (compareOp o) r) (hs : OpS X.K r op) (hr' : OpR X (compareOp o') r') (hs' : OpS X.K r' op') (ha : SE X Wx a f) (hb : SE X Wx b g) (hc : SE X Wx c h) (hm : lastMarks [o, o'] [b, c] = false := by with_unfolding_all rfl) :
    ST X Wx (.Compare a [o, o'] [b, c] pos) (tVal (dChain op op' f g h)) := PT.imp (pt_chain hr hr' ha hb hc hm) fun _ _ _ q => sem_chain hs hs' (sem_tval q)

def repS (z : Str) (n : Nat) : Str := ⟨(List.replicate n z.cps.toList).flatten.toArray⟩
theorem foldl_app (l : List (Array Nat)) : ∀ a : Array Nat, (l.foldl (· ++ ·) a).toList = a.toList ++ (l.map (·.toList)).flatten := by
  induction l with
  | nil => intro a; simp
  | cons x r ih => intro a; rw [List.foldl_cons, ih]; simp
theorem mul_rep (z : Str) (n : Int) (h : 0 ≤ n) : Txt.mul z n = repS z n.toNat := by
  unfold Txt.mul repS
  split
  · rename_i h1
    have : n = 0 := by omega
    subst this
    rfl
  · split
    · rename_i h1 h2
      rcases Bool.or_eq_true_iff.mp h2 with h3 | h3
      · have : n = 1 := eq_of_beq h3
        subst this
        simp
      · have : z.length = 0 := eq_of_beq h3
        obtain ⟨⟨l⟩⟩ := z
        have : l = [] := List.eq_nil_of_length_eq_zero this
        subst this
        simp
    · congr 1
      apply Array.toList_inj.mp
      rw [foldl_app]
      simp
def opMul' : D → D → Option D
  | .int i, .int j => if mulOk i j then some (.int (i * j)) else none
  | .str z, .int j => if 0 ≤ j ∧ j ≤ 1000000 ∧ z.length * j.toNat ≤ most then some (.str (repS z j.toNat)) else none
  | .lst xs, .int j => if 0 ≤ j ∧ j ≤ 1000000 ∧ xs.length * j.toNat ≤ most then some (.lst (List.replicate j.toNat xs).flatten) else none
  | _, _ => none
def rMulA : R2 := fun x y H Q => rI CMulW (fun i j => .int (i * j)) x y H Q ∨ ((∃ z j, x = .str z ∧ y = .int j ∧ MulOk z j ∧ Q (.str (Txt.mul z j)) H) ∨ rRep x y H Q)
theorem op_mul_str : OpR X (binaryOp .Mult) (fun x y H Q => ∃ z j, x = .str z ∧ y = .int j ∧ MulOk z j ∧ Q (.str (Txt.mul z j)) H) := by
  intro pins s σ H x y v u Q I rx ry h
  obtain ⟨z, j, rfl, rfl, hok, q⟩ := h
  obtain ⟨t, rfl⟩ := rx
  obtain ⟨t', rfl⟩ := ry
  exact SB.mul hok fun t' k => ⟨.str _, H, I.tok _, ⟨_, rfl⟩, q⟩
theorem op_mulA : OpR X (binaryOp .Mult) rMulA := op_mulW.or (op_mul_str.or op_rep)
theorem Reps.rep {ρ : List Addr} {I : Hp} {vs : List V} {ws : List D} (r : Reps K ρ I vs ws) : ∀ n : Nat, Reps K ρ I (List.replicate n vs).flatten (List.replicate n ws).flatten
  | 0 => .nil
  | n + 1 => by
    rw [List.replicate_succ, List.replicate_succ, List.flatten_cons, List.flatten_cons]
    exact r.append (Reps.rep r n)
theorem os_mul' : OpS K rMulA opMul' := by
  intro F I ρ S H σV σ v1 v2 a b z Q rb h1 h2 ez q
  unfold opMul' at ez
  split at ez
  · cases h1; cases h2
    split at ez
    · rename_i h
      cases ez
      exact .inl ⟨_, _, rfl, rfl, h, q I H _ Gr.refl rb .int⟩
    · cases ez
  · cases h1; cases h2
    split at ez
    · rename_i z j h
      cases ez
      refine .inr (.inl ⟨z, j, rfl, rfl, ⟨?_, fun h1 h2 => ?_, fun h1 h2 => ?_⟩, ?_⟩)
      · rw [Bool.or_eq_false_iff]
        exact ⟨decide_eq_false (by omega), decide_eq_false (by omega)⟩
      · have e2 : (z.length : Int) * j ≤ 2 ^ 63 - 1 := by
          have e3 : (z.length : Int) * j = ((z.length * j.toNat : Nat) : Int) := by
            rw [Int.natCast_mul, Int.toNat_of_nonneg h.1]
          have := h.2.2
          unfold most at this
          rw [e3]
          omega
        have := Int.le_ediv_of_mul_le (by omega) e2
        omega
      · have := h.2.2
        rw [most_eq] at this
        exact decide_eq_false (by omega)
      · rw [mul_rep z j h.1]
        exact q I H _ Gr.refl rb .str
    · cases ez
  · cases h2
    obtain ⟨a, vs, rfl, ha, ra⟩ := h1
    split at ez
    · rename_i xs j h
      cases ez
      refine .inr (.inr ⟨a, j, vs, rfl, rfl, ha, by omega, by omega, by rw [ra.length, ← most_eq]; exact h.2.2, fun p hp => ?_⟩)
      obtain ⟨g, rb2⟩ := rb.new (o := .lst (List.replicate j.toNat vs).flatten) hp
      exact q _ _ _ g rb2 (.lst upd_same ((ra.rep _).gr g))
    · cases ez
  · cases ez

def strsD : List D → Option (List Str)
  | [] => some []
  | .str x :: r => (strsD r).map fun ys => x :: ys
  | _ => none
theorem Reps.strs {ρ : List Addr} {I : Hp} : ∀ {vs : List V} {ws : List D} {ys : List Str}, Reps K ρ I vs ws → strsD ws = some ys → vs = ys.map V.str
  | _, _, _, .nil, e => by cases e; rfl
  | _, _, _, .cons h r, e => by
    unfold strsD at e
    split at e
    · rename_i h1; cases h1
    · rename_i b rest h1
      cases h1
      obtain ⟨bs, e1, rfl⟩ := Option.map_eq_some_iff.mp e
      cases h
      rw [Reps.strs r e1]
      rfl
    · cases e
def opJoin : D → D → Option D
  | .str a, .lst xs => (strsD xs).bind fun ys => if (ys.map (·.length)).sum + ys.length * a.length ≤ most then some (.str (Txt.join a ys)) else none
  | _, _ => none
/-- a method of a text with one argument -/
def dS1 (op : D → D → Option D) (f g : DE) : DE := fun σ S => (f σ S).bind fun x σ S => match x with
  | .str a => (g σ S).bind fun y σ S => ofOpt ((deref σ S y).bind fun b => op (.str a) b) σ S
  | _ => .fail
def MS1 (K : PySem.W.Frag) (r : V → List V → Hp → VK → Prop) (op : D → D → Option D) : Prop := ∀ (F I : Hp) (ρ : List Addr) (S : Sto) (H : Hp) (σV : L2.St) (σ : Sl) (x : Str) (v : V) (a z : D) (Q : VK), RB K F I ρ S H σV σ → At K ρ I H v a → op (.str x) a = some z →
  (∀ I' H' v, Gr ρ I ρ I' → RB K F I' ρ S H' σV σ → ((∃ a, v = .ref a ∧ Fresh K F I' ρ H' σV σ a z) ∨ (scalar z = true ∧ Rep K ρ I' v z)) → Q v H') → r (.str x) [v] H Q
theorem cf_s1 {o e : Expr} {id : String} {name : Str} {apos pos : Pos} {f g : DE} {op : D → D → Option D} {r : V → List V → Hp → VK → Prop} (slot : PySem.Slot "str" name id) (ty : typeOf (.builtin id) = pure (.type "method_descriptor")) (rule : MtR X id r) (hs : MS1 X.K r op) (ho : SE X Wx o f) (he : SE X Wx e g)
    (hst : starEach [e] X.env = [(false, eval e X.env)] := by rfl) (hbase : attributeBase o name X.env (eval o X.env) = eval o X.env := by rfl) (hline : (apos.endLine == pos.line) = true := by rfl) : SF X Wx (.Call (.Attribute o name apos) [e] [] pos) (dS1 op f g) := by
  refine PE.imp (pe_m1 slot ty rule ho he hst hbase hline) fun σV H Q h => ?_
  obtain ⟨F, I, ρ, σ, S, rb, h⟩ := h
  refine ⟨F, I, ρ, σ, S, rb, postF_bind h fun I1 ρ1 σ1 S1 H1 x v1 _ g1 rb1 t1 h1 => ?_⟩
  rcases t1 with ⟨i, rfl, _⟩ | t1
  · exact h1.elim
  · cases t1 with
    | @str a =>
      refine ⟨⟨a, rfl⟩, F, I1, ρ1, σ1, S1, rb1, postF_bind h1 fun I2 ρ2 σ2 S2 H2 y v2 _ g2 rb2 t2 h2 => ?_⟩
      cases ez : (deref σ2 S2 y).bind fun b => op (.str a) b with
      | none => rw [ez] at h2; exact h2.elim
      | some z =>
        rw [ez] at h2
        obtain ⟨b, eb, ez⟩ := Option.bind_eq_some_iff.mp ez
        exact hs F I2 ρ2 S2 H2 σV σ2 a v2 b z Q rb2 (rb2.at t2 eb) ez fun I' H' v g' rb' r' => h2 I' ρ2 H' v g' rb' r'
    | _ => exact h1.elim
theorem m_join : MS1 K (fun x xs H Q => ∃ a p, ∃ ys : List Str, x = .str a ∧ xs = [.ref p] ∧ (SqL K H p (ys.map V.str) ∨ SqT K H p (ys.map V.str)) ∧ (ys.map (·.length)).sum + ys.length * a.length ≤ 16777216 ∧ Q (.str (Txt.join a ys)) H) opJoin := by
  intro F I ρ S H σV σ x v a z Q rb h ez q
  unfold opJoin at ez
  split at ez
  · rename_i a0 xs e1
    cases e1
    obtain ⟨p, vs, rfl, hp, r⟩ := h
    obtain ⟨ys, e2, ez⟩ := Option.bind_eq_some_iff.mp ez
    have := r.strs e2
    subst this
    split at ez
    · rename_i hl
      cases ez
      exact ⟨_, p, ys, rfl, rfl, .inl (SqL_at hp), hl, q I H _ Gr.refl rb (.inr ⟨rfl, .str⟩)⟩
    · cases ez
  · cases ez
theorem cf_join {o e : Expr} {apos pos : Pos} {f g : DE} (ho : SE X Wx o f) (he : SE X Wx e g) (hst : starEach [e] X.env = [(false, eval e X.env)] := by rfl) (hbase : attributeBase o "join" X.env (eval o X.env) = eval o X.env := by rfl) (hline : (apos.endLine == pos.line) = true := by rfl) : SF X Wx (.Call (.Attribute o "join" apos) [e] [] pos) (dS1 opJoin f g) :=
  cf_s1 PySem.F.slot_str_join PySem.F.type_str_join mt_join m_join ho he hst hbase hline
end
end MR

set_option Elab.async false
set_option linter.all false
set_option maxRecDepth 100000
namespace MR
open PySem PySem.Spec PyProof.Rows L2

section
variable {X : Cx} {Wx : WX}
theorem op_eqA {k : Nat} (hr : Room k X.A) : OpR X (compareOp .Eq) (rEqA X.K) := op_eq.or (op_eqD hr.units)
theorem op_neA {k : Nat} (hr : Room k X.A) : OpR X (compareOp .NotEq) (rNeA X.K) := op_ne.or (op_neD hr.units)
/-- a constant of the module -/
theorem c_gstr {x z : Str} {pos : Pos} (h : ∃ t, X.mg x = some (.str z t)) (hg : Gl X x := by rfl) (hd : (x == ("__debug__" : Str)) = false := by decide) : SE X Wx (.Name x pos) (dC (.str z)) := by
  obtain ⟨t, h⟩ := h
  exact c_glob (v := .str z) h ⟨t, rfl⟩ (fun _ _ => .str) hg hd
theorem c_gint {x : Str} {z : Int} {pos : Pos} (h : ∃ t, X.mg x = some (.int z t)) (hg : Gl X x := by rfl) (hd : (x == ("__debug__" : Str)) = false := by decide) : SE X Wx (.Name x pos) (dC (.int z)) := by
  obtain ⟨t, h⟩ := h
  exact c_glob (v := .int z) h ⟨t, rfl⟩ (fun _ _ => .int) hg hd
def pairD : List D → Bool
  | [.str _, .str _] => true
  | _ => false
theorem pair_rep {K : PySem.W.Frag} {ρ : List Addr} {I : Hp} {vs : List V} {ws : List D} (r : Reps K ρ I vs ws) : pairV vs = pairD ws := by
  cases r with
  | nil => rfl
  | cons h r =>
    cases r with
    | nil => cases h <;> rfl
    | cons h2 r =>
      cases r with
      | nil => cases h <;> cases h2 <;> rfl
      | cons _ _ => cases h <;> cases h2 <;> rfl
def dNeg (f : DE) : DE := fun σ S => (f σ S).bind fun x σ S => match x with
  | .int i => .ok (.int (-i)) σ S
  | _ => .fail
theorem c_neg {a : Expr} {pos : Pos} {f : DE} (h : SE X Wx a f) : SE X Wx (.UnaryOp .USub a pos) (dNeg f) := by
  refine PE.imp (pe_un un_neg h) fun σV H Q h => ?_
  obtain ⟨F, I, ρ, σ, S, rb, h⟩ := h
  refine ⟨F, I, ρ, σ, S, rb, post_bind h fun I1 ρ1 σ1 S1 H1 x v1 _ g1 rb1 t1 h1 => ?_⟩
  rcases t1 with ⟨i, rfl, _⟩ | t1
  · exact h1.elim
  · cases t1 with
    | int => exact ⟨_, rfl, h1 I1 ρ1 H1 _ Gr.refl rb1 (.inr .int)⟩
    | _ => exact h1.elim
theorem la_nil : ∀ (σ : Sl) (S : Sto) (ws : List D) (σ' : Sl) (S' : Sto), aNil σ S = .ok ws σ' S' → ws.length = 0 := fun σ S ws σ' S' h => by cases h; rfl
theorem la_cons {f : DE} {r : DA} {n : Nat} (k : ∀ (σ : Sl) (S : Sto) (ws : List D) (σ' : Sl) (S' : Sto), r σ S = .ok ws σ' S' → ws.length = n) : ∀ (σ : Sl) (S : Sto) (ws : List D) (σ' : Sl) (S' : Sto), aCons f r σ S = .ok ws σ' S' → ws.length = n + 1 := fun σ S ws σ' S' h => by
  unfold aCons at h
  cases e : dV f σ S with
  | exc a _ _ => rw [e] at h; cases h
  | fail => rw [e] at h; cases h
  | ok w σ1 S1 =>
    rw [e] at h
    dsimp only [Res.bind] at h
    cases e2 : r σ1 S1 with
    | exc a _ _ => rw [e2] at h; cases h
    | fail => rw [e2] at h; cases h
    | ok w2 σ2 S2 =>
      rw [e2] at h
      cases h
      rw [List.length_cons, k _ _ _ _ _ e2]
/-- x += e at a slot, ints -/
def sAug (i : Nat) (op : Int → Int → Int) (f : DE) : DS := fun σ S => match σ[i]? with
  | some (.val (.int a)) => (f σ S).bind fun y σ S => (match y with
    | .int b => .ok .next (σ.set i (.val (.int (op a b)))) S
    | _ => .fail)
  | _ => .fail
end

/-- a def of the module, from what the head tells of it -/
theorem fn_mk {fr : Bool} {P : Program} {w : World} {K : PySem.W.Frag} {mg : Str → Option Value} {base : Heap} {x : Str} {params : Arguments} {body : List Stmt} {scope : Scope} {f : Addr} {fd : FuncData} {N ps : List Str} {k n m : Nat} {d : DS}
    (FD : FunD K x x params body scope [] [] f fd) (hm : mg x = some (.ref f)) (S : FnScope N ps scope) (hn : N.length = n) (hp : ps.length = m)
    (hbind : ∀ (kV doc pm : Value) (an : Option Addr) (cdv ct : Value) (us : List Value), us.length = ps.length → bindArgs (PySem.W.fnOf x x params body scope .none kV doc pm an cdv ct) ⟨us, []⟩ = pure (ps.zip us))
    (hb : ∀ (cdv : Value) (A : Around) (outer : List Env) (s : Shared) (H : Hp) (E : XK), Room k (A.deeper (envOfC x scope s.heap.objs.size f cdv)) →
      SSs fr (cxOf (L2.CX P w) P w K mg base N x scope f cdv A outer s H E) (fun cls d _ H => E cls d H) body d) : Fn fr P w K mg base x (k + 1) m (dDef n d) := by
  subst hp
  exact ⟨f, fd, ps, hm, FD.kp, FD.bindsN hbind, rfl, def_ok FD S hn hb⟩
/-- the law's end -/
theorem law_sp {K : PySem.W.Frag} {d : Den} (h : ∀ ns : List Int, ns.length ≤ 63 → ∃ S', d [.scr ns] [] = .ok (.bl true) S') (H : Hp) (a : Addr) (ns : List Int) (hl : ns.length ≤ 63) (hS : SqL K H a (ns.map V.int)) : spD false K 1 d [.ref a] H (fun v _ => v = .bl true) fun _ _ _ => False := by
  obtain ⟨S', e⟩ := h ns hl
  refine ⟨rfl, fun _ => none, H, [], [], [.scr ns], ⟨fun a o h => (nomatch h), fun a o h => .inl h, fun a o h => (nomatch h), fun r o h => (by simp at h), fun r r' a h => (by simp at h), rfl, rfl, fun i s h => (by simp at h), fun i j c c' v h => (by simp at h)⟩, .cons (.scr hS) .nil, ?_⟩
  rw [e]
  intro I' ρ' H' v g rb r
  cases r
  rfl
theorem fnok_w {P : Program} {w : World} {K : PySem.W.Frag} {mg : Str → Option Value} {base : Heap} {k : Nat} {f : Addr} {fd : FuncData} {ps : List Str} {sp : Sp} (h : FnOk P w K mg base (L2.CX P w) k f fd ps sp) : FnOk P w K mg base (fun a b c d e f => ∃ w, L2.CX P w a b c d e f) k f fd ps sp := by
  refine ⟨h.len, fun A outer s H args us vs Q E hr he hb hv hs => codeAny_mono (h.run A outer s H args us vs Q E hr he hb hv hs) fun r s' q => ?_⟩
  cases r with
  | error e => exact ⟨w, q⟩
  | ok fl => cases fl <;> exact q
theorem cx_no {P : Program} {w : World} {l : List Env} {H : Hp} {s : Shared} {e : Value} {s' : Shared} (h : L2.CX P w l H s (fun _ _ _ => False) e s') : False := by
  obtain ⟨_, _, _, _, _, _, _, _, _, _, _, _, z⟩ := h
  exact z
end MR

set_option Elab.async false
set_option linter.all false
set_option maxRecDepth 100000
namespace MR
open PySem PySem.Spec PyProof.Rows L2

section
variable {K : PySem.W.Frag}
def opList : D → Option D
  | .lst xs => some (.lst xs)
  | .tup xs => some (.lst xs)
  | _ => none
def opTuple : D → Option D
  | .lst xs => some (.tup xs)
  | _ => none
theorem b_tuple : B1 K (fun xs H Q => ∃ p ys, xs = [.ref p] ∧ ((SqL K H p ys ∧ ∀ l, H l = none → Q (.ref l) (upd H l (.tup ys))) ∨ (SqT K H p ys ∧ Q (.ref p) H))) opTuple := by
  intro F I ρ S H σV σ v a z Q rb h ez q
  unfold opTuple at ez
  split at ez
  · cases ez
    obtain ⟨a, vs, rfl, ha, r⟩ := h
    refine ⟨a, vs, rfl, .inl ⟨SqL_at ha, fun p hp => ?_⟩⟩
    obtain ⟨g, rb2⟩ := rb.new (o := .tup vs) hp
    exact q _ _ _ g rb2 (.tup (.inl upd_same) (r.gr g))
  · cases ez
def dvOf : D → He.Dv
  | .bl b => .bl b
  | .int i => .int i
  | .str x => .str x
  | _ => .non
theorem reps_dv {ρ : List Addr} {I : Hp} : ∀ ws : List D, ws.all flatD = true → Reps K ρ I ((ws.map dvOf).map (He.Dv.v K)) ws
  | [], _ => .nil
  | w :: ws, h => by
    rw [List.all_cons, Bool.and_eq_true] at h
    refine .cons ?_ (reps_dv ws h.2)
    cases w with
    | non => exact .non
    | bl b => exact .bl
    | int i => exact .int
    | str x => exact .str
    | _ => cases h.1
end
/-- the head's facts: as HeadHook2's, with tuples -/
abbrev Tups : Type := List (Str × List D)
def tupsOk (tb : Tups) (K : PySem.W.Frag) : Bool := tb.all fun t => He.tupB K t.1 (t.2.map dvOf)
abbrev AlM : Type := He.AlD × Bool
structure SaysM (fa : List He.Fa) (fn : List He.DefD) (tb : Tups) (K : PySem.W.Frag) : Prop where
  d : He.SaysD fa fn K
  t : tupsOk tb K = true
theorem SaysM.tup {fa : List He.Fa} {fn : List He.DefD} {tb : Tups} {K : PySem.W.Frag} (c : SaysM fa fn tb K) (i : Nat) {t : Str × List D} (h : tb[i]? = some t := by rfl) : He.tupB K t.1 (t.2.map dvOf) = true := List.all_eq_true.mp c.t t (List.mem_of_getElem? h)
end MR

set_option Elab.async false
set_option linter.all false
set_option maxRecDepth 100000
namespace MR
open PySem PySem.Spec PyProof.Rows L2

theorem ofString_inj {a b : String} (h : Str.ofString a = Str.ofString b) : a = b := by
  rw [Str.ofString_eq_toList, Str.ofString_eq_toList] at h
  injection h with h
  have h := congrArg Array.toList h
  simp only at h
  have : a.toList = b.toList := List.map_inj_right (fun x y hxy => Char.ext (UInt32.toNat_inj.mp hxy)) |>.mp h
  rw [← String.ofList_toList (s := a), ← String.ofList_toList (s := b), this]

section
variable {X : Cx} {Wx : WX} {fr : Bool}
theorem _root_.L2.PE.or {e : Expr} {t t1 t2 : TE} (h1 : PE X e t1) (h2 : PE X e t2) (i : ∀ σ H Q, t σ H Q → t1 σ H Q ∨ t2 σ H Q) : PE X e t := ⟨fun pins s σ H Q I q => (i σ H Q q).elim (h1.run pins s σ H Q I) (h2.run pins s σ H Q I)⟩
theorem _root_.L2.PS.or {e : Stmt} {t t1 t2 : TS} (h1 : PS X e t1) (h2 : PS X e t2) (i : ∀ D σ H, t D σ H → t1 D σ H ∨ t2 D σ H) : PS X e t := ⟨fun pins s σ H D I q => (i D σ H q).elim (h1.run pins s σ H D I) (h2.run pins s σ H D I)⟩
theorem c_or2 {e : Expr} {f f1 f2 : DE} (h1 : SE X Wx e f1) (h2 : SE X Wx e f2) (i : ∀ σ S, f σ S = f1 σ S ∨ f σ S = f2 σ S) : SE X Wx e f := by
  refine PE.or h1 h2 fun σV H Q ⟨F, I, ρ, σ, S, rb, h⟩ => ?_
  rcases i σ S with e | e
  · exact .inl ⟨F, I, ρ, σ, S, rb, e ▸ h⟩
  · exact .inr ⟨F, I, ρ, σ, S, rb, e ▸ h⟩
theorem d2_or {op op1 op2 : D → D → Option D} (h : ∀ a b, op a b = op1 a b ∨ op a b = op2 a b) (f g : DE) (σ : Sl) (S : Sto) : d2 op f g σ S = d2 op1 f g σ S ∨ d2 op f g σ S = d2 op2 f g σ S := by
  unfold d2
  cases e : f σ S with
  | fail => exact .inl rfl
  | exc a _ _ => exact .inl rfl
  | ok x σ1 S1 =>
    dsimp only [Res.bind]
    cases e : g σ1 S1 with
    | fail => exact .inl rfl
    | exc a _ _ => exact .inl rfl
    | ok y σ2 S2 =>
      dsimp only [Res.bind]
      cases deref σ2 S2 x with
      | none => exact .inl rfl
      | some a =>
        cases deref σ2 S2 y with
        | none => exact .inl rfl
        | some b =>
          dsimp only [Option.bind]
          rcases h a b with q | q <;> rw [q]
          · exact .inl rfl
          · exact .inr rfl
end

section
variable {κ : Type} [DecidableEq κ]
def valD (l : List (κ × D)) (k : κ) : Option D := (l.find? fun kv => decide (kv.1 = k)).map (·.2)
def putD (l : List (κ × D)) (k : κ) (w : D) : List (κ × D) := if (l.any fun kv => decide (kv.1 = k)) = true then l.map (fun kv => if kv.1 = k then (kv.1, w) else kv) else l ++ [(k, w)]
def dropD (l : List (κ × D)) (k : κ) : List (κ × D) := l.filter fun kv => decide (kv.1 ≠ k)
variable {K : PySem.W.Frag} {ρ : List Addr} {I : Hp}
/-- the pairs stand for the pairs -/
def KRep (K : PySem.W.Frag) (ρ : List Addr) (I : Hp) (kvs : List (κ × V)) (kws : List (κ × D)) : Prop := kvs.map (·.1) = kws.map (·.1) ∧ Reps K ρ I (kvs.map (·.2)) (kws.map (·.2))
theorem KRep.nil : KRep (κ := κ) K ρ I [] [] := ⟨rfl, .nil⟩
theorem KRep.cons {k : κ} {v : V} {w : D} {kvs : List (κ × V)} {kws : List (κ × D)} (h : Rep K ρ I v w) (r : KRep K ρ I kvs kws) : KRep K ρ I ((k, v) :: kvs) ((k, w) :: kws) := ⟨by simp [r.1], .cons h r.2⟩
theorem KRep.ind {P : List (κ × V) → List (κ × D) → Prop} (h0 : P [] []) (h1 : ∀ k v w kvs kws, Rep K ρ I v w → KRep K ρ I kvs kws → P kvs kws → P ((k, v) :: kvs) ((k, w) :: kws)) : ∀ {kvs : List (κ × V)} {kws : List (κ × D)}, KRep K ρ I kvs kws → P kvs kws
  | [], [], _ => h0
  | [], _ :: _, h => by have := h.1; simp at this
  | _ :: _, [], h => by have := h.1; simp at this
  | (k, v) :: kvs, (k', w) :: kws, h => by
    obtain ⟨h2, h3⟩ := h
    simp only [List.map_cons] at h2 h3
    injection h2 with h4 h5
    subst h4
    cases h3 with
    | cons r1 r2 => exact h1 k v w kvs kws r1 ⟨h5, r2⟩ (KRep.ind h0 h1 ⟨h5, r2⟩)
theorem KRep.len {kvs : List (κ × V)} {kws : List (κ × D)} (h : KRep K ρ I kvs kws) : kvs.length = kws.length := by
  have := congrArg List.length h.1
  rwa [List.length_map, List.length_map] at this
theorem KRep.val {kvs : List (κ × V)} {kws : List (κ × D)} (h : KRep K ρ I kvs kws) (k : κ) : (∃ v w, valV kvs k = some v ∧ valD kws k = some w ∧ Rep K ρ I v w) ∨ (valV kvs k = none ∧ valD kws k = none) := by
  refine KRep.ind (P := fun kvs kws => (∃ v w, valV kvs k = some v ∧ valD kws k = some w ∧ Rep K ρ I v w) ∨ (valV kvs k = none ∧ valD kws k = none)) (.inr ⟨rfl, rfl⟩) (fun k' v w kvs kws r _ ih => ?_) h
  by_cases e : k' = k
  · exact .inl ⟨v, w, by simp [valV, e], by simp [valD, e], r⟩
  · rcases ih with ⟨v', w', h1, h2, h3⟩ | ⟨h1, h2⟩
    · exact .inl ⟨v', w', by rw [← h1]; simp [valV, e], by rw [← h2]; simp [valD, e], h3⟩
    · exact .inr ⟨by rw [← h1]; simp [valV, e], by rw [← h2]; simp [valD, e]⟩
theorem KRep.any {kvs : List (κ × V)} {kws : List (κ × D)} (h : KRep K ρ I kvs kws) (k : κ) : (kvs.any fun kv => decide (kv.1 = k)) = kws.any fun kv => decide (kv.1 = k) := by
  refine KRep.ind (P := fun kvs kws => (kvs.any fun kv => decide (kv.1 = k)) = kws.any fun kv => decide (kv.1 = k)) rfl (fun k' v w kvs kws r _ ih => ?_) h
  simp only [List.any_cons, ih]
theorem KRep.mapPut {kvs : List (κ × V)} {kws : List (κ × D)} (h : KRep K ρ I kvs kws) (k : κ) {v : V} {w : D} (r : Rep K ρ I v w) : KRep K ρ I (kvs.map fun kv => if kv.1 = k then (kv.1, v) else kv) (kws.map fun kv => if kv.1 = k then (kv.1, w) else kv) := by
  refine KRep.ind (P := fun kvs kws => KRep K ρ I (kvs.map fun kv => if kv.1 = k then (kv.1, v) else kv) (kws.map fun kv => if kv.1 = k then (kv.1, w) else kv)) KRep.nil (fun k' v' w' kvs kws r' _ ih => ?_) h
  simp only [List.map_cons]
  by_cases e : k' = k
  · simp only [e, if_true]
    exact ih.cons r
  · simp only [e, if_false]
    exact ih.cons r'
theorem KRep.app {kvs : List (κ × V)} {kws : List (κ × D)} (h : KRep K ρ I kvs kws) {k : κ} {v : V} {w : D} (r : Rep K ρ I v w) : KRep K ρ I (kvs ++ [(k, v)]) (kws ++ [(k, w)]) := by
  refine KRep.ind (P := fun kvs kws => KRep K ρ I (kvs ++ [(k, v)]) (kws ++ [(k, w)])) (KRep.nil.cons r) (fun k' v' w' kvs kws r' _ ih => ih.cons r') h
theorem KRep.put {kvs : List (κ × V)} {kws : List (κ × D)} (h : KRep K ρ I kvs kws) (k : κ) {v : V} {w : D} (r : Rep K ρ I v w) : KRep K ρ I (putK kvs k v) (putD kws k w) := by
  unfold putK putD
  rw [h.any k]
  split
  · exact h.mapPut k r
  · exact h.app r
theorem KRep.drop {kvs : List (κ × V)} {kws : List (κ × D)} (h : KRep K ρ I kvs kws) (k : κ) : KRep K ρ I (dropK kvs k) (dropD kws k) := by
  refine KRep.ind (P := fun kvs kws => KRep K ρ I (dropK kvs k) (dropD kws k)) KRep.nil (fun k' v w kvs kws r _ ih => ?_) h
  unfold dropK dropD at ih ⊢
  by_cases e : k' = k
  · simp only [List.filter_cons, e, ne_eq, not_true, decide_false, Bool.false_eq_true, if_false]
    exact ih
  · simp only [List.filter_cons, ne_eq, e, not_false_eq_true, decide_true, if_true]
    exact ih.cons r
theorem KRep.gr {ρ' : List Addr} {I' : Hp} (g : Gr ρ I ρ' I') {kvs : List (κ × V)} {kws : List (κ × D)} (h : KRep K ρ I kvs kws) : KRep K ρ' I' kvs kws := ⟨h.1, h.2.gr g⟩
end
/-- a key -/
def keyD : D → Option Kk
  | .int i => some (.inl i)
  | .str x => some (.inr x)
  | _ => none
theorem keyD_at {K : PySem.W.Frag} {ρ : List Addr} {I H : Hp} {v : V} {w : D} {k : Kk} (h : At K ρ I H v w) (e : keyD w = some k) : v = kV k := by
  cases w with
  | int i => cases e; cases h; rfl
  | str i => cases e; cases h; rfl
  | _ => cases e

def opDGet : D → D → Option D
  | .dK l, y => (keyD y).bind (valD l)
  | _, _ => none
def opGet : D → D → Option D
  | .dK l, y => opDGet (.dK l) y
  | a, b => opIx a b
theorem opGet_or (a b : D) : opGet a b = opIx a b ∨ opGet a b = opDGet a b := by
  cases a with
  | dK l => exact .inr rfl
  | _ => exact .inl rfl
section
variable {X : Cx} {Wx : WX} {fr : Bool}
theorem rooms {k : Nat} {A : Around} (hr : Room k A) : A.units + 1 < cLine := by have := hr.units; omega
theorem dget_of {K : PySem.W.Frag} {ρ : List Addr} {I H : Hp} {v1 v2 : V} {l : List (Kk × D)} {b : D} {k : Kk} (h1 : At K ρ I H v1 (.dK l)) (h2 : At K ρ I H v2 b) (ek : keyD b = some k) :
    ∃ a, v1 = .ref a ∧ ((∃ v w, DGet H a v2 (some v) ∧ valD l k = some w ∧ Rep K ρ I v w) ∨ (DGet H a v2 none ∧ valD l k = none)) := by
  obtain ⟨a, kvs, rfl, ha, hk⟩ := h1
  have hk : KRep K ρ I kvs l := hk
  cases keyD_at h2 ek
  refine ⟨a, rfl, ?_⟩
  rcases hk.val k with ⟨v, w, e1, e2, r⟩ | ⟨e1, e2⟩
  · exact .inl ⟨v, w, .inl ⟨kvs, k, ha, rfl, e1.symm⟩, e2, r⟩
  · exact .inr ⟨.inl ⟨kvs, k, ha, rfl, e1.symm⟩, e2⟩
theorem c_dget {a b : Expr} {pos : Pos} {f g : DE} {k : Nat} (hr : Room k X.A) (ha : SE X Wx a f) (hb : SE X Wx b g) (hs : NoSl b := by intro _ _; rfl) : SE X Wx (.Subscript a b pos) (d2 opDGet f g) := by
  refine PE.imp (pe_dget (rooms hr) ha hb hs) fun σV H Q h => ?_
  obtain ⟨F, I, ρ, σ, S, rb, h⟩ := h
  refine ⟨F, I, ρ, σ, S, rb, post_bind h fun I1 ρ1 σ1 S1 H1 x v1 _ g1 rb1 t1 h1 => ?_⟩
  refine ⟨F, I1, ρ1, σ1, S1, rb1, post_bind h1 fun I2 ρ2 σ2 S2 H2 y v2 _ g2 rb2 t2 h2 => ?_⟩
  obtain ⟨z, ez, h3⟩ := post_opt h2
  obtain ⟨c, ec, ez⟩ := Option.bind_eq_some_iff.mp ez
  obtain ⟨b, eb, ez⟩ := Option.bind_eq_some_iff.mp ez
  have A1 := rb2.at (t1.gr g2) ec
  have A2 := rb2.at t2 eb
  cases c with
  | dK l =>
    obtain ⟨k, ek, ev⟩ := Option.bind_eq_some_iff.mp (show (keyD b).bind (valD l) = some z from ez)
    obtain ⟨a, rfl, q⟩ := dget_of A1 A2 ek
    rcases q with ⟨v, w, q1, q2, q3⟩ | ⟨_, q2⟩
    · rw [q2] at ev
      cases ev
      exact ⟨a, v, rfl, q1, h3 I2 ρ2 H2 v Gr.refl rb2 (.inr q3)⟩
    · rw [q2] at ev
      cases ev
  | _ => cases ez
theorem c_get {a b : Expr} {pos : Pos} {f g : DE} {k : Nat} (hr : Room k X.A) (ha : SE X Wx a f) (hb : SE X Wx b g) (hs : NoSl b := by intro _ _; rfl) (hs' : PlainIx b := by intro _ _; rfl) : SE X Wx (.Subscript a b pos) (d2 opGet f g) :=
  c_or2 (c_ix ha hb hs') (c_dget hr ha hb hs) fun σ S => d2_or opGet_or f g σ S
/-- in -/
def rDIn : R2 := fun y x H Q => ∃ a o, x = .ref a ∧ DGet H a y o ∧ Q (.bl o.isSome) H
theorem op_din {k : Nat} (hr : Room k X.A) : OpR X (compareOp .In) rDIn := by
  intro pins s σ H y x v u Q I ry rx ⟨a, o, e, g, q⟩
  subst e
  obtain rfl : u = Value.ref a := rx
  exact d_in (rooms hr) I g ry fun s3 I3 => ⟨.bl o.isSome, H, I3, rfl, q⟩
def inG : D → D → Option Bool
  | y, .dK l => (keyD y).map fun k => (valD l k).isSome
  | a, b => inA a b
def opInG (a b : D) : Option D := (inG a b).map D.bl
def opNotInG (a b : D) : Option D := (inG a b).map fun x => D.bl (!x)
theorem os_inG {K : PySem.W.Frag} : OpS K (fun x y H Q => rInA K x y H Q ∨ rDIn x y H Q) opInG := by
  intro F I ρ S H σV σ v1 v2 a b z Q rb h1 h2 ez q
  obtain ⟨x, e, rfl⟩ := Option.map_eq_some_iff.mp ez
  cases b with
  | dK l =>
    obtain ⟨k, ek, ex⟩ := Option.map_eq_some_iff.mp (show (keyD a).map _ = some x from e)
    obtain ⟨p, rfl, w⟩ := dget_of h2 h1 ek
    refine .inr ?_
    rcases w with ⟨v, w, q1, q2, q3⟩ | ⟨q1, q2⟩
    · rw [q2] at ex
      exact ⟨p, _, rfl, q1, by have ex : true = x := ex; rw [← ex] at q; exact q I H _ Gr.refl rb .bl⟩
    · rw [q2] at ex
      exact ⟨p, _, rfl, q1, by have ex : false = x := ex; rw [← ex] at q; exact q I H _ Gr.refl rb .bl⟩
  | _ => exact .inl (os_in F I ρ S H σV σ v1 v2 a _ _ Q rb h1 h2 (by unfold opIn; rw [show inA a _ = some x from e]; rfl) q)
theorem op_inG {k : Nat} (hr : Room k X.A) : OpR X (compareOp .In) (fun x y H Q => rInA X.K x y H Q ∨ rDIn x y H Q) := op_inA.or (op_din hr)
end
end MR

set_option Elab.async false
set_option linter.all false
set_option maxRecDepth 100000
namespace MR
open PySem PySem.Spec PyProof.Rows L2

section
variable {X : Cx} {Wx : WX} {fr : Bool}
def ofMutS (o : Option (Sl × Sto)) : Res Fl := match o with
  | some (σ, S) => .ok .next σ S
  | none => .fail
def sDPutD (fd fy fv : DE) : DS := fun σ S => (dV fv σ S).bind fun w σ S => (fd σ S).bind fun x σ S => (fy σ S).bind fun y σ S => match deref σ S x, keyD y with
  | some (.dK l), some k => if l.length < most then ofMutS (chg σ S x (.dK (putD l k w))) else .fail
  | _, _ => .fail
theorem TRep.key {K : PySem.W.Frag} {ρ : List Addr} {I : Hp} {σV : L2.St} {v : V} {y : D} {k : Kk} (t : TRep K ρ I σV v y) (e : keyD y = some k) : v = kV k := by
  rcases t with ⟨i, rfl, _⟩ | r
  · cases e
  · cases r with
    | int => cases e; rfl
    | str => cases e; rfl
    | _ => cases e
theorem dK_own {K : PySem.W.Frag} {ρ : List Addr} {I H : Hp} {a : Addr} {kvs : List (Key × V)} {l : List (Kk × D)} (h1 : H a = some (.dK kvs)) (h2 : KRep K ρ I kvs l) : OwnAt K ρ I H a (.dK l) := ⟨kvs, h1, h2.1, h2.2⟩
abbrev DP := Sl → Sto → Res (List (Kk × D))
def pNil : DP := fun σ S => .ok [] σ S
def pCons (f g : DE) (r : DP) : DP := fun σ S => (f σ S).bind fun x σ S => match keyD x with
  | some k => (dV g σ S).bind fun w σ S => (r σ S).bind fun ps σ S => .ok ((k, w) :: ps) σ S
  | none => .fail
def mergeD (l more : List (Kk × D)) : List (Kk × D) := more.foldl (fun acc kv => putD acc kv.1 kv.2) l
def dDisp (r : DP) : DE := fun σ S => (r σ S).bind fun ps σ S => .ok (.dK (mergeD [] ps)) σ S
theorem KRep.merge {K : PySem.W.Frag} {ρ : List Addr} {I : Hp} {ms : List (Key × V)} {mw : List (Kk × D)} (h : KRep K ρ I ms mw) : ∀ {kvs : List (Key × V)} {kws : List (Kk × D)}, KRep K ρ I kvs kws → KRep K ρ I (mergeK kvs ms) (mergeD kws mw) := by
  refine KRep.ind (P := fun ms mw => ∀ {kvs : List (Key × V)} {kws : List (Kk × D)}, KRep K ρ I kvs kws → KRep K ρ I (mergeK kvs ms) (mergeD kws mw)) (fun h => h) (fun k v w ms mw r _ ih kvs kws h => ?_) h
  exact ih (h.put k r)
/-- the pairs, from the left -/
structure SP (X : Cx) (Wx : WX) (pos : Pos) (keys : List (Option Expr)) (values : List Expr) (r : DP) : Prop where
  ex : ∃ trs, PPs X pos keys values trs ∧ ∀ (σV : L2.St) (H : Hp) (Q : List (V × V) → Hp → Prop), semR X.K Wx (fun ρ I _ vs ws => ∃ kvs : List (Key × V), vs = kvs.map (fun kv => (kV kv.1, kv.2)) ∧ kvs.length = keys.length ∧ KRep X.K ρ I kvs ws) r σV H Q → tPairs trs σV H Q
theorem sp_nil {pos : Pos} : SP X Wx pos [] [] pNil := ⟨[], pps_nil, fun σV H Q h => by
  obtain ⟨F, I, ρ, σ, S, rb, h⟩ := h
  exact h I ρ H [] Gr.refl rb ⟨[], rfl, rfl, KRep.nil⟩⟩
theorem sp_cons {pos : Pos} {k v : Expr} {ks : List (Option Expr)} {vs : List Expr} {f g : DE} {r : DP} (hk : SE X Wx k f) (hv : SE X Wx v g) (hr : SP X Wx pos ks vs r) : SP X Wx pos (some k :: ks) (v :: vs) (pCons f g r) := by
  obtain ⟨trs, hp, ht⟩ := hr.ex
  refine ⟨_, pps_cons hk (c_v hv) hp, fun σV H Q h => ?_⟩
  obtain ⟨F, I, ρ, σ, S, rb, h⟩ := h
  refine ⟨F, I, ρ, σ, S, rb, post_bind h fun I1 ρ1 σ1 S1 H1 x v1 _ g1 rb1 t1 h1 => ?_⟩
  split at h1
  · rename_i kk ek
    cases t1.key ek
    refine ⟨F, I1, ρ1, σ1, S1, rb1, post_bind h1 fun I2 ρ2 σ2 S2 H2 w v2 _ g2 rb2 t2 h2 => ?_⟩
    refine ht σV H2 _ ⟨F, I2, ρ2, σ2, S2, rb2, post_bind h2 fun I3 ρ3 σ3 S3 H3 ps vs3 _ g3 rb3 t3 h3 => ?_⟩
    obtain ⟨kvs, rfl, hl, rk⟩ := t3
    exact h3 I3 ρ3 H3 _ Gr.refl rb3 ⟨(kk, v2) :: kvs, rfl, by rw [List.length_cons, List.length_cons, hl], rk.cons (t2.gr g3)⟩
  · exact h1.elim
/-- less is wanted kept -/
theorem RB.less {K : PySem.W.Frag} {F F' I : Hp} {ρ : List Addr} {S : Sto} {H : Hp} {σV : L2.St} {σ : Sl} (rb : RB K F' I ρ S H σV σ) (s : ∀ a o, F a = some o → F' a = some o) (sz : ∀ a ob u, F' a = some (.frz ob u) → F a = some (.frz ob u)) : RB K F I ρ S H σV σ := by
  have n : ∀ {a : Addr}, F' a = none → F a = none := fun {a} h => by
    cases e : F a with
    | none => rfl
    | some o => rw [s a o e] at h; cases h
  refine ⟨fun a o h => rb.fr a o (s a o h), rb.sub, fun a o h => rb.dis a o (s a o h), fun r o h => ?_, rb.nd, rb.rl, rb.len, fun i sl h => ?_, rb.inj⟩
  · obtain ⟨a, ha, hf, hi, hc⟩ := rb.store r o h
    exact ⟨a, ha, hf.mono n (sz a), hi, hc⟩
  · have q := rb.slot i sl h
    cases sl with
    | emp => trivial
    | exn b => first | exact q | exact (List.getElem?_set_ne e).trans q | exact e.trans q
    | val w => exact q
    | own c => obtain ⟨a, ha, hf, hi, hr, ho⟩ := q; exact ⟨a, ha, n hf, hi, hr, ho⟩
/-- a new thing at p that must stay while other things are done -/
theorem RB.hold {K : PySem.W.Frag} {F I : Hp} {ρ : List Addr} {S : Sto} {H : Hp} {σV : L2.St} {σ : Sl} (rb : RB K F I ρ S H σV σ) {p : Addr} {o : HO} (hp : H p = none) : RB K (upd F p o) I ρ S (upd H p o) σV σ := by
  obtain ⟨rb2, nf, ni, nr, no⟩ := rb.newO (o := o) hp
  refine ⟨fun a u h => ?_, rb2.sub, fun a u h => ?_, fun r c h => ?_, rb2.nd, rb2.rl, rb2.len, fun i s h => ?_, rb2.inj⟩
  · by_cases e : a = p
    · subst e; rw [upd_same] at h ⊢; exact h
    · rw [upd_ne e] at h; exact rb2.fr a u h
  · by_cases e : a = p
    · subst e; exact fun _ => ni
    · rw [upd_ne e] at h; exact rb2.dis a u h
  · obtain ⟨a, ha, hf, hi, hc⟩ := rb2.store r c h
    have ne : a ≠ p := fun e => nr (e ▸ List.mem_of_getElem? ha)
    exact ⟨a, ha, hf.mono (fun z => by rw [upd_ne ne]; exact z) (fun _ _ z => by rw [upd_ne ne]; exact z), hi, hc⟩
  · have q := rb2.slot i s h
    cases s with
    | emp => trivial
    | exn b => first | exact q | exact (List.getElem?_set_ne e).trans q | exact e.trans q
    | val w => exact q
    | own c =>
      obtain ⟨a, ha, hf, hi, hr, ho⟩ := q
      have ne : a ≠ p := fun e => no i c h (e ▸ ha)
      exact ⟨a, ha, by rw [upd_ne ne]; exact hf, hi, hr, ho⟩
theorem cf_disp {pos : Pos} {keys : List (Option Expr)} {values : List Expr} {r : DP} (h : SP X Wx pos keys values r) (hall : keys.all (·.isSome) = true := by rfl) (hl : keys.length = values.length := by rfl) (h0 : keys ≠ [] := by simp) (h15 : keys.length ≤ 15 := by decide) : SF X Wx (.Dict keys values pos) (dDisp r) := by
  obtain ⟨trs, hp, ht⟩ := h.ex
  refine PE.imp (pe_disp hp hall hl h0 h15) fun σV H Q h => ?_
  obtain ⟨F, I, ρ, σ, S, rb, h⟩ := h
  intro p hp0
  have hb := rb.hold (o := .dK []) hp0
  have nF : F p = none := by
    cases e : F p with
    | none => rfl
    | some u => rw [rb.fr p u e] at hp0; cases hp0
  have sb : ∀ a o, F a = some o → upd F p (.dK []) a = some o := fun a o e => by rw [upd_ne (ne_of_none e nF)]; exact e
  have sz : ∀ a ob u, upd F p (.dK []) a = some (.frz ob u) → F a = some (.frz ob u) := fun a ob u e => by
    by_cases z : a = p
    · subst z; rw [upd_same] at e; cases e
    · rw [upd_ne z] at e; exact e
  refine ht σV _ _ ⟨upd F p (.dK []), I, ρ, σ, S, hb, ?_⟩
  unfold dDisp at h
  cases e : r σ S with
  | fail => rw [e] at h; exact h
  | exc a σ1 S1 => rw [e] at h; exact fun I' ρ' H' d g rb' => h I' ρ' H' d g (rb'.less sb sz)
  | ok ps σ1 S1 =>
    rw [e] at h
    intro I' ρ' H' vs g rb' ⟨kvs, ev, hlen, rk⟩
    have hHp : H' p = some (.dK []) := rb'.fr p _ upd_same
    refine ⟨hHp, kvs, ev, by omega, ?_⟩
    have rb2 := rb'.less sb sz
    have ni : I' p = none := rb'.dis p _ upd_same (fun _ z => by cases z)
    have nr : p ∉ ρ' := fun hm => by
      obtain ⟨j, hj⟩ := List.getElem?_of_mem hm
      have lt : j < S1.length := by rw [← rb'.rl]; exact (List.getElem?_eq_some_iff.mp hj).1
      obtain ⟨b, hb, hfb, _⟩ := rb'.store j _ (List.getElem?_eq_getElem lt)
      rw [hj] at hb
      cases hb
      obtain ⟨ob, u, e⟩ := hfb.not upd_same
      cases e
    have no : NoOwn σV σ1 p := fun i c h1 h2 => by
      obtain ⟨b, hb, hfb, _⟩ := rb'.slot i _ h1
      rw [h2] at hb
      cases hb
      rw [upd_same] at hfb
      cases hfb
    have k : ∀ b u, b ≠ p → H' b = some u → upd H' p (.dK (mergeK [] kvs)) b = some u := fun b u n h => by rw [upd_ne n]; exact h
    have rb3 : RB X.K F I' ρ' S1 (upd H' p (.dK (mergeK [] kvs))) σV σ1 := by
      refine ⟨fun a u h => k a u (ne_of_none h nF) (rb2.fr a u h), fun a u h => ?_, rb2.dis, fun j c h => ?_, rb2.nd, rb2.rl, rb2.len, fun i s h => ?_, rb2.inj⟩
      · have n := ne_of_none h ni
        rcases rb2.sub a u h with q | ⟨d, ob, q⟩
        · exact .inl (k _ _ n q)
        · exact .inr ⟨d, ob, k _ _ n q⟩
      · obtain ⟨a, ha, hf, hi, hc⟩ := rb2.store j c h
        have n : a ≠ p := fun z => nr (z ▸ List.mem_of_getElem? ha)
        exact ⟨a, ha, hf, hi, hc.gr Gr.refl fun u => k a u n⟩
      · have q := rb2.slot i s h
        cases s with
        | emp => trivial
        | exn b => first | exact q | exact (List.getElem?_set_ne e).trans q | exact e.trans q
        | val w => exact q
        | own c =>
          obtain ⟨a, ha, hf, hi, hr, ho⟩ := q
          have n : a ≠ p := fun z => no i c h (z ▸ ha)
          exact ⟨a, ha, hf, hi, hr, ho.gr Gr.refl fun u => k a u n⟩
    exact h I' ρ' _ _ g rb3 (.inl ⟨p, rfl, nF, ni, nr, no, dK_own upd_same (rk.merge KRep.nil)⟩)
def dAlloc (f : DE) : DE := fun σ S => (f σ S).bind fun w σ S => if scalar w then .ok w σ S else .ok (.obj S.length) σ (S ++ [.con false w])
end

def fget (fs : List (String × D)) (f : String) : Option D := (fs.find? fun p => p.1 == f).map (·.2)
def fput (f : String) (w : D) : List (String × D) → List (String × D)
  | [] => [(f, w)]
  | (g, x) :: r => if g = f then (g, w) :: r else (g, x) :: fput f w r
section
variable {K : PySem.W.Frag} {ρ : List Addr} {I : Hp}
def FRep (K : PySem.W.Frag) (ρ : List Addr) (I : Hp) (fsV : List (Str × V)) (fs : List (String × D)) : Prop := fsV.map (·.1) = fs.map (fun p => Str.ofString p.1) ∧ Reps K ρ I (fsV.map (·.2)) (fs.map (·.2))
theorem FRep.ind {P : List (Str × V) → List (String × D) → Prop} (h0 : P [] []) (h1 : ∀ k v w kvs kws, Rep K ρ I v w → FRep K ρ I kvs kws → P kvs kws → P ((Str.ofString k, v) :: kvs) ((k, w) :: kws)) : ∀ {kvs : List (Str × V)} {kws : List (String × D)}, FRep K ρ I kvs kws → P kvs kws
  | [], [], _ => h0
  | [], _ :: _, h => by have := h.1; simp at this
  | _ :: _, [], h => by have := h.1; simp at this
  | (k, v) :: kvs, (k', w) :: kws, h => by
    obtain ⟨h2, h3⟩ := h
    simp only [List.map_cons] at h2 h3
    injection h2 with h4 h5
    subst h4
    cases h3 with
    | cons r1 r2 => exact h1 k' v w kvs kws r1 ⟨h5, r2⟩ (FRep.ind h0 h1 ⟨h5, r2⟩)
theorem FRep.nil : FRep K ρ I [] [] := ⟨rfl, .nil⟩
theorem FRep.cons {k : String} {v : V} {w : D} {kvs : List (Str × V)} {kws : List (String × D)} (h : Rep K ρ I v w) (r : FRep K ρ I kvs kws) : FRep K ρ I ((Str.ofString k, v) :: kvs) ((k, w) :: kws) := ⟨by simp [r.1], .cons h r.2⟩
theorem FRep.get {fsV : List (Str × V)} {fs : List (String × D)} (h : FRep K ρ I fsV fs) (f : String) : (∃ v w, fsV.lookup (Str.ofString f) = some v ∧ fget fs f = some w ∧ Rep K ρ I v w) ∨ (fsV.lookup (Str.ofString f) = none ∧ fget fs f = none) := by
  refine FRep.ind (P := fun fsV fs => (∃ v w, fsV.lookup (Str.ofString f) = some v ∧ fget fs f = some w ∧ Rep K ρ I v w) ∨ (fsV.lookup (Str.ofString f) = none ∧ fget fs f = none)) (.inr ⟨rfl, rfl⟩) (fun k v w kvs kws r _ ih => ?_) h
  by_cases e : k = f
  · subst e
    exact .inl ⟨v, w, by simp [List.lookup], by simp [fget], r⟩
  · have e2 : (Str.ofString f == Str.ofString k) = false := beq_eq_false_iff_ne.mpr fun z => e (ofString_inj z).symm
    have e3 : (k == f) = false := beq_eq_false_iff_ne.mpr e
    have h1 : List.lookup (Str.ofString f) ((Str.ofString k, v) :: kvs) = List.lookup (Str.ofString f) kvs := by simp only [List.lookup, e2]
    have h2 : fget ((k, w) :: kws) f = fget kws f := by
      unfold fget
      rw [List.find?_cons]
      simp only [e3]
    rw [h1, h2]
    exact ih
theorem FRep.put {fsV : List (Str × V)} {fs : List (String × D)} (h : FRep K ρ I fsV fs) (f : String) {v : V} {w : D} (r : Rep K ρ I v w) : FRep K ρ I (putF (Str.ofString f) v fsV) (fput f w fs) := by
  refine FRep.ind (P := fun fsV fs => FRep K ρ I (putF (Str.ofString f) v fsV) (fput f w fs)) (FRep.nil.cons r) (fun k v' w' kvs kws r' h' ih => ?_) h
  unfold putF fput
  by_cases e : k = f
  · subst e
    rw [if_pos rfl, if_pos rfl]
    exact h'.cons r
  · rw [if_neg (fun z => e (ofString_inj z)), if_neg e]
    exact ih.cons r'
theorem FRep.len {fsV : List (Str × V)} {fs : List (String × D)} (h : FRep K ρ I fsV fs) : fsV.length = fs.length := by
  have := congrArg List.length h.1
  rwa [List.length_map, List.length_map] at this
end
/-- the object at r, of one of these classes -/
def objAt (cs : List String) (S : Sto) (x : D) : Option (Nat × String × List (String × D)) := match x with
  | .obj r => (match S[r]? with
    | some (.ins c fs) => if c ∈ cs then some (r, c, fs) else none
    | _ => none)
  | _ => none
section
variable {X : Cx} {Wx : WX} {fr : Bool}
def dFld (cs : List String) (f : String) (fo : DE) : DE := fun σ S => (fo σ S).bind fun x σ S => ofOpt ((objAt cs S x).bind fun p => fget p.2.2 f) σ S
def sFldD (cs : List String) (f : String) (fo fv : DE) : DS := fun σ S => (dV fv σ S).bind fun w σ S => (fo σ S).bind fun x σ S => match objAt cs S x with
  | some (r, c, fs) => if fs.length < 1000 then .ok .next σ (S.set r (.ins c (fput f w fs))) else .fail
  | none => .fail
end
end MR

set_option Elab.async false
set_option linter.all false
set_option maxRecDepth 100000
namespace MR
open PySem PySem.Spec PyProof.Rows L2

section
variable {X : Cx} {CX : CXT} {k : Nat} {f C : Addr} {fd : FuncData} {ps : List Str} {sp : Sp} {E : L2.St → XK} {x m : Str} {p pos apos : Pos} {e o : Expr} {es : List Expr} {ta : TE} {t : TA} {pl : Sem Bool}
end

/-- a method as callers take it -/
structure Mt (fr : Bool) (P : Program) (w : World) (K : PySem.W.Frag) (mg : Str → Option Value) (base : Heap) (c m : String) (k n : Nat) (d : Den) : Prop where
  ex : ∃ (f : Addr) (fd : FuncData) (ps : List Str), Cls K (ca K c) ∧ Meth K (ca K c) (Str.ofString m) f ∧ Binds K fd ps [] ∧ ps.length = n ∧ FnOk P w K mg base (L2.CX P w) k f fd ps (spD fr K n d)
theorem Mt.mono {fr : Bool} {P : Program} {w : World} {K : PySem.W.Frag} {mg : Str → Option Value} {base : Heap} {c m : String} {k k' n : Nat} {d : Den} (M : Mt fr P w K mg base c m k n d) (h : k ≤ k') : Mt fr P w K mg base c m k' n d := by
  obtain ⟨f, fd, ps, h1, h2, h3, h4, h5⟩ := M.ex
  exact ⟨f, fd, ps, h1, h2, h3, h4, h5.mono h⟩
/-- a class that is made, with its __init__ -/
structure MkD (P : Program) (w : World) (K : PySem.W.Frag) (mg : Str → Option Value) (base : Heap) (c : String) (k n : Nat) (d : Den) : Prop where
  ex : ∃ (f : Addr) (fd : FuncData) (ps : List Str), mg (Str.ofString c) = some (.ref (ca K c)) ∧ Mk K (ca K c) f ∧ Binds K fd ps [] ∧ ps.length = n ∧ FnOk P w K mg base (L2.CX P w) k f fd ps (spD false K n d)

def outR (o : Out) (σ : Sl) : Res D := match o with
  | .ok w S' => .ok w σ S'
  | .exc e S' => .exc e σ S'
  | .fail => .fail
def dMet (m : String) (tbl : List (String × Den)) (fo : DE) (fa : DA) : DE := fun σ S => (fo σ S).bind fun x σ S => match objAt (tbl.map (·.1)) S x with
  | some (_, c, fs) => (match fget fs m with
    | some _ => .fail
    | none => (fa σ S).bind fun ws σ S => match tbl.find? (fun p => p.1 == c) with
      | some p => outR (p.2 (x :: ws) S) σ
      | none => .fail)
  | none => .fail
def dMake (c : String) (d : Den) (fa : DA) : DE := fun σ S => (fa σ S).bind fun ws σ S => match d (.obj S.length :: ws) (S ++ [.ins c []]) with
  | .ok .non S' => .ok (.obj S.length) σ S'
  | .ok _ _ => .fail
  | .exc e S' => .exc e σ S'
  | .fail => .fail
section
variable {X : Cx} {Wx : WX}
variable {k n : Nat} {m : String} {tbl : List (String × Den)} {pos apos : Pos} {o e : Expr} {es : List Expr} {fo : DE} {r : DA} {pl : Sem Bool}
variable {c : String} {d : Den} {p : Pos} {j : Nat}
end
end MR

set_option Elab.async false
set_option linter.all false
set_option maxRecDepth 100000
namespace MR
open PySem PySem.Spec PyProof.Rows L2

def isDct : D → Bool
  | .dK _ => true
  | _ => false
section
variable {X : Cx} {Wx : WX} {fr : Bool} {o e f : Expr} {apos cpos : Pos} {fo fe ff : DE} {k : Nat}
theorem isD_of {K : PySem.W.Frag} {ρ : List Addr} {I H : Hp} {v : V} {c : D} (h : At K ρ I H v c) (e : isDct c = true) : ∃ a, v = .ref a ∧ IsD H a := by
  cases c with
  | dK l => obtain ⟨a, kvs, rfl, hk, _⟩ := h; exact ⟨a, rfl, .inl ⟨kvs, hk⟩⟩
  | _ => cases e
/-- d.get(k), d.get(k, x) -/
def kGet : D → D → List D → Sl → Sto → Res D := fun _ c ws σ S => match c, ws with
  | .dK l, [y] => (match keyD y with
    | some k => .ok ((valD l k).getD .non) σ S
    | none => .fail)
  | .dK l, [y, z] => (match keyD y with
    | some k => .ok ((valD l k).getD z) σ S
    | none => .fail)
  | _, _ => .fail
theorem c_dget2 (hr : Room k X.A) (ho : SE X Wx o fo) (he : SE X Wx e fe) (hf : SE X Wx f ff) (m : M2 X o "get" apos e f cpos) : SE X Wx (.Call (.Attribute o "get" apos) [e, f] [] cpos) (dMeth isDct kGet fo (aCons fe (aCons ff aNil))) := by
  refine PE.imp (pe_dget2 (rooms hr) ho (c_v he) (c_v hf) m) fun σV H Q h => ?_
  obtain ⟨F, I, ρ, σ, S, rb, h⟩ := h
  refine ⟨F, I, ρ, σ, S, rb, post_bind h fun I1 ρ1 σ1 S1 H1 x v1 _ g1 rb1 t1 h1 => ?_⟩
  split at h1
  · rename_i hi
    obtain ⟨c, hc, hic⟩ := Option.map_eq_some_iff.mp hi
    obtain ⟨a, rfl, hd⟩ := isD_of (rb1.at t1 hc) hic
    unfold aCons at h1
    have h1' : postR X.K Wx (TRep X.K) F I1 ρ1 σV ((dV fe σ1 S1).bind fun y σ S => (dV ff σ S).bind fun z σ S => match deref σ S x with
      | some c => kGet x c [y, z] σ S
      | none => .fail) Q := by
      cases e : dV fe σ1 S1 with
      | exc a _ _ => rw [e] at h1; exact h1
      | fail => rw [e] at h1; exact h1
      | ok y σ2 S2 =>
        rw [e] at h1
        dsimp only [Res.bind] at h1 ⊢
        cases e2 : dV ff σ2 S2 with
        | exc a _ _ => rw [e2] at h1; exact h1
        | fail => rw [e2] at h1; exact h1
        | ok z σ3 S3 => rw [e2] at h1; exact h1
    refine ⟨a, rfl, hd, F, I1, ρ1, σ1, S1, rb1, post_bind h1' fun I2 ρ2 σ2 S2 H2 y vy _ g2 rb2 t2 h2 => ?_⟩
    refine ⟨F, I2, ρ2, σ2, S2, rb2, post_bind h2 fun I3 ρ3 σ3 S3 H3 z vz _ g3 rb3 t3 h3 => ?_⟩
    split at h3
    · rename_i c2 hc2
      unfold kGet at h3
      split at h3
      · rename_i heq; cases heq
      · rename_i l y0 z0 heq
        cases heq
        split at h3
        · rename_i k hk
          obtain ⟨a', ea, q⟩ := dget_of (rb3.at ((t1.gr g2).gr g3) hc2) (Rep.at rb3.sub (t2.gr g3)) hk
          cases ea
          rcases q with ⟨v, w, q1, q2, q3⟩ | ⟨q1, q2⟩
          · exact ⟨_, q1, by rw [q2] at h3; exact h3 I3 ρ3 H3 v Gr.refl rb3 (.inr q3)⟩
          · exact ⟨_, q1, by rw [q2] at h3; exact h3 I3 ρ3 H3 _ Gr.refl rb3 (.inr t3)⟩
        · exact h3.elim
      · exact h3.elim
    · exact h3.elim
  · exact h1.elim
/-- d.pop(k) -/
def kPop : D → D → List D → Sl → Sto → Res D := fun x c ws σ S => match c, ws with
  | .dK l, [y] => (match keyD y with
    | some k => (match valD l k with
      | some w => ofMut w (chg σ S x (.dK (dropD l k)))
      | none => .fail)
    | none => .fail)
  | _, _ => .fail
end
section
variable {P : Program} {w : World} {K : PySem.W.Frag} {mg : Str → Option Value} {base : Heap} {x qual : Str} {params : Arguments} {body : List Stmt} {scope : Scope} {f : Addr} {fd : FuncData} {N ps : List Str} {k n j : Nat} {d : DS}
end
end MR

set_option Elab.async false
set_option linter.all false
set_option maxRecDepth 100000
namespace MR
open PySem PySem.Spec PyProof.Rows L2

section
variable {K : PySem.W.Frag} {F I : Hp} {ρ : List Addr} {S : Sto} {H : Hp} {σV : L2.St} {σ : Sl}
end
section
variable {X : Cx} {Wx : WX} {fr : Bool}
def kD : Kk → D
  | .inl i => .int i
  | .inr x => .str x
theorem rep_kD {K : PySem.W.Frag} {ρ : List Addr} {I : Hp} (k : Kk) : Rep K ρ I (kV k) (kD k) := by
  cases k with
  | inl i => exact .int
  | inr x => exact .str
theorem KRep.get {K : PySem.W.Frag} {ρ : List Addr} {I : Hp} {kvs : List (Key × V)} {l : List (Kk × D)} (h : KRep K ρ I kvs l) {i : Nat} {k : Kk} {w : D} (e : l[i]? = some (k, w)) : ∃ v, kvs[i]? = some (k, v) ∧ Rep K ρ I v w := by
  obtain ⟨h1, h2⟩ := h
  have e2 : (l.map (·.2))[i]? = some w := by rw [List.getElem?_map, e]; rfl
  obtain ⟨v, hv, r⟩ := h2.get e2
  rw [List.getElem?_map] at hv
  obtain ⟨⟨k', v'⟩, hk, e3⟩ := Option.map_eq_some_iff.mp hv
  have e3 : v' = v := e3
  subst e3
  have e4 : (l.map (·.1))[i]? = some k := by rw [List.getElem?_map, e]; rfl
  have e4 : (kvs.map (·.1))[i]? = some k := by rw [h1]; exact e4
  rw [List.getElem?_map, hk] at e4
  have e4 : some k' = some k := e4
  cases e4
  exact ⟨_, hk, r⟩
end
end MR

set_option Elab.async false
set_option linter.all false
set_option maxRecDepth 100000
namespace MR
open PySem PySem.Spec PyProof.Rows L2

section
variable {X : Cx} {Wx : WX} {fr : Bool}
def sDAugD (op : Int → Int → Int) (fd fy fv : DE) : DS := fun σ S => (fd σ S).bind fun x σ S => (fy σ S).bind fun y σ S => match deref σ S x, keyD y with
  | some (.dK l), some k => (match valD l k with
    | some (.int i) => (fv σ S).bind fun z σ S => (match z, deref σ S x with
      | .int j, some (.dK l') => if l'.length < most then ofMutS (chg σ S x (.dK (putD l' k (.int (op i j))))) else .fail
      | _, _ => .fail)
    | _ => .fail)
  | _, _ => .fail
def kLPop : D → D → List D → Sl → Sto → Res D := fun x c ws σ S => match c, ws with
  | .lst xs, [] => (match xs[xs.length - 1]? with
    | some y => ofMut y (chg σ S x (.lst xs.dropLast))
    | none => .fail)
  | _, _ => .fail
theorem Reps.dropLast {K : PySem.W.Frag} {ρ : List Addr} {I : Hp} {vs : List V} {ws : List D} (r : Reps K ρ I vs ws) : Reps K ρ I vs.dropLast ws.dropLast := by
  rw [List.dropLast_eq_take, List.dropLast_eq_take, r.length]
  exact r.take _
/-- the premises of a built-in's method with arguments -/
structure MA (X : Cx) (o : Expr) (m : Str) (apos : Pos) (e : Expr) (es : List Expr) (cpos : Pos) : Prop where
  base : attributeBase o m X.env (eval o X.env) = eval o X.env
  few : ((backTo cpos (starEach (e :: es) X.env)).all (fun x => !x.1) && (backToKw cpos (keywordEach [] X.env)).all (fun x => x.1.isSome) && decide ((e :: es).length + ([] : List Keyword).length + (if ([] : List Keyword).isEmpty then 0 else 1) < 30)) = true
  line : (apos.endLine == cpos.line) = true
  star : starEach (e :: es) X.env = (false, eval e X.env) :: starEach es X.env
def kExt : D → D → List D → Sl → Sto → Res D := fun x c ws σ S => match c, ws with
  | .lst xs, [.lst ys] => if xs.length + ys.length ≤ most then ofMut .non (chg σ S x (.lst (xs ++ ys))) else .fail
  | _, _ => .fail
def opDict : D → Option D
  | .dK l => some (.dK l)
  | _ => none
def opListD : D → Option D
  | .dK l => some (.lst (l.map fun p => kD p.1))
  | _ => none
theorem Reps.keys {K : PySem.W.Frag} {ρ : List Addr} {I : Hp} {kvs : List (Key × V)} {l : List (Kk × D)} (h : KRep K ρ I kvs l) : Reps K ρ I (kvs.map fun kv => kV kv.1) (l.map fun p => kD p.1) := by
  refine KRep.ind (κ := Kk) (P := fun kvs l => Reps K ρ I (kvs.map fun kv => kV kv.1) (l.map fun p => kD p.1)) .nil ?_ h
  intro k v w kvs kws r _ ih
  exact .cons (rep_kD k) ih
end
end MR

set_option Elab.async false
set_option linter.all false
set_option maxRecDepth 100000
namespace MR
open PySem PySem.Spec PyProof.Rows L2

abbrev sLt (x y : Str) : Bool := decide (x.cps.toList < y.cps.toList)
def insS (x : Str) : List Str → List Str
  | [] => [x]
  | y :: l => if sLt y x then y :: insS x l else x :: y :: l
def srtS : List Str → List Str
  | [] => []
  | x :: l => insS x (srtS l)
theorem insS_perm (x : Str) (l : List Str) : (insS x l).Perm (x :: l) := by
  induction l with
  | nil => exact List.Perm.refl _
  | cons y l ih =>
    unfold insS
    split
    · exact (List.Perm.cons y ih).trans (List.Perm.swap ..)
    · exact List.Perm.refl _
theorem srtS_perm (l : List Str) : (srtS l).Perm l := by
  induction l with
  | nil => exact List.Perm.refl _
  | cons x l ih => exact (insS_perm x _).trans (List.Perm.cons x ih)
section
variable {X : Cx} {Wx : WX} {fr : Bool} {K : PySem.W.Frag}
end
end MR

set_option Elab.async false
set_option linter.all false
set_option maxRecDepth 100000
namespace MR
open PySem PySem.Spec PyProof.Rows L2
/-- an own class over ValueError without an __init__ of its own -/
structure ExF (K : PySem.W.Frag) (mg : Str → Option Value) (c : String) : Prop where
  g : mg (Str.ofString c) = some (.ref (ca K c))
  x : PySem.W.excIn K (ca K c) He.veBase "ValueError.__new__" = true ∧ PySem.W.keepIn K (.ref (ca K c)) = true ∧ PySem.W.subIn K (.ref (ca K c)) (.type "BaseException") = some true ∧ PySem.W.typeIn K (.ref (ca K c)) = some (.type "type")
section
variable {X : Cx} {Wx : WX} {fr : Bool}
def sRaise (c : String) : DS := fun σ S => .exc ⟨c, none⟩ σ S
theorem cs_raise {c : String} {m : Str} {j : Nat} {p p2 pos pos' : Pos} (f : ExF X.K X.mg c) (tk : Takes X Wx) (hc : X.calm = true := by rfl) (hg : Gl X (Str.ofString c) := by rfl) (hdb : (Str.ofString c == ("__debug__" : Str)) = false := by decide) :
    SS fr X Wx (.Raise (some (.Call (.Name (Str.ofString c) p) [.Constant (.str m) j p2] [] pos)) none pos') (sRaise c) := by
  obtain ⟨x1, x2, x3, x4⟩ := f.x
  refine PS.imp (ps_raise hc tk (pmk_own PySem.F.excBase_ValueError x1 f.g x2 (raises_own x3 x4) hg hdb)) fun D σV H h => ?_
  obtain ⟨F, I, ρ, σ, S, rb, h⟩ := h
  exact h I ρ H none σV Gr.refl rb rfl
end
end MR

set_option Elab.async false
set_option linter.all false
set_option maxRecDepth 100000
set_option maxHeartbeats 3200000
namespace MR
open PySem PySem.Spec PyProof.Rows L2

section
variable {P : Program} {w : World} {A : Around} {E : Value → Shared → Prop} {s : Shared}
end
end MR

set_option Elab.async false
set_option linter.all false
set_option maxRecDepth 100000
set_option maxHeartbeats 3200000
namespace MR
open PySem PySem.Spec PyProof.Rows L2
section
variable {P : Program} {w : World} {A : Around} {E : Value → Shared → Prop} {s : Shared} {a : Addr}
/-- the set of texts at a: its members by the places of its table -/
structure TxS (P : Program) (w : World) (h : Heap) (a : Addr) (L : List Str) (o : Obj) (es : Array (Int × Value)) (ep : Nat) (t : SetTable) : Prop where
  ob : h.get? a = some o
  ex : o.ExactSet
  da : o.data = .set es ep t
  el : ElemsOf (PySem.strKind P w) es.toList
  ls : es.toList.map (fun e => strOf e.2) = L
  nd : L.Nodup
  fw : es.size < scanBound
  fi : t.fits es.size = true
  ri : Ris t.place.toList
  le : w.params.followText "set-order" = true ∨ t.led = true
def TxR (P : Program) (w : World) (h : Heap) (a : Addr) (L : List Str) : Prop := ∃ o es ep t, TxS P w h a L o es ep t
theorem TxR.keep {h h' : Heap} {L : List Str} (R : TxR P w h a L) (k : ∀ o, h.get? a = some o → h'.get? a = some o) : TxR P w h' a L := by
  obtain ⟨o, es, ep, t, R⟩ := R
  exact ⟨o, es, ep, t, k o R.ob, R.ex, R.da, R.el, R.ls, R.nd, R.fw, R.fi, R.ri, R.le⟩
end
end MR

set_option Elab.async false
set_option linter.all false
set_option maxRecDepth 100000
set_option maxHeartbeats 3200000
namespace MR
open PySem PySem.Spec PyProof.Rows L2
section
variable {X : Cx} {Wx : WX}
end
end MR

set_option Elab.async false
set_option linter.all false
set_option maxRecDepth 100000
set_option maxHeartbeats 3200000
namespace MR
open PySem PySem.Spec PyProof.Rows L2
section
variable {X : Cx} {Wx : WX}
def opVals : D → Option D
  | .dK l => some (.lst (l.map (·.2)))
  | _ => none
end
end MR

set_option Elab.async false
set_option linter.all false
set_option maxRecDepth 100000
namespace MR
open PySem PySem.Spec PyProof.Rows L2
section
variable {X : Cx} {Wx : WX} {K : PySem.W.Frag}
def opListA : D → Option D
  | .dK l => opListD (.dK l)
  | a => opList a
end
end MR

set_option Elab.async false
set_option linter.all false
set_option maxRecDepth 100000
namespace MR
open PySem PySem.Spec PyProof.Rows L2
/-- the tree of the refusals: all are LandErrors, and so ValueErrors -/
def excSub (a b : String) : Bool := a == b || (b == "LandError" || b == "ValueError")
open Classical in
/-- rs: the classes that the body can raise; the suite's answer is the same at every address of the exception -/
noncomputable def sTry (rs : List String) (fb : DS) (c : String) (i : Nat) (fs : Addr → Exn → DS) : DS := fun σ S => match fb σ S with
  | .ok f σ1 S1 => .ok f σ1 S1
  | .exc e σ1 S1 => if e.c ∈ rs ∧ e.x = none then
      if excSub e.c c = true then
        if ∃ f σ2 S2, ∀ a, ∃ σ3, fs a e (σ1.set i (.exn a)) S1 = .ok f σ3 S2 ∧ σ3.set i .emp = σ2 then
          match fs 0 e (σ1.set i (.exn 0)) S1 with
          | .ok .next σ3 S2 => .ok .next (σ3.set i .emp) S2
          | .ok (.ret w) σ3 S2 => .ok (.ret w) (σ3.set i .emp) S2
          | _ => .fail
        else .fail
      else .exc e σ1 S1
    else .fail
  | .fail => .fail
section
variable {X : Cx} {Wx : WX} {fr : Bool}
theorem RB.setX {K : PySem.W.Frag} {F I : Hp} {ρ : List Addr} {S : Sto} {H : Hp} {σV : L2.St} {σ : Sl} (rb : RB K F I ρ S H σV σ) {i : Nat} {x : Option V} {sl : Slot} (hs : sl = .emp ∨ ∃ a, sl = .exn a ∧ x = some (.ref a)) : RB K F I ρ S H (σV.set i x) (σ.set i sl) := by
  have no : ∀ {j : Nat} {c : D}, (σ.set i sl)[j]? = some (.own c) → i ≠ j := fun {j c} h e => by
    subst e
    have lt : i < (σ.set i sl).length := (List.getElem?_eq_some_iff.mp h).1
    rw [List.length_set] at lt
    rw [List.getElem?_set_self lt] at h
    cases h
    rcases hs with z | ⟨a, z, _⟩ <;> cases z
  refine ⟨rb.fr, rb.sub, rb.dis, rb.store, rb.nd, rb.rl, by rw [List.length_set, List.length_set]; exact rb.len, fun j s h => ?_, fun j k c c' u h1 h2 h3 h4 => ?_⟩
  · by_cases e : i = j
    · subst e
      have lt : i < (σ.set i sl).length := (List.getElem?_eq_some_iff.mp h).1
      rw [List.length_set] at lt
      rw [List.getElem?_set_self lt] at h
      cases h
      rcases hs with rfl | ⟨a, rfl, rfl⟩
      · trivial
      · exact List.getElem?_set_self (by rw [← rb.len]; exact lt)
    · rw [List.getElem?_set_ne e] at h
      have q := rb.slot j s h
      cases s with
      | emp => trivial
      | exn b => exact (List.getElem?_set_ne e).trans q
      | val w => obtain ⟨v, hv, r⟩ := q; exact ⟨v, by rw [List.getElem?_set_ne e]; exact hv, r⟩
      | own c => obtain ⟨a, ha, q⟩ := q; exact ⟨a, by rw [List.getElem?_set_ne e]; exact ha, q⟩
  · have n1 := no h1
    have n2 := no h2
    rw [List.getElem?_set_ne n1] at h1 h3
    rw [List.getElem?_set_ne n2] at h2 h4
    exact rb.inj j k c c' u h1 h2 h3 h4
theorem cs_try {rs : List String} {c : String} {cv : Value} {i : Nat} {n : Str} {body suite : List Stmt} {b₀ : Stmt} {np pos pos' : Pos} {fb : DS} {fs : Addr → Exn → DS} (hs : X.stack = X.env :: X.outer) (hf : X.env.frame = some X.env.locals) (hN : X.N.Nodup) (hi : X.N[i]? = some n) (hln : X.env.kindOf n = some .local)
    (hc : Names X (Str.ofString c) cv) (tk : Takes X Wx) (hx : ∀ r ∈ rs, PySem.W.exmOne X.K (.ref (ca X.K r)) cv = some (excSub r c))
    (hb : ∀ (W : WX) (pn : List (Addr × Obj)) (xe : Value → Shared → Prop), Takes (X.tr pn xe) W → PassesOwn (model X.prog X.w) X.A X.env xe → SSs fr (X.tr pn xe) W body fb)
    (hsu : ∀ (a : Addr) (oe : Obj) (r : String) (pn : List (Addr × Obj)), r ∈ rs → Zc (.ref (ca X.K r)) none oe → (∃ vs, oe.data = .fields vs) → SSs fr (X.suite a ((a, oe) :: pn)) W0 (b₀ :: suite) (fs a ⟨r, none⟩)) :
    SS fr X Wx (.Try body [.ExceptHandler (some (.Name (Str.ofString c) np)) (some n) (b₀ :: suite) pos'] [] [] pos) (sTry rs fb c i fs) := by
  refine PS.imp (ps_try_as (tb := fun W => semS fr X.K W fb) (ts := fun a cls d D σ H => ∃ r, r ∈ rs ∧ cls = .ref (ca X.K r) ∧ d = none ∧ semS fr X.K W0 (fs a ⟨r, none⟩) D σ H) hs hf hN hi hln hc tk hb (fun a oe cls d pn hz hv => ⟨fun pins s σ H D I h => by
    obtain ⟨r, hr, rfl, rfl, h⟩ := h
    exact (hsu a oe r pn hr hz hv).run pins s σ H D I h⟩)) fun D σV H h => ?_
  obtain ⟨F, I, ρ, σ, S, rb, h⟩ := h
  refine ⟨F, I, ρ, σ, S, rb, ?_⟩
  unfold sTry at h
  cases hfb : fb σ S with
  | ok f σ1 S1 =>
    rw [hfb] at h
    cases f <;> exact h
  | fail => rw [hfb] at h; exact h
  | exc e σ1 S1 =>
    rw [hfb] at h
    dsimp only at h
    by_cases h1 : e.c ∈ rs ∧ e.x = none
    · rw [if_pos h1] at h
      obtain ⟨hr, hxn⟩ := h1
      obtain ⟨ec, ex⟩ := e
      have hxn : ex = none := hxn
      subst hxn
      have hr : ec ∈ rs := hr
      intro I' ρ' H' d σV' g rb' hd
      have hd : d = none := hd
      subst hd
      refine ⟨excSub ec c, hx ec hr, fun hb1 a na => ?_, fun hb1 => ?_⟩
      · rw [if_pos (show excSub (Exn.mk ec none).c c = true from hb1)] at h
        by_cases h2 : ∃ f σ2 S2, ∀ a, ∃ σ3, fs a ⟨ec, none⟩ (σ1.set i (.exn a)) S1 = .ok f σ3 S2 ∧ σ3.set i .emp = σ2
        · rw [if_pos h2] at h
          obtain ⟨f, σ2, S2, hall⟩ := h2
          obtain ⟨σ3, e3, q3⟩ := hall 0
          obtain ⟨σ4, e4, q4⟩ := hall a
          rw [e3] at h
          refine ⟨ec, hr, rfl, rfl, F, I', ρ', σ1.set i (.exn a), S1, rb'.setX (.inr ⟨a, rfl, rfl⟩), ?_⟩
          rw [e4]
          cases f with
          | next =>
            intro I2 ρ2 H2 σV2 g2 rb2
            refine h I2 ρ2 H2 (σV2.set i none) (g.trans g2) ?_
            rw [q3, ← q4]
            exact rb2.setX (.inl rfl)
          | ret w =>
            intro I2 ρ2 H2 v g2 rb2 t
            exact h I2 ρ2 H2 v (g.trans g2) rb2 t
          | brk => exact h.elim
          | cnt => exact h.elim
        · rw [if_neg h2] at h
          exact h.elim
      · rw [if_neg (show ¬ excSub (Exn.mk ec none).c c = true by rw [hb1]; decide)] at h
        exact h I' ρ' H' none σV' g rb' rfl
    · rw [if_neg h1] at h
      exact h.elim
end
end MR

set_option Elab.async false
set_option linter.all false
set_option maxRecDepth 100000
namespace MR
open PySem PySem.Spec PyProof.Rows L2
def dIsE (a : Addr) (i : Nat) (r c : String) : DE := fun σ S => match σ[i]? with
  | some (.exn b) => if b = a then .ok (.bl (excSub r c)) σ S else .fail
  | _ => .fail
section
variable {X : Cx} {Wx : WX}
theorem sem_isE {a : Addr} {i : Nat} {r c : String} {cl : V} {cv : Value} {σV : L2.St} {H : Hp} {Q : VK} (hcv : ∀ u, RelV cl u → u = cv) (hk : PySem.W.kitOne X.K (.ref (ca X.K r)) cv = some (excSub r c)) (h : semE X.K Wx (dIsE a i r c) σV H Q) :
    tCB (rIsE X.K (ca X.K r) a) (tCons (tVar i) (tCons (tC cl) tNil)) σV H Q := by
  obtain ⟨F, I, ρ, σ, S, rb, h⟩ := h
  unfold dIsE at h
  split at h
  · rename_i b hb
    by_cases e : b = a
    · subst e
      rw [if_pos rfl] at h
      have hv : σV[i]? = some (some (.ref b)) := rb.slot i _ hb
      exact ⟨_, hv, cl, cv, excSub r c, rfl, hcv, hk, h I ρ H _ Gr.refl rb (.inr .bl)⟩
    · rw [if_neg e] at h; exact h.elim
  · exact h.elim
/-- an own class -/
theorem c_isE {a : Addr} {oe : Obj} {pn : List (Addr × Obj)} {i : Nat} {n : Str} {r c : String} {p q q2 pos : Pos} (C : ExcC X.K (ca X.K r)) (hz : Zc (.ref (ca X.K r)) none oe) (hf : ∃ vs, oe.data = .fields vs) (hk : PySem.W.kitOne X.K (.ref (ca X.K r)) (.ref (ca X.K c)) = some (excSub r c))
    (hm : X.mg "isinstance" = none) (hc : X.mg (Str.ofString c) = some (.ref (ca X.K c))) (hN : X.N[i]? = some n := by rfl) (hv : Vis X.env.scope n := by first | exact Or.inl rfl | exact Or.inr (Or.inl rfl) | exact Or.inr (Or.inr rfl)) (hd : (n == ("__debug__" : Str)) = false := by decide) (hcd : (n == ("__classdict__" : Str)) = false := by decide)
    (hg : Gl X "isinstance" := by rfl) (hg2 : Gl X (Str.ofString c) := by rfl) (hdb : (Str.ofString c == ("__debug__" : Str)) = false := by decide)
    (he : starEach [.Name n q, .Name (Str.ofString c) q2] X.env = (false, eval (.Name n q) X.env) :: starEach [.Name (Str.ofString c) q2] X.env := by rfl) (hpl : (backTo pos (starEach [.Name (Str.ofString c) q2] X.env)).any (·.1) = false := by rfl) :
    SE (X.suite a ((a, oe) :: pn)) Wx (.Call (.Name "isinstance" p) [.Name n q, .Name (Str.ofString c) q2] [] pos) (dIsE a i r c) :=
  PE.imp (pe_callB (call_isE C hz hf) hg hm (by decide +kernel) (pa_cons (pe_var hN hv hd hcd) (pa_cons (pe_glob (v := .ref (ca X.K c)) hg2 hc rfl hdb) pa_nil) he) (by decide) (by decide) he hpl) fun _ _ _ h => sem_isE (X := X) (cv := .ref (ca X.K c)) (fun u ru => by cases ru; rfl) hk h
/-- a built-in class -/
theorem c_isEb {a : Addr} {oe : Obj} {pn : List (Addr × Obj)} {i : Nat} {n : Str} {r c : String} {p q q2 pos : Pos} (C : ExcC X.K (ca X.K r)) (hz : Zc (.ref (ca X.K r)) none oe) (hf : ∃ vs, oe.data = .fields vs) (hk : PySem.W.kitOne X.K (.ref (ca X.K r)) (.type c) = some (excSub r c))
    (hm : X.mg "isinstance" = none) (hc : X.mg (Str.ofString c) = none) (hb : bootBuiltins (Str.ofString c) = some (.type c) := by decide +kernel) (hN : X.N[i]? = some n := by rfl) (hv : Vis X.env.scope n := by first | exact Or.inl rfl | exact Or.inr (Or.inl rfl) | exact Or.inr (Or.inr rfl)) (hd : (n == ("__debug__" : Str)) = false := by decide) (hcd : (n == ("__classdict__" : Str)) = false := by decide)
    (hg : Gl X "isinstance" := by rfl) (hg2 : Gl X (Str.ofString c) := by rfl) (hn : (Str.ofString c) ≠ "__name__" := by decide) (hdb : (Str.ofString c == ("__debug__" : Str)) = false := by decide)
    (he : starEach [.Name n q, .Name (Str.ofString c) q2] X.env = (false, eval (.Name n q) X.env) :: starEach [.Name (Str.ofString c) q2] X.env := by rfl) (hpl : (backTo pos (starEach [.Name (Str.ofString c) q2] X.env)).any (·.1) = false := by rfl) :
    SE (X.suite a ((a, oe) :: pn)) Wx (.Call (.Name "isinstance" p) [.Name n q, .Name (Str.ofString c) q2] [] pos) (dIsE a i r c) :=
  PE.imp (pe_callB (call_isE C hz hf) hg hm (by decide +kernel) (pa_cons (pe_var hN hv hd hcd) (pa_cons (pe_bltn (v := .ty c) hg2 hc hb rfl hn hdb) pa_nil) he) (by decide) (by decide) he hpl) fun _ _ _ h => sem_isE (X := X) (cv := .type c) (fun u ru => by cases ru; rfl) hk h
end
end MR

set_option Elab.async false
set_option linter.all false
set_option maxRecDepth 100000
namespace MR
open PySem PySem.Spec PyProof.Rows L2
theorem al_nil (P : String → Prop) : ∀ y ∈ ([] : List String), P y := fun y h => by cases h
theorem al_cons (P : String → Prop) {x : String} {l : List String} (h : P x) (t : ∀ y ∈ l, P y) : ∀ y ∈ x :: l, P y := fun y hy => by
  rcases List.mem_cons.mp hy with e | hy
  · rw [e]; exact h
  · exact t y hy
theorem ex_b {α : Type} {o : Option α} {b b' : α} (h : b' = b) (e : o = some b) : o = some b' := by rw [h, e]
inductive Xf where
  | exq (r : String)
  | kit (r c : String) (b : Bool)
  | kitb (r c : String) (b : Bool)
  | tdn (x : Str)
def Xf.ok (K : PySem.W.Frag) : Xf → Bool
  | .exq r => He.eqO (PySem.W.findIn K (.ref (ca K r)) "__getattribute__") (some (some (.builtin "BaseException.__getattribute__"))) && (He.eqO (PySem.W.findIn K (.ref (ca K r)) "__getattr__") (some none) &&
      (decide (PySem.W.subIn K (.ref (ca K r)) (.type "BaseException") = some true) && (PySem.W.hasDictIn K (ca K r) && (He.eqO (PySem.W.findIn K (.ref (ca K r)) "__class__") (some (some (.builtin "object.__class__"))) &&
      (He.eqO (PySem.W.specialIn K (.builtin "object.__class__") "__get__") (some (some (.builtin "getset_descriptor.__get__"))) && (decide (PySem.W.takesIn K (.builtin "object.__class__") = some true) && decide (PySem.W.mroIn K (ca K r) (.type "object") = some true)))))))
  | .kit r c b => decide (PySem.W.kitOne K (.ref (ca K r)) (.ref (ca K c)) = some b)
  | .kitb r c b => decide (PySem.W.kitOne K (.ref (ca K r)) (.type c) = some b)
  | .tdn x => (match K.lookup (He.ga K x) with
    | some ⟨.type c, none, _, _⟩ => decide (c = "tuple")
    | _ => false)
theorem exq_ok {K : PySem.W.Frag} {r : String} (h : (Xf.exq r).ok K = true) : ExcC K (ca K r) := by
  obtain ⟨h1, h⟩ := He.ba h
  obtain ⟨h2, h⟩ := He.ba h
  obtain ⟨h3, h⟩ := He.ba h
  obtain ⟨h4, h⟩ := He.ba h
  obtain ⟨h5, h⟩ := He.ba h
  obtain ⟨h6, h⟩ := He.ba h
  obtain ⟨h7, h8⟩ := He.ba h
  exact ⟨He.eqO_ok h1, He.eqO_ok h2, of_decide_eq_true h3, h4, He.eqO_ok h5, He.eqO_ok h6, of_decide_eq_true h7, of_decide_eq_true h8⟩
theorem kit_ok {K : PySem.W.Frag} {r c : String} {b : Bool} (h : (Xf.kit r c b).ok K = true) : PySem.W.kitOne K (.ref (ca K r)) (.ref (ca K c)) = some b := of_decide_eq_true h
theorem kitb_ok {K : PySem.W.Frag} {r c : String} {b : Bool} (h : (Xf.kitb r c b).ok K = true) : PySem.W.kitOne K (.ref (ca K r)) (.type c) = some b := of_decide_eq_true h
structure SaysX (fa : List He.Fa) (fn : List He.DefD) (tb : Tups) (xs : List Xf) (K : PySem.W.Frag) : Prop where
  d : He.SaysD fa fn K
  t : (tupsOk tb K && xs.all (Xf.ok K)) = true
section
variable {fa : List He.Fa} {fn : List He.DefD} {tb : Tups} {xs : List Xf} {K : PySem.W.Frag}
theorem SaysX.m (c : SaysX fa fn tb xs K) : SaysM fa fn tb K := ⟨c.d, (He.ba c.t).1⟩
theorem SaysX.x (c : SaysX fa fn tb xs K) (i : Nat) {f : Xf} (h : xs[i]? = some f := by rfl) : f.ok K = true := List.all_eq_true.mp (He.ba c.t).2 f (List.mem_of_getElem? h)
end
end MR

set_option Elab.async false
set_option linter.all false
set_option maxRecDepth 100000
namespace MR
open PySem PySem.Spec PyProof.Rows L2
mutual
theorem reads_t {h h' : Heap} (k : ∀ b o, h.get? b = some o → o.cls = .type "tuple" → ∃ o', h'.get? b = some o' ∧ o'.cls = o.cls ∧ o'.data = o.data) : ∀ {v : Value} {d : PyData} {as : List Addr}, Reads h v d as → as = [] → Reads h' v d []
  | _, _, _, .none, _ => .none
  | _, _, _, .bool b, _ => .bool b
  | _, _, _, .int i t, _ => .int i t
  | _, _, _, .str x t, _ => .str x t
  | _, _, _, .list _ _ _ _, e => by cases e
  | _, _, _, .tuple ho hc hd hr, e => by
    obtain ⟨o', h1, h2, h3⟩ := k _ _ ho hc
    exact .tuple h1 (h2.trans hc) (h3.trans hd) (readsAll_t k hr e)
  | _, _, _, .dict _ _ _ _ _, e => by cases e
theorem readsAll_t {h h' : Heap} (k : ∀ b o, h.get? b = some o → o.cls = .type "tuple" → ∃ o', h'.get? b = some o' ∧ o'.cls = o.cls ∧ o'.data = o.data) : ∀ {vs : List Value} {ds : List PyData} {as : List Addr}, ReadsAll h vs ds as → as = [] → ReadsAll h' vs ds []
  | _, _, _, .nil, _ => .nil
  | _, _, _, .cons (as := as) (bs := bs) h r, e => by
    have q := List.append_eq_nil_iff.mp e
    exact .cons (as := []) (bs := []) (reads_t k h q.1) (readsAll_t k r q.2)
end
/-- what is kept: the frames' objects up to their slots -/
structure Kq (fs : List Addr) (h h' : Heap) : Prop where
  keep : ∀ b o, h.get? b = some o → b ∉ fs → h'.get? b = some o
  slot : ∀ b o, h.get? b = some o → b ∈ fs → ∃ sl, h'.get? b = some { o with slots := sl }
section
variable {fs : List Addr} {h h1 h2 : Heap}
theorem Kq.of (k : ∀ b o, h.get? b = some o → h1.get? b = some o) : Kq fs h h1 := ⟨fun b o e _ => k b o e, fun b o e _ => ⟨o.slots, k b o e⟩⟩
theorem Kq.trans (a : Kq fs h h1) (b : Kq fs h1 h2) : Kq fs h h2 := ⟨fun c o e n => b.keep c o (a.keep c o e n) n, fun c o e n => by
  obtain ⟨sl, e1⟩ := a.slot c o e n
  obtain ⟨sl2, e2⟩ := b.slot c _ e1 n
  exact ⟨sl2, e2⟩⟩
theorem Kq.any (a : Kq fs h h1) {b : Addr} {o : Obj} (e : h.get? b = some o) : ∃ sl, h1.get? b = some { o with slots := sl } := by
  by_cases hb : b ∈ fs
  · exact a.slot b o e hb
  · exact ⟨o.slots, a.keep b o e hb⟩
end
section
variable {prog : Program} {w : World} {A : Around} {E : Value → Shared → Prop} {s : Shared} {a kS : Addr} {b : Bool} {vs : List Value} {e1 : Nat} {P : PySem.Fin → Shared → Prop} {kz : List PyData} {fs : List Addr} {hb : Heap} {f : Value}
end
end MR

set_option Elab.async false
set_option linter.all false
set_option maxRecDepth 100000
namespace MR
open PySem PySem.Spec PyProof.Rows L2
/-- data without lists, n deep -/
def fl : Nat → D → Bool
  | _, .non => true
  | _, .bl _ => true
  | _, .int _ => true
  | _, .str _ => true
  | n + 1, .tup l => !pairD l && l.all (fl n)
  | _, _ => false
theorem fl_np {n : Nat} {l : List D} (e : fl (n + 1) (.tup l) = true) : pairD l = false := by
  have e : (!pairD l && l.all (fl n)) = true := e
  simpa using (Bool.and_eq_true_iff.mp e).1
theorem fl_all {n : Nat} {l : List D} (e : fl (n + 1) (.tup l) = true) : l.all (fl n) = true := by
  have e : (!pairD l && l.all (fl n)) = true := e
  exact (Bool.and_eq_true_iff.mp e).2
section
variable {K : PySem.W.Frag} {P : Program} {w : World} {H I : Hp} {h : Heap} {ρ : List Addr}
end
/-- tuples alone -/
def tupH (H : Hp) : Hp := fun b => match H b with
  | some (.tup xs) => some (.tup xs)
  | some (.frz o (.tup xs)) => some (.frz o (.tup xs))
  | _ => none
/-- .. each with its object -/
def tupO (H : Hp) (h : Heap) : Hp := fun b => match H b with
  | some (.tup xs) => (h.get? b).map fun o => .frz o (.tup xs)
  | some (.frz o (.tup xs)) => some (.frz o (.tup xs))
  | _ => none
section
variable {K : PySem.W.Frag} {P : Program} {w : World} {H I : Hp} {h h1 : Heap} {ρ : List Addr}
theorem tupO_sq (hok : HOk P w H h) {a : Addr} {xs : List V} (q : SqT K (tupH H) a xs) : SqT K (tupO H h) a xs := by
  rcases q with q | q
  · refine .inl ?_
    unfold Rd tupH at q
    cases hb : H a with
    | none => rw [hb] at q; rcases q with q | ⟨_, q⟩ <;> cases q
    | some u =>
      rw [hb] at q
      cases u with
      | tup ys =>
        rcases q with q | ⟨_, q⟩
        · cases q
          obtain ⟨_, its, r, ob, ho, _⟩ := hok a _ hb
          refine .inr ⟨ob, ?_⟩
          unfold tupO
          rw [hb]
          dsimp only
          rw [ho]
          rfl
        · cases q
      | frz ob v =>
        cases v with
        | tup ys =>
          refine .inr ?_
          rcases q with q | ⟨o', q⟩
          · cases q
          · cases q
            refine ⟨ob, ?_⟩
            unfold tupO
            rw [hb]
        | _ => rcases q with q | ⟨_, q⟩ <;> cases q
      | _ => rcases q with q | ⟨_, q⟩ <;> cases q
  · exact .inr q
mutual
theorem tupO_rep (hok : HOk P w H h) : ∀ {v : V} {d : D}, Rep K [] (tupH H) v d → (∃ n, fl n d = true) → Rep K [] (tupO H h) v d
  | _, _, .non, _ => .non
  | _, _, .bl, _ => .bl
  | _, _, .int, _ => .int
  | _, _, .str, _ => .str
  | _, _, .tup q r, e => .tup (.inr ⟨tupO_sq hok q.sq, by
    obtain ⟨n, e⟩ := e
    cases n with
    | zero => cases e
    | succ n => exact (pair_rep r).trans (fl_np e)⟩) (tupO_reps hok r (by
    obtain ⟨n, e⟩ := e
    cases n with
    | zero => cases e
    | succ n => exact ⟨n, fl_all e⟩))
  | _, _, .lst _ _, e => by obtain ⟨n, e⟩ := e; cases n <;> cases e
  | _, _, .dK _ _ _, e => by obtain ⟨n, e⟩ := e; cases n <;> cases e
  | _, _, .dT _ _ _, e => by obtain ⟨n, e⟩ := e; cases n <;> cases e
  | _, _, .obj _, e => by obtain ⟨n, e⟩ := e; cases n <;> cases e
  | _, _, .scr _, e => by obtain ⟨n, e⟩ := e; cases n <;> cases e
  | _, _, .fK _ _ _, e => by obtain ⟨n, e⟩ := e; cases n <;> cases e
  | _, _, .fT _ _ _, e => by obtain ⟨n, e⟩ := e; cases n <;> cases e
  | _, _, .cst _ _, e => by obtain ⟨n, e⟩ := e; cases n <;> cases e
theorem tupO_reps (hok : HOk P w H h) : ∀ {vs : List V} {ds : List D}, Reps K [] (tupH H) vs ds → (∃ n, ds.all (fl n) = true) → Reps K [] (tupO H h) vs ds
  | _, _, .nil, _ => .nil
  | _, _, .cons r rs, e => by
    obtain ⟨n, e⟩ := e
    rw [List.all_cons, Bool.and_eq_true] at e
    exact .cons (tupO_rep hok r ⟨n, e.1⟩) (tupO_reps hok rs ⟨n, e.2⟩)
end
end
/-- the key of a datum -/
def keyOf (d : Den) (x : D) : Option PyData := match d [x] [] with
  | .ok kw [] => if fl 8 x && fl 8 kw then toData kw else none
  | _ => none
section
variable {X : Cx} {pins : List (Addr × Obj)} {σ : L2.St} {H : Hp} {s : Shared} {k : Nat} {f : Addr} {fd : FuncData} {ps : List Str} {d : Den}
end
end MR

set_option Elab.async false
set_option linter.all false
set_option maxRecDepth 100000
namespace MR
open PySem PySem.Spec PyProof.Rows L2
open Classical in
/-- what is frozen, without objects, stands by tuples alone -/
theorem sqt_H {K : PySem.W.Frag} {I H : Hp} (sub : Sub I H) {a : Addr} {xs : List V} (q : SqT K I a xs) : SqT K (tupH H) a xs := by
  rcases q with (q | ⟨ob, q⟩) | q
  · rcases sub a _ q with z | ⟨z, _⟩
    · exact .inl (.inl (by unfold tupH; rw [z]))
    · exact z.elim
  · rcases sub a _ q with z | ⟨z, _⟩
    · exact .inl (.inr ⟨ob, by unfold tupH; rw [z]⟩)
    · exact z.elim
  · exact .inr q
mutual
theorem rep_H {K : PySem.W.Frag} {I H : Hp} {ρ : List Addr} (sub : Sub I H) : ∀ {v : V} {d : D}, Rep K ρ I v d → (∃ n, fl n d = true) → Rep K [] (tupH H) v d
  | _, _, .non, _ => .non
  | _, _, .bl, _ => .bl
  | _, _, .int, _ => .int
  | _, _, .str, _ => .str
  | _, _, .tup q r, e => .tup (.inr ⟨sqt_H sub q.sq, by
    obtain ⟨n, e⟩ := e
    cases n with
    | zero => cases e
    | succ n => exact (pair_rep r).trans (fl_np e)⟩) (reps_H sub r (by
    obtain ⟨n, e⟩ := e
    cases n with
    | zero => cases e
    | succ n => exact ⟨n, fl_all e⟩))
  | _, _, .lst _ _, e => by obtain ⟨n, e⟩ := e; cases n <;> cases e
  | _, _, .dK _ _ _, e => by obtain ⟨n, e⟩ := e; cases n <;> cases e
  | _, _, .dT _ _ _, e => by obtain ⟨n, e⟩ := e; cases n <;> cases e
  | _, _, .obj _, e => by obtain ⟨n, e⟩ := e; cases n <;> cases e
  | _, _, .scr _, e => by obtain ⟨n, e⟩ := e; cases n <;> cases e
  | _, _, .fK _ _ _, e => by obtain ⟨n, e⟩ := e; cases n <;> cases e
  | _, _, .fT _ _ _, e => by obtain ⟨n, e⟩ := e; cases n <;> cases e
  | _, _, .cst _ _, e => by obtain ⟨n, e⟩ := e; cases n <;> cases e
theorem reps_H {K : PySem.W.Frag} {I H : Hp} {ρ : List Addr} (sub : Sub I H) : ∀ {vs : List V} {ds : List D}, Reps K ρ I vs ds → (∃ n, ds.all (fl n) = true) → Reps K [] (tupH H) vs ds
  | _, _, .nil, _ => .nil
  | _, _, .cons r rs, e => by
    obtain ⟨n, e⟩ := e
    rw [List.all_cons, Bool.and_eq_true] at e
    exact .cons (rep_H sub r ⟨n, e.1⟩) (reps_H sub rs ⟨n, e.2⟩)
end
/-- mergeSort through a map -/
theorem sort_map {α β : Type} (f : α → β) (le : β → β → Bool) (l : List α) : (l.mergeSort fun x y => le (f x) (f y)).map f = (l.map f).mergeSort le := by
  have h := List.map_mergeSort (r := fun x y => le (f x) (f y)) (s := le) (f := f) (l := l) (fun a _ b _ => rfl)
  exact h
section
variable {X : Cx} {Wx : WX}
end
end MR

set_option Elab.async false
set_option linter.all false
set_option maxRecDepth 100000
namespace MR
open PySem PySem.Spec PyProof.Rows L2
section
variable {X : Cx} {Wx : WX}
open Classical in
open Classical in
end
end MR

set_option Elab.async false
set_option linter.all false
set_option maxRecDepth 100000
namespace MR
open PySem PySem.Spec PyProof.Rows L2
section
variable {K : PySem.W.Frag}
end
section
variable {X : Cx}
end
end MR

set_option Elab.async false
set_option linter.all false
set_option maxRecDepth 100000
namespace MR
open PySem PySem.Spec PyProof.Rows L2
section
variable {K : PySem.W.Frag} {F I : Hp} {ρ : List Addr} {S : Sto} {H : Hp} {σV : L2.St} {σ : Sl}
end
/-- the store's dict that an expression names -/
def pickO (fe : DE) (σ : Sl) (S : Sto) : Option (Nat × List D) := match fe σ S with
  | .ok (.obj r) _ _ => (match S[r]? with
    | some (.con false (.lst l)) => some (r, l)
    | _ => none)
  | _ => none
def openL (r : Nat) (S : Sto) : Option Sto := match S[r]? with
  | some (.con true (.lst l)) => some (S.set r (.con false (.lst l)))
  | _ => none
def unlkL {α : Type} (r : Nat) : Res α → Res α
  | .ok a σ S => (match openL r S with
    | some S' => .ok a σ S'
    | none => .fail)
  | _ => .fail
def sLockL (fe : DE) (f : DS) : DS := fun σ S => match pickO fe σ S with
  | some (r, l) => unlkL r (f σ (S.set r (.con true (.lst l))))
  | none => .fail
section
variable {X : Cx} {Wx : WX} {fr : Bool}
end
def lockdL (σ : Sl) (S : Sto) (x : D) : Option (List D) := match x with
  | .obj r => (match S[r]? with
    | some (.con true (.lst l)) => some l
    | _ => none)
  | _ => none
def iLstL (f : DE) : DI := fun σ S => (f σ S).bind fun x σ S => match lockdL σ S x with
  | some l => .ok l σ S
  | none => .fail
section
variable {X : Cx} {Wx : WX}
def dCall0 (d : Den) : DE := fun σ S => match d [] S with
  | .ok w S' => .ok w σ S'
  | _ => .fail
theorem pass_no {P : Program} {w : World} (hP : X.prog = P) (hw : X.w = w) : Passes (L2.CX X.prog X.w) X (fun _ _ _ => False) := fun _ _ _ _ _ _ _ h => by
  obtain ⟨_, _, _, _, _, _, _, _, _, _, _, _, z⟩ := h
  exact z.elim
variable {k m : Nat} {x : Str} {d : Den} {p pos : Pos}
theorem cf_call0 (C : Fn true X.prog X.w X.K X.mg X.base x k 0 d) (hr : Room m X.A) (hkm : k ≤ m) (hg : Gl X x := by rfl) (hdb : (x == ("__debug__" : Str)) = false := by decide) : SF X Wx (.Call (.Name x p) [] [] pos) (dCall0 d) := by
  obtain ⟨f, fd, ps, hm, hk, hb, hp, ok⟩ := C.ex
  refine PE.imp (pe_call0 ok (hr.mono hkm) hg hm hk hb .nil (pass_no rfl rfl) hdb) fun σV H Q h => ?_
  obtain ⟨F, I, ρ, σ, S, rb, h⟩ := h
  unfold dCall0 at h
  cases e : d [] S with
  | ok w S' =>
    rw [e] at h
    refine ⟨rfl, fr1 F H σV σ, I, ρ, S, [], rb.callee, .nil, ?_⟩
    rw [e]
    intro I' ρ' H' v g rb' t
    rcases t with ⟨a, rfl, nf, ni, nr, ho⟩ | t
    · have no1 : NoOwn σV σ a := fun i c h1 h2 => by
        obtain ⟨b, hb, _, _, _, hob⟩ := rb.slot i _ h1
        obtain ⟨u, hu⟩ := hob.there
        rw [h2] at hb
        cases hb
        unfold fr1 at nf
        rw [if_pos ⟨i, c, h1, h2⟩, hu] at nf
        cases nf
      have nF : F a = none := by
        unfold fr1 at nf
        rw [if_neg (fun ⟨i, c, h1, h2⟩ => no1 i c h1 h2)] at nf
        exact nf
      exact h I' ρ' H' _ g (rb.back g rb') (.inl ⟨a, rfl, nF, ni, nr, no1, ho⟩)
    · exact h I' ρ' H' v g (rb.back g rb') (.inr t)
  | exc x S' => rw [e] at h; exact h.elim
  | fail => rw [e] at h; exact h.elim
end
end MR

set_option Elab.async false
set_option linter.all false
set_option maxRecDepth 100000
namespace MR
open PySem PySem.Spec PyProof.Rows L2
section
variable {K : PySem.W.Frag} {F I : Hp} {ρ : List Addr} {S : Sto} {H H' : Hp} {σV : L2.St} {σ : Sl}
theorem RB.more (rb : RB K F I ρ S H σV σ) (k : ∀ b o, H b = some o → H' b = some o) : RB K F I ρ S H' σV σ := by
  refine ⟨fun a o h => k _ _ (rb.fr a o h), fun a o h => ?_, rb.dis, fun r o h => ?_, rb.nd, rb.rl, rb.len, fun i s h => ?_, rb.inj⟩
  · rcases rb.sub a o h with z | ⟨d, ob, z⟩
    · exact .inl (k _ _ z)
    · exact .inr ⟨d, ob, k _ _ z⟩
  · obtain ⟨a, ha, hf, hi, hc⟩ := rb.store r o h
    exact ⟨a, ha, hf, hi, hc.gr Gr.refl fun u => k a u⟩
  · have q := rb.slot i s h
    cases s with
    | emp => trivial
    | exn b => exact q
    | val w => exact q
    | own c =>
      obtain ⟨a, ha, hf, hi, hr, ho⟩ := q
      exact ⟨a, ha, hf, hi, hr, ho.gr Gr.refl fun u => k a u⟩
end
/-- data: no objects, no dicts -/
def pureD : Nat → D → Bool
  | _, .non => true
  | _, .bl _ => true
  | _, .int _ => true
  | _, .str _ => true
  | n + 1, .tup l => l.all (pureD n)
  | n + 1, .lst l => l.all (pureD n)
  | _, _ => false
def noDict (I : Hp) : Hp := fun b => match I b with
  | some (.dK _) => none
  | some (.dT _) => none
  | x => x
theorem noDict_of {I : Hp} {b : Addr} {o : HO} (h : I b = some o) (n : ¬ isDc o) : noDict I b = some o := by
  unfold noDict
  rw [h]
  cases o with
  | dK l => exact absurd trivial n
  | dT l => exact absurd trivial n
  | _ => rfl
mutual
theorem rep_nd {K : PySem.W.Frag} {ρ : List Addr} {I I0 : Hp} (k : ∀ b o, noDict I b = some o → I0 b = some o) : ∀ {v : V} {d : D}, Rep K ρ I v d → (∃ n, pureD n d = true) → Rep K [] I0 v d
  | _, _, .non, _ => .non
  | _, _, .bl, _ => .bl
  | _, _, .int, _ => .int
  | _, _, .str, _ => .str
  | _, _, .tup q r, e => .tup (by
    rcases q with q | ⟨(q | ⟨ob, q⟩) | q, np⟩
    · exact .inl (k _ _ (noDict_of q (fun z => z)))
    · exact .inl (k _ _ (noDict_of q (fun z => z)))
    · exact .inr ⟨.inl (.inr ⟨ob, k _ _ (noDict_of q (fun z => z))⟩), np⟩
    · exact .inr ⟨.inr q, np⟩) (reps_nd k r (by
    obtain ⟨n, e⟩ := e
    cases n with
    | zero => cases e
    | succ n => exact ⟨n, e⟩))
  | _, _, .lst q r, e => .lst (k _ _ (noDict_of q (fun z => z))) (reps_nd k r (by
    obtain ⟨n, e⟩ := e
    cases n with
    | zero => cases e
    | succ n => exact ⟨n, e⟩))
  | _, _, .dK _ _ _, e => by obtain ⟨n, e⟩ := e; cases n <;> cases e
  | _, _, .dT _ _ _, e => by obtain ⟨n, e⟩ := e; cases n <;> cases e
  | _, _, .obj _, e => by obtain ⟨n, e⟩ := e; cases n <;> cases e
  | _, _, .scr _, e => by obtain ⟨n, e⟩ := e; cases n <;> cases e
  | _, _, .fK _ _ _, e => by obtain ⟨n, e⟩ := e; cases n <;> cases e
  | _, _, .fT _ _ _, e => by obtain ⟨n, e⟩ := e; cases n <;> cases e
  | _, _, .cst _ _, e => by obtain ⟨n, e⟩ := e; cases n <;> cases e
theorem reps_nd {K : PySem.W.Frag} {ρ : List Addr} {I I0 : Hp} (k : ∀ b o, noDict I b = some o → I0 b = some o) : ∀ {vs : List V} {ds : List D}, Reps K ρ I vs ds → (∃ n, ds.all (pureD n) = true) → Reps K [] I0 vs ds
  | _, _, .nil, _ => .nil
  | _, _, .cons r rs, e => by
    obtain ⟨n, e⟩ := e
    rw [List.all_cons, Bool.and_eq_true] at e
    exact .cons (rep_nd k r ⟨n, e.1⟩) (reps_nd k rs ⟨n, e.2⟩)
end
section
variable {X : Cx} {Wx : WX} {fr : Bool} {k m : Nat} {x y z : Str} {d : Den} {p pos q q2 : Pos}
end
end MR

set_option Elab.async false
set_option linter.all false
set_option maxRecDepth 100000
namespace MR
open PySem PySem.Spec PyProof.Rows L2
section
variable {prog : Program} {w : World} {A : Around} {E : Value → Shared → Prop} {s : Shared}
theorem setItem_listU {l : Addr} {items : Array Value} {n : Nat} {k : Int} {t : Tok} {v : Value} {Q : Unit → Shared → Prop} (ho : s.heap.get? l = some { cls := .type "list", data := .seq items n })
    (h0 : 0 ≤ k) (hfit : k < 2 ^ 63) (hn : k < items.size)
    (hQ : Q () { s with heap := s.heap.update l (Obj.mapSeq (·.setIfInBounds k.toNat v)) }) :
    wpAny (model prog w) A (setItem (.ref l) (.int k t) v) Q E s := by
  have hl : s.heap.IsList l items := ⟨_, ho, rfl, n, rfl⟩
  unfold setItem
  try with_reducible refine wpAny_holding ?_
  first | refine wpAny_bind (wpAny_pure ?_) | skip
  refine wpAny_bind (wpAny_sequenceKey hl.typeIs (by decide) ?_)
  refine wpAny_bind (wpAny_callSpecial?_slot (name := Str.ofString "__setitem__") hl.typeIs PySem.F.slot_list_setitem
    (wpAny_call_entry PySem.F.slot_list_setitem hl.typeIs PySem.F.entry_list_setitem ?_ (PySem.F.args_list_setitem_3 _ _ _)))
  show wpAny _ _ (Builtin.List.listSubscript? (.int k t) >>= _) _ _ s
  refine wpAny_bind (wpAny_listSubscript_int (fitsIndex_of h0 hfit) ?_)
  clear hfit
  obtain ⟨j, rfl⟩ := Int.eq_ofNat_of_zero_le h0
  have hj : j < items.size := by omega
  have hx' : items[j]? = some items[j] := Array.getElem?_eq_getElem hj
  show wpAny _ _ ((seqItemAt l j >>= fun r => pure (r.map (j, ·))) >>= _) _ _ s
  refine wpAny_bind (wpAny_bind (wpAny_seqItemAt ho rfl (wpAny_pure ?_)))
  rw [hx']
  show wpAny _ _ (setSeqItemAt l j v >>= _) _ _ s
  refine wpAny_bind (wpAny_setSeqItemAt ho rfl ?_)
  first
    | exact wpAny_bind (wpAny_pure (wpAny_pure ⟨.none, rfl, wpAny_pure hQ⟩))
    | exact wpAny_pure ⟨.none, rfl, wpAny_pure hQ⟩
end
theorem Vals.put {x : V} {u : Value} (r : RelV x u) : ∀ {xs : List V} {us : List Value}, Vals xs us → ∀ k : Nat, Vals (xs.set k x) (us.set k u)
  | _, _, .nil, _ => .nil
  | _, _, .cons _ t, 0 => .cons r t
  | _, _, .cons q t, k + 1 => .cons q (Vals.put r t k)
section
variable {X : Cx} {Wx : WX} {fr : Bool}
def sLPutT (td ty tv : TE) : TS := fun D σ H => tv σ H fun v H1 => td σ H1 fun x H2 => ty σ H2 fun y H3 => ∃ a xs, ∃ k : Nat, x = .ref a ∧ y = .int (k : Int) ∧ H3 a = some (.lst xs) ∧ k < xs.length ∧ D.nx σ (upd H3 a (.lst (xs.set k v)))
theorem ps_lput {o i value : Expr} {pos pos' : Pos} {td ty tv : TE} (ho : PE X o td) (hi : PE X i ty) (hv : PE X value tv) (hs : swapsWith value (some (.Subscript o i pos')) pos.line X.env = pure false) :
    PS X (.Assign [.Subscript o i pos'] value pos) (sLPutT td ty tv) := by
  refine ⟨fun pins s σ H D I h => ?_⟩
  refine wpAny_Assign_Subscript (thn (hv.run pins s σ H _ I h) fun rr s1 ⟨v, H1, I1, rv, q1⟩ => thn (ho.run pins s1 σ H1 _ I1 q1) fun u s2 ⟨x, H2, I2, rx, q2⟩ => thn (hi.run pins s2 σ H2 _ I2 q2) fun iv s3 ⟨y, H3, I3, ry, a, xs, k, ex, ey, g, lt, q3⟩ => ?_) hs
  subst ex ey
  obtain rfl : u = Value.ref a := rx
  obtain ⟨t, rfl⟩ := ry
  obtain ⟨z, its, n, r, hl, e⟩ := I3.lstM g
  have sl : sizeLine < 2 ^ 62 := by decide
  have lk : k < its.length := by omega
  have I4 := I3.lset (t' := s3.toks) (its' := its.set k rr) (f := (·.setIfInBounds k rr)) g e (by simp) (Vals.put rv r k) (by rw [List.length_set]; exact z)
  exact setItem_listU (k := (k : Int)) e (by omega) (by omega) (by rw [List.size_toArray]; omega) ⟨σ, _, I4, q3⟩
def sLPut (fd fy fv : DE) : DS := fun σ S => (dV fv σ S).bind fun w σ S => (fd σ S).bind fun x σ S => (fy σ S).bind fun y σ S => match deref σ S x, y with
  | some (.lst l), .int k => if 0 ≤ k ∧ k < l.length then ofMutS (chg σ S x (.lst (l.set k.toNat w))) else .fail
  | _, _ => .fail
theorem reps_set {K : PySem.W.Frag} {ρ : List Addr} {I : Hp} {v : V} {w : D} (r : Rep K ρ I v w) : ∀ {vs : List V} {ws : List D}, Reps K ρ I vs ws → ∀ k : Nat, Reps K ρ I (vs.set k v) (ws.set k w)
  | _, _, .nil, _ => .nil
  | _, _, .cons _ t, 0 => .cons r t
  | _, _, .cons q t, k + 1 => .cons q (reps_set r t k)
theorem cs_lput {o i value : Expr} {pos pos' : Pos} {fd fy fv : DE} (ho : SE X Wx o fd) (hi : SE X Wx i fy) (hv : SE X Wx value fv) (hs : swapsWith value (some (.Subscript o i pos')) pos.line X.env = pure false := by rfl) :
    SS fr X Wx (.Assign [.Subscript o i pos'] value pos) (sLPut fd fy fv) := by
  refine PS.imp (ps_lput ho hi (c_v hv) hs) fun D σV H h => ?_
  obtain ⟨F, I, ρ, σ, S, rb, h⟩ := h
  refine ⟨F, I, ρ, σ, S, rb, postS_bind h fun I1 ρ1 σ1 S1 H1 w v _ g1 rb1 t1 h1 => ?_⟩
  refine ⟨F, I1, ρ1, σ1, S1, rb1, postS_bind h1 fun I2 ρ2 σ2 S2 H2 x vx _ g2 rb2 t2 h2 => ?_⟩
  refine ⟨F, I2, ρ2, σ2, S2, rb2, postS_bind h2 fun I3 ρ3 σ3 S3 H3 y vy _ g3 rb3 t3 h3 => ?_⟩
  split at h3
  · rename_i l k e1 e2
    split at h3
    · rename_i hl
      cases em : chg σ3 S3 x (.lst (l.set k.toNat w)) with
      | none => rw [em] at h3; exact h3.elim
      | some q =>
        obtain ⟨σ', S'⟩ := q
        rw [em] at h3
        obtain ⟨a, rfl, ho, kk⟩ := rb3.chg (t2.gr g3) e1 em
        obtain ⟨vs, hk, rk⟩ := ho
        have hy : vy = .int k := by
          rcases t3 with ⟨i, z, _⟩ | r
          · cases z
          · cases r; rfl
        subst hy
        refine ⟨a, vs, k.toNat, rfl, by rw [Int.toNat_of_nonneg hl.1], hk, by rw [rk.length]; omega, ?_⟩
        exact h3 I3 ρ3 _ _ Gr.refl (kk _ ⟨_, upd_same, reps_set (t1.gr (g2.trans g3)) rk k.toNat⟩)
    · exact h3.elim
  · exact h3.elim
def ItS (x : Str) : It :=
  ⟨fun i _ => i < x.cps.size, fun i H v H' => ∃ T c, v = .ref T ∧ H T = none ∧ H' = upd H T (.tup [.int (i : Nat), .str ⟨#[c]⟩]) ∧ x.cps[i]? = some c, fun i _ => x.cps.size ≤ i⟩
theorem turn_enumS {P : Program} {w : World} {K : PySem.W.Frag} {elts : List Expr} {kk : Nat} {tpos : Pos} (x : Str) (t : Tok) (e it : Addr) :
    Turn P w K (.Tuple elts kk tpos) (ItS x) [e, it] e (fun i h => i ≤ x.cps.size ∧ (∃ old, IsEnum h e it ((i : Nat) : Int) old) ∧ h.IsStrIter it (strIterType x) x t i ∧ e ≠ it) where
  mem := by simp
  obj := fun i h st b hb => by
    obtain ⟨_, ⟨old, he⟩, ⟨o, ho, hc, hd⟩, _⟩ := st
    have e' : b = e ∨ b = it := by simpa using hb
    rcases e' with z | z
    · rw [z]; exact ⟨_, he, fun v q => nomatch q⟩
    · rw [z]; exact ⟨o, ho, fun v q => by rw [hd] at q; cases q⟩
  keep := fun i h h' st k => let ⟨hi, ⟨old, he⟩, ⟨o, ho, hc, hd⟩, hne⟩ := st; ⟨hi, ⟨old, k e (by simp) _ he⟩, ⟨o, k it (by simp) o ho, hc, hd⟩, hne⟩
  item := by
    intro X hP hw hK hc i pins s σ H E I hf st hg
    subst hP hw hK
    obtain ⟨hi, ⟨old, he⟩, hit, hne⟩ := st
    have hel : e < s.heap.objs.size := Heap.lt_size he
    have hil : it < s.heap.objs.size := by obtain ⟨_, q, _⟩ := hit; exact Heap.lt_size q
    have Dw : Draws X.prog X.w X.A.in1 it [it] x.cps.size (fun i v => ∃ c u, x.cps[i]? = some c ∧ v = .str ⟨#[c]⟩ u) (fun i h => h.IsStrIter it (strIterType x) x t i) := Draws.text (A := X.A.in1) (show X.A.in1.handled = none from I.ok.hd hc) it x t
    refine wpAny_pyNext_enum_itemD Dw he hit hg hne (by simpa using hne) fun y h' tk hy ho hit' hT hsz hk => ?_
    obtain ⟨c, u, hcx, rfl⟩ := hy
    refine ⟨_, rfl, wpAny_letOwnedTupleGo_enum (s := { s with heap := h', toks := tk + 1 }) ho fun h'' he' sb => ?_⟩
    have hT2 : h''.get? s.heap.objs.size = some { cls := .type "tuple", data := .seq #[.int i tk, .str ⟨#[c]⟩ u] } := (sb.2 _ (Nat.ne_of_gt hel)).trans hT
    have new : ObjOk X.prog X.w (upd H s.heap.objs.size (.tup [.int (i : Nat), .str ⟨#[c]⟩])) h'' s.heap.objs.size (.tup [.int (i : Nat), .str ⟨#[c]⟩]) :=
      ⟨by show 2 ≤ sizeLine; decide, [.int i tk, .str ⟨#[c]⟩ u], .cons ⟨_, rfl⟩ (.cons ⟨_, rfl⟩ .nil), ⟨_, hT2, rfl, _, rfl⟩⟩
    have I1 : Inv X pins σ (upd H s.heap.objs.size (.tup [.int (i : Nat), .str ⟨#[c]⟩])) { s with heap := h'', toks := tk + 1 } :=
      I.turnedNew (ch := [e, it]) (fun b ob hb q => (sb.2 b (fun z => hb (by simp [z]))).trans (hk b ob (fun z => hb (by simp [z])) (fun z => hb (by simp [z])) q)) hf (Nat.le_refl _) new
    refine ⟨.ref s.heap.objs.size, _, I1, rfl, ⟨_, c, rfl, I.hok.fresh (Nat.le_refl _), rfl, hcx⟩, ⟨hg, ⟨.str ⟨#[c]⟩ u, ?_⟩, ?_, hne⟩, fun b hb => ?_⟩
    · have e1 : ((i + 1 : Nat) : Int) = (i : Int) + 1 := by omega
      rw [e1]; exact he'
    · obtain ⟨o, q1, q2, q3⟩ := hit'
      exact ⟨o, (sb.2 it (Ne.symm hne)).trans q1, q2, q3⟩
    · have hb' : b < s.heap.objs.size := by
        have e' : b = e ∨ b = it := by simpa using hb
        rcases e' with z | z
        · rw [z]; exact hel
        · rw [z]; exact hil
      rw [upd_ne (Nat.ne_of_lt hb')]
      exact (hf b hb).1
  done := by
    intro X hP hw hK hc i pins s σ H E I hf st hg
    subst hP hw hK
    obtain ⟨hi, ⟨old, he⟩, hit, hne⟩ := st
    obtain rfl : i = x.cps.size := Nat.le_antisymm hi hg
    obtain ⟨f0, f1, f2, f3, f4, f5⟩ := hf it (by simp)
    have Dw : Draws X.prog X.w X.A.in1 it [it] x.cps.size (fun i v => ∃ c u, x.cps[i]? = some c ∧ v = .str ⟨#[c]⟩ u) (fun i h => h.IsStrIter it (strIterType x) x t i) := Draws.text (A := X.A.in1) (show X.A.in1.handled = none from I.ok.hd hc) it x t
    exact wpAny_pyNext_enum_endD Dw he hit fun h' eb => ⟨rfl, I.turned (t' := s.toks) (fun b o hb q => eb b o hb q) f0 f1 f3 f4 f5⟩
  self := fun A i s Q E st h => let ⟨_, ⟨_, he⟩, _⟩ := st; wpAny_pyIter_enum he h
def iEnumT (ta : TA) : TI := fun σ H R => ta σ H fun vs H1 => ∃ x, vs = [.str x] ∧ R (ItS x) H1
theorem pi_enumS {e : Expr} {ta : TA} {p pos tpos : Pos} {elts : List Expr} {kk : Nat} (hg : Gl X "enumerate") (hm : X.mg "enumerate" = none) (ha : PA X [e] ta) (hs : starEach [e] X.env = [(false, eval e X.env)] := by rfl) :
    PI X (.Tuple elts kk tpos) (.Call (.Name "enumerate" p) [e] [] pos) (iEnumT ta) := by
  refine ⟨fun pins s σ H R I h => ?_⟩
  refine Call_ (ld_blt I hg hm boot_enumerate (PyProof.Rows.callWith_type1 (thn (ha.run pos pins s σ H _ I h) fun us s1 ⟨vs, H1, I1, r1, q1⟩ => ?_) hs rfl))
  obtain ⟨x, ex, q⟩ := q1
  subst ex
  cases r1 with
  | cons r rr =>
    cases rr
    obtain ⟨t, rfl⟩ := r
    refine call_enumerate_str fun h' he hit hsz hk => wpAny_pyIter_enum he ?_
    have I2 : Inv X pins σ H1 { s1 with heap := h' } := I1.kept (t' := s1.toks) hk
    refine ⟨s1.heap.objs.size + 1, [s1.heap.objs.size + 1, s1.heap.objs.size], _, _, H1, rfl, I2, turn_enumS x t (s1.heap.objs.size + 1) s1.heap.objs.size, ⟨Nat.zero_le _, ⟨.none, he⟩, hit, Nat.succ_ne_self _⟩, fun b hb => ?_, q⟩
    have e' : b = s1.heap.objs.size + 1 ∨ b = s1.heap.objs.size := by simpa using hb
    have hle : s1.heap.objs.size ≤ b := by
      rcases e' with z | z
      · rw [z]; exact Nat.le_add_right _ _
      · rw [z]; exact Nat.le_refl _
    exact I1.fpOk hle (I1.hok.fresh hle)
def iEnumS (f : DE) : DI := fun σ S => (dV f σ S).bind fun x σ S => match x with
  | .str z => .ok (enum 0 (signs z)) σ S
  | _ => .fail
theorem ci_enumS {elts : List Expr} {kk : Nat} {tpos : Pos} {a : Expr} {p pos : Pos} {f : DE} (hm : X.mg "enumerate" = none) (h : SE X Wx a f) (hg : Gl X "enumerate" := by rfl) (hs : starEach [a] X.env = [(false, eval a X.env)] := by rfl) :
    SI X Wx (.Tuple elts kk tpos) (.Call (.Name "enumerate" p) [a] [] pos) (iEnumS f) := by
  refine PI.imp (pi_enumS hg hm (pa_cons (c_v h) pa_nil hs) hs) fun σV H R h => ?_
  obtain ⟨F, I, ρ, σ, S, rb, h⟩ := h
  refine ⟨F, I, ρ, σ, S, rb, postI_bind h fun I1 ρ1 σ1 S1 H1 x v1 _ g1 rb1 t1 h1 => ?_⟩
  cases t1 with
  | @str z =>
    refine ⟨z, rfl, h1 I1 ρ1 H1 _ Gr.refl rb1 fun F' _ I2 ρ2 S2 H2 σV2 σ2 g rb => ⟨fun i d hd => ?_, by rw [enum_len]; unfold signs; rw [List.length_map, Array.length_toList]; exact Nat.le_refl _⟩⟩
    obtain ⟨y, hy, rfl⟩ := enum_get hd
    unfold signs at hy
    rw [List.getElem?_map] at hy
    obtain ⟨c, hc, rfl⟩ := Option.map_eq_some_iff.mp hy
    rw [Array.getElem?_toList] at hc
    refine ⟨(Array.getElem?_eq_some_iff.mp hc).1, fun z' H3 q => ?_⟩
    obtain ⟨T, c', rfl, hT, rfl, q1⟩ := q
    rw [hc] at q1
    cases q1
    obtain ⟨g3, rb3⟩ := rb.new (o := .tup [.int (i : Nat), .str ⟨#[c]⟩]) hT
    exact ⟨_, g3, rb3, .tup (.inl upd_same) (.cons (by rw [Int.zero_add]; exact .int) (.cons .str .nil))⟩
  | _ => exact h1.elim
end
end MR

set_option Elab.async false
set_option linter.all false
set_option maxRecDepth 100000
namespace MR
open PySem PySem.Spec PyProof.Rows L2
inductive KH (K : PySem.W.Frag) (H : Hp) (ls : List (L2.Key × V)) : List (L2.Key × V) → Bool → Prop
  | nil : KH K H ls [] true
  | miss {k : L2.Key} {v : V} {r : List (L2.Key × V)} : valV ls k = none → KH K H ls ((k, v) :: r) false
  | hit {k : L2.Key} {v u : V} {d e : PyData} {r : List (L2.Key × V)} {b : Bool} : valV ls k = some u → Dp K H v d → Dp K H u e → SeqAt.shaped d = true → SeqAt.shaped e = true → KH K H ls r b → KH K H ls ((k, v) :: r) (PyData.eqv d e && b)
section
variable {X : Cx} {Wx : WX} {fr : Bool}
end
section
variable {K : PySem.W.Frag} {ρ : List Addr} {I H : Hp}
end
section
variable {X : Cx}
end
end MR

set_option Elab.async false
set_option linter.all false
set_option maxRecDepth 100000
namespace MR
open PySem PySem.Spec PyProof.Rows L2
section
variable {X : Cx}
end
end MR

set_option Elab.async false
set_option linter.all false
set_option maxRecDepth 100000
set_option maxHeartbeats 3200000
namespace MR
open PySem PySem.Spec PyProof.Rows L2
section
variable {X : Cx} {Wx : WX}
end
end MR

set_option Elab.async false
set_option linter.all false
set_option maxRecDepth 100000
namespace MR
open PySem PySem.Spec PyProof.Rows L2

section
variable {X : Cx} {Wx : WX} {fr : Bool}
theorem KRep.getT {K : PySem.W.Frag} {ρ : List Addr} {I : Hp} {κ : Type} [DecidableEq κ] {kvs : List (κ × V)} {l : List (κ × D)} (h : KRep K ρ I kvs l) {i : Nat} {k : κ} {w : D} (e : l[i]? = some (k, w)) : ∃ v, kvs[i]? = some (k, v) ∧ Rep K ρ I v w := by
  obtain ⟨h1, h2⟩ := h
  have e2 : (l.map (·.2))[i]? = some w := by rw [List.getElem?_map, e]; rfl
  obtain ⟨v, hv, r⟩ := h2.get e2
  rw [List.getElem?_map] at hv
  obtain ⟨⟨k', v'⟩, hk, e3⟩ := Option.map_eq_some_iff.mp hv
  have e3 : v' = v := e3
  subst e3
  have e4 : (l.map (·.1))[i]? = some k := by rw [List.getElem?_map, e]; rfl
  have e4 : (kvs.map (·.1))[i]? = some k := by rw [h1]; exact e4
  rw [List.getElem?_map, hk] at e4
  have e4 : some k' = some k := e4
  cases e4
  exact ⟨_, hk, r⟩
end
section
variable {X : Cx} {Wx : WX} {fr : Bool}
theorem _root_.L2.PI.or {tg e : Expr} {t t1 t2 : TI} (h1 : PI X tg e t1) (h2 : PI X tg e t2) (i : ∀ σ H R, t σ H R → t1 σ H R ∨ t2 σ H R) : PI X tg e t := ⟨fun pins s σ H R I q => (i σ H R q).elim (h1.run pins s σ H R I) (h2.run pins s σ H R I)⟩
end
end MR

set_option Elab.async false
set_option linter.all false
set_option maxRecDepth 100000
namespace MR
open PySem PySem.Spec PyProof.Rows L2
section
variable {X : Cx} {K : PySem.W.Frag}
end
section
variable {X : Cx} {tvs : List Nat}
end
end MR

set_option Elab.async false
set_option linter.all false
set_option maxRecDepth 100000
namespace MR
open PySem PySem.Spec PyProof.Rows L2

section
variable {X : Cx} {pins : List (Addr × Obj)} {σ : L2.St} {A : Around} {z TI TO i1 i2 a b S : Addr} {vx vy : List Value} {Q : VK} {R : Result → Shared → Prop} {res : Value}
end

section
variable {X : Cx} {pins : List (Addr × Obj)} {σ : L2.St} {A : Around} {z TI TO i1 i2 a b S : Addr} {vx vy : List Value} {xs ys : List V} {H : Hp} {s : Shared} {Q : VK} {R : Result → Shared → Prop} {res : Value}
end
section
variable {X : Cx} {Wx : WX}
end
end MR

set_option Elab.async false
set_option linter.all false
set_option maxRecDepth 100000
namespace MR
open PySem PySem.Spec PyProof.Rows L2 PySem.SeqAt PySem.MeetsSeq PySem.MeetsSeq2 PySem.MeetsSeq3
open PySem.AutoSeq1 (wpAny_loadPart')

section
variable {prog : Program} {w : World}
end
/-- two lists of dicts, none of them the same one, and which pairs are alike -/
inductive KPs (K : PySem.W.Frag) (H : Hp) : List V → List V → List Bool → Prop
  | nil : KPs K H [] [] []
  | cons {p q : Addr} {ks ls : List (L2.Key × V)} {r : Bool} {xs ys : List V} {es : List Bool} : p ≠ q → Rd H p (.dK ks) → Rd H q (.dK ls) → (ks.length = ls.length → KH K H ls ks r) → KPs K H xs ys es → KPs K H (.ref p :: xs) (.ref q :: ys) ((ks.length == ls.length && r) :: es)
theorem KPs.len {K : PySem.W.Frag} {H : Hp} {xs ys : List V} {es : List Bool} (h : KPs K H xs ys es) : xs.length = es.length ∧ ys.length = es.length := by
  induction h with
  | nil => exact ⟨rfl, rfl⟩
  | cons _ _ _ _ _ ih => exact ⟨congrArg (· + 1) ih.1, congrArg (· + 1) ih.2⟩
section
variable {X : Cx} {Wx : WX}
end
section
variable {X : Cx} {Wx : WX}
end
end MR

set_option Elab.async false
set_option linter.all false
set_option maxRecDepth 100000
namespace MR
open PySem PySem.Spec PyProof.Rows L2
section
variable {X : Cx} {Wx : WX} {fr : Bool} {k m : Nat} {x y z : Str} {d : Den} {p pos q q2 : Pos}
end
end MR

set_option Elab.async false
set_option linter.all false
set_option maxRecDepth 100000
namespace MR
open PySem PySem.Spec PyProof.Rows L2
section
variable {X : Cx} {Wx : WX}
end
end MR

set_option Elab.async false
set_option linter.all false
set_option maxRecDepth 100000
namespace MR
open PySem PySem.Spec PyProof.Rows L2
section
variable {prog : Program} {w : World} {K : Type} [DecidableEq K] {knd : HeapKind prog w K} {A : Around} {E : Value → Shared → Prop} {s : Shared}
end
theorem KRep.mem {K : PySem.W.Frag} {ρ : List Addr} {I : Hp} {kvs : List (List Key × V)} {l : List (List Kk × D)} (h : KRep K ρ I kvs l) : ∀ p ∈ kvs, ∃ q ∈ l, p.1 = q.1 ∧ Rep K ρ I p.2 q.2 := by
  refine KRep.ind (κ := List Kk) (P := fun kvs l => ∀ p ∈ kvs, ∃ q ∈ l, p.1 = q.1 ∧ Rep K ρ I p.2 q.2) (fun p hp => nomatch hp) ?_ h
  intro k v w kvs kws r _ ih p hp
  rcases List.mem_cons.mp hp with rfl | hp
  · exact ⟨_, List.mem_cons_self, rfl, r⟩
  · obtain ⟨q, hq, e⟩ := ih p hp
    exact ⟨q, List.mem_cons_of_mem _ hq, e⟩
end MR

set_option Elab.async false
set_option linter.all false
set_option maxRecDepth 100000
namespace MR
open PySem PySem.Spec PyProof.Rows L2
abbrev Tab := List (Str × List D)
def TabOk (K : PySem.W.Frag) (d : Addr) (tab : Tab) : Prop := ∀ z : Str, (∃ ws u0 a vs, tab.lookup z = some ws ∧ PySem.W.nsIn K d z = some (some u0) ∧ RelV (.ref a) u0 ∧ (∀ H, SqT K H a vs) ∧ ∀ ρ I, Reps K ρ I vs ws) ∨ (tab.lookup z = none ∧ PySem.W.nsIn K d z = some none)
def GTab (K : PySem.W.Frag) (w : World) (mg : Str → Option Value) (x : Str) (tab : Tab) : Prop := ∃ d es n, mg x = some (.ref d) ∧ KDict K w d es n ∧ TabOk K d tab
def opNotInTab (tab : Tab) : D → Option D
  | .str z => some (.bl (!(tab.lookup z).isSome))
  | _ => none
def opTab (tab : Tab) : D → Option D
  | .str z => (tab.lookup z).map D.cst
  | _ => none
section
variable {X : Cx} {Wx : WX} {x : Str} {tab : Tab} {a : Expr} {pos pos' : Pos} {f : DE}
theorem semc_notInTab {d : Addr} {es : Array DictEntry} {n : Nat} (KD : KDict X.K X.w d es n) (T : TabOk X.K d tab) {σV : L2.St} {H : Hp} {Q : VK} (h : semE X.K Wx (d1 (opNotInTab tab) f) σV H Q) :
    semE X.K Wx f σV H fun v H1 => ∃ (z : Str) (r : Option Value), v = .str z ∧ V.ref d = .ref d ∧ PySem.W.nsIn X.K d z = some r ∧ Q (.bl (!r.isSome)) H1 := by
  obtain ⟨F, I, ρ, σ, S, rb, h⟩ := h
  refine ⟨F, I, ρ, σ, S, rb, post_bind h fun I1 ρ1 σ1 S1 H1 x v1 _ g1 rb1 t1 h1 => ?_⟩
  obtain ⟨z, ez, h3⟩ := post_opt h1
  obtain ⟨c, ec, ez⟩ := Option.bind_eq_some_iff.mp ez
  cases c with
  | str y =>
    cases ez
    cases (show v1 = .str y from rb1.at t1 ec)
    rcases T y with ⟨ws, u0, a, vs, e1, e2, _⟩ | ⟨e1, e2⟩
    · rw [e1] at h3
      exact ⟨y, _, rfl, rfl, e2, h3 I1 ρ1 H1 _ Gr.refl rb1 (.inr .bl)⟩
    · rw [e1] at h3
      exact ⟨y, _, rfl, rfl, e2, h3 I1 ρ1 H1 _ Gr.refl rb1 (.inr .bl)⟩
  | _ => cases ez
theorem ct_notInTab (h : GTab X.K X.w X.mg x tab) (ha : SE X Wx a f) (hm : behindInMarks .NotIn (.Name x pos') = false := by rfl) (hg : Gl X x := by rfl) (hd : (x == ("__debug__" : Str)) = false := by decide) : ST X Wx (.Compare a [.NotIn] [.Name x pos'] pos) (tVal (d1 (opNotInTab tab) f)) := by
  obtain ⟨d, es, n, h1, KD, T⟩ := h
  exact PT.imp (pt_cmpR (op_notIn_kd KD) ha (pe_glob hg h1 (v := .ref d) rfl hd) hm) fun _ _ _ h => semc_notInTab KD T (sem_tval h)
theorem c_tab (h : GTab X.K X.w X.mg x tab) (ha : SE X Wx a f) (hs : PlainIx a := by intro _ _; rfl) (hg : Gl X x := by rfl) (hd : (x == ("__debug__" : Str)) = false := by decide) : SE X Wx (.Subscript (.Name x pos') a pos) (d1 (opTab tab) f) := by
  obtain ⟨d, es, n, h1, KD, T⟩ := h
  refine PE.imp (pe_ix ix_kdict (pe_glob hg h1 (v := .ref d) rfl hd) ha hs) fun σV H Q h => ?_
  obtain ⟨F, I, ρ, σ, S, rb, h⟩ := h
  refine ⟨F, I, ρ, σ, S, rb, post_bind h fun I1 ρ1 σ1 S1 H1 x v1 _ g1 rb1 t1 h1 => ?_⟩
  obtain ⟨z, ez, h3⟩ := post_opt h1
  obtain ⟨c, ec, ez⟩ := Option.bind_eq_some_iff.mp ez
  cases c with
  | str y =>
    cases (show v1 = .str y from rb1.at t1 ec)
    obtain ⟨ws, ew, rfl⟩ := Option.map_eq_some_iff.mp (show (tab.lookup y).map D.cst = some z from ez)
    rcases T y with ⟨ws', u0, a, vs, e1, e2, e3, e4, e5⟩ | ⟨e1, _⟩
    · rw [ew] at e1
      cases e1
      exact ⟨d, y, .ref a, rfl, rfl, ⟨es, n, u0, KD.at_, KD.lit, e2, e3⟩, h3 I1 ρ1 H1 _ Gr.refl rb1 (.inr (.cst (e4 I1) (e5 ρ1 I1)))⟩
    · rw [ew] at e1
      cases e1
  | _ => cases ez
def opLenC : D → Option D
  | .cst l => some (.int l.length)
  | _ => none
theorem b_lenC {K : PySem.W.Frag} : B1 K (fun xs H Q => ∃ x n, xs = [x] ∧ LenV K x H n ∧ Q (.int n) H) opLenC := by
  intro F I ρ S H σV σ v a z Q rb h ez q
  cases a with
  | cst l =>
    cases ez
    obtain ⟨a, vs, rfl, ha, ra⟩ := h
    exact ⟨_, _, rfl, .inr ⟨vs, ha, rfl⟩, q I H _ Gr.refl rb (by rw [ra.length]; exact .int)⟩
  | _ => cases ez
def iZipC (f g : DE) : DI := fun σ S => (dV f σ S).bind fun x σ S => (dV g σ S).bind fun y σ S => match x, y with
  | .tup xs, .cst ys => .ok (pairs xs ys) σ S
  | _, _ => .fail
theorem ci_zipC {elts : List Expr} {kk : Nat} {tpos : Pos} {a b : Expr} {p pos : Pos} {f g : DE} (hm : X.mg "zip" = none) (h : SE X Wx a f) (k : SE X Wx b g) (hg : Gl X "zip" := by rfl) (hs : starEach [a, b] X.env = (false, eval a X.env) :: starEach [b] X.env := by rfl) (hs2 : starEach [b] X.env = (false, eval b X.env) :: starEach [] X.env := by rfl) (hpl : (backTo pos (starEach [b] X.env)).any (·.1) = false := by rfl) :
    SI X Wx (.Tuple elts kk tpos) (.Call (.Name "zip" p) [a, b] [] pos) (iZipC f g) := by
  refine PI.imp (RZ.pi_zipA hg hm (pa_cons (c_v h) (pa_cons (c_v k) pa_nil hs2) hs) hs hpl) fun σV H R h => ?_
  obtain ⟨F, I, ρ, σ, S, rb, h⟩ := h
  refine ⟨F, I, ρ, σ, S, rb, postI_bind h fun I1 ρ1 σ1 S1 H1 x v1 _ g1 rb1 t1 h1 => ?_⟩
  refine ⟨F, I1, ρ1, σ1, S1, rb1, postI_bind h1 fun I2 ρ2 σ2 S2 H2 y v2 _ g2 rb2 t2 h2 => ?_⟩
  have t1 := t1.gr g2
  split at h2
  · cases t1 with
    | tup q1 r1 => cases t2 with
      | cst q2 r2 => exact ⟨_, _, _, _, rfl, .inr ⟨rb2.sub.sqT q1.sq, rb2.sub.sqT q2, h2 I2 ρ2 H2 _ Gr.refl rb2 fun F' _ => walks_zipT q1.sq r1 q2 r2 F'⟩⟩
  · exact h2.elim
end
end MR

set_option Elab.async false
set_option linter.all false
set_option maxRecDepth 100000
namespace MR
open PySem PySem.Spec PyProof.Rows L2
end MR

set_option Elab.async false
set_option linter.all false
set_option maxRecDepth 100000
namespace MR
open PySem PySem.Spec PyProof.Rows L2
section
variable {K : PySem.W.Frag}
def tupAtB (K : PySem.W.Frag) (a : Addr) (ws : List D) : Bool := match K.lookup a with
  | some ⟨.type c, _, .seq its _, _⟩ => decide (c = "tuple") && (decide (its.size ≤ sizeLine) && He.relAll ((ws.map dvOf).map (He.Dv.v K)) its.toList)
  | _ => false
theorem tupAtB_ok {a : Addr} {ws : List D} (h : tupAtB K a ws = true) (H : Hp) : SqT K H a ((ws.map dvOf).map (He.Dv.v K)) := by
  unfold tupAtB at h
  cases q : K.lookup a with
  | none =>
    rw [q] at h
    cases h
  | some o =>
    obtain ⟨oc, od, dt, osl⟩ := o
    rw [q] at h
    cases oc with
    | type c =>
      cases dt with
      | seq its n =>
        obtain ⟨h1, h2⟩ := He.ba (show (decide (c = "tuple") && (decide (its.size ≤ sizeLine) && He.relAll ((ws.map dvOf).map (He.Dv.v K)) its.toList)) = true from h)
        obtain ⟨h3, h4⟩ := He.ba h2
        exact .inr ⟨_, its, n, q, congrArg Value.type (of_decide_eq_true h1), rfl, of_decide_eq_true h3, He.relAll_ok h4⟩
      | _ => cases h
    | _ => cases dt <;> cases h
def tabB (K : PySem.W.Frag) (d : Addr) (tab : Tab) : Bool := tab.all fun t => match PySem.W.nsIn K d t.1 with
  | some (some (.ref a)) => tupAtB K a t.2
  | _ => false
theorem lookup_mem : ∀ {tab : Tab} {z : Str} {ws : List D}, tab.lookup z = some ws → (z, ws) ∈ tab
  | [], _, _, h => by cases h
  | (k, v) :: tab, z, ws, h => by
    rw [List.lookup_cons] at h
    split at h
    · rename_i e
      cases h
      rw [eq_of_beq e]
      exact List.mem_cons_self
    · exact List.mem_cons_of_mem _ (lookup_mem h)
theorem lookup_none : ∀ {tab : Tab} {z : Str}, tab.lookup z = none → z ∉ tab.map (·.1)
  | [], _, _ => by simp
  | (k, v) :: tab, z, h => by
    rw [List.lookup_cons] at h
    split at h
    · cases h
    · rename_i e
      intro hm
      rcases List.mem_cons.mp hm with rfl | hm
      · simp at e
      · exact lookup_none h hm
theorem nsIn_miss {P : Params} {d : Addr} {ks : List Str} {z : Str} (h : He.dicW K d = some (He.keysIn P ks)) (hz : z ∉ ks) : PySem.W.nsIn K d z = some none := by
  unfold He.dicW at h
  split at h
  · rename_i c es n sl q
    split at h
    · have hk : es.toList.map He.keyOf = He.keysIn P ks := Option.some.inj h
      have all : ∀ e ∈ es.toList, ∃ x t, e.key = .str x t ∧ x ∈ ks := by
        intro e he
        have hm : He.keyOf e ∈ He.keysIn P ks := by rw [← hk]; exact List.mem_map.mpr ⟨e, he, rfl⟩
        obtain ⟨k, hk2, e2⟩ := List.mem_map.mp hm
        unfold He.keyOf at e2
        split at e2
        · rename_i x t q
          have e3 := (Prod.mk.inj (Option.some.inj e2)).1
          exact ⟨x, t, q, e3 ▸ hk2⟩
        · cases e2
      unfold PySem.W.nsIn
      rw [q]
      dsimp only
      have f : es.toList.find? (fun e => e.key.isStr z) = none := by
        rw [List.find?_eq_none]
        intro e he
        obtain ⟨x, t, ek, hx⟩ := all e he
        rw [ek]
        intro hc
        have : x = z := by simpa [Value.isStr] using hc
        exact hz (this ▸ hx)
      rw [f]
      dsimp only
      rw [if_neg]
      rw [List.any_eq_true]
      rintro ⟨e, he, hr⟩
      obtain ⟨x, t, ek, hx⟩ := all e he
      simp [DictEntry.refKey, ek] at hr
    · cases h
  · cases h
theorem tab_ok {P : Params} {d : Addr} {tab : Tab} (h : He.dicW K d = some (He.keysIn P (tab.map (·.1)))) (hb : tabB K d tab = true) (hf : tab.all (fun t => t.2.all flatD) = true) : TabOk K d tab := by
  intro z
  cases e : tab.lookup z with
  | none => exact .inr ⟨rfl, nsIn_miss h (lookup_none e)⟩
  | some ws =>
    have hm := lookup_mem e
    have h1 := List.all_eq_true.mp hb _ hm
    have h2 := List.all_eq_true.mp hf _ hm
    refine .inl ?_
    split at h1
    · rename_i a q
      exact ⟨ws, .ref a, a, _, rfl, q, rfl, fun H => tupAtB_ok h1 H, fun ρ I => reps_dv ws h2⟩
    · cases h1
end
abbrev Tabs := List (Str × Tab)
abbrev AlB : Type := AlM × List (Option (List (Option (Str × Int))))
def obsBK (fa : List He.Fa) (fn : List He.DefD) (tb : Tups) (xs : List Xf) (ts : Tabs) (K : PySem.W.Frag) : AlB := ((He.obsD fa fn K, (tupsOk tb K && xs.all (Xf.ok K)) && ts.all fun t => tabB K (He.ga K t.1) t.2), ts.map fun t => He.dicW K (He.ga K t.1))
def valB (fn : List He.DefD) (ts : Tabs) (w : World) : AlB := ((He.valD fn, true), ts.map fun t => some (He.keysIn w.params (t.2.map (·.1))))
def SaysB (fa : List He.Fa) (fn : List He.DefD) (tb : Tups) (xs : List Xf) (ts : Tabs) (w : World) (K : PySem.W.Frag) : Prop := obsBK fa fn tb xs ts K = valB fn ts w
def obsB (as : List Addr) (fa : List He.Fa) (fn : List He.DefD) (tb : Tups) (xs : List Xf) (ts : Tabs) (g : Addr → Option Obj) : AlB := obsBK fa fn tb xs ts (He.frG g as)
def hookB (as : List Addr) (fa : List He.Fa) (fn : List He.DefD) (tb : Tups) (xs : List Xf) (ts : Tabs) : PySem.W.Hook where
  α := AlB
  obs := fun s => obsB as fa fn tb xs ts s.heap.get?
  val := fun w => valB fn ts w
  says := fun w h => ∃ K : PySem.W.Frag, K.In h ∧ SaysB fa fn tb xs ts w K
  of := fun _ _ e => ⟨_, He.frG_in, e⟩
  keeps := fun _ _ _ ⟨K, hK, c⟩ k => ⟨K, PySem.W.Frag.In.keeps hK k, c⟩
theorem obsB_eq {as : List Addr} {fa : List He.Fa} {fn : List He.DefD} {tb : Tups} {xs : List Xf} {ts : Tabs} {g : Addr → Option Obj} {s : Shared} (h : ∀ a, g a = s.heap.get? a) : obsB as fa fn tb xs ts g = (hookB as fa fn tb xs ts).obs s := by
  have e : g = s.heap.get? := funext h
  rw [e] <;> rfl
section
variable {fa : List He.Fa} {fn : List He.DefD} {tb : Tups} {xs : List Xf} {ts : Tabs} {w : World} {K : PySem.W.Frag}
theorem SaysB.x (c : SaysB fa fn tb xs ts w K) : SaysX fa fn tb xs K :=
  ⟨congrArg (fun z : AlB => z.1.1) c, (He.ba (congrArg (fun z : AlB => z.1.2) c)).1⟩
theorem gtab_mk (c : SaysB fa fn tb xs ts w K) (i : Nat) {t : Str × Tab} {mg : Str → Option Value} (hm : mg t.1 = some (.ref (He.ga K t.1))) (h : ts[i]? = some t := by rfl) (hf : t.2.all (fun t => t.2.all flatD) = true := by rfl) : GTab K w mg t.1 t.2 := by
  have e : ts.map (fun t => He.dicW K (He.ga K t.1)) = ts.map fun t => some (He.keysIn w.params (t.2.map (·.1))) := congrArg (fun z : AlB => z.2) c
  have e2 : (ts.map fun t => He.dicW K (He.ga K t.1))[i]? = (ts.map fun t => some (He.keysIn w.params (t.2.map (·.1))))[i]? := by rw [e]
  rw [List.getElem?_map, List.getElem?_map, h] at e2
  have e3 : He.dicW K (He.ga K t.1) = some (He.keysIn w.params (t.2.map (·.1))) := Option.some.inj e2
  have b := List.all_eq_true.mp (He.ba (congrArg (fun z : AlB => z.1.2) c)).2 t (List.mem_of_getElem? h)
  obtain ⟨es, n, kd⟩ := He.dicW_ok e3
  exact ⟨He.ga K t.1, es, n, hm, kd, tab_ok e3 b hf⟩
end
end MR

set_option Elab.async false
set_option linter.all false
set_option maxRecDepth 100000
set_option maxHeartbeats 0
namespace MR
open PySem PySem.Spec PyProof.Rows L2
def top (i : Nat) : Stmt := PySem.Challenge.pw_manrent_k04_rows_well_made.main.body.getD i (.Pass ⟨0, 0, 0, 0⟩)
abbrev s__law_feed : Stmt := top 19
abbrev s__law_names : Stmt := top 20
abbrev s__law_kinds : Stmt := top 21
abbrev s__law_shapes : Stmt := top 22
abbrev s__law_any_row : Stmt := top 25
abbrev s__law_bent_row : Stmt := top 26
abbrev s__law_kinds_kept : Stmt := top 28
abbrev s__law_named : Stmt := top 23
abbrev s__law_good : Stmt := top 24
abbrev s_is_name : Stmt := top 15
abbrev s_fits : Stmt := top 16
abbrev s_check_row : Stmt := top 17
abbrev s__law_why_form : Stmt := top 27
abbrev s_law : Stmt := top 29
def fns : List He.DefD := [⟨("_law_feed", none), "_law_feed", "_law_feed", defArgs s__law_feed, defBody s__law_feed, defScope s__law_feed, [], []⟩,
  ⟨("_law_names", none), "_law_names", "_law_names", defArgs s__law_names, defBody s__law_names, defScope s__law_names, [], []⟩,
  ⟨("_law_kinds", none), "_law_kinds", "_law_kinds", defArgs s__law_kinds, defBody s__law_kinds, defScope s__law_kinds, [], []⟩,
  ⟨("_law_shapes", none), "_law_shapes", "_law_shapes", defArgs s__law_shapes, defBody s__law_shapes, defScope s__law_shapes, [], []⟩,
  ⟨("_law_any_row", none), "_law_any_row", "_law_any_row", defArgs s__law_any_row, defBody s__law_any_row, defScope s__law_any_row, [], []⟩,
  ⟨("_law_bent_row", none), "_law_bent_row", "_law_bent_row", defArgs s__law_bent_row, defBody s__law_bent_row, defScope s__law_bent_row, [], []⟩,
  ⟨("_law_kinds_kept", none), "_law_kinds_kept", "_law_kinds_kept", defArgs s__law_kinds_kept, defBody s__law_kinds_kept, defScope s__law_kinds_kept, [], []⟩,
  ⟨("_law_named", none), "_law_named", "_law_named", defArgs s__law_named, defBody s__law_named, defScope s__law_named, [], []⟩,
  ⟨("_law_good", none), "_law_good", "_law_good", defArgs s__law_good, defBody s__law_good, defScope s__law_good, [], []⟩,
  ⟨("is_name", none), "is_name", "is_name", defArgs s_is_name, defBody s_is_name, defScope s_is_name, [], []⟩,
  ⟨("fits", none), "fits", "fits", defArgs s_fits, defBody s_fits, defScope s_fits, [], []⟩,
  ⟨("check_row", none), "check_row", "check_row", defArgs s_check_row, defBody s_check_row, defScope s_check_row, [], []⟩,
  ⟨("_law_why_form", none), "_law_why_form", "_law_why_form", defArgs s__law_why_form, defBody s__law_why_form, defScope s__law_why_form, [], []⟩,
  ⟨("law", none), "law", "law", defArgs s_law, defBody s_law, defScope s_law, [], []⟩]
def fas : List He.Fa := [.free "ValueError", .free "all", .free "enumerate", .free "int", .free "isinstance", .free "len", .free "max", .free "range", .free "str", .free "tuple", .free "zip", .str "LETTERS" "abcdefghijklmnopqrstuvwxyz", .int "MOST" (9999), .glo "NoForm", .exc "NoForm", .glo "LandError", .glo "NoEntry", .glo "NoEstate", .glo "NoLand", .glo "NoMan", .glo "NoQuarrel", .glo "NoText", .glo "NothingThere", .glo "Twice", .exm "NoForm" "LandError" true, .glo "SHAPES", .glo "_law_feed", .glo "_law_names", .glo "_law_kinds", .glo "_law_shapes", .glo "_law_any_row", .glo "_law_bent_row", .glo "_law_kinds_kept", .glo "_law_named", .glo "_law_good", .glo "is_name", .glo "fits", .glo "check_row", .glo "_law_why_form", .glo "law"]
abbrev R : PySem.W.OpenRow := PySem.W.OpenLaw.row PySem.Challenge.rw_manrent_k04_rows_well_made
def tbs : Tups := []
def xfs : List Xf := [.exq "NoForm", .kit "NoForm" "NoEntry" false, .kit "NoForm" "NoEstate" false, .kit "NoForm" "NoForm" true, .kit "NoForm" "NoLand" false, .kit "NoForm" "NoMan" false, .kit "NoForm" "NoQuarrel" false, .kit "NoForm" "NoText" false, .kit "NoForm" "NothingThere" false, .kit "NoForm" "Twice" false, .kitb "NoForm" "ValueError" true]
def ads : List Addr := [3, 6, 4, 24, 37, 49, 61, 73, 85, 97, 109, 121, 140, 143, 155, 162, 169, 176, 181, 188, 195, 200, 207, 212, 219, 226, 231, 238, 0, 23, 36, 48, 60, 72, 84, 96, 108, 120, 139, 144, 145, 146, 147, 148, 149, 150, 154, 161, 168, 175, 180, 187, 194, 199, 206, 211, 218, 225, 230, 237, 22, 25, 35, 47, 59, 71, 83, 95, 107, 119, 137, 138, 151, 152, 153, 156, 157, 158, 159, 160, 163, 164, 165, 166, 167, 170, 171, 172, 173, 174, 177, 178, 179, 182, 183, 184, 185, 186, 189, 190, 191, 192, 193, 196, 197, 198, 201, 202, 203, 204, 205, 208, 209, 210, 213, 214, 215, 216, 217, 220, 221, 222, 223, 224, 227, 228, 229, 232, 233, 234, 235, 236, 136]
def tss : Tabs := [("SHAPES", [("heir", [.str "day", .str "name", .str "name"]), ("grant", [.str "day", .str "crowned", .str "name", .str "name", .str "acres", .str "service"]), ("part", [.str "day", .str "name", .str "name", .str "name", .str "acres"]), ("convey", [.str "day", .str "name", .str "name"]), ("liege", [.str "day", .str "name", .str "crowned"]), ("surrender", [.str "day", .str "name"]), ("death", [.str "day", .str "name"])])]
abbrev hk : PySem.W.Hook := hookB ads fas fns tbs xfs tss
def ob (s : PySem.W.SharedT) : AlB := obsB ads fas fns tbs xfs tss (HandSHeadRun.getT s)
theorem ob_eq (s : PySem.W.SharedT) : ob s = hk.obs s.abs := obsB_eq (HandSHeadRun.getT_eq s)
def loose : List Str := [("LandError" : Str), ("NoForm" : Str), ("NoEntry" : Str), ("Twice" : Str), ("NothingThere" : Str), ("NoEstate" : Str), ("NoMan" : Str), ("NoQuarrel" : Str), ("NoLand" : Str), ("NoText" : Str), ("LETTERS" : Str), ("MOST" : Str), ("SHAPES" : Str), ("is_name" : Str), ("fits" : Str), ("check_row" : Str), ("_law_feed" : Str), ("_law_names" : Str), ("_law_kinds" : Str), ("_law_shapes" : Str), ("_law_named" : Str), ("_law_good" : Str), ("_law_any_row" : Str), ("_law_bent_row" : Str), ("_law_why_form" : Str), ("_law_kinds_kept" : Str)]
theorem run_false (w : World) : HandSHeadRun.RunEq R (PySem.W.view R.prog [29]) hk ob 4000 loose (w.withFollow "special-get-raises" false) := by
  intro os
  kernel_rfl
theorem run_true (w : World) : HandSHeadRun.RunEq R (PySem.W.view R.prog [29]) hk ob 4000 loose (w.withFollow "special-get-raises" true) := by
  intro os
  kernel_rfl
theorem run (w : World) : HandSHeadRun.RunEq R (PySem.W.view R.prog [29]) hk ob 4000 loose w := PySem.W.byRow2 "special-get-raises" (P := fun w => HandSHeadRun.RunEq R (PySem.W.view R.prog [29]) hk ob 4000 loose w) run_false run_true w
end MR

set_option Elab.async false
set_option linter.all false
set_option maxRecDepth 100000
namespace MR
open PySem
def fb__law_feed_1 : DS := (sIf (tVal (d2 opGt (dVar 5) (dC (.int 0)))) (sSeq (sExpr (dMeth isLst kApp (dVar 2) (aCons (d2 opMod (dVar 5) (dC (.int 1009))) aNil))) (sSet 5 (d2 opDiv (dVar 5) (dC (.int 1009))))) sNil)
def fb__law_feed_2 : DS := (sSeq (sSet 3 (d2 opMod (d2 opAdd (d2 opAdd (d2 opMul' (dVar 3) (dC (.int 69621))) (d2 opMod (dVar 4) (dC (.int 2147483629)))) (dC (.int 11))) (dC (.int 2147483647)))) (sSeq (sSet 5 (d2 opSub (dVar 4) (d2 opPow (dC (.int 10)) (dC (.int 18))))) (sSeq (sIf (tVal (d2 opLt (dVar 5) (dC (.int 0)))) (sExpr (dMeth isLst kApp (dVar 2) (aCons (d2 opMod (dVar 4) (dC (.int 1000003))) aNil))) sNil) (sFor (iRan1 (dC (.int 60))) (gN 6) fb__law_feed_1))))
def fb__law_feed_3 : DS := (sSeq (sSet 3 (d2 opMod (d2 opAdd (d2 opAdd (d2 opAdd (d2 opMul' (d2 opMul' (dVar 3) (dVar 3)) (dVar 3)) (d2 opMul' (dC (.int 48271)) (dVar 3))) (d2 opMul' (dC (.int 13)) (dVar 6))) (dC (.int 5))) (dC (.int 2147483629)))) (sExpr (dMeth isLst kApp (dVar 2) (aCons (d2 opMod (d2 opDiv (dVar 3) (dC (.int 1013))) (dC (.int 1009))) aNil))))
def b__law_feed : DS := (sSeq (sSetO 2 (dLst aNil)) (sSeq (sSet 3 (dC (.int 29))) (sSeq (sFor (iLst (dSl (dVar 0) oNone (oSome (dC (.int 63))))) (gN 4) fb__law_feed_2) (sSeq (sFor (iRan1 (d2 opSub (dVar 1) (d1 opLen (dVar 2)))) (gN 6) fb__law_feed_3) (sRetF (dSl (dVar 2) oNone (oSome (dVar 1))))))))
def m__law_feed : Den := dDef 7 b__law_feed
end MR

set_option Elab.async false
set_option linter.all false
set_option maxRecDepth 100000
namespace MR
open PySem
def le_is_name_1 : DE := (d2 opIn (dVar 1) (dC (.str "abcdefghijklmnopqrstuvwxyz")))
def b_is_name : DS := (sRet (vAnd (dChain opLe opLe (dC (.int 1)) (d1 opLen (dVar 0)) (dC (.int 8))) (d1 opAll (dLc (iStr (dVar 0)) (gN 1) tTrue le_is_name_1 [1]))))
def m_is_name : Den := dDef 2 b_is_name
end MR

set_option Elab.async false
set_option linter.all false
set_option maxRecDepth 100000
namespace MR
open PySem
end MR

set_option Elab.async false
set_option linter.all false
set_option maxRecDepth 100000
namespace MR
open PySem
def le__law_names_1 : DE := (d2 opIx (dVar 2) (d2 opMod (d2 opAdd (d2 opIx (dVar 0) (dC (.int 0))) (d2 opMul' (d2 opAdd (dVar 6) (dC (.int 1))) (d2 opDiv (d2 opIx (dVar 0) (dC (.int 1))) (dC (.int 8))))) (dC (.int 26))))
def fb__law_names_2 : DS := (sSeq (sSet 7 (d2 opIx (dVar 2) (d2 opMod (d2 opAdd (d2 opIx (dVar 0) (dC (.int 3))) (d2 opMul' (dC (.int 7)) (dVar 6))) (dC (.int 26))))) (sSeq (sSet 8 (d2 opAdd (d2 opAdd (dSl (dVar 3) oNone (oSome (dVar 4))) (dVar 7)) (dSl (dVar 3) (oSome (dVar 4)) oNone))) (sSeq (sIf (tVal (d2 opEq' (d2 opMod (d2 opDiv (d2 opIx (dVar 0) (dC (.int 2))) (dC (.int 8))) (dC (.int 2))) (dC (.int 1)))) (sSet 8 (d2 opMul' (dVar 7) (d2 opAdd (dC (.int 1)) (d2 opMod (d2 opAdd (d2 opIx (dVar 0) (dC (.int 0))) (d2 opMul' (dC (.int 3)) (dVar 6))) (dC (.int 8)))))) sNil) (sExpr (dMeth isLst kApp (dVar 5) (aCons (dVar 8) aNil))))))
def b__law_names : DS := (sSeq (sSet 2 (dC (.str "abcdefghijklmnopqrstuvwxyz"))) (sSeq (sSet 3 (dS1 opJoin (dC (.str "")) (dLc (iRan1 (d2 opMod (d2 opIx (dVar 0) (dC (.int 1))) (dC (.int 8)))) (gN 6) tTrue le__law_names_1 [6]))) (sSeq (sSet 4 (d2 opMod (d2 opIx (dVar 0) (dC (.int 2))) (d2 opAdd (d1 opLen (dVar 3)) (dC (.int 1))))) (sSeq (sSetO 5 (dLst aNil)) (sSeq (sFor (iRan1 (dVar 1)) (gN 6) fb__law_names_2) (sRetO 5))))))
def m__law_names : Den := dDef 9 b__law_names
end MR

set_option Elab.async false
set_option linter.all false
set_option maxRecDepth 100000
namespace MR
open PySem
def b_Land___init__ : DS := (sSeq (sIf (tNot (tVal (dChain opLe opLe (dC (.int 1)) (dVar 1) (dC (.int 9999))))) (sRaise "NoLand") sNil) (sSeq (sFldD ["Land"] "lords" (dVar 0) (dAlloc (dDisp (pCons (dC (.str "")) (dC .non) pNil)))) (sSeq (sFldD ["Land"] "holders" (dVar 0) (dAlloc (dDisp (pCons (dC (.str "")) (dC (.str "")) pNil)))) (sSeq (sFldD ["Land"] "acres_of" (dVar 0) (dAlloc (dDisp (pCons (dC (.str "")) (dVar 1) pNil)))) (sFldD ["Land"] "services" (dVar 0) (dAlloc (dDisp (pCons (dC (.str "")) (dC (.tup [.int 0, .int 1])) pNil))))))))
def m_Land___init__ : Den := dDef 2 b_Land___init__
end MR

set_option Elab.async false
set_option linter.all false
set_option maxRecDepth 100000
namespace MR
open PySem
end MR

set_option Elab.async false
set_option linter.all false
set_option maxRecDepth 100000
namespace MR
open PySem
end MR

set_option Elab.async false
set_option linter.all false
set_option maxRecDepth 100000
namespace MR
open PySem
noncomputable section
def b_Land_twin : DS := (sSeq (sSet 1 (dMake "Land" m_Land___init__ (aCons (dC (.int 1)) aNil))) (sSeq (sFldD ["Land"] "lords" (dVar 1) (dAlloc (d1 opDict (dFld ["Land"] "lords" (dVar 0))))) (sSeq (sFldD ["Land"] "holders" (dVar 1) (dAlloc (d1 opDict (dFld ["Land"] "holders" (dVar 0))))) (sSeq (sFldD ["Land"] "acres_of" (dVar 1) (dAlloc (d1 opDict (dFld ["Land"] "acres_of" (dVar 0))))) (sSeq (sFldD ["Land"] "services" (dVar 1) (dAlloc (d1 opDict (dFld ["Land"] "services" (dVar 0))))) (sRet (dVar 1)))))))
def m_Land_twin : Den := dDef 2 b_Land_twin
def fb_Court_stand_1 : DS := (sIf (tVal (d2 opLe (dFld ["Stand"] "since" (dVar 3)) (dVar 1))) (sSet 2 (dVar 3)) sNil)
def b_Court_stand : DS := (sSeq (sSet 2 (d2 opIx (dFld ["Court"] "stands" (dVar 0)) (dC (.int 0)))) (sSeq (sLockL (dFld ["Court"] "stands" (dVar 0)) (sFor (iLstL (dFld ["Court"] "stands" (dVar 0))) (gN 3) fb_Court_stand_1)) (sRet (dVar 2))))
def m_Court_stand : Den := dDef 4 b_Court_stand
def b_Court_land : DS := (sRet (dMet "twin" [("Land", m_Land_twin)] (dFld ["Stand"] "ground_then" (dMet "stand" [("Court", m_Court_stand)] (dVar 0) (aCons (dVar 1) aNil))) aNil))
def m_Court_land : Den := dDef 2 b_Court_land
def b__law_kinds : DS := (sRetF (dLst (aCons (dC (.str "heir")) (aCons (dC (.str "grant")) (aCons (dC (.str "part")) (aCons (dC (.str "convey")) (aCons (dC (.str "liege")) (aCons (dC (.str "surrender")) (aCons (dC (.str "death")) aNil)))))))))
def m__law_kinds : Den := dDef 0 b__law_kinds
end
end MR

set_option Elab.async false
set_option linter.all false
set_option maxRecDepth 100000
namespace MR
open PySem
noncomputable section
def b__law_shapes : DS := (sRetF (dDisp (pCons (dC (.str "heir")) (dC (.str "dnn")) (pCons (dC (.str "grant")) (dC (.str "dcnnas")) (pCons (dC (.str "part")) (dC (.str "dnnna")) (pCons (dC (.str "convey")) (dC (.str "dnn")) (pCons (dC (.str "liege")) (dC (.str "dnc")) (pCons (dC (.str "surrender")) (dC (.str "dn")) (pCons (dC (.str "death")) (dC (.str "dn")) pNil)))))))))
def m__law_shapes : Den := dDef 0 b__law_shapes
def fb__law_any_row_1 : DS := (sSeq (sSet 6 (d2 opIx (dLst (aCons (d2 opMod (d2 opIx (dVar 0) (d2 opAdd (dC (.int 1)) (dVar 4))) (dC (.int 10000))) (aCons (d2 opMod (d2 opIx (dVar 0) (d2 opAdd (dC (.int 1)) (dVar 4))) (dC (.int 10000))) (aCons (dC (.int 9999)) (aCons (dC (.int 1)) (aCons (dC (.int 0)) aNil)))))) (d2 opMod (d2 opIx (dVar 0) (d2 opAdd (dC (.int 8)) (dVar 4))) (dC (.int 5))))) (sIf (tVal (d2 opIn (dVar 5) (dC (.str "das")))) (sExpr (dMeth isLst kApp (dVar 3) (aCons (d2 opMax (dVar 6) (d1 opIntS (d2 opEq' (dVar 5) (dC (.str "a"))))) aNil))) (sIf (tAnd (tVal (d2 opEq' (dVar 5) (dC (.str "c")))) (tVal (d2 opEq' (d2 opMod (d2 opIx (dVar 0) (d2 opAdd (dC (.int 8)) (dVar 4))) (dC (.int 3))) (dC (.int 0))))) (sExpr (dMeth isLst kApp (dVar 3) (aCons (dC (.str "")) aNil))) (sExpr (dMeth isLst kApp (dVar 3) (aCons (d2 opIx (dVar 1) (d2 opMod (d2 opIx (dVar 0) (d2 opAdd (dC (.int 1)) (dVar 4))) (d1 opLen (dVar 1)))) aNil))))))
def lt__law_any_row_2 : DT := (tVal (d2 opNe' (dVar 7) (d2 opIx (dVar 3) (dC (.int 2)))))
def le__law_any_row_3 : DE := (dVar 7)
def b__law_any_row : DS := (sSeq (sSet 2 (d2 opIx (dCall0 m__law_kinds) (d2 opMod (d2 opIx (dVar 0) (dC (.int 0))) (dC (.int 7))))) (sSeq (sSetO 3 (dLst (aCons (dVar 2) aNil))) (sSeq (sFor (iEnumS (d2 opGet (dCall0 m__law_shapes) (dVar 2))) (gT 2 (gsCons (gN 4) (gsCons (gN 5) gsNil))) fb__law_any_row_1) (sSeq (sIf (tAnd (tVal (d2 opInG (dVar 2) (dTup (aCons (dC (.str "heir")) (aCons (dC (.str "liege")) aNil))))) (tVal (d2 opEq' (d2 opIx (dVar 3) (dC (.int 2))) (d2 opIx (dVar 3) (dC (.int 3)))))) (sLPut (dVar 3) (dC (.int 3)) (d2 opIx (dLc (iLst (dVar 1)) (gN 7) lt__law_any_row_2 le__law_any_row_3 [7]) (d2 opMod (d2 opIx (dVar 0) (dC (.int 7))) (d2 opSub (d1 opLen (dVar 1)) (dC (.int 1)))))) sNil) (sRet (d1 opTuple (dVar 3)))))))
def m__law_any_row : Den := dDef 8 b__law_any_row
end
end MR

set_option Elab.async false
set_option linter.all false
set_option maxRecDepth 100000
namespace MR
open PySem PySem.Spec PyProof.Rows L2
/-- what zip draws from -/
inductive Src where
  | tup (a : Addr) (vs : List V)
  | lst (a : Addr) (vs : List V)
  | str (x : Str)
def sgnV (x : Str) : List V := x.cps.toList.map fun c => V.str ⟨#[c]⟩
def Src.vals : Src → List V
  | .tup _ vs => vs
  | .lst _ vs => vs
  | .str x => sgnV x
def Src.val : Src → V
  | .tup a _ => .ref a
  | .lst a _ => .ref a
  | .str x => .str x
def Src.ok (K : PySem.W.Frag) (H : Hp) : Src → Prop
  | .tup a vs => SqT K H a vs
  | .lst a vs => SqL K H a vs
  | .str _ => True
def Src.okI (K : PySem.W.Frag) (I : Hp) : Src → Prop
  | .tup a vs => SqT K I a vs
  | .lst a vs => I a = some (.lst vs)
  | .str _ => True
def Src.St (t : Tok) (it : Addr) (i : Nat) (h : Heap) : Src → Prop
  | .tup a _ => h.IsTupleIter it a i
  | .lst a _ => h.IsListIter it a i
  | .str x => h.IsStrIter it (strIterType x) x t i
def Src.fp (it : Addr) : Src → List Addr
  | .tup a _ => [it, a]
  | .lst a _ => [it, a]
  | .str _ => [it]
def Src.below (n : Nat) : Src → Prop
  | .tup a _ => a < n
  | .lst a _ => a < n
  | .str _ => True
theorem Src.St_obj {t : Tok} {it : Addr} {i : Nat} {h : Heap} : ∀ {q : Src}, q.St t it i h → ∃ o, h.get? it = some o ∧ ∀ v, o.data ≠ .cell v
  | .tup _ _, ⟨o, e, _, d⟩ => ⟨o, e, fun v z => by rw [d] at z; cases z⟩
  | .lst _ _, ⟨o, e, _, d⟩ => ⟨o, e, fun v z => by rw [d] at z; cases z⟩
  | .str _, ⟨o, e, _, d⟩ => ⟨o, e, fun v z => by rw [d] at z; cases z⟩
theorem Src.St_keep {t : Tok} {it : Addr} {i : Nat} {h h' : Heap} (k : ∀ o, h.get? it = some o → h'.get? it = some o) : ∀ {q : Src}, q.St t it i h → q.St t it i h'
  | .tup _ _, ⟨o, e, r⟩ => ⟨o, k o e, r⟩
  | .lst _ _, ⟨o, e, r⟩ => ⟨o, k o e, r⟩
  | .str _, ⟨o, e, r⟩ => ⟨o, k o e, r⟩
theorem ane {a b : Nat} (h : a ≠ b) : @Ne Addr a b := h
theorem paired_back {vs : List V} {its : List Value} (r : Vals vs its) {j : Nat} {v : Value} (h : its[j]? = some v) : ∃ x, vs[j]? = some x ∧ RelV x v := by
  have hj := (List.getElem?_eq_some_iff.mp h).1
  have hl : j < vs.length := by rw [r.length]; exact hj
  have hx : vs[j]? = some vs[j] := List.getElem?_eq_getElem hl
  obtain ⟨u, hu, ru⟩ := r.get hx
  rw [h] at hu
  cases hu
  exact ⟨_, hx, ru⟩
theorem ltn {a : Nat} {n : Nat} {vs : List V} (h : Src.below n (.tup a vs)) : @LT.lt Nat _ a n := h
theorem nm1 {x a : Nat} (h : x ≠ a) : x ∉ [a] := by simpa using h
theorem nm2 {x a b : Nat} (h : x ≠ a) (k : x ≠ b) : x ∉ [a, b] := by simpa using ⟨h, k⟩
theorem src_nm {q : Src} {x it : Nat} (b : q.below it) (h : it < x) : x ∉ q.fp it := by
  cases q with
  | tup a vs => exact nm2 (Nat.ne_of_gt h) (Nat.ne_of_gt (Nat.lt_trans b h))
  | lst a vs => exact nm2 (Nat.ne_of_gt h) (Nat.ne_of_gt (Nat.lt_trans b h))
  | str x => exact nm1 (Nat.ne_of_gt h)
theorem src_nm' {q : Src} {n : Nat} (b : q.below n) {x : Nat} (h : n + 1 < x ∨ x = n) : x ∉ q.fp (n + 1) := by
  have h1 : x ≠ n + 1 := by rcases h with h | h <;> omega
  cases q with
  | tup a vs =>
    have b := ltn (vs := vs) b
    have h2 : @Ne Nat x a := by rcases h with h | h <;> omega
    exact nm2 h1 h2
  | lst a vs =>
    have b := ltn (vs := vs) b
    have h2 : @Ne Nat x a := by rcases h with h | h <;> omega
    exact nm2 h1 h2
  | str x => exact nm1 h1
theorem src_mem {q : Src} {it : Nat} : it ∈ q.fp it := by cases q <;> simp [Src.fp]
theorem src_sep {q1 q2 : Src} {n : Nat} (b1 : q1.below n) (b2 : q2.below n) : ZipSep2 (n + 4) (n + 2) (n + 3) n (n + 1) (q1.fp n) (q2.fp (n + 1)) where
  TIz := Nat.ne_of_lt (by omega : n + 2 < n + 4)
  TOz := Nat.ne_of_lt (by omega : n + 3 < n + 4)
  TITO := Nat.ne_of_lt (by omega : n + 2 < n + 3)
  TIi1 := Nat.ne_of_gt (by omega : n < n + 2)
  mem1 := src_mem
  zf1 := src_nm b1 (by omega)
  Tf1 := src_nm b1 (by omega)
  TIi2 := Nat.ne_of_gt (by omega : n + 1 < n + 2)
  mem2 := src_mem
  zf2 := src_nm' b2 (.inl (by omega))
  Tf2 := src_nm' b2 (.inl (by omega))
  sep1_2 := src_nm' b2 (.inr rfl)
  sep2_1 := src_nm b1 (by omega)
theorem sgnV_get {x : Str} {i : Nat} {c : Nat} (h : x.cps[i]? = some c) : (sgnV x)[i]? = some (V.str ⟨#[c]⟩) := by
  unfold sgnV
  rw [List.getElem?_map, Array.getElem?_toList, h] <;> rfl
theorem sgnV_len (x : Str) : (sgnV x).length = x.cps.size := by
  unfold sgnV
  rw [List.length_map, Array.length_toList]
section
variable {X : Cx} {pins : List (Addr × Obj)} {σ : L2.St} {H : Hp} {s : Shared}
theorem Src.draws (I : Inv X pins σ H s) (hh : X.A.in1.handled = none) {it : Addr} {t : Tok} {i : Nat} : ∀ {q : Src}, q.ok X.K H → q.below it ∨ (∀ a vs, q = .tup a vs ∨ q = .lst a vs → a ≠ it) → q.St t it i s.heap →
    ∃ P St, Draws X.prog X.w X.A.in1 it (q.fp it) q.vals.length P St ∧ St i s.heap ∧ (∀ j h, St j h → q.St t it j h) ∧ ∀ j v, P j v → ∃ x, q.vals[j]? = some x ∧ RelV x v
  | .tup a vs, ok, ne, st => by
    obtain ⟨its, rv, p, _⟩ := I.tuple ok
    have hne : a ≠ it := by
      rcases ne with h | h
      · exact Nat.ne_of_lt h
      · exact h a vs (.inl rfl)
    have el : its.toArray.size = vs.length := by rw [List.size_toArray, rv.length]
    have D := Draws.tuple (prog := X.prog) (w := X.w) hh it a hne its.toArray
    rw [el] at D
    refine ⟨_, _, D, ⟨st, p⟩, fun j h z => z.1, fun j v z => ?_⟩
    have z' : its[j]? = some v := by simpa using z
    exact paired_back rv z'
  | .lst a vs, ok, ne, st => by
    obtain ⟨its, rv, p, _⟩ := I.list ok
    have hne : a ≠ it := by
      rcases ne with h | h
      · exact Nat.ne_of_lt h
      · exact h a vs (.inr rfl)
    have el : its.toArray.size = vs.length := by rw [List.size_toArray, rv.length]
    have D := Draws.list (prog := X.prog) (w := X.w) hh it a hne its.toArray
    rw [el] at D
    refine ⟨_, _, D, ⟨st, p.isList⟩, fun j h z => z.1, fun j v z => ?_⟩
    have z' : its[j]? = some v := by simpa using z
    exact paired_back rv z'
  | .str x, _, _, st => by
    have D := Draws.text (prog := X.prog) (w := X.w) hh it x t
    rw [← sgnV_len x] at D
    refine ⟨_, _, D, st, fun j h z => z, fun j v z => ?_⟩
    obtain ⟨c, u, hc, rfl⟩ := z
    exact ⟨_, sgnV_get hc, ⟨u, rfl⟩⟩
theorem Src.begins (I : Inv X pins σ H s) {u : Value} : ∀ {q : Src}, q.ok X.K H → RelV q.val u → ∃ o Hh t, Begins u o Hh ∧ Hh s.heap ∧ ∀ it h, h.get? it = some o → q.St t it 0 h
  | .tup a vs, ok, r => by
    obtain ⟨its, rv, p, _⟩ := I.tuple ok
    cases r
    exact ⟨_, _, 0, begins_tuple a its.toArray, p, fun it h e => ⟨_, e, rfl, rfl⟩⟩
  | .lst a vs, ok, r => by
    obtain ⟨its, rv, p, _⟩ := I.list ok
    cases r
    exact ⟨_, _, 0, begins_list a its.toArray, p.isList, fun it h e => ⟨_, e, rfl, rfl⟩⟩
  | .str x, ok, r => by
    obtain ⟨t, rfl⟩ := r
    exact ⟨_, _, t, begins_text x t, trivial, fun it h e => ⟨_, e, rfl, rfl⟩⟩
theorem Src.lt (I : Inv X pins σ H s) : ∀ {q : Src}, q.ok X.K H → q.below s.heap.objs.size
  | .tup a vs, ok => by
    obtain ⟨its, rv, ⟨o, e, _⟩, _⟩ := I.tuple ok
    exact Heap.lt_size e
  | .lst a vs, ok => by
    obtain ⟨its, rv, p, _⟩ := I.list ok
    exact p.lt
  | .str x, ok => trivial
end
def ItZ (K : PySem.W.Frag) (q1 q2 : Src) : It :=
  ⟨fun i H => q1.ok K H ∧ q2.ok K H ∧ i < q1.vals.length ∧ i < q2.vals.length,
    fun i H v H' => ∃ T x y, v = .ref T ∧ H T = none ∧ H' = upd H T (.tup [x, y]) ∧ q1.vals[i]? = some x ∧ q2.vals[i]? = some y,
    fun i H => q1.ok K H ∧ q2.ok K H ∧ (q1.vals.length ≤ i ∨ q2.vals.length ≤ i)⟩
theorem turn_zipX {P : Program} {w : World} {K : PySem.W.Frag} {elts : List Expr} {kk : Nat} {tpos : Pos} {q1 q2 : Src} {t1 t2 : Tok} {n : Nat} (b1 : q1.below n) (b2 : q2.below n) :
    Turn P w K (.Tuple elts kk tpos) (ItZ K q1 q2) [n + 4, n + 2, n + 3, n, n + 1] (n + 4) (fun i h => IsZip h (n + 4) (n + 2) (n + 3) .none ∧ IsTupOf2 h (n + 2) (.ref n) (.ref (n + 1)) ∧ (∃ x y, IsTupOf2 h (n + 3) x y) ∧ q1.St t1 n i h ∧ q2.St t2 (n + 1) i h ∧ i ≤ q1.vals.length ∧ i ≤ q2.vals.length) where
  mem := by simp
  obj := fun i h st c hc => by
    obtain ⟨hz, hTI, ⟨x, y, hTO⟩, h1, h2, _⟩ := st
    have e' : c = n + 4 ∨ c = n + 2 ∨ c = n + 3 ∨ c = n ∨ c = n + 1 := by simpa using hc
    rcases e' with q | q | q | q | q
    · rw [q]; exact ⟨_, hz, fun v q => nomatch q⟩
    · rw [q]; exact ⟨_, hTI, fun v q => nomatch q⟩
    · rw [q]; exact ⟨_, hTO, fun v q => nomatch q⟩
    · rw [q]; exact Src.St_obj h1
    · rw [q]; exact Src.St_obj h2
  keep := fun i h h' st k => by
    obtain ⟨hz, hTI, ⟨x, y, hTO⟩, h1, h2, l⟩ := st
    exact ⟨k _ (by simp) _ hz, k _ (by simp) _ hTI, ⟨x, y, k _ (by simp) _ hTO⟩, Src.St_keep (k _ (by simp)) h1, Src.St_keep (k _ (by simp)) h2, l⟩
  item := by
    intro X hP hw hK hc i pins s σ H E I hf st hg
    subst hP hw hK
    obtain ⟨hz, hTI, ⟨x0, y0, hTO⟩, h1, h2, _⟩ := st
    obtain ⟨ok1, ok2, l1, l2⟩ := hg
    obtain ⟨P1, S1, D1, s1, k1, v1⟩ := Src.draws I (show X.A.in1.handled = none from I.ok.hd hc) ok1 (.inl b1) h1
    obtain ⟨P2, S2, D2, s2, k2, v2⟩ := Src.draws I (show X.A.in1.handled = none from I.ok.hd hc) ok2 (.inr fun a vs e => by
      rcases e with rfl | rfl
      · exact Nat.ne_of_lt (Nat.lt_succ_of_lt b2)
      · exact Nat.ne_of_lt (Nat.lt_succ_of_lt b2)) h2
    have S := src_sep b1 b2
    have hzl : n + 4 < s.heap.objs.size := Heap.lt_size hz
    refine wpAny_pyNext_zipD2_item S D1 D2 hz hTI hTO s1 s2 l1 l2 fun u u2 h' tk pu pu2 z' TO' h1' h2' hT hsz hk => ?_
    obtain ⟨x, hx, ru⟩ := v1 i u pu
    obtain ⟨y, hy, ru2⟩ := v2 i u2 pu2
    refine ⟨_, rfl, wpAny_letOwnedTupleGo_zip (s := { s with heap := h', toks := tk }) z' fun h'' z'' sb => ?_⟩
    have hT2 : h''.get? s.heap.objs.size = some { cls := .type "tuple", data := .seq #[u, u2] } := (sb.2 _ (Nat.ne_of_gt hzl)).trans hT
    have new : ObjOk X.prog X.w (upd H s.heap.objs.size (.tup [x, y])) h'' s.heap.objs.size (.tup [x, y]) :=
      ⟨by show 2 ≤ sizeLine; decide, [u, u2], .cons ru (.cons ru2 .nil), ⟨_, hT2, rfl, _, rfl⟩⟩
    have I1 : Inv X pins σ (upd H s.heap.objs.size (.tup [x, y])) { s with heap := h'', toks := tk } :=
      I.turnedNew (t' := tk) (ch := [n + 4, n + 2, n + 3, n, n + 1]) (fun c o hb q => (sb.2 c (fun q' => hb (by simp [q']))).trans (hk c o (fun q' => hb (by simp [q'])) (fun q' => hb (by simp [q'])) (fun q' => hb (by simp [q'])) (fun q' => hb (by simp [q'])) q)) hf (Nat.le_refl _) new
    refine ⟨.ref s.heap.objs.size, _, I1, rfl, ⟨_, x, y, rfl, I.hok.fresh (Nat.le_refl _), rfl, hx, hy⟩, ⟨z'', ?_, ⟨u, u2, ?_⟩, ?_, ?_, l1, l2⟩, fun c hcm => ?_⟩
    · exact (sb.2 _ (ane (by omega))).trans (hk _ _ (ane (by omega)) (ane (by omega)) (ane (by omega)) (ane (by omega)) hTI)
    · exact (sb.2 _ (ane (by omega))).trans TO'
    · exact Src.St_keep (fun o q => (sb.2 _ (ane (by omega))).trans q) (k1 _ _ h1')
    · exact Src.St_keep (fun o q => (sb.2 _ (ane (by omega))).trans q) (k2 _ _ h2')
    · have hlt : c < s.heap.objs.size := by
        have e' : c = n + 4 ∨ c = n + 2 ∨ c = n + 3 ∨ c = n ∨ c = n + 1 := by simpa using hcm
        rcases e' with q | q | q | q | q <;> rw [q] <;> first | exact hzl | exact Nat.lt_of_lt_of_le (by omega : _ < n + 4) (Nat.le_of_lt hzl)
      rw [upd_ne (Nat.ne_of_lt hlt)]
      exact (hf c hcm).1
  done := by
    intro X hP hw hK hc i pins s σ H E I hf st hg
    subst hP hw hK
    obtain ⟨hz, hTI, ⟨x0, y0, hTO⟩, h1, h2, l1, l2⟩ := st
    obtain ⟨ok1, ok2, hend⟩ := hg
    obtain ⟨P1, S1, D1, s1, k1, v1⟩ := Src.draws I (show X.A.in1.handled = none from I.ok.hd hc) ok1 (.inl b1) h1
    obtain ⟨P2, S2, D2, s2, k2, v2⟩ := Src.draws I (show X.A.in1.handled = none from I.ok.hd hc) ok2 (.inr fun a vs e => by
      rcases e with rfl | rfl
      · exact Nat.ne_of_lt (Nat.lt_succ_of_lt b2)
      · exact Nat.ne_of_lt (Nat.lt_succ_of_lt b2)) h2
    have S := src_sep b1 b2
    exact wpAny_pyNext_zipD2_end S D1 D2 hz hTI hTO s1 s2 l1 l2 (by omega) fun h' tk hk => ⟨rfl, I.turnedL (t' := tk) (ch := [n + 4, n + 2, n + 3, n, n + 1]) (fun c o hb q =>
      hk c o (fun q' => hb (by simp [q'])) (fun q' => hb (by simp [q'])) (fun q' => hb (by simp [q'])) (fun q' => hb (by simp [q'])) q) hf⟩
  self := fun A i s Q E st h => wpAny_pyIter_zip st.1 h
section
variable {X : Cx} {Wx : WX}
def iZipXT (K : PySem.W.Frag) (ta : TA) : TI := fun σ H R => ta σ H fun vs H1 => ∃ q1 q2 : Src, vs = [q1.val, q2.val] ∧ q1.ok K H1 ∧ q2.ok K H1 ∧ R (ItZ K q1 q2) H1
theorem pi_zipX {e e2 : Expr} {ta : TA} {p pos tpos : Pos} {elts : List Expr} {kk : Nat} (hg : Gl X "zip") (hm : X.mg "zip" = none) (ha : PA X [e, e2] ta)
    (hs : starEach [e, e2] X.env = (false, eval e X.env) :: starEach [e2] X.env := by rfl) (hpl : (backTo pos (starEach [e2] X.env)).any (·.1) = false := by rfl) :
    PI X (.Tuple elts kk tpos) (.Call (.Name "zip" p) [e, e2] [] pos) (iZipXT X.K ta) := by
  refine ⟨fun pins s σ H R I h => ?_⟩
  refine Call_ (ld_blt I hg hm PyProof.Rows.boot_zip (PyProof.Rows.callWith_type1 (thn (ha.run pos pins s σ H _ I h) fun us s1 ⟨vs, H1, I1, r1, qq⟩ => ?_) hs hpl))
  obtain ⟨q1, q2, ex, ok1, ok2, q⟩ := qq
  subst ex
  cases r1 with
  | cons r rr =>
    cases rr with
    | cons r' rr =>
      cases rr
      obtain ⟨o1, Hh1, t1, B1, hh1, st1⟩ := Src.begins I1 ok1 r
      obtain ⟨o2, Hh2, t2, B2, hh2, st2⟩ := Src.begins I1 ok2 r'
      have fresh5 : ∀ c, c ∈ [s1.heap.objs.size + 4, s1.heap.objs.size + 2, s1.heap.objs.size + 3, s1.heap.objs.size, s1.heap.objs.size + 1] → FpOk X pins H1 c := fun c hcm => by
        have e' : c = s1.heap.objs.size + 4 ∨ c = s1.heap.objs.size + 2 ∨ c = s1.heap.objs.size + 3 ∨ c = s1.heap.objs.size ∨ c = s1.heap.objs.size + 1 := by simpa using hcm
        have hle : s1.heap.objs.size ≤ c := by
          rcases e' with z | z | z | z | z <;> rw [z] <;> first | exact Nat.le_refl _ | exact Nat.le_add_right _ _
        exact I1.fpOk hle (I1.hok.fresh hle)
      refine zip_begins2 B1 B2 hh1 hh2 fun h' hz hTI hTO h1 h2 hsz hk => wpAny_pyIter_zip hz ?_
      have I2 : Inv X pins σ H1 { s1 with heap := h' } := I1.kept (t' := s1.toks) hk
      exact ⟨s1.heap.objs.size + 4, [s1.heap.objs.size + 4, s1.heap.objs.size + 2, s1.heap.objs.size + 3, s1.heap.objs.size, s1.heap.objs.size + 1], _, _, H1, rfl, I2, turn_zipX (t1 := t1) (t2 := t2) (Src.lt I1 ok1) (Src.lt I1 ok2), ⟨hz, hTI, ⟨_, _, hTO⟩, st1 _ _ h1, st2 _ _ h2, Nat.zero_le _, Nat.zero_le _⟩, fresh5, q⟩
def seqD : D → Option (List D)
  | .lst l => some l
  | .tup l => some l
  | .cst l => some l
  | .str z => some (signs z)
  | _ => none
def iZipX (f g : DE) : DI := fun σ S => (dV f σ S).bind fun x σ S => (dV g σ S).bind fun y σ S => match seqD x, seqD y with
  | some xs, some ys => .ok (pairs xs ys) σ S
  | _, _ => .fail
theorem reps_signs {K : PySem.W.Frag} {ρ : List Addr} {I : Hp} (x : Str) : Reps K ρ I (sgnV x) (signs x) := by
  unfold sgnV signs
  induction x.cps.toList with
  | nil => exact .nil
  | cons c cs ih => exact .cons .str ih
theorem rep_src {K : PySem.W.Frag} {ρ : List Addr} {I : Hp} {v : V} {w : D} {l : List D} (t : Rep K ρ I v w) (e : seqD w = some l) : ∃ q : Src, v = q.val ∧ q.okI K I ∧ Reps K ρ I q.vals l := by
  cases t with
  | lst q r => cases e; exact ⟨.lst _ _, rfl, q, r⟩
  | tup q r => cases e; exact ⟨.tup _ _, rfl, q.sq, r⟩
  | cst q r => cases e; exact ⟨.tup _ _, rfl, q, r⟩
  | str => cases e; exact ⟨.str _, rfl, trivial, reps_signs _⟩
  | _ => cases e
theorem Src.okI_gr {K : PySem.W.Frag} {ρ ρ' : List Addr} {I I' : Hp} (g : Gr ρ I ρ' I') : ∀ {q : Src}, q.okI K I → q.okI K I'
  | .tup _ _, h => SqT.gr g h
  | .lst _ _, h => g.ex _ _ h
  | .str _, _ => trivial
theorem Src.okI_ok {K : PySem.W.Frag} {I H : Hp} (sb : Sub I H) : ∀ {q : Src}, q.okI K I → q.ok K H
  | .tup _ _, h => sb.sqT h
  | .lst _ _, h => sb.sqL (.inl (.inl h))
  | .str _, _ => trivial
theorem walks_zipX {K : PySem.W.Frag} {I : Hp} {ρ : List Addr} {q1 q2 : Src} {ws zs : List D} (h : q1.okI K I) (r : Reps K ρ I q1.vals ws) (h' : q2.okI K I) (r' : Reps K ρ I q2.vals zs) : ∀ F, Walks K F I ρ (ItZ K q1 q2) (pairs ws zs) := fun F I2 ρ2 S2 H2 σV2 σ2 g rb => by
  have ha : q1.ok K H2 := Src.okI_ok rb.sub (Src.okI_gr g h)
  have hb : q2.ok K H2 := Src.okI_ok rb.sub (Src.okI_gr g h')
  refine ⟨fun i d hd => ?_, ha, hb, by rw [r.length, r'.length]; exact pairs_len ws zs⟩
  obtain ⟨x, y, hx, hy, rfl⟩ := pairs_get hd
  obtain ⟨v, hv, rv⟩ := r.get hx
  obtain ⟨u, hu, ru⟩ := r'.get hy
  refine ⟨⟨ha, hb, (List.getElem?_eq_some_iff.mp hv).1, (List.getElem?_eq_some_iff.mp hu).1⟩, fun z H3 q => ?_⟩
  obtain ⟨T, x', y', rfl, hT, rfl, e1, e2⟩ := q
  rw [hv] at e1
  rw [hu] at e2
  cases e1; cases e2
  obtain ⟨g3, rb3⟩ := rb.new (o := .tup [v, u]) hT
  exact ⟨_, g3, rb3, .tup (.inl upd_same) (.cons ((rv.gr g).gr g3) (.cons ((ru.gr g).gr g3) .nil))⟩
theorem ci_zipX {elts : List Expr} {kk : Nat} {tpos : Pos} {a b : Expr} {p pos : Pos} {f g : DE} (hm : X.mg "zip" = none) (h : SE X Wx a f) (k : SE X Wx b g) (hg : Gl X "zip" := by rfl) (hs : starEach [a, b] X.env = (false, eval a X.env) :: starEach [b] X.env := by rfl) (hs2 : starEach [b] X.env = (false, eval b X.env) :: starEach [] X.env := by rfl) (hpl : (backTo pos (starEach [b] X.env)).any (·.1) = false := by rfl) :
    SI X Wx (.Tuple elts kk tpos) (.Call (.Name "zip" p) [a, b] [] pos) (iZipX f g) := by
  refine PI.imp (pi_zipX hg hm (pa_cons (c_v h) (pa_cons (c_v k) pa_nil hs2) hs) hs hpl) fun σV H R h => ?_
  obtain ⟨F, I, ρ, σ, S, rb, h⟩ := h
  refine ⟨F, I, ρ, σ, S, rb, postI_bind h fun I1 ρ1 σ1 S1 H1 x v1 _ g1 rb1 t1 h1 => ?_⟩
  refine ⟨F, I1, ρ1, σ1, S1, rb1, postI_bind h1 fun I2 ρ2 σ2 S2 H2 y v2 _ g2 rb2 t2 h2 => ?_⟩
  have t1 := t1.gr g2
  split at h2
  · rename_i xs ys e1 e2
    obtain ⟨q1, rfl, k1, r1⟩ := rep_src t1 e1
    obtain ⟨q2, rfl, k2, r2⟩ := rep_src t2 e2
    exact ⟨q1, q2, rfl, Src.okI_ok rb2.sub k1, Src.okI_ok rb2.sub k2, h2 I2 ρ2 H2 _ Gr.refl rb2 fun F' _ => walks_zipX k1 r1 k2 r2 F'⟩
  · exact h2.elim
end
end MR

set_option Elab.async false
set_option linter.all false
set_option maxRecDepth 100000
namespace MR
open PySem PySem.Spec PyProof.Rows L2
section
variable {X : Cx} {Wx : WX}
def catT : D → D → Option D
  | .tup x, .tup y => if x.length + y.length ≤ most then some (.tup (x ++ y)) else none
  | _, _ => none
def dCatT (f g : DE) : DE := fun σ S => (dV f σ S).bind fun x σ S => (dV g σ S).bind fun y σ S => ofOpt (catT x y) σ S
theorem c_catT {a b : Expr} {pos : Pos} {f g : DE} (ha : SE X Wx a f) (hb : SE X Wx b g) : SE X Wx (.BinOp a .Add b pos) (dCatT f g) := by
  refine PE.imp (pe_op op_catA (c_v ha) (c_v hb)) fun σV H Q h => ?_
  obtain ⟨F, I, ρ, σ, S, rb, h⟩ := h
  refine ⟨F, I, ρ, σ, S, rb, post_bind h fun I1 ρ1 σ1 S1 H1 x v1 _ g1 rb1 t1 h1 => ?_⟩
  refine ⟨F, I1, ρ1, σ1, S1, rb1, post_bind h1 fun I2 ρ2 σ2 S2 H2 y v2 _ g2 rb2 t2 h2 => ?_⟩
  have t1 := t1.gr g2
  obtain ⟨z, ez, h3⟩ := post_opt h2
  unfold catT at ez
  split at ez
  · split at ez
    · rename_i hl
      cases ez
      cases t1 with
      | tup q1 r1 => cases t2 with
        | tup q2 r2 =>
          refine ⟨_, _, _, _, rfl, rfl, rb2.sub.sqT q1.sq, rb2.sub.sqT q2.sq, by rw [r1.length, r2.length, ← most_eq]; exact hl, fun z => ?_, fun _ z => ?_, fun _ _ p hp => ?_⟩
          · subst z
            cases r1
            exact h3 I2 ρ2 H2 _ Gr.refl rb2 (.inr (.tup q2 r2))
          · subst z
            cases r2
            simp only [List.append_nil] at h3
            exact h3 I2 ρ2 H2 _ Gr.refl rb2 (.inr (.tup q1 r1))
          · obtain ⟨g4, rb4⟩ := rb2.new (o := .tup (_ ++ _)) hp
            exact h3 _ ρ2 _ _ g4 rb4 (.inr (.tup (.inl upd_same) ((r1.append r2).gr g4)))
    · cases ez
  · cases ez
def opSlT : D → Option Int → Option Int → Option D
  | .tup xs, lo, hi => some (.tup (cutL xs lo hi))
  | _, _, _ => none
def dSlT (f : DE) (lo hi : DO) : DE := fun σ S => (dV f σ S).bind fun x σ S => (lo σ S).bind fun l σ S => (hi σ S).bind fun u σ S => ofOpt (opSlT x l u) σ S
theorem cutL_whole {α : Type} {xs : List α} {lo hi : Option Int} (h : HT.sIx xs.length 0 lo = 0 ∧ HT.sIx xs.length xs.length hi = xs.length) : cutL xs lo hi = xs := by
  unfold cutL
  rw [h.1, h.2]
  simp
theorem c_slT {e : Expr} {lo hi : Option Expr} {p2 pos : Pos} {f : DE} {l u : DO} (h : SE X Wx e f) (hl : SO X Wx lo l) (hu : SO X Wx hi u) : SE X Wx (.Subscript e (.Slice lo hi none p2) pos) (dSlT f l u) := by
  refine PE.imp (pe_slice sl_tupA (c_v h) hl hu) fun σV H Q h => ?_
  obtain ⟨F, I, ρ, σ, S, rb, h⟩ := h
  refine ⟨F, I, ρ, σ, S, rb, post_bind h fun I1 ρ1 σ1 S1 H1 x v1 _ g1 rb1 t1 h1 => ?_⟩
  refine ⟨F, I1, ρ1, σ1, S1, rb1, post_bind h1 fun I2 ρ2 σ2 S2 H2 a2 b2 _ g2 rb2 t2 h2 => ?_⟩
  subst t2
  refine ⟨F, I2, ρ2, σ2, S2, rb2, post_bind h2 fun I3 ρ3 σ3 S3 H3 a3 b3 _ g3 rb3 t3 h3 => ?_⟩
  subst t3
  have t1 := (t1.gr g2).gr g3
  obtain ⟨z, ez, h4⟩ := post_opt h3
  unfold opSlT at ez
  split at ez
  · cases ez
    cases t1 with
    | @tup a vs ws q1 r1 =>
      refine ⟨_, _, rfl, rb3.sub.sqT q1.sq, fun hw => ?_, fun hw p hp => ?_⟩
      · rw [r1.length] at hw
        rw [cutL_whole hw] at h4
        exact h4 I3 ρ3 H3 _ Gr.refl rb3 (.inr (.tup q1 r1))
      · obtain ⟨g4, rb4⟩ := rb3.new (o := .tup (cutV vs _ _)) hp
        exact h4 _ ρ3 _ _ g4 rb4 (.inr (.tup (.inl upd_same) ((r1.cut _ _).gr g4)))
  · cases ez
end
end MR

set_option Elab.async false
set_option linter.all false
set_option maxRecDepth 100000
namespace MR
open PySem
noncomputable section
def tab_SHAPES : Tab := [("heir", [.str "day", .str "name", .str "name"]), ("grant", [.str "day", .str "crowned", .str "name", .str "name", .str "acres", .str "service"]), ("part", [.str "day", .str "name", .str "name", .str "name", .str "acres"]), ("convey", [.str "day", .str "name", .str "name"]), ("liege", [.str "day", .str "name", .str "crowned"]), ("surrender", [.str "day", .str "name"]), ("death", [.str "day", .str "name"])]
def b_fits : DS := (sSeq (sIf (tVal (d2 opEq' (dVar 1) (dC (.str "acres")))) (sRet (dChain opLe opLe (dC (.int 1)) (dVar 0) (dC (.int 9999)))) sNil) (sSeq (sIf (tVal (d2 opInG (dVar 1) (dTup (aCons (dC (.str "day")) (aCons (dC (.str "service")) aNil))))) (sRet (dChain opLe opLe (dC (.int 0)) (dVar 0) (dC (.int 9999)))) sNil) (sSeq (sIf (tAnd (tVal (d2 opEq' (dVar 1) (dC (.str "crowned")))) (tVal (d2 opEq' (dVar 0) (dC (.str ""))))) (sRet (dC (.bl true))) sNil) (sRet (dCall m_is_name (aCons (dVar 0) aNil))))))
def m_fits : Den := dDef 2 b_fits
def fb_check_row_1 : DS := (sIf (tNot (tVal (dCall m_fits (aCons (dVar 2) (aCons (dVar 3) aNil))))) (sRaise "NoForm") sNil)
def b_check_row : DS := (sSeq (sIf (tVal (d1 (opNotInTab tab_SHAPES) (d2 opIx (dVar 0) (dC (.int 0))))) (sRaise "NoForm") sNil) (sSeq (sSet 1 (d1 (opTab tab_SHAPES) (d2 opIx (dVar 0) (dC (.int 0))))) (sSeq (sIf (tVal (d2 opNe' (d1 opLen (dVar 0)) (d2 opAdd (dC (.int 1)) (d1 opLenC (dVar 1))))) (sRaise "NoForm") sNil) (sSeq (sFor (iZipC (dSl (dVar 0) (oSome (dC (.int 1))) oNone) (dVar 1)) (gT 2 (gsCons (gN 2) (gsCons (gN 3) gsNil))) fb_check_row_1) (sIf (tAnd (tVal (d2 opInG (d2 opIx (dVar 0) (dC (.int 0))) (dTup (aCons (dC (.str "heir")) (aCons (dC (.str "liege")) aNil))))) (tVal (d2 opEq' (d2 opIx (dVar 0) (dC (.int 2))) (d2 opIx (dVar 0) (dC (.int 3)))))) (sRaise "NoForm") sNil)))))
def m_check_row : Den := dDef 4 b_check_row
def le__law_named_1 : DE := (d2 opIn (dVar 1) (dC (.str "abcdefghijklmnopqrstuvwxyz")))
def b__law_named : DS := (sRet (vAnd (dChain opLe opLe (dC (.int 1)) (d1 opLen (dVar 0)) (dC (.int 8))) (d1 opAll (dLc (iStr (dVar 0)) (gN 1) tTrue le__law_named_1 [1]))))
def m__law_named : Den := dDef 2 b__law_named
def fb__law_good_1 : DS := (sIf (tVal (d2 opIn (dVar 3) (dC (.str "das")))) (sIf (tNot (tVal (dChain opLe opLe (d1 opIntS (d2 opEq' (dVar 3) (dC (.str "a")))) (dVar 2) (dC (.int 9999))))) (sRet (dC (.bl false))) sNil) (sIf (tAnd (tNot (tVal (dCall m__law_named (aCons (dVar 2) aNil)))) (tNot (tAnd (tVal (d2 opEq' (dVar 3) (dC (.str "c")))) (tVal (d2 opEq' (dVar 2) (dC (.str ""))))))) (sRet (dC (.bl false))) sNil))
def b__law_good : DS := (sSeq (sSet 1 (dMeth isDct kGet (dCall0 m__law_shapes) (aCons (d2 opIx (dVar 0) (dC (.int 0))) (aCons (dC (.str "?")) aNil)))) (sSeq (sIf (tOr (tVal (d2 opNe' (d1 opLen (dVar 0)) (d2 opAdd (dC (.int 1)) (d1 opLen (dVar 1))))) (tVal (d2 opEq' (dVar 1) (dC (.str "?"))))) (sRet (dC (.bl false))) sNil) (sSeq (sFor (iZipX (dSl (dVar 0) (oSome (dC (.int 1))) oNone) (dVar 1)) (gT 2 (gsCons (gN 2) (gsCons (gN 3) gsNil))) fb__law_good_1) (sRet (vNot (vAnd (d2 opInG (d2 opIx (dVar 0) (dC (.int 0))) (dTup (aCons (dC (.str "heir")) (aCons (dC (.str "liege")) aNil)))) (d2 opEq' (d2 opIx (dVar 0) (dC (.int 2))) (d2 opIx (dVar 0) (dC (.int 3))))))))))
def m__law_good : Den := dDef 4 b__law_good
end
end MR

set_option Elab.async false
set_option linter.all false
set_option maxRecDepth 100000
namespace MR
open PySem
noncomputable section
def b__law_bent_row : DS := (sSeq (sSet 2 (d2 opMod (d2 opIx (dVar 1) (dC (.int 1))) (d1 opLen (dVar 0)))) (sSeq (sSet 3 (d2 opMod (d2 opIx (dVar 1) (dC (.int 0))) (dC (.int 7)))) (sSeq (sIf (tVal (d2 opEq' (dVar 3) (dC (.int 1)))) (sRet (dSlT (dVar 0) oNone (oSome (d2 opMax (dC (.int 1)) (dVar 2))))) sNil) (sSeq (sIf (tVal (d2 opEq' (dVar 3) (dC (.int 2)))) (sRet (dCatT (dVar 0) (dTup (aCons (d2 opIx (dLst (aCons (dC (.int 3)) (aCons (dC (.str "ann")) (aCons (dC (.str "")) aNil)))) (d2 opMod (d2 opIx (dVar 1) (dC (.int 2))) (dC (.int 3)))) aNil)))) sNil) (sSeq (sIf (tAnd (tVal (d2 opEq' (dVar 3) (dC (.int 3)))) (tVal (d2 opGt (dVar 2) (dC (.int 0))))) (sRet (dCatT (dSlT (dVar 0) oNone (oSome (dVar 2))) (dSlT (dVar 0) (oSome (d2 opAdd (dVar 2) (dC (.int 1)))) oNone))) sNil) (sSeq (sIf (tOr (tVal (d2 opGt (dVar 3) (dC (.int 4)))) (tVal (d2 opEq' (dVar 2) (dC (.int 0))))) (sRet (dCatT (dTup (aCons (d2 opIx (dTup (aCons (dC (.str "grants")) (aCons (dC (.str "")) (aCons (dC (.str "Heir")) (aCons (dC (.str "troth")) (aCons (dC (.str "death ")) aNil)))))) (d2 opMod (d2 opIx (dVar 1) (dC (.int 2))) (dC (.int 5)))) aNil)) (dSlT (dVar 0) (oSome (dC (.int 1))) oNone))) sNil) (sSeq (sIf (tVal (d1 (opIsi .str) (d2 opGet (dVar 0) (dVar 2)))) (sSeq (sSet 4 (d2 opIx (dVar 0) (d2 opAdd (dC (.int 1)) (d2 opMod (d2 opIx (dVar 1) (dC (.int 3))) (d2 opSub (d1 opLen (dVar 0)) (dC (.int 1))))))) (sSeq (sSet 5 (d2 opIx (dLst (aCons (dC (.str "")) (aCons (d2 opAdd (d2 opGet (dVar 0) (dVar 2)) (dC (.str "abcdefgh"))) (aCons (d2 opAdd (d2 opGet (dVar 0) (dVar 2)) (dC (.str " "))) (aCons (d2 opAdd (dC (.str "A")) (d2 opGet (dVar 0) (dVar 2))) (aCons (dC (.str "-")) (aCons (dVar 4) (aCons (dC (.str "a1")) aNil)))))))) (d2 opMod (d2 opIx (dVar 1) (dC (.int 2))) (dC (.int 7))))) (sSeq (sIf (tNot (tVal (d1 (opIsi .str) (dVar 5)))) (sSet 5 (dC (.str ""))) sNil) (sRet (dCatT (dCatT (dSlT (dVar 0) oNone (oSome (dVar 2))) (dTup (aCons (dVar 5) aNil))) (dSlT (dVar 0) (oSome (d2 opAdd (dVar 2) (dC (.int 1)))) oNone)))))) sNil) (sRet (dCatT (dCatT (dSlT (dVar 0) oNone (oSome (dVar 2))) (dTup (aCons (d2 opIx (dLst (aCons (dC (.int 0)) (aCons (dNeg (dC (.int 1))) (aCons (dC (.int 10000)) (aCons (d2 opPow (dC (.int 10)) (dC (.int 20))) (aCons (dC (.int 9999)) (aCons (d2 opSub (dC (.int 0)) (d2 opGet (dVar 0) (dVar 2))) aNil))))))) (d2 opMod (d2 opIx (dVar 1) (dC (.int 2))) (dC (.int 6)))) aNil))) (dSlT (dVar 0) (oSome (d2 opAdd (dVar 2) (dC (.int 1)))) oNone))))))))))
def m__law_bent_row : Den := dDef 6 b__law_bent_row
def le__law_kinds_kept_1 : DE := (d2 opEq' (d1 (opIsi .int) (dVar 3)) (d2 opIn (dVar 2) (dC (.str "das"))))
def b__law_kinds_kept : DS := (sSeq (sSet 1 (dMeth isDct kGet (dCall0 m__law_shapes) (aCons (d2 opIx (dVar 0) (dC (.int 0))) (aCons (dC (.str "")) aNil)))) (sRet (d1 opAll (dLc (iZipX (dSl (dVar 0) (oSome (dC (.int 1))) oNone) (dVar 1)) (gT 2 (gsCons (gN 3) (gsCons (gN 2) gsNil))) tTrue le__law_kinds_kept_1 [3, 2]))))
def m__law_kinds_kept : Den := dDef 4 b__law_kinds_kept
def tb__law_why_form_1 : DS := (sSet 2 (dIsN (dV (dCall m_check_row (aCons (dVar 0) aNil)))))
def th__law_why_form_2 : Addr → Exn → DS := (fun xa ex => (sSeq (sSet 1 (dLst (aCons (dIsE xa 3 ex.c "ValueError") (aCons (dIsE xa 3 ex.c "NoForm") (aCons (dIsE xa 3 ex.c "NoText") (aCons (dIsE xa 3 ex.c "NoEntry") aNil)))))) (sSeq (sSet 1 (d2 opAdd (dVar 1) (dLst (aCons (dIsE xa 3 ex.c "Twice") (aCons (dIsE xa 3 ex.c "NothingThere") (aCons (dIsE xa 3 ex.c "NoEstate") aNil)))))) (sSet 1 (d2 opAdd (dVar 1) (dLst (aCons (dIsE xa 3 ex.c "NoMan") (aCons (dIsE xa 3 ex.c "NoQuarrel") (aCons (dIsE xa 3 ex.c "NoLand") aNil)))))))))
def b__law_why_form : DS := (sSeq (sSet 1 (dLst aNil)) (sSeq (sSet 2 (dC (.bl false))) (sSeq (sTry ["NoForm"] tb__law_why_form_1 "LandError" 3 th__law_why_form_2) (sRet (dTup (aCons (dVar 2) (aCons (dVar 1) aNil)))))))
def m__law_why_form : Den := dDef 4 b__law_why_form
def fb_law_1 : DS := (sSeq (sSet 5 (dCall m__law_bent_row (aCons (dVar 3) (aCons (dSl (dVar 1) (oSome (d2 opAdd (dC (.int 30)) (d2 opMul' (dC (.int 8)) (dVar 4)))) oNone) aNil)))) (sIf (tAnd (tVal (d2 opGt (d1 opLen (dVar 3)) (dC (.int 1)))) (tVal (dCall m__law_kinds_kept (aCons (dVar 5) aNil)))) (sSet 3 (dVar 5)) sNil))
def b_law : DS := (sSeq (sSet 1 (dCall m__law_feed (aCons (dVar 0) (aCons (dC (.int 50)) aNil)))) (sSeq (sSet 2 (dCall m__law_names (aCons (dSl (dVar 1) (oSome (dC (.int 1))) oNone) (aCons (dC (.int 7)) aNil)))) (sSeq (sSet 3 (dCall m__law_any_row (aCons (dSl (dVar 1) (oSome (dC (.int 8))) oNone) (aCons (dVar 2) aNil)))) (sSeq (sFor (iRan1 (d2 opIx (dLst (aCons (dC (.int 0)) (aCons (dC (.int 1)) (aCons (dC (.int 1)) (aCons (dC (.int 2)) aNil))))) (d2 opMod (d2 opIx (dVar 1) (dC (.int 0))) (dC (.int 4))))) (gN 4) fb_law_1) (sSeq (sIf (tVal (dCall m__law_good (aCons (dVar 3) aNil))) (sRet (d2 opEq' (dCall m__law_why_form (aCons (dVar 3) aNil)) (dTup (aCons (dC (.bl true)) (aCons (dLst aNil) aNil))))) sNil) (sRet (d2 opEq' (dCall m__law_why_form (aCons (dVar 3) aNil)) (dTup (aCons (dC (.bl false)) (aCons (d2 opAdd (dLst (aCons (dC (.bl true)) (aCons (dC (.bl true)) aNil))) (d2 opMul' (dLst (aCons (dC (.bl false)) aNil)) (dC (.int 8)))) aNil))))))))))
def m_law : Den := dDef 6 b_law
end
end MR

set_option Elab.async false
set_option linter.all false
set_option maxRecDepth 100000
namespace MR
open PySem

section
variable {σ : Sl} {S : Sto} {i j : Int} {x y : Str} {a b w : D}
@[simp] theorem dVar_val {n : Nat} (h : σ[n]? = some (.val w)) : dVar n σ S = .ok w σ S := by unfold dVar; rw [h]
@[simp] theorem dVar_own {n : Nat} (h : σ[n]? = some (.own w)) : dVar n σ S = .ok (.loc n) σ S := by unfold dVar; rw [h]
@[simp] theorem dC_ok : dC w σ S = .ok w σ S := rfl
@[simp] theorem deref_non : deref σ S .non = some .non := rfl
@[simp] theorem deref_bl {b : Bool} : deref σ S (.bl b) = some (.bl b) := rfl
@[simp] theorem deref_int : deref σ S (.int i) = some (.int i) := rfl
@[simp] theorem deref_str : deref σ S (.str x) = some (.str x) := rfl
@[simp] theorem deref_tup {l : List D} : deref σ S (.tup l) = some (.tup l) := rfl
@[simp] theorem deref_lst {l : List D} : deref σ S (.lst l) = some (.lst l) := rfl
@[simp] theorem deref_dK {l : List (Kk × D)} : deref σ S (.dK l) = some (.dK l) := rfl
@[simp] theorem deref_dT {l : List (List Kk × D)} : deref σ S (.dT l) = some (.dT l) := rfl
@[simp] theorem deref_scr {l : List Int} : deref σ S (.scr l) = some (.scr l) := rfl
@[simp] theorem deref_loc {n : Nat} (h : σ[n]? = some (.own w)) : deref σ S (.loc n) = some w := by unfold deref; simp only; rw [h]
@[simp] theorem frz_non : frz .non σ S = .ok .non σ S := rfl
@[simp] theorem frz_bl {b : Bool} : frz (.bl b) σ S = .ok (.bl b) σ S := rfl
@[simp] theorem frz_int : frz (.int i) σ S = .ok (.int i) σ S := rfl
@[simp] theorem frz_str : frz (.str x) σ S = .ok (.str x) σ S := rfl
@[simp] theorem frz_tup {l : List D} : frz (.tup l) σ S = .ok (.tup l) σ S := rfl
@[simp] theorem frz_lst {l : List D} : frz (.lst l) σ S = .ok (.lst l) σ S := rfl
@[simp] theorem frz_dK {l : List (Kk × D)} : frz (.dK l) σ S = .ok (.dK l) σ S := rfl
@[simp] theorem frz_dT {l : List (List Kk × D)} : frz (.dT l) σ S = .ok (.dT l) σ S := rfl
@[simp] theorem frz_scr {l : List Int} : frz (.scr l) σ S = .ok (.scr l) σ S := rfl
@[simp] theorem frz_obj {r : Nat} : frz (.obj r) σ S = .ok (.obj r) σ S := rfl
@[simp] theorem frz_loc {n : Nat} (h : σ[n]? = some (.own w)) : frz (.loc n) σ S = .ok w (σ.set n (.val w)) S := by unfold frz; simp only; rw [h]
@[simp] theorem ofOpt_some {α : Type} {c : α} : ofOpt (some c) σ S = .ok c σ S := rfl
@[simp] theorem opAdd_int : opAdd (.int i) (.int j) = some (.int (i + j)) := rfl
@[simp] theorem opAdd_str (h : x.length + y.length ≤ most) : opAdd (.str x) (.str y) = some (.str (x ++ y)) := if_pos h
@[simp] theorem opAdd_lst {l m : List D} (h : l.length + m.length ≤ most) : opAdd (.lst l) (.lst m) = some (.lst (l ++ m)) := if_pos h
@[simp] theorem opAdd_tup {l m : List D} (h : l.length ≠ 0 ∧ m.length ≠ 0 ∧ l.length + m.length ≤ most) : opAdd (.tup l) (.tup m) = some (.tup (l ++ m)) := if_pos h
@[simp] theorem opSub_int : opSub (.int i) (.int j) = some (.int (i - j)) := rfl
@[simp] theorem opMul_int (h : mulOk i j) : opMul' (.int i) (.int j) = some (.int (i * j)) := if_pos h
@[simp] theorem opMod_int (h : 0 < j) : opMod (.int i) (.int j) = some (.int (i % j)) := if_pos h
@[simp] theorem opDiv_int (h : divOk j) : opDiv (.int i) (.int j) = some (.int (i.fdiv j)) := if_pos h
@[simp] theorem opLt_int : opLt (.int i) (.int j) = some (.bl (decide (i < j))) := rfl
@[simp] theorem opLe_int : opLe (.int i) (.int j) = some (.bl (decide (i ≤ j))) := rfl
@[simp] theorem opGt_int : opGt (.int i) (.int j) = some (.bl (decide (j < i))) := rfl
@[simp] theorem opGe_int : opGe (.int i) (.int j) = some (.bl (decide (j ≤ i))) := rfl
@[simp] theorem opEq_int : opEq' (.int i) (.int j) = some (.bl (decide (i = j))) := rfl
@[simp] theorem opEq_str : opEq' (.str x) (.str y) = some (.bl (decide (x = y))) := rfl
@[simp] theorem opEq_bl {b c : Bool} : opEq' (.bl b) (.bl c) = some (.bl (decide (b = c))) := rfl
@[simp] theorem opEq_non_str : opEq' .non (.str y) = some (.bl false) := rfl
@[simp] theorem opEq_str_non : opEq' (.str y) .non = some (.bl false) := rfl
@[simp] theorem opEq_non : opEq' .non .non = some (.bl true) := rfl
@[simp] theorem opNe_int : opNe' (.int i) (.int j) = some (.bl (!decide (i = j))) := rfl
@[simp] theorem opNe_str : opNe' (.str x) (.str y) = some (.bl (!decide (x = y))) := rfl
@[simp] theorem opAbs_int : opAbs (.int i) = some (.int (i.natAbs : Int)) := by
  have e : (if i < 0 then -i else i) = (i.natAbs : Int) := by split <;> omega
  show some (D.int (if i < 0 then -i else i)) = _
  rw [e]
@[simp] theorem opLen_lst {l : List D} : opLen (.lst l) = some (.int l.length) := rfl
@[simp] theorem opLen_tup {l : List D} : opLen (.tup l) = some (.int l.length) := rfl
@[simp] theorem opLen_str (h : x.length ≤ most) : opLen (.str x) = some (.int x.length) := if_pos h
@[simp] theorem opMin_int : opMin (.int i) (.int j) = some (.int (if j < i then j else i)) := rfl
@[simp] theorem opMax_int : opMax (.int i) (.int j) = some (.int (if j > i then j else i)) := rfl
@[simp] theorem opIx_lst {l : List D} : opIx (.lst l) (.int i) = L2.atI l i := rfl
@[simp] theorem opIx_tup {l : List D} : opIx (.tup l) (.int i) = L2.atI l i := rfl
@[simp] theorem d1_def {op : D → Option D} {f : DE} : d1 op f σ S = (f σ S).bind fun x σ S => ofOpt ((deref σ S x).bind op) σ S := rfl
@[simp] theorem d2_def {op : D → D → Option D} {f g : DE} : d2 op f g σ S = (f σ S).bind fun x σ S => (g σ S).bind fun y σ S => ofOpt ((deref σ S x).bind fun a => (deref σ S y).bind fun b => op a b) σ S := rfl
@[simp] theorem dV_def {f : DE} : dV f σ S = (f σ S).bind frz := rfl
@[simp] theorem tVal_def {f : DE} : tVal f σ S = (f σ S).bind fun x σ S => match x with
  | .bl b => .ok b σ S
  | _ => .fail := rfl
@[simp] theorem tAnd_def {f g : DT} : tAnd f g σ S = (f σ S).bind fun b σ S => if b = true then g σ S else .ok false σ S := rfl
@[simp] theorem tOr_def {f g : DT} : tOr f g σ S = (f σ S).bind fun b σ S => if b = true then .ok true σ S else g σ S := rfl
@[simp] theorem tNot_def {f : DT} : tNot f σ S = (f σ S).bind fun b σ S => .ok (!b) σ S := rfl
@[simp] theorem vAnd_def {f g : DE} : vAnd f g σ S = (tVal f σ S).bind fun b σ S => (if b = true then g else dC (.bl false)) σ S := rfl
@[simp] theorem vOr_def {f g : DE} : vOr f g σ S = (tVal f σ S).bind fun b σ S => (if b = true then dC (.bl true) else g) σ S := rfl
@[simp] theorem vNot_def {f : DE} : vNot f σ S = (tVal f σ S).bind fun b σ S => (dC (.bl (!b))) σ S := rfl
@[simp] theorem aNil_def : aNil σ S = .ok [] σ S := rfl
@[simp] theorem aCons_def {f : DE} {r : DA} : aCons f r σ S = (dV f σ S).bind fun x σ S => (r σ S).bind fun xs σ S => .ok (x :: xs) σ S := rfl
@[simp] theorem dTup_def {r : DA} : dTup r σ S = (r σ S).bind fun xs σ S => if xs.length ≤ most then .ok (.tup xs) σ S else .fail := rfl
@[simp] theorem dLst_def {r : DA} : dLst r σ S = (r σ S).bind fun xs σ S => if xs.length ≤ most then .ok (.lst xs) σ S else .fail := rfl
@[simp] theorem dCall_def {d : Den} {r : DA} : dCall d r σ S = (r σ S).bind fun xs σ S => match d xs S with
  | .ok w S' => .ok w σ S'
  | .exc e S' => .exc e σ S'
  | .fail => .fail := rfl
@[simp] theorem sNil_def : sNil σ S = .ok .next σ S := rfl
@[simp] theorem sSeq_def {f g : DS} : sSeq f g σ S = (f σ S).bind fun x σ S => match x with
  | .next => g σ S
  | x => .ok x σ S := rfl
@[simp] theorem sSet_def {n : Nat} {f : DE} : sSet n f σ S = (dV f σ S).bind fun w σ S => .ok .next (σ.set n (.val w)) S := rfl
@[simp] theorem sSetO_def {n : Nat} {f : DE} : sSetO n f σ S = (f σ S).bind fun w σ S => .ok .next (σ.set n (if scalar w then .val w else .own w)) S := rfl
@[simp] theorem sRet_def {f : DE} : sRet f σ S = (dV f σ S).bind fun w σ S => .ok (.ret w) σ S := rfl
@[simp] theorem sRetF_def {f : DE} : sRetF f σ S = (f σ S).bind fun w σ S => .ok (.ret w) σ S := rfl
@[simp] theorem sIf_def {c : DT} {f g : DS} : sIf c f g σ S = (c σ S).bind fun b σ S => if b = true then f σ S else g σ S := rfl
@[simp] theorem sExpr_def {f : DE} : sExpr f σ S = (f σ S).bind fun _ σ S => .ok .next σ S := rfl
@[simp] theorem sPar_def {n m : Nat} {r : DA} : sPar n m r σ S = (r σ S).bind fun xs σ S => match xs with
  | [v, w] => .ok .next ((σ.set n (.val v)).set m (.val w)) S
  | _ => .fail := rfl
@[simp] theorem dIsN_def {f : DE} : dIsN f σ S = (f σ S).bind fun x σ S => .ok (.bl (isN x)) σ S := rfl
@[simp] theorem dNotN_def {f : DE} : dNotN f σ S = (f σ S).bind fun x σ S => .ok (.bl (!isN x)) σ S := rfl
@[simp] theorem dNeg_def {f : DE} : dNeg f σ S = (f σ S).bind fun x σ S => match x with
  | .int i => .ok (.int (-i)) σ S
  | _ => .fail := rfl
@[simp] theorem oNone_def : oNone σ S = .ok none σ S := rfl
@[simp] theorem oSome_def {f : DE} : oSome f σ S = (f σ S).bind fun x σ S => match x with
  | .int i => .ok (some i) σ S
  | _ => .fail := rfl
@[simp] theorem dSl_def {f : DE} {lo hi : DO} : dSl f lo hi σ S = (f σ S).bind fun x σ S => (lo σ S).bind fun l σ S => (hi σ S).bind fun u σ S => ofOpt ((deref σ S x).bind fun a => opSl a l u) σ S := rfl
@[simp] theorem opSl_lst {l : List D} {lo hi : Option Int} : opSl (.lst l) lo hi = some (.lst (cutL l lo hi)) := rfl
@[simp] theorem opSl_scr {l : List Int} {lo hi : Option Int} : opSl (.scr l) lo hi = some (.lst ((cutL l lo hi).map D.int)) := rfl
@[simp] theorem opSl_str {lo hi : Option Int} (h : x.length ≤ most) : opSl (.str x) lo hi = some (.str (L2.cutS x lo hi)) := if_pos h
@[simp] theorem iLst_def {f : DE} : iLst f σ S = (dV f σ S).bind fun x σ S => match x with
  | .lst ws => .ok ws σ S
  | _ => .fail := rfl
@[simp] theorem iTup_def {f : DE} : iTup f σ S = (dV f σ S).bind fun x σ S => match x with
  | .tup ws => .ok ws σ S
  | _ => .fail := rfl
@[simp] theorem iStr_def {f : DE} : iStr f σ S = (dV f σ S).bind fun x σ S => match x with
  | .str z => .ok (signs z) σ S
  | _ => .fail := rfl
@[simp] theorem iRan1_def {f : DE} : iRan1 f σ S = (f σ S).bind fun x σ S => match x with
  | .int j => if small j then .ok (ran 0 j) σ S else .fail
  | _ => .fail := rfl
@[simp] theorem iZip_def {f g : DE} : iZip f g σ S = (dV f σ S).bind fun x σ S => (dV g σ S).bind fun y σ S => match x, y with
  | .lst xs, .lst ys => .ok (pairs xs ys) σ S
  | .tup xs, .tup ys => .ok (pairs xs ys) σ S
  | _, _ => .fail := rfl
@[simp] theorem iEnum_def {f : DE} : iEnum f σ S = (dV f σ S).bind fun x σ S => match x with
  | .lst xs => .ok (enum 0 xs) σ S
  | _ => .fail := rfl
@[simp] theorem sFor_def {it : DI} {g : DG} {f : DS} : sFor it g f σ S = (it σ S).bind fun ds σ S => forL g f ds σ S := rfl
@[simp] theorem gN_def {n : Nat} : gN n w σ = some (σ.set n (.val w)) := rfl
@[simp] theorem tTrue_def : tTrue σ S = .ok true σ S := rfl
@[simp] theorem dMeth_def {is : D → Bool} {k : D → D → List D → Sl → Sto → Res D} {fo : DE} {fa : DA} : dMeth is k fo fa σ S = (fo σ S).bind fun x σ S => if ((deref σ S x).map is) = some true then (fa σ S).bind fun ws σ S => (match deref σ S x with
  | some c => k x c ws σ S
  | none => .fail) else .fail := rfl
@[simp] theorem kApp_lst {l : List D} (h : l.length < most) : kApp a (.lst l) [w] σ S = ofMut .non (chg σ S a (.lst (l ++ [w]))) := if_pos h
@[simp] theorem isLst_lst {l : List D} : isLst (.lst l) = true := rfl
@[simp] theorem chg_loc {n : Nat} {c : D} (h : σ[n]? = some (.own c)) : chg σ S (.loc n) w = some (σ.set n (.own w), S) := by unfold chg; simp only; rw [h]
@[simp] theorem ofMut_some {α : Type} {c : α} : ofMut c (some (σ, S)) = .ok c σ S := rfl
@[simp] theorem scalar_non : scalar .non = true := rfl
@[simp] theorem scalar_int : scalar (.int i) = true := rfl
@[simp] theorem scalar_bl {b : Bool} : scalar (.bl b) = true := rfl
@[simp] theorem scalar_str : scalar (.str x) = true := rfl
@[simp] theorem scalar_tup {l : List D} : scalar (.tup l) = true := rfl
@[simp] theorem scalar_lst {l : List D} : scalar (.lst l) = false := rfl
@[simp] theorem sRetO_own {n : Nat} (h : σ[n]? = some (.own w)) : sRetO n σ S = .ok (.ret w) σ S := by unfold sRetO; rw [h]
@[simp] theorem sRetS_def {f : DE} : sRetS f σ S = (f σ S).bind fun w σ S => if scalar w then .ok (.ret w) σ S else .fail := rfl
@[simp] theorem isN_non : isN .non = true := rfl
@[simp] theorem isN_int : isN (.int i) = false := rfl
@[simp] theorem isN_bl {b : Bool} : isN (.bl b) = false := rfl
@[simp] theorem isN_str : isN (.str x) = false := rfl
@[simp] theorem isN_tup {l : List D} : isN (.tup l) = false := rfl
@[simp] theorem isN_lst {l : List D} : isN (.lst l) = false := rfl
end
/-- the body's run gives the def's answer -/
theorem dDef_ret {n : Nat} {f : DS} {ws : List D} {S S' : Sto} {w : D} {σ' : Sl} (h : f (ws.map Slot.val ++ List.replicate (n - ws.length) .emp) S = .ok (.ret w) σ' S') : dDef n f ws S = .ok w S' := by
  unfold dDef
  rw [h]
theorem dDef_next {n : Nat} {f : DS} {ws : List D} {S S' : Sto} {σ' : Sl} (h : f (ws.map Slot.val ++ List.replicate (n - ws.length) .emp) S = .ok .next σ' S') : dDef n f ws S = .ok .non S' := by
  unfold dDef
  rw [h]
theorem sSeq_next {f g : DS} {σ σ1 : Sl} {S S1 : Sto} (h : f σ S = .ok .next σ1 S1) : sSeq f g σ S = g σ1 S1 := by
  rw [sSeq_def, h]
  rfl
@[simp] theorem forL_nil {g : DG} {f : DS} {σ : Sl} {S : Sto} : forL g f [] σ S = .ok .next σ S := rfl
theorem forL_cons {g : DG} {f : DS} {σ σ1 σ2 : Sl} {S S2 : Sto} {d : D} {ds : List D} (h : g d σ = some σ1) (h2 : f σ1 S = .ok .next σ2 S2) : forL g f (d :: ds) σ S = forL g f ds σ2 S2 := by
  rw [forL]
  dsimp only
  rw [h]
  dsimp only
  rw [h2]
  rfl
theorem forL_inv {g : DG} {f : DS} (P : Nat → Sl → Sto → Prop) : ∀ (items : List D) (k : Nat) (σ : Sl) (S : Sto), P k σ S →
    (∀ (i : Nat) (d : D) (σ : Sl) (S : Sto), items[i]? = some d → P (k + i) σ S → ∃ σ1, g d σ = some σ1 ∧ ∃ σ2 S2, f σ1 S = .ok .next σ2 S2 ∧ P (k + i + 1) σ2 S2) →
    ∃ σ' S', forL g f items σ S = .ok .next σ' S' ∧ P (k + items.length) σ' S'
  | [], k, σ, S, h, _ => ⟨σ, S, rfl, h⟩
  | d :: ds, k, σ, S, h, st => by
    obtain ⟨σ1, e1, σ2, S2, e2, h2⟩ := st 0 d σ S rfl h
    obtain ⟨σ3, S3, e3, h3⟩ := forL_inv P ds (k + 1) σ2 S2 h2 fun i d' σ S hi hp => by
      have := st (i + 1) d' σ S hi (by rw [show k + (i + 1) = k + 1 + i by omega]; exact hp)
      rw [show k + (i + 1) + 1 = k + 1 + i + 1 by omega] at this
      exact this
    refine ⟨σ3, S3, ?_, by rw [List.length_cons, show k + (ds.length + 1) = k + 1 + ds.length by omega]; exact h3⟩
    unfold forL
    rw [e1]
    dsimp only
    rw [e2]
    exact e3
theorem rest_wipe (σ : Sl) (vs : List Nat) : restD σ (wipeD σ vs) vs = σ := by
  apply List.ext_getElem?
  intro j
  rw [restD_get]
  by_cases h : j ∈ vs
  · rw [if_pos h, wipeD_get, if_pos h]
    cases e : σ[j]? with
    | none => rfl
    | some s => rfl
  · rw [if_neg h, wipeD_get, if_neg h]
theorem lcL_gen {g : DG} {c : DT} {e : DE} {vs : List Nat} {σw : Sl} {S : Sto} (a : D → Sl) (p : D → Bool) (h : D → D) : ∀ (items acc : List D), acc.length + items.length ≤ most →
    (∀ d ∈ items, g d σw = some (a d) ∧ wipeD (a d) vs = σw ∧ c (a d) S = .ok (p d) (a d) S ∧ (p d = true → dV e (a d) S = .ok (h d) (a d) S)) →
    lcL g c e vs items acc σw S = .ok (acc ++ (items.filter p).map h) σw S
  | [], acc, _, _ => by simp [lcL]
  | d :: ds, acc, hl, st => by
    obtain ⟨h1, h2, h3, h4⟩ := st d (List.mem_cons_self ..)
    rw [List.length_cons] at hl
    have ih := fun acc' (q : acc'.length + ds.length ≤ most) => lcL_gen (g := g) (c := c) (e := e) (vs := vs) (σw := σw) (S := S) a p h ds acc' q fun d' hd => st d' (List.mem_cons_of_mem _ hd)
    rw [lcL, h1]
    dsimp only
    rw [h3]
    dsimp only [Res.bind]
    cases hp : p d with
    | true =>
      rw [if_pos rfl, h4 hp]
      dsimp only [Res.bind]
      rw [if_pos (by omega), h2, ih _ (by rw [List.length_append, List.length_singleton]; omega), List.filter_cons, if_pos hp]
      simp
    | false =>
      rw [if_neg Bool.false_ne_true, h2, ih _ (by omega), List.filter_cons, if_neg (by rw [hp]; exact Bool.false_ne_true)]
theorem dLc_gen {it : DI} {g : DG} {c : DT} {e : DE} {vs : List Nat} {σ σ' : Sl} {S : Sto} {items : List D} (a : D → Sl) (p : D → Bool) (h : D → D) (hi : it σ S = .ok items σ' S) (hno : noOwn σ' vs = true) (hl : items.length ≤ most)
    (st : ∀ d ∈ items, g d (wipeD σ' vs) = some (a d) ∧ wipeD (a d) vs = wipeD σ' vs ∧ c (a d) S = .ok (p d) (a d) S ∧ (p d = true → dV e (a d) S = .ok (h d) (a d) S)) :
    dLc it g c e vs σ S = .ok (.lst ((items.filter p).map h)) σ' S := by
  unfold dLc
  rw [hi]
  dsimp only [Res.bind]
  rw [if_pos hno, lcL_gen a p h items [] (by simpa using hl) st]
  dsimp only [noX, Res.bind]
  rw [rest_wipe, List.nil_append]
theorem filter_true {α : Type} (l : List α) : l.filter (fun _ => true) = l := by simp
/-- without a test -/
theorem dLc_map {it : DI} {g : DG} {e : DE} {vs : List Nat} {σ σ' : Sl} {S : Sto} {items : List D} (a : D → Sl) (h : D → D) (hi : it σ S = .ok items σ' S) (hno : noOwn σ' vs = true) (hl : items.length ≤ most)
    (st : ∀ d ∈ items, g d (wipeD σ' vs) = some (a d) ∧ wipeD (a d) vs = wipeD σ' vs ∧ dV e (a d) S = .ok (h d) (a d) S) : dLc it g tTrue e vs σ S = .ok (.lst (items.map h)) σ' S := by
  have := dLc_gen (c := tTrue) a (fun _ => true) h hi hno hl fun d hd => ⟨(st d hd).1, (st d hd).2.1, rfl, fun _ => (st d hd).2.2⟩
  rw [filter_true] at this
  exact this
/-- bools of a list of tests -/
theorem bools_map {α : Type} (f : α → Bool) : ∀ l : List α, bools (l.map fun x => D.bl (f x)) = some (l.map f)
  | [] => rfl
  | x :: l => by
    show (bools (l.map fun x => D.bl (f x))).map _ = _
    rw [bools_map f l]
    rfl
theorem opAll_map {α : Type} (f : α → Bool) (l : List α) : opAll (.lst (l.map fun x => D.bl (f x))) = some (.bl (l.all f)) := by
  show (bools _).map _ = _
  rw [bools_map]
  simp
@[simp] theorem dChain_def {op op' : D → D → Option D} {f g h : DE} {σ : Sl} {S : Sto} : dChain op op' f g h σ S = (f σ S).bind fun x σ S => (g σ S).bind fun y σ S => match (deref σ S x).bind fun a => (deref σ S y).bind fun b => op a b with
  | some (.bl true) => (h σ S).bind fun z σ S => ofOpt ((deref σ S y).bind fun a => (deref σ S z).bind fun b => op' a b) σ S
  | some (.bl false) => .ok (.bl false) σ S
  | _ => .fail := rfl
@[simp] theorem dS1_def {op : D → D → Option D} {f g : DE} {σ : Sl} {S : Sto} : dS1 op f g σ S = (f σ S).bind fun x σ S => match x with
  | .str a => (g σ S).bind fun y σ S => ofOpt ((deref σ S y).bind fun b => op (.str a) b) σ S
  | _ => .fail := rfl
def hasC (z : Str) (c : Nat) : Bool := decide (c ∈ z.cps.toList)
theorem opIn_sign {c : Nat} {z : Str} : opIn (.str ⟨#[c]⟩) (.str z) = some (.bl (hasC z c)) := rfl
theorem strsD_map (l : List Str) : strsD (l.map D.str) = some l := by
  induction l with
  | nil => rfl
  | cons x l ih =>
    show (strsD (l.map D.str)).map _ = _
    rw [ih]
    rfl
end MR

set_option Elab.async false
set_option linter.all false
set_option maxRecDepth 100000
set_option exponentiation.threshold 30000
namespace MR
open PySem

section
variable {σ : Sl} {S : Sto} {i j : Int} {x y : Str} {a b w : D} {r : Nat} {c : String} {cs : List String} {fs : List (String × D)} {l : List (Kk × D)} {k : Kk}
@[simp] theorem deref_obj (h : S[r]? = some (.con false w)) : deref σ S (.obj r) = some w := by unfold deref; simp only; rw [h]; cases w <;> rfl
@[simp] theorem chg_obj (h : S[r]? = some (.con false a)) : chg σ S (.obj r) w = some (σ, S.set r (.con false w)) := by unfold chg; simp only; rw [h]
@[simp] theorem objAt_obj (h : S[r]? = some (.ins c fs)) (hc : c ∈ cs) : objAt cs S (.obj r) = some (r, c, fs) := by
  unfold objAt
  simp only [h]
  rw [if_pos hc]
@[simp] theorem fget_cons {f g : String} : fget ((g, w) :: fs) f = if g = f then some w else fget fs f := by
  unfold fget
  rw [List.find?_cons]
  by_cases h : g = f
  · simp [h]
  · have e : (g == f) = false := beq_eq_false_iff_ne.mpr h
    simp only [e, h, if_false]
@[simp] theorem fget_nil {f : String} : fget [] f = none := rfl
@[simp] theorem fput_nil {f : String} : fput f w [] = [(f, w)] := rfl
@[simp] theorem fput_cons {f g : String} : fput f w ((g, a) :: fs) = if g = f then (g, w) :: fs else (g, a) :: fput f w fs := rfl
@[simp] theorem keyD_int : keyD (.int i) = some (.inl i) := rfl
@[simp] theorem keyD_str : keyD (.str x) = some (.inr x) := rfl
@[simp] theorem opLen_dK : opLen (.dK l) = some (.int l.length) := rfl
@[simp] theorem opGet_dK : opGet (.dK l) a = (keyD a).bind (valD l) := rfl
@[simp] theorem opGet_lst {l : List D} : opGet (.lst l) (.int i) = L2.atI l i := rfl
@[simp] theorem opGet_tup {l : List D} : opGet (.tup l) (.int i) = L2.atI l i := rfl
@[simp] theorem opInG_dK (h : keyD a = some k) : opInG a (.dK l) = some (.bl (valD l k).isSome) := by
  show ((keyD a).map _).map _ = _
  rw [h]
  rfl
@[simp] theorem opNotInG_dK (h : keyD a = some k) : opNotInG a (.dK l) = some (.bl (!(valD l k).isSome)) := by
  show ((keyD a).map _).map _ = _
  rw [h]
  rfl
@[simp] theorem opInG_lst {l : List D} : opInG a (.lst l) = opIn a (.lst l) := by unfold opInG opIn; cases a <;> rfl
@[simp] theorem opNotInG_lst {l : List D} : opNotInG a (.lst l) = opNotIn a (.lst l) := by unfold opNotInG opNotIn; cases a <;> rfl
@[simp] theorem dFld_def {f : String} {fo : DE} : dFld cs f fo σ S = (fo σ S).bind fun x σ S => ofOpt ((objAt cs S x).bind fun p => fget p.2.2 f) σ S := rfl
@[simp] theorem sFldD_def {f : String} {fo fv : DE} : sFldD cs f fo fv σ S = (dV fv σ S).bind fun w σ S => (fo σ S).bind fun x σ S => match objAt cs S x with
  | some (r, c, fs) => if fs.length < 1000 then .ok .next σ (S.set r (.ins c (fput f w fs))) else .fail
  | none => .fail := rfl
@[simp] theorem dAlloc_def {f : DE} : dAlloc f σ S = (f σ S).bind fun w σ S => if scalar w then .ok w σ S else .ok (.obj S.length) σ (S ++ [.con false w]) := rfl
@[simp] theorem scalar_dK : scalar (.dK l) = false := rfl
@[simp] theorem pNil_def : pNil σ S = .ok [] σ S := rfl
@[simp] theorem pCons_def {f g : DE} {r : DP} : pCons f g r σ S = (f σ S).bind fun x σ S => match keyD x with
  | some k => (dV g σ S).bind fun w σ S => (r σ S).bind fun ps σ S => .ok ((k, w) :: ps) σ S
  | none => .fail := rfl
@[simp] theorem dDisp_def {r : DP} : dDisp r σ S = (r σ S).bind fun ps σ S => .ok (.dK (mergeD [] ps)) σ S := rfl
@[simp] theorem sDPutD_def {fd fy fv : DE} : sDPutD fd fy fv σ S = (dV fv σ S).bind fun w σ S => (fd σ S).bind fun x σ S => (fy σ S).bind fun y σ S => match deref σ S x, keyD y with
  | some (.dK l), some k => if l.length < most then ofMutS (chg σ S x (.dK (putD l k w))) else .fail
  | _, _ => .fail := rfl
@[simp] theorem ofMutS_some : ofMutS (some (σ, S)) = .ok .next σ S := rfl
@[simp] theorem isDct_dK : isDct (.dK l) = true := rfl
@[simp] theorem kGet_1 (h : keyD b = some k) : kGet a (.dK l) [b] σ S = .ok ((valD l k).getD .non) σ S := by unfold kGet; simp only; rw [h]
@[simp] theorem kGet_2 (h : keyD b = some k) : kGet a (.dK l) [b, w] σ S = .ok ((valD l k).getD w) σ S := by unfold kGet; simp only; rw [h]
@[simp] theorem outR_ok : outR (.ok w S) σ = .ok w σ S := rfl
@[simp] theorem outR_exc {e : Exn} : outR (.exc e S) σ = .exc e σ S := rfl
@[simp] theorem dMet_def {m : String} {tbl : List (String × Den)} {fo : DE} {fa : DA} : dMet m tbl fo fa σ S = (fo σ S).bind fun x σ S => match objAt (tbl.map (·.1)) S x with
  | some (_, c, fs) => (match fget fs m with
    | some _ => .fail
    | none => (fa σ S).bind fun ws σ S => match tbl.find? (fun p => p.1 == c) with
      | some p => outR (p.2 (x :: ws) S) σ
      | none => .fail)
  | none => .fail := rfl
@[simp] theorem dMake_def {d : Den} {fa : DA} : dMake c d fa σ S = (fa σ S).bind fun ws σ S => match d (.obj S.length :: ws) (S ++ [.ins c []]) with
  | .ok .non S' => .ok (.obj S.length) σ S'
  | .ok _ _ => .fail
  | .exc e S' => .exc e σ S'
  | .fail => .fail := rfl
@[simp] theorem mergeD_nil : mergeD l [] = l := rfl
@[simp] theorem mergeD_cons {p : Kk × D} {ps : List (Kk × D)} : mergeD l (p :: ps) = mergeD (putD l p.1 p.2) ps := rfl
end
section
variable {κ : Type} [DecidableEq κ] {l : List (κ × D)} {k j : κ} {w : D}
@[simp] theorem valD_nil : valD ([] : List (κ × D)) k = none := rfl
theorem valD_cons {p : κ × D} : valD (p :: l) k = if p.1 = k then some p.2 else valD l k := by
  unfold valD
  rw [List.find?_cons]
  by_cases h : p.1 = k
  · simp [h]
  · simp [h]
end
end MR

set_option Elab.async false
set_option linter.all false
set_option maxRecDepth 100000
namespace MR
open PySem

def Good (l : List Int) : Prop := ∀ v ∈ l, 0 ≤ v ∧ v < 1000003
theorem Good.app {l : List Int} {v : Int} (h : Good l) (h1 : 0 ≤ v) (h2 : v < 1000003) : Good (l ++ [v]) := fun x hx => by
  rcases List.mem_append.mp hx with hx | hx
  · exact h x hx
  · rw [List.mem_singleton.mp hx]; exact ⟨h1, h2⟩
theorem mulOk_of {i j : Int} {a b : Nat} (ha : i.natAbs < 2 ^ a) (hb : j.natAbs < 2 ^ b) (h0 : 0 < a) (h1 : 0 < b) (h : a + b ≤ 1000000) : mulOk i j := L2.wide_mul ha hb h0 h1 h
theorem divOk_1009 : divOk 1009 := by decide
theorem divOk_1013 : divOk 1013 := by decide
theorem mulS {i j : Int} (hi : 0 ≤ i ∧ i < 2 ^ 200) (hj : 0 ≤ j ∧ j < 2 ^ 200) : mulOk i j := mulOk_of (a := 200) (b := 200) (by omega) (by omega) (by decide) (by decide) (by decide)

theorem feed_1 {S : Sto} {a0 a1 s3 s4 : Slot} {L : Nat} (hL : L ≤ 10000) {acc : List Int} {r : Int} {s6 : Slot} (hl : acc.length ≤ L) (hg : Good acc) :
    ∃ σ', forL (gN 6) fb__law_feed_1 (ran 0 60) [a0, a1, .own (.lst (acc.map D.int)), s3, s4, .val (.int r), s6] S = .ok .next σ' S ∧
      ∃ acc' r' s6', σ' = [a0, a1, .own (.lst (acc'.map D.int)), s3, s4, .val (.int r'), s6'] ∧ acc'.length ≤ L + 60 ∧ Good acc' := by
  obtain ⟨σ', S', e, ⟨rfl, acc', r', s6', h1, h2, h3⟩⟩ := forL_inv (g := gN 6) (f := fb__law_feed_1) (fun k σ S' => S' = S ∧ ∃ acc' r' s6', σ = [a0, a1, .own (.lst (acc'.map D.int)), s3, s4, .val (.int r'), s6'] ∧ acc'.length ≤ L + k ∧ Good acc') (ran 0 60) 0 _ S ⟨rfl, acc, r, s6, rfl, by omega, hg⟩ (by
    rintro i d σ S' hi ⟨rfl, acc, r, s6, rfl, hl, hg⟩
    have hi60 : i < 60 := by
      have := (List.getElem?_eq_some_iff.mp hi).1
      simp [ran] at this
      omega
    refine ⟨_, rfl, ?_⟩
    by_cases hr : 0 < r
    · have hlt : acc.length < most := by unfold most; omega
      refine ⟨[a0, a1, .own (.lst ((acc ++ [r % 1009]).map D.int)), s3, s4, .val (.int (r.fdiv 1009)), .val d], S', ?_, rfl, acc ++ [r % 1009], _, _, rfl, by rw [List.length_append, List.length_singleton]; omega, hg.app (by omega) (by omega)⟩
      simp [fb__law_feed_1, hr, hlt, divOk_1009]
    · exact ⟨[a0, a1, .own (.lst (acc.map D.int)), s3, s4, .val (.int r), .val d], S', by simp [fb__law_feed_1, hr], rfl, acc, r, _, rfl, by omega, hg⟩)
  refine ⟨σ', e, acc', r', s6', h1, ?_, h3⟩
  simpa [ran] using h2
theorem feed_2 {S : Sto} {a0 a1 : Slot} (items : List Int) (hn : items.length ≤ 63) {s4 s5 s6 : Slot} :
    ∃ σ', forL (gN 4) fb__law_feed_2 (items.map D.int) [a0, a1, .own (.lst []), .val (.int 29), s4, s5, s6] S = .ok .next σ' S ∧
      ∃ (acc : List Int) (salt : Int) (s4 s5 s6 : Slot), σ' = [a0, a1, .own (.lst (acc.map D.int)), .val (.int salt), s4, s5, s6] ∧ acc.length ≤ 4000 ∧ Good acc ∧ 0 ≤ salt ∧ salt < 2147483647 := by
  obtain ⟨σ', S', e, ⟨rfl, acc, salt, s4, s5, s6, h1, h2, h3, h4⟩⟩ := forL_inv (g := gN 4) (f := fb__law_feed_2) (fun k σ S' => S' = S ∧ ∃ (acc : List Int) (salt : Int) (s4 s5 s6 : Slot), σ = [a0, a1, .own (.lst (acc.map D.int)), .val (.int salt), s4, s5, s6] ∧ acc.length ≤ 61 * k ∧ Good acc ∧ 0 ≤ salt ∧ salt < 2147483647) (items.map D.int) 0 _ S ⟨rfl, [], 29, s4, s5, s6, rfl, by simp, fun v hv => by simp at hv, by omega, by omega⟩ (by
    rintro i d σ S' hi ⟨rfl, acc, salt, s4, s5, s6, rfl, hl, hg, hs⟩
    have hi63 : i < 63 := by
      have := (List.getElem?_eq_some_iff.mp hi).1
      rw [List.length_map] at this
      omega
    rw [List.getElem?_map] at hi
    obtain ⟨c, _, rfl⟩ := Option.map_eq_some_iff.mp hi
    refine ⟨_, rfl, ?_⟩
    have hlt : acc.length < most := by unfold most; omega
    have hm : mulOk salt 69621 := mulS (by omega) (by omega)
    by_cases hr : c - 1000000000000000000 < 0
    · obtain ⟨σ', e, acc', r', s6', h1, h2, h3⟩ := feed_1 (S := S') (a0 := a0) (a1 := a1) (s3 := .val (.int ((salt * 69621 + c % 2147483629 + 11) % 2147483647))) (s4 := .val (.int c)) (L := 61 * i + 1) (by omega) (acc := acc ++ [c % 1000003]) (r := c - 1000000000000000000) (s6 := s6) (by rw [List.length_append, List.length_singleton]; omega) (hg.app (by omega) (by omega))
      refine ⟨σ', S', ?_, rfl, acc', _, _, _, s6', h1, by omega, h3, by omega, by omega⟩
      rw [← e]
      simp [fb__law_feed_2, hm, hlt, hr, opPow, small]
    · obtain ⟨σ', e, acc', r', s6', h1, h2, h3⟩ := feed_1 (S := S') (a0 := a0) (a1 := a1) (s3 := .val (.int ((salt * 69621 + c % 2147483629 + 11) % 2147483647))) (s4 := .val (.int c)) (L := 61 * i + 1) (by omega) (acc := acc) (r := c - 1000000000000000000) (s6 := s6) (by omega) hg
      refine ⟨σ', S', ?_, rfl, acc', _, _, _, s6', h1, by omega, h3, by omega, by omega⟩
      rw [← e]
      simp [fb__law_feed_2, hm, hlt, hr, opPow, small])
  refine ⟨σ', e, acc, salt, s4, s5, s6, h1, ?_, h3, h4⟩
  rw [List.length_map] at h2
  omega
theorem feed_3 {S : Sto} {a0 a1 : Slot} (n : Nat) (hn : n ≤ 1000000) {acc : List Int} {salt : Int} {s4 s5 s6 : Slot} (hl : acc.length ≤ 4000) (hg : Good acc) (h0 : 0 ≤ salt) (h1 : salt < 2147483647) :
    ∃ σ', forL (gN 6) fb__law_feed_3 (ran 0 n) [a0, a1, .own (.lst (acc.map D.int)), .val (.int salt), s4, s5, s6] S = .ok .next σ' S ∧
      ∃ (acc' : List Int) (salt : Slot) (s6 : Slot), σ' = [a0, a1, .own (.lst (acc'.map D.int)), salt, s4, s5, s6] ∧ acc'.length = acc.length + n ∧ Good acc' := by
  obtain ⟨σ', S', e, ⟨rfl, acc', salt, s6, h1, h2, h3, h4⟩⟩ := forL_inv (g := gN 6) (f := fb__law_feed_3) (fun k σ S' => S' = S ∧ ∃ (acc' : List Int) (salt : Int) (s6 : Slot), σ = [a0, a1, .own (.lst (acc'.map D.int)), .val (.int salt), s4, s5, s6] ∧ acc'.length = acc.length + k ∧ Good acc' ∧ 0 ≤ salt ∧ salt < 2147483647) (ran 0 n) 0 _ S ⟨rfl, acc, salt, s6, rfl, by simp, hg, h0, h1⟩ (by
    rintro i d σ S' hi ⟨rfl, acc1, salt, s6, rfl, hl1, hg, hs0, hs1⟩
    have hin : i < n := by
      have := (List.getElem?_eq_some_iff.mp hi).1
      simp [ran] at this
      omega
    have hd : d = .int (i : Nat) := by
      unfold ran at hi
      rw [List.getElem?_map] at hi
      obtain ⟨k, hk, rfl⟩ := Option.map_eq_some_iff.mp hi
      rw [List.getElem?_range (by omega)] at hk
      cases hk
      simp
    subst hd
    refine ⟨_, rfl, ?_⟩
    have hlt : acc1.length < most := by unfold most; omega
    have sb : salt * salt < 2 ^ 62 := by
      have : salt * salt ≤ 2147483646 * 2147483646 := Int.mul_le_mul (by omega) (by omega) hs0 (by omega)
      omega
    have sb0 : 0 ≤ salt * salt := Int.mul_nonneg hs0 hs0
    have m1 : mulOk salt salt := mulS ⟨hs0, by omega⟩ ⟨hs0, by omega⟩
    have m2 : mulOk (salt * salt) salt := mulS ⟨sb0, by omega⟩ ⟨hs0, by omega⟩
    have m3 : mulOk 48271 salt := mulS ⟨by omega, by omega⟩ ⟨hs0, by omega⟩
    have m4 : mulOk 13 (i : Nat) := mulS ⟨by omega, by omega⟩ ⟨by omega, by omega⟩
    refine ⟨[a0, a1, .own (.lst ((acc1 ++ [((salt * salt * salt + 48271 * salt + 13 * (i : Nat) + 5) % 2147483629).fdiv 1013 % 1009]).map D.int)), .val (.int ((salt * salt * salt + 48271 * salt + 13 * (i : Nat) + 5) % 2147483629)), s4, s5, .val (.int (i : Nat))], S', ?_, rfl, _, _, _, rfl, by rw [List.length_append, List.length_singleton]; omega, hg.app (by omega) (by omega), by omega, by omega⟩
    simp [fb__law_feed_3, m1, m2, m3, m4, hlt, divOk_1013])
  exact ⟨σ', e, acc', _, s6, h1, by simpa [ran] using h2, h3⟩
theorem cutL_map {α β : Type} (f : α → β) (l : List α) (lo hi : Option Int) : cutL (l.map f) lo hi = (cutL l lo hi).map f := by
  unfold cutL
  rw [List.length_map, List.map_take, List.map_drop]
theorem cutL_to {α : Type} (l : List α) (n : Nat) : cutL l none (some (n : Int)) = l.take n := by
  unfold cutL
  have : HT.sIx l.length l.length (some (n : Int)) = min n l.length := HT.sIx_nat ..
  rw [this]
  show (l.drop 0).take (min n l.length - 0) = l.take n
  rw [List.drop_zero, Nat.sub_zero]
  by_cases h : n ≤ l.length
  · rw [Nat.min_eq_left h]
  · rw [Nat.min_eq_right (by omega), List.take_of_length_le (Nat.le_refl _), List.take_of_length_le (by omega)]
theorem cutL_from {α : Type} (l : List α) (n : Nat) : cutL l (some (n : Int)) none = l.drop n := by
  unfold cutL
  have : HT.sIx l.length 0 (some (n : Int)) = min n l.length := HT.sIx_nat ..
  rw [this]
  show (l.drop (min n l.length)).take (l.length - min n l.length) = l.drop n
  by_cases h : n ≤ l.length
  · rw [Nat.min_eq_left h, List.take_of_length_le (by rw [List.length_drop]; omega)]
  · rw [Nat.min_eq_right (by omega), List.drop_of_length_le (Nat.le_refl _), List.drop_of_length_le (show l.length ≤ n by omega)]
    simp
/-- the feed: so many ints from 0 to 1,000,002 -/
theorem feed_ok (ns : List Int) (many : Nat) (hm : many ≤ 1000000) (S : Sto) : ∃ fs : List Int, fs.length = many ∧ Good fs ∧ m__law_feed [.scr ns, .int many] S = .ok (.lst (fs.map D.int)) S := by
  have hc : (cutL ns none (some 63)).length ≤ 63 := by
    have := cutL_to ns 63
    rw [show ((63 : Nat) : Int) = 63 from rfl] at this
    rw [this, List.length_take]
    omega
  obtain ⟨σ1, e1, acc, salt, s4, s5, s6, rfl, h1, h2, h3, h4⟩ := feed_2 (S := S) (a0 := .val (.scr ns)) (a1 := .val (.int many)) (cutL ns none (some 63)) hc (s4 := .emp) (s5 := .emp) (s6 := .emp)
  have hsm : small ((many : Int) - (acc.length : Int)) := ⟨by omega, by omega⟩
  have e0 : ran 0 ((many : Int) - (acc.length : Int)) = ran 0 ((many - acc.length : Nat) : Int) := by
    unfold ran
    congr 2
    omega
  obtain ⟨σ2, e2, acc', salt', s6', rfl, h5, h6⟩ := feed_3 (S := S) (a0 := .val (.scr ns)) (a1 := .val (.int many)) (many - acc.length) (by omega) (acc := acc) (salt := salt) (s4 := s4) (s5 := s5) (s6 := s6) h1 h2 h3 h4
  refine ⟨acc'.take many, by rw [List.length_take]; omega, fun v hv => h6 v (List.mem_of_mem_take hv), ?_⟩
  refine dDef_ret (σ' := [.val (.scr ns), .val (.int many), .own (.lst (acc'.map D.int)), salt', s4, s5, s6']) ?_
  have ec : cutL (acc'.map D.int) none (some (many : Int)) = (acc'.take many).map D.int := by rw [cutL_map, cutL_to]
  have hmost : (0 : Nat) ≤ most := Nat.zero_le _
  simp [b__law_feed, e1, hsm, e0, e2, ec, hmost]

/-- plain data of less than n levels -/
def plain : Nat → D → Bool
  | 0, _ => false
  | _ + 1, .non => true
  | _ + 1, .bl _ => true
  | _ + 1, .int _ => true
  | _ + 1, .str _ => true
  | n + 1, .tup l => l.all (plain n) && decide (l.length ≤ most)
  | n + 1, .lst l => l.all (plain n) && decide (l.length ≤ most)
  | _ + 1, _ => false
end MR

set_option Elab.async false
set_option linter.all false
set_option maxRecDepth 100000
set_option exponentiation.threshold 30000
namespace MR
open PySem

/-- the measure with the bottom's sign -/
def sg (t b : Int) : Int := if b < 0 then -(Int.gcd t b : Int) else (Int.gcd t b : Int)
def frT (t b : Int) : Int := t.fdiv (sg t b)
def frB (t b : Int) : Int := b.fdiv (sg t b)
def fr (t b : Int) : D := .tup [.int (frT t b), .int (frB t b)]
theorem sg_ne {t b : Int} (h : b ≠ 0) : sg t b ≠ 0 := by
  have := Int.gcd_pos_of_ne_zero_right t h
  unfold sg
  split <;> omega
theorem sg_dvd_t (t b : Int) : sg t b ∣ t := by
  unfold sg
  split
  · exact Int.neg_dvd.mpr (Int.gcd_dvd_left t b)
  · exact Int.gcd_dvd_left t b
theorem sg_dvd_b (t b : Int) : sg t b ∣ b := by
  unfold sg
  split
  · exact Int.neg_dvd.mpr (Int.gcd_dvd_right t b)
  · exact Int.gcd_dvd_right t b
theorem fr_t (t b : Int) : sg t b * frT t b = t := Int.mul_fdiv_cancel' (sg_dvd_t t b)
theorem fr_b (t b : Int) : sg t b * frB t b = b := Int.mul_fdiv_cancel' (sg_dvd_b t b)
theorem sg_pos {t b : Int} (h : 0 < b) : 0 < sg t b := by
  have := Int.gcd_pos_of_ne_zero_right t (show b ≠ 0 by omega)
  unfold sg
  split <;> omega
theorem sg_neg {t b : Int} (h : b < 0) : sg t b < 0 := by
  have := Int.gcd_pos_of_ne_zero_right t (show b ≠ 0 by omega)
  unfold sg
  split <;> omega
theorem frB_pos {t b : Int} (h : b ≠ 0) : 0 < frB t b := by
  have e := fr_b t b
  rcases Int.lt_trichotomy b 0 with hb | hb | hb
  · have hs := sg_neg (t := t) hb
    rcases Int.lt_trichotomy (frB t b) 0 with q | q | q
    · have := Int.mul_pos_of_neg_of_neg hs q
      omega
    · rw [q, Int.mul_zero] at e
      omega
    · exact q
  · exact absurd hb h
  · have hs := sg_pos (t := t) hb
    rcases Int.lt_trichotomy (frB t b) 0 with q | q | q
    · have := Int.mul_neg_of_pos_of_neg hs q
      omega
    · rw [q, Int.mul_zero] at e
      omega
    · exact q
theorem frB_le {t b : Int} (h : b ≠ 0) : (frB t b).natAbs ≤ b.natAbs := by
  have e := congrArg Int.natAbs (fr_b t b)
  rw [Int.natAbs_mul] at e
  have : 0 < (sg t b).natAbs := by have := sg_ne (t := t) h; omega
  rw [← e]
  exact Nat.le_mul_of_pos_left _ this
theorem frT_le {t b : Int} (h : b ≠ 0) : (frT t b).natAbs ≤ t.natAbs := by
  have e := congrArg Int.natAbs (fr_t t b)
  rw [Int.natAbs_mul] at e
  have : 0 < (sg t b).natAbs := by have := sg_ne (t := t) h; omega
  rw [← e]
  exact Nat.le_mul_of_pos_left _ this
end MR

set_option Elab.async false
set_option linter.all false
set_option maxRecDepth 100000
namespace MR
open PySem

def abc : Str := "abcdefghijklmnopqrstuvwxyz"
def letter (c : Nat) : Bool := hasC abc c
def letters (t : Str) : Bool := t.cps.toList.all letter
def isNm (t : Str) : Bool := (decide (1 ≤ t.length) && decide (t.length ≤ 8)) && letters t
/-- a test of a text's signs, by a comprehension -/
theorem signs_lc {i : Nat} {e : DE} {σ σ' : Sl} {S : Sto} {it : DI} {t : Str} (p : Nat → Bool) (a : D → Sl) (hi : it σ S = .ok (signs t) σ' S) (hno : noOwn σ' [i] = true) (hl : t.length ≤ most)
    (st : ∀ c : Nat, (gN i) (.str ⟨#[c]⟩) (wipeD σ' [i]) = some (a (.str ⟨#[c]⟩)) ∧ wipeD (a (.str ⟨#[c]⟩)) [i] = wipeD σ' [i] ∧ dV e (a (.str ⟨#[c]⟩)) S = .ok (.bl (p c)) (a (.str ⟨#[c]⟩)) S) :
    dLc it (gN i) tTrue e [i] σ S = .ok (.lst (t.cps.toList.map fun c => .bl (p c))) σ' S := by
  have := dLc_map (it := it) (g := gN i) (e := e) (vs := [i]) a (fun d => match d with
    | .str x => .bl (p (x.cps.getD 0 0))
    | d => d) hi hno (by unfold signs; rw [List.length_map]; exact hl) fun d hd => by
      unfold signs at hd
      obtain ⟨c, _, rfl⟩ := List.mem_map.mp hd
      exact st c
  rw [this]
  unfold signs
  rw [List.map_map]
  rfl
theorem is_name_eq {t : Str} (h : t.length ≤ most) (S : Sto) : m_is_name [.str t] S = .ok (.bl (isNm t)) S := by
  have e : dLc (iStr (dVar 0)) (gN 1) tTrue le_is_name_1 [1] [.val (.str t), .emp] S = .ok (.lst (t.cps.toList.map fun c => .bl (letter c))) [.val (.str t), .emp] S :=
    signs_lc letter (fun d => [.val (.str t), .val d]) (by simp) rfl h fun c => ⟨rfl, rfl, by simp [le_is_name_1, opIn_sign]; rfl⟩
  refine dDef_ret (σ' := [.val (.str t), .emp]) ?_
  unfold isNm letters
  by_cases h1 : 1 ≤ t.length
  · by_cases h8 : t.length ≤ 8
    · have h1' : (1 : Int) ≤ (t.length : Int) := by omega
      have h8' : (t.length : Int) ≤ 8 := by omega
      simp [b_is_name, h, h1', h8', e, opAll_map, h1, h8]
    · have h1' : (1 : Int) ≤ (t.length : Int) := by omega
      have h8' : ¬ (t.length : Int) ≤ 8 := by omega
      simp [b_is_name, h, h1', h8', h1, h8]
  · have h1' : ¬ (1 : Int) ≤ (t.length : Int) := by omega
    simp [b_is_name, h, h1', h1]
end MR

set_option Elab.async false
set_option linter.all false
set_option maxRecDepth 100000
set_option exponentiation.threshold 30000
namespace MR
open PySem

theorem atI_map {f : Int → D} {l : List Int} {n : Nat} (h : n < l.length) : L2.atI (l.map f) (n : Int) = some (f (l[n]'h)) := by
  refine L2.atI_nat ?_
  rw [List.getElem?_map, List.getElem?_eq_getElem h]
  rfl
theorem Good.drop {l : List Int} (h : Good l) (n : Nat) : Good (l.drop n) := fun v hv => h v (List.mem_of_mem_drop hv)
abbrev Fr := Int × Int
def encF (p : Fr) : D := .tup [.int p.1, .int p.2]
/-- a fraction whose parts have less than n bits -/
structure Sz (n : Nat) (p : Fr) : Prop where
  t : p.1.natAbs < 2 ^ n
  b : p.2.natAbs < 2 ^ n
  pos : 0 < p.2
theorem Sz.mono {n m : Nat} {p : Fr} (h : Sz n p) (hm : n ≤ m) : Sz m p := ⟨Nat.lt_of_lt_of_le h.t (Nat.pow_le_pow_right (by decide) hm), Nat.lt_of_lt_of_le h.b (Nat.pow_le_pow_right (by decide) hm), h.pos⟩
def addF (p q : Fr) : Fr := (frT (p.1 * q.2 + q.1 * p.2) (p.2 * q.2), frB (p.1 * q.2 + q.1 * p.2) (p.2 * q.2))
def subF (p q : Fr) : Fr := (frT (p.1 * q.2 - q.1 * p.2) (p.2 * q.2), frB (p.1 * q.2 - q.1 * p.2) (p.2 * q.2))
theorem mul_bits {i j : Int} {a b : Nat} (ha : i.natAbs < 2 ^ a) (hb : j.natAbs < 2 ^ b) : (i * j).natAbs < 2 ^ (a + b) := by
  rw [Int.natAbs_mul, Nat.pow_add]
  exact Nat.mul_lt_mul'' ha hb
theorem Sz.bb {n m : Nat} {p q : Fr} (h : Sz n p) (k : Sz m q) : p.2 * q.2 ≠ 0 := by
  have := Int.mul_pos h.pos k.pos
  omega
theorem Sz.sub {n m : Nat} {p q : Fr} (h : Sz n p) (k : Sz m q) : Sz (n + m + 1) (subF p q) := by
  have h0 := h.bb k
  have b1 := mul_bits h.t k.b
  have b2 := mul_bits k.t h.b
  have b3 := mul_bits h.b k.b
  have p2 : 2 ^ (n + m + 1) = 2 ^ (n + m) + 2 ^ (n + m) := by rw [Nat.pow_succ]; omega
  rw [Nat.add_comm m n] at b2
  refine ⟨Nat.lt_of_le_of_lt (frT_le h0) ?_, Nat.lt_of_le_of_lt (frB_le h0) ?_, frB_pos h0⟩
  · have := Int.natAbs_sub_le (p.1 * q.2) (q.1 * p.2)
    omega
  · omega
theorem Sz.mulOk {i j : Int} {n m : Nat} (h : i.natAbs < 2 ^ n) (k : j.natAbs < 2 ^ m) (hn : n + m ≤ 9000) : MR.mulOk i j := mulOk_of (a := n + 1) (b := m + 1) (Nat.lt_of_lt_of_le h (Nat.pow_le_pow_right (by decide) (by omega))) (Nat.lt_of_lt_of_le k (Nat.pow_le_pow_right (by decide) (by omega))) (by omega) (by omega) (by omega)
@[simp] theorem deref_F (p : Fr) (σ : Sl) (S : Sto) : deref σ S (encF p) = some (encF p) := rfl
@[simp] theorem frz_F (p : Fr) (σ : Sl) (S : Sto) : frz (encF p) σ S = .ok (encF p) σ S := rfl
end MR

set_option Elab.async false
set_option linter.all false
set_option maxRecDepth 100000
namespace MR
open PySem

/-- a text of these signs -/
def txt (l : List Nat) : Str := ⟨l.toArray⟩
@[simp] theorem txt_len (l : List Nat) : (txt l).length = l.length := by unfold txt Str.length; simp
@[simp] theorem txt_cps (l : List Nat) : (txt l).cps.toList = l := by unfold txt; simp
theorem txt_inj {l m : List Nat} (h : txt l = txt m) : l = m := by
  have := congrArg (fun z : Str => z.cps.toList) h
  simpa using this
theorem txt_app (l m : List Nat) : txt l ++ txt m = txt (l ++ m) := by
  show Str.append _ _ = _
  unfold Str.append txt
  simp
theorem join_signs (l : List Nat) : Txt.join "" (l.map fun c => txt [c]) = txt l := by
  show Builtin.Str.glued _ _ = _
  rw [StrLaws.glued_eq_join]
  induction l with
  | nil => rfl
  | cons c l ih =>
    cases l with
    | nil => rfl
    | cons c2 l =>
      show txt [c] ++ ("" : Str) ++ Str.join "" ((c2 :: l).map fun c => txt [c]) = _
      rw [ih]
      have : ("" : Str) = txt [] := by decide +kernel
      rw [this, txt_app, txt_app]
      rfl
theorem cutS_to (l : List Nat) (n : Nat) : L2.cutS (txt l) none (some (n : Int)) = txt (l.take n) := by
  have := cutL_to l n
  unfold cutL at this
  unfold L2.cutS
  rw [txt_len, txt_cps, this]
  rfl
theorem cutS_from (l : List Nat) (n : Nat) : L2.cutS (txt l) (some (n : Int)) none = txt (l.drop n) := by
  have := cutL_from l n
  unfold cutL at this
  unfold L2.cutS
  rw [txt_len, txt_cps, this]
  rfl
theorem rep_sign (c n : Nat) : repS (txt [c]) n = txt (List.replicate n c) := by
  unfold repS
  rw [txt_cps]
  congr 2
  induction n with
  | zero => rfl
  | succ n ih => rw [List.replicate_succ, List.flatten_cons, ih, List.replicate_succ]; rfl
theorem abc_at : ∀ k : Fin 26, abc.cps.toList[k.val]? = some (97 + k.val) := by decide +kernel
theorem abc_let : ∀ k : Fin 26, letter (97 + k.val) = true := by decide +kernel
theorem abc_len : abc.length = 26 := by decide +kernel
theorem abc_ix (v : Int) : opIx (.str abc) (.int (v % 26)) = some (.str (txt [97 + (v % 26).toNat])) := by
  have h := abc_at ⟨(v % 26).toNat, by omega⟩
  have h2 := L2.atI_nat h
  rw [Int.toNat_of_nonneg (by omega)] at h2
  have e : opIx (.str abc) (.int (v % 26)) = if abc.length ≤ most then (L2.atI abc.cps.toList (v % 26)).map (fun c => D.str ⟨#[c]⟩) else none := rfl
  rw [e, if_pos (by rw [abc_len]; decide), h2]
  rfl
theorem letter_of (v : Int) : letter (97 + (v % 26).toNat) = true := abc_let ⟨(v % 26).toNat, by omega⟩
/-- a drawn name -/
def nmOf (base : List Nat) (at_ : Nat) (rep : Bool) (x0 x3 : Int) (k : Nat) : List Nat :=
  if rep then List.replicate (1 + (x0 + 3 * k) % 8).toNat (97 + ((x3 + 7 * k) % 26).toNat) else base.take at_ ++ (97 + ((x3 + 7 * k) % 26).toNat) :: base.drop at_
theorem nmOf_ok {base : List Nat} {at_ : Nat} {rep : Bool} {x0 x3 : Int} {k : Nat} (hb : base.length ≤ 7) (hl : ∀ c ∈ base, letter c = true) : isNm (txt (nmOf base at_ rep x0 x3 k)) = true := by
  have key : ∀ l : List Nat, 1 ≤ l.length → l.length ≤ 8 → (∀ c ∈ l, letter c = true) → isNm (txt l) = true := fun l h1 h2 h3 => by
    unfold isNm letters
    rw [txt_len, txt_cps, Bool.and_eq_true, Bool.and_eq_true, decide_eq_true_iff, decide_eq_true_iff, List.all_eq_true]
    exact ⟨⟨h1, h2⟩, h3⟩
  unfold nmOf
  cases rep with
  | true =>
    rw [if_pos rfl]
    refine key _ (by rw [List.length_replicate]; omega) (by rw [List.length_replicate]; omega) fun c hc => ?_
    rw [List.eq_of_mem_replicate hc]
    exact letter_of _
  | false =>
    rw [if_neg Bool.false_ne_true]
    refine key _ (by simp; omega) (by simp; omega) fun c hc => ?_
    rcases List.mem_append.mp hc with hc | hc
    · exact hl c (List.mem_of_mem_take hc)
    · rcases List.mem_cons.mp hc with rfl | hc
      · exact letter_of _
      · exact hl c (List.mem_of_mem_drop hc)
theorem nmOf_inj {base : List Nat} {at_ : Nat} {rep : Bool} {x0 x3 : Int} {k j : Nat} (ha : at_ ≤ base.length) (hk : k < 26) (hj : j < 26) (h : nmOf base at_ rep x0 x3 k = nmOf base at_ rep x0 x3 j) : k = j := by
  have : (97 + ((x3 + 7 * k) % 26).toNat) = (97 + ((x3 + 7 * j) % 26).toNat) := by
    unfold nmOf at h
    cases rep with
    | true =>
      rw [if_pos rfl, if_pos rfl] at h
      have e1 : (1 + (x0 + 3 * (k : Int)) % 8).toNat = ((x0 + 3 * (k : Int)) % 8).toNat + 1 := by omega
      have e2 : (1 + (x0 + 3 * (j : Int)) % 8).toNat = ((x0 + 3 * (j : Int)) % 8).toNat + 1 := by omega
      rw [e1, e2, List.replicate_succ, List.replicate_succ] at h
      injection h
    | false =>
      rw [if_neg Bool.false_ne_true, if_neg Bool.false_ne_true] at h
      have := (List.append_cancel_left_eq _ _ _).mp h
      injection this
  omega
/-- the base of drawn names -/
def baseOf (x0 x1 : Int) : List Nat := (List.range (x1 % 8).toNat).map fun k => 97 + ((x0 + ((k : Nat) + 1) * x1.fdiv 8) % 26).toNat
theorem baseOf_len (x0 x1 : Int) : (baseOf x0 x1).length = (x1 % 8).toNat := by unfold baseOf; rw [List.length_map, List.length_range]
theorem baseOf_let (x0 x1 : Int) : ∀ c ∈ baseOf x0 x1, letter c = true := fun c hc => by
  obtain ⟨k, _, rfl⟩ := List.mem_map.mp hc
  exact letter_of _
structure Nms (n : Nat) (l : List Str) : Prop where
  len : l.length = n
  nd : l.Nodup
  nm : ∀ x ∈ l, isNm x = true
theorem nm_loop {ds : List D} {x0 x2 x3 : Int} {base : List Nat} {at_ : Nat} (h0 : L2.atI ds 0 = some (.int x0)) (h2 : L2.atI ds 2 = some (.int x2)) (h3 : L2.atI ds 3 = some (.int x3)) (g0 : 0 ≤ x0 ∧ x0 < 1000003) (g3 : 0 ≤ x3 ∧ x3 < 1000003)
    (hb : base.length ≤ 7) (ha : at_ ≤ base.length) (n : Nat) (hn : n ≤ 26) {s1 s6 s7 s8 : Slot} (S : Sto) : ∃ u6 u7 u8, forL (gN 6) fb__law_names_2 (ran 0 n) [.val (.lst ds), s1, .val (.str abc), .val (.str (txt base)), .val (.int at_), .own (.lst []), s6, s7, s8] S =
      .ok .next [.val (.lst ds), s1, .val (.str abc), .val (.str (txt base)), .val (.int at_), .own (.lst ((List.range n).map fun k => .str (txt (nmOf base at_ (decide (x2.fdiv 8 % 2 = 1)) x0 x3 k)))), u6, u7, u8] S := by
  obtain ⟨σ', S', e, rfl, t6, t7, t8, rfl⟩ := forL_inv (g := gN 6) (f := fb__law_names_2) (fun i σ S' => S' = S ∧ ∃ s6 s7 s8, σ = [.val (.lst ds), s1, .val (.str abc), .val (.str (txt base)), .val (.int at_), .own (.lst ((List.range i).map fun k => .str (txt (nmOf base at_ (decide (x2.fdiv 8 % 2 = 1)) x0 x3 k)))), s6, s7, s8]) (ran 0 n) 0 [.val (.lst ds), s1, .val (.str abc), .val (.str (txt base)), .val (.int at_), .own (.lst []), s6, s7, s8] S ⟨rfl, s6, s7, s8, rfl⟩ (by
    rintro i d σ S' hi ⟨rfl, s6, s7, s8, rfl⟩
    have hin : i < n := by
      have := (List.getElem?_eq_some_iff.mp hi).1
      simp [ran] at this
      omega
    have hd : d = .int (i : Nat) := by
      unfold ran at hi
      rw [List.getElem?_map] at hi
      obtain ⟨k, hk, rfl⟩ := Option.map_eq_some_iff.mp hi
      rw [List.getElem?_range (by omega)] at hk
      cases hk
      simp
    subst hd
    refine ⟨_, rfl, ?_⟩
    rw [Nat.zero_add]
    generalize hacc : ((List.range i).map fun k => D.str (txt (nmOf base at_ (decide (x2.fdiv 8 % 2 = 1)) x0 x3 k))) = acc
    have hal : acc.length < most := by rw [← hacc, List.length_map, List.length_range]; unfold most; omega
    have e1 : (List.range (i + 1)).map (fun k => D.str (txt (nmOf base at_ (decide (x2.fdiv 8 % 2 = 1)) x0 x3 k))) = acc ++ [.str (txt (nmOf base at_ (decide (x2.fdiv 8 % 2 = 1)) x0 x3 i))] := by
      rw [List.range_succ, List.map_append, hacc]; rfl
    rw [e1]
    have m7 : mulOk 7 (i : Int) := mulS (by omega) (by omega)
    have m3 : mulOk 3 (i : Int) := mulS (by omega) (by omega)
    have d8 : divOk 8 := by decide
    have es := abc_ix (x3 + 7 * (i : Int))
    have c1 := cutS_to base at_
    have c2 := cutS_from base at_
    have hbm : base.length ≤ most := by unfold most; omega
    have eA : opAdd (.str (txt (base.take at_))) (.str (txt [97 + ((x3 + 7 * (i : Int)) % 26).toNat])) = some (.str (txt (base.take at_ ++ [97 + ((x3 + 7 * (i : Int)) % 26).toNat]))) := by
      rw [opAdd_str (by rw [txt_len, txt_len, List.length_take, List.length_singleton]; unfold most; omega), txt_app]
    have eB : opAdd (.str (txt (base.take at_ ++ [97 + ((x3 + 7 * (i : Int)) % 26).toNat]))) (.str (txt (base.drop at_))) = some (.str (txt (base.take at_ ++ (97 + ((x3 + 7 * (i : Int)) % 26).toNat) :: base.drop at_))) := by
      rw [opAdd_str (by rw [txt_len, txt_len, List.length_append, List.length_take, List.length_singleton, List.length_drop]; unfold most; omega), txt_app, List.append_assoc]
      rfl
    have eM : opMul' (.str (txt [97 + ((x3 + 7 * (i : Int)) % 26).toNat])) (.int (1 + (x0 + 3 * (i : Int)) % 8)) = some (.str (txt (List.replicate (1 + (x0 + 3 * (i : Int)) % 8).toNat (97 + ((x3 + 7 * (i : Int)) % 26).toNat)))) := by
      have : opMul' (.str (txt [97 + ((x3 + 7 * (i : Int)) % 26).toNat])) (.int (1 + (x0 + 3 * (i : Int)) % 8)) = some (.str (repS (txt [97 + ((x3 + 7 * (i : Int)) % 26).toNat]) (1 + (x0 + 3 * (i : Int)) % 8).toNat)) := if_pos ⟨by omega, by omega, by rw [txt_len, List.length_singleton]; unfold most; omega⟩
      rw [this, rep_sign]
    by_cases hr : x2.fdiv 8 % 2 = 1
    · refine ⟨[.val (.lst ds), s1, .val (.str abc), .val (.str (txt base)), .val (.int at_), .own (.lst (acc ++ [.str (txt (nmOf base at_ (decide (x2.fdiv 8 % 2 = 1)) x0 x3 i))])), .val (.int i), .val (.str (txt [97 + ((x3 + 7 * (i : Int)) % 26).toNat])), .val (.str (txt (nmOf base at_ (decide (x2.fdiv 8 % 2 = 1)) x0 x3 i)))], S', ?_, rfl, _, _, _, rfl⟩
      have en : nmOf base at_ (decide (x2.fdiv 8 % 2 = 1)) x0 x3 i = List.replicate (1 + (x0 + 3 * (i : Int)) % 8).toNat (97 + ((x3 + 7 * (i : Int)) % 26).toNat) := by unfold nmOf; rw [if_pos (decide_eq_true hr)]
      rw [en]
      generalize List.replicate (1 + (x0 + 3 * (i : Int)) % 8).toNat (97 + ((x3 + 7 * (i : Int)) % 26).toNat) = z at *
      generalize txt [97 + ((x3 + 7 * (i : Int)) % 26).toNat] = sg at *
      generalize base.take at_ = z1 at *
      simp [fb__law_names_2, h0, h2, h3, m7, m3, d8, es, hbm, c1, c2, eA, eB, eM, hr, hal]
    · refine ⟨[.val (.lst ds), s1, .val (.str abc), .val (.str (txt base)), .val (.int at_), .own (.lst (acc ++ [.str (txt (nmOf base at_ (decide (x2.fdiv 8 % 2 = 1)) x0 x3 i))])), .val (.int i), .val (.str (txt [97 + ((x3 + 7 * (i : Int)) % 26).toNat])), .val (.str (txt (nmOf base at_ (decide (x2.fdiv 8 % 2 = 1)) x0 x3 i)))], S', ?_, rfl, _, _, _, rfl⟩
      have en : nmOf base at_ (decide (x2.fdiv 8 % 2 = 1)) x0 x3 i = base.take at_ ++ (97 + ((x3 + 7 * (i : Int)) % 26).toNat) :: base.drop at_ := by unfold nmOf; rw [if_neg]; simp [hr]
      rw [en]
      generalize base.take at_ ++ (97 + ((x3 + 7 * (i : Int)) % 26).toNat) :: base.drop at_ = z at *
      generalize txt [97 + ((x3 + 7 * (i : Int)) % 26).toNat] = sg at *
      generalize base.take at_ ++ [97 + ((x3 + 7 * (i : Int)) % 26).toNat] = z2 at *
      simp [fb__law_names_2, h0, h2, h3, m7, m3, d8, es, hbm, c1, c2, eA, eB, hr, hal])
  have : 0 + (ran 0 (n : Int)).length = n := by simp [ran]
  rw [this] at e
  exact ⟨t6, t7, t8, e⟩
theorem ran_mem {n : Int} {d : D} (h : d ∈ ran 0 n) : ∃ k : Nat, (k : Int) < n ∧ d = .int k := by
  unfold ran at h
  obtain ⟨k, hk, rfl⟩ := List.mem_map.mp h
  rw [List.mem_range] at hk
  exact ⟨k, by omega, by simp⟩
theorem ran_map {α : Type} (f : D → α) (n : Int) : (ran 0 n).map f = (List.range n.toNat).map fun k => f (.int (k : Nat)) := by
  unfold ran
  rw [List.map_map]
  simp
theorem names_end {ds out : List D} {m a : Int} {z tb : Str} {S : Sto} {u6 u7 u8 : Slot} (hsn : small m) (el : forL (gN 6) fb__law_names_2 (ran 0 m) [.val (.lst ds), .val (.int m), .val (.str z), .val (.str tb), .val (.int a), .own (.lst []), .emp, .emp, .emp] S = .ok .next [.val (.lst ds), .val (.int m), .val (.str z), .val (.str tb), .val (.int a), .own (.lst out), u6, u7, u8] S) :
  sSeq (sSetO 5 (dLst aNil)) (sSeq (sFor (iRan1 (dVar 1)) (gN 6) fb__law_names_2) (sRetO 5)) [.val (.lst ds), .val (.int m), .val (.str z), .val (.str tb), .val (.int a), .emp, .emp, .emp, .emp] S = .ok (.ret (.lst out)) [.val (.lst ds), .val (.int m), .val (.str z), .val (.str tb), .val (.int a), .own (.lst out), u6, u7, u8] S := by
  have m0 : 0 ≤ most := Nat.zero_le _
  simp [m0, hsn, el]
theorem names_ok {l : List Int} (hl : 4 ≤ l.length) (hg : Good l) (n : Nat) (hn : n ≤ 26) (S : Sto) : ∃ ys : List Str, Nms n ys ∧ m__law_names [.lst (l.map D.int), .int n] S = .ok (.lst (ys.map D.str)) S := by
  have a0 := atI_map (f := D.int) (l := l) (n := 0) (by omega)
  have a1 := atI_map (f := D.int) (l := l) (n := 1) (by omega)
  have a2 := atI_map (f := D.int) (l := l) (n := 2) (by omega)
  have a3 := atI_map (f := D.int) (l := l) (n := 3) (by omega)
  have g0 := hg _ (List.getElem_mem (h := show 0 < l.length by omega))
  have g1 := hg _ (List.getElem_mem (h := show 1 < l.length by omega))
  have g3 := hg _ (List.getElem_mem (h := show 3 < l.length by omega))
  generalize l[0]'(by omega) = x0 at a0 g0
  generalize l[1]'(by omega) = x1 at a1 g1
  generalize l[2]'(by omega) = x2 at a2
  generalize l[3]'(by omega) = x3 at a3 g3
  have a0 : L2.atI (l.map D.int) 0 = some (.int x0) := a0
  have a1 : L2.atI (l.map D.int) 1 = some (.int x1) := a1
  have a2 : L2.atI (l.map D.int) 2 = some (.int x2) := a2
  have a3 : L2.atI (l.map D.int) 3 = some (.int x3) := a3
  generalize l.map D.int = ds at *
  have hb : (baseOf x0 x1).length ≤ 7 := by rw [baseOf_len]; omega
  have hsm : small (x1 % 8) := ⟨by omega, by omega⟩
  have habc : ("abcdefghijklmnopqrstuvwxyz" : Str) = abc := rfl
  have d8 : divOk 8 := by decide
  have f8 : 0 ≤ x1.fdiv 8 ∧ x1.fdiv 8 < 1000003 := by rw [Int.fdiv_eq_ediv_of_nonneg _ (by omega)]; omega
  have ec : dLc (iRan1 (d2 opMod (d2 opIx (dVar 0) (dC (.int 1))) (dC (.int 8)))) (gN 6) tTrue le__law_names_1 [6] [.val (.lst ds), .val (.int n), .val (.str abc), .emp, .emp, .emp, .emp, .emp, .emp] S = .ok (.lst ((baseOf x0 x1).map fun c => .str (txt [c]))) [.val (.lst ds), .val (.int n), .val (.str abc), .emp, .emp, .emp, .emp, .emp, .emp] S := by
    have := dLc_map (it := iRan1 (d2 opMod (d2 opIx (dVar 0) (dC (.int 1))) (dC (.int 8)))) (g := gN 6) (e := le__law_names_1) (vs := [6]) (σ := [.val (.lst ds), .val (.int n), .val (.str abc), .emp, .emp, .emp, .emp, .emp, .emp]) (σ' := [.val (.lst ds), .val (.int n), .val (.str abc), .emp, .emp, .emp, .emp, .emp, .emp]) (S := S) (items := ran 0 (x1 % 8))
      (fun d => [.val (.lst ds), .val (.int n), .val (.str abc), .emp, .emp, .emp, .val d, .emp, .emp]) (fun d => match d with
        | .int k => .str (txt [97 + ((x0 + (k + 1) * x1.fdiv 8) % 26).toNat])
        | d => d) (by simp [a1, hsm]) rfl (by unfold ran most; rw [List.length_map, List.length_range]; omega) fun d hd => by
          obtain ⟨k, hk, rfl⟩ := ran_mem hd
          have m1 : mulOk ((k : Int) + 1) (x1.fdiv 8) := mulS (by omega) (by omega)
          have es := abc_ix (x0 + ((k : Int) + 1) * x1.fdiv 8)
          exact ⟨rfl, rfl, by simp [le__law_names_1, a0, a1, d8, m1, es]⟩
    rw [this, ran_map]
    unfold baseOf
    rw [List.map_map]
    rfl
  have ej : opJoin (.str "") (.lst ((baseOf x0 x1).map fun c => .str (txt [c]))) = some (.str (txt (baseOf x0 x1))) := by
    have e1 : ((baseOf x0 x1).map fun c => D.str (txt [c])) = ((baseOf x0 x1).map fun c => txt [c]).map D.str := by rw [List.map_map]; rfl
    rw [e1]
    show (strsD _).bind _ = _
    rw [strsD_map]
    show (if _ then _ else _) = _
    have hs : ∀ z : List Nat, ((z.map fun c => txt [c]).map (·.length)).sum = z.length := by
      intro z
      induction z with
      | nil => rfl
      | cons c z ih => rw [List.map_cons, List.map_cons, List.sum_cons, ih, txt_len, List.length_cons]; simp; omega
    have he0 : ("" : Str).length = 0 := by decide +kernel
    rw [if_pos (by rw [hs, he0, List.length_map]; unfold most; omega), join_signs]
  have hbl := baseOf_let x0 x1
  generalize baseOf x0 x1 = base at *
  have hat : ∃ at_ : Nat, x2 % ((base.length : Int) + 1) = at_ ∧ at_ ≤ base.length := by
    have h1 := Int.emod_nonneg x2 (b := (base.length : Int) + 1) (by omega)
    have h2 := Int.emod_lt_of_pos x2 (b := (base.length : Int) + 1) (by omega)
    exact ⟨(x2 % ((base.length : Int) + 1)).toNat, by omega, by omega⟩
  obtain ⟨at_, eat, hat⟩ := hat
  obtain ⟨u6, u7, u8, el⟩ := nm_loop a0 a2 a3 g0 g3 hb hat n hn (s1 := .val (.int n)) (s6 := .emp) (s7 := .emp) (s8 := .emp) S
  refine ⟨(List.range n).map fun k => txt (nmOf base at_ (decide (x2.fdiv 8 % 2 = 1)) x0 x3 k), ⟨by rw [List.length_map, List.length_range], ?_, fun y hy => ?_⟩, ?_⟩
  · unfold List.Nodup
    rw [List.pairwise_map]
    refine List.Pairwise.imp_of_mem (fun {a b} ha hb' hne e => hne (nmOf_inj hat ?_ ?_ (txt_inj e))) (List.nodup_range (n := n))
    · rw [List.mem_range] at ha; omega
    · rw [List.mem_range] at hb'; omega
  · obtain ⟨k, _, rfl⟩ := List.mem_map.mp hy
    exact nmOf_ok hb hbl
  · rw [List.map_map]
    have hsn : small (n : Int) := ⟨by omega, by omega⟩
    have hbm : base.length ≤ most := by unfold most; omega
    have hp : (0 : Int) < (base.length : Int) + 1 := by omega
    have m0 : 0 ≤ most := Nat.zero_le _
    refine dDef_ret (σ' := [.val (.lst ds), .val (.int n), .val (.str abc), .val (.str (txt base)), .val (.int at_), .own (.lst ((List.range n).map fun k => .str (txt (nmOf base at_ (decide (x2.fdiv 8 % 2 = 1)) x0 x3 k)))), u6, u7, u8]) ?_
    have ho : ((List.range n).map (D.str ∘ fun k => txt (nmOf base at_ (decide (x2.fdiv 8 % 2 = 1)) x0 x3 k))) = ((List.range n).map fun k => D.str (txt (nmOf base at_ (decide (x2.fdiv 8 % 2 = 1)) x0 x3 k))) := rfl
    rw [ho]
    generalize ((List.range n).map fun k => D.str (txt (nmOf base at_ (decide (x2.fdiv 8 % 2 = 1)) x0 x3 k))) = out at el
    have hbm : (txt base).length ≤ most := by rw [txt_len]; exact hbm
    have hlen : opLen (.str (txt base)) = some (.int base.length) := by rw [opLen_str hbm, txt_len]
    have hmod : opMod (.int x2) (.int ((base.length : Int) + 1)) = some (.int at_) := by rw [opMod_int hp, eat]
    generalize txt base = tb at *
    show b__law_names [.val (.lst ds), .val (.int n), .emp, .emp, .emp, .emp, .emp, .emp, .emp] S = _
    unfold b__law_names
    rw [habc]
    rw [sSeq_next (σ1 := [.val (.lst ds), .val (.int n), .val (.str abc), .emp, .emp, .emp, .emp, .emp, .emp]) (S1 := S) (by simp)]
    rw [sSeq_next (σ1 := [.val (.lst ds), .val (.int n), .val (.str abc), .val (.str tb), .emp, .emp, .emp, .emp, .emp]) (S1 := S) (by simp [ec, ej])]
    rw [sSeq_next (σ1 := [.val (.lst ds), .val (.int n), .val (.str abc), .val (.str tb), .val (.int at_), .emp, .emp, .emp, .emp]) (S1 := S) (by simp [a2, hlen, hmod])]
    exact names_end hsn el
end MR

set_option Elab.async false
set_option linter.all false
set_option maxRecDepth 100000
namespace MR
open PySem

/-- data that == tells apart as the trees are apart: no bool in it, texts in order -/
def gr : Nat → D → Bool
  | _, .non => true
  | _, .int _ => true
  | _, .str x => PyData.strOk x
  | n + 1, .tup l => l.all (gr n)
  | n + 1, .lst l => l.all (gr n)
  | _, _ => false
theorem toDatas_cons (d : D) (ds : List D) : toData.toDatas (d :: ds) = (toData d).bind fun x => (toData.toDatas ds).map fun xs => x :: xs := rfl
theorem gr_data : ∀ (n : Nat) (d : D), gr n d = true → ∃ x, toData d = some x ∧ x.canLay0 = true ∧ x.depth ≤ n
  | n, .non, _ => ⟨_, rfl, rfl, Nat.zero_le _⟩
  | n, .int i, _ => ⟨_, rfl, rfl, Nat.zero_le _⟩
  | n, .str x, h => ⟨_, rfl, by cases n <;> exact h, Nat.zero_le _⟩
  | n + 1, .tup l, h => by
    have ih := gr_data n
    have : ∀ l : List D, l.all (gr n) = true → ∃ xs, toData.toDatas l = some xs ∧ PyData.canLayAll0 xs = true ∧ PyData.depthAll xs ≤ n := by
      intro l
      induction l with
      | nil => exact fun _ => ⟨[], rfl, rfl, Nat.zero_le _⟩
      | cons d ds hi =>
        intro h
        rw [List.all_cons, Bool.and_eq_true] at h
        obtain ⟨x, e1, e2, e3⟩ := ih d h.1
        obtain ⟨xs, f1, f2, f3⟩ := hi h.2
        refine ⟨x :: xs, by rw [toDatas_cons, e1, f1]; rfl, by rw [PyData.canLayAll0, e2, f2]; rfl, ?_⟩
        rw [PyData.depthAll]
        omega
    obtain ⟨xs, e1, e2, e3⟩ := this l h
    refine ⟨.tuple xs, ?_, e2, ?_⟩
    · show (toData.toDatas l).map _ = _
      rw [e1]; rfl
    · rw [PyData.depth]; omega
  | n + 1, .lst l, h => by
    have ih := gr_data n
    have : ∀ l : List D, l.all (gr n) = true → ∃ xs, toData.toDatas l = some xs ∧ PyData.canLayAll0 xs = true ∧ PyData.depthAll xs ≤ n := by
      intro l
      induction l with
      | nil => exact fun _ => ⟨[], rfl, rfl, Nat.zero_le _⟩
      | cons d ds hi =>
        intro h
        rw [List.all_cons, Bool.and_eq_true] at h
        obtain ⟨x, e1, e2, e3⟩ := ih d h.1
        obtain ⟨xs, f1, f2, f3⟩ := hi h.2
        refine ⟨x :: xs, by rw [toDatas_cons, e1, f1]; rfl, by rw [PyData.canLayAll0, e2, f2]; rfl, ?_⟩
        rw [PyData.depthAll]
        omega
    obtain ⟨xs, e1, e2, e3⟩ := this l h
    refine ⟨.list xs, ?_, e2, ?_⟩
    · show (toData.toDatas l).map _ = _
      rw [e1]; rfl
    · rw [PyData.depth]; omega
  | 0, .tup _, h => nomatch h
  | 0, .lst _, h => nomatch h
  | 0, .bl _, h => nomatch h
  | _ + 1, .bl _, h => nomatch h
  | 0, .dK _, h => nomatch h
  | _ + 1, .dK _, h => nomatch h
  | 0, .dT _, h => nomatch h
  | _ + 1, .dT _, h => nomatch h
  | 0, .obj _, h => nomatch h
  | _ + 1, .obj _, h => nomatch h
  | 0, .loc _, h => nomatch h
  | _ + 1, .loc _, h => nomatch h
  | 0, .scr _, h => nomatch h
  | _ + 1, .scr _, h => nomatch h
  | 0, .fK _, h => nomatch h
  | _ + 1, .fK _, h => nomatch h
  | 0, .fT _, h => nomatch h
  | _ + 1, .fT _, h => nomatch h
  | 0, .cst _, h => nomatch h
  | _ + 1, .cst _, h => nomatch h
def nb : PyData → Bool
  | .bool _ => false
  | _ => true
theorem gr_tup {n : Nat} {l : List D} (h : gr n (.tup l) = true) : ∃ m, n = m + 1 ∧ l.all (gr m) = true := by
  cases n with
  | zero => cases h
  | succ m => exact ⟨m, rfl, h⟩
theorem gr_lst {n : Nat} {l : List D} (h : gr n (.lst l) = true) : ∃ m, n = m + 1 ∧ l.all (gr m) = true := by
  cases n with
  | zero => cases h
  | succ m => exact ⟨m, rfl, h⟩
theorem toData_tup {l : List D} {x : PyData} (h : toData (.tup l) = some x) : ∃ xs, toData.toDatas l = some xs ∧ x = .tuple xs := by
  obtain ⟨xs, g1, g2⟩ := Option.map_eq_some_iff.mp (show (toData.toDatas _).map _ = some _ from h)
  exact ⟨xs, g1, g2.symm⟩
theorem toData_lst {l : List D} {x : PyData} (h : toData (.lst l) = some x) : ∃ xs, toData.toDatas l = some xs ∧ x = .list xs := by
  obtain ⟨xs, g1, g2⟩ := Option.map_eq_some_iff.mp (show (toData.toDatas _).map _ = some _ from h)
  exact ⟨xs, g1, g2.symm⟩
def EqvAt (n : Nat) : Prop := ∀ (a b : D) (m : Nat) (x y : PyData), gr n a = true → gr m b = true → toData a = some x → toData b = some y → (PyData.eqv x y = true ↔ a = b)
theorem eqvAll_iff {n : Nat} (ih : EqvAt n) : ∀ (l k : List D) (m : Nat) (xs ys : List PyData), l.all (gr n) = true → k.all (gr m) = true → toData.toDatas l = some xs → toData.toDatas k = some ys → (PyData.eqvAll xs ys = true ↔ l = k) := by
  intro l
  induction l with
  | nil =>
    intro k m xs ys _ _ e1 e2
    cases e1
    cases k with
    | nil => cases e2; simp [PyData.eqvAll]
    | cons d ds =>
      rw [toDatas_cons] at e2
      obtain ⟨y, f1, f2⟩ := Option.bind_eq_some_iff.mp e2
      obtain ⟨ys, f3, rfl⟩ := Option.map_eq_some_iff.mp f2
      simp [PyData.eqvAll]
  | cons c cs hi =>
    intro k m xs ys h1 h2 e1 e2
    rw [toDatas_cons] at e1
    obtain ⟨x, f1, f2⟩ := Option.bind_eq_some_iff.mp e1
    obtain ⟨xs, f3, rfl⟩ := Option.map_eq_some_iff.mp f2
    rw [List.all_cons, Bool.and_eq_true] at h1
    cases k with
    | nil => cases e2; simp [PyData.eqvAll]
    | cons d ds =>
      rw [toDatas_cons] at e2
      obtain ⟨y, g1, g2⟩ := Option.bind_eq_some_iff.mp e2
      obtain ⟨ys, g3, rfl⟩ := Option.map_eq_some_iff.mp g2
      rw [List.all_cons, Bool.and_eq_true] at h2
      rw [PyData.eqvAll, Bool.and_eq_true, ih c d m x y h1.1 h2.1 f1 g1, hi ds m xs ys h1.2 h2.2 f3 g3]
      simp
theorem gr_cases {n : Nat} {a : D} (h : gr n a = true) : a = .non ∨ (∃ i, a = .int i) ∨ (∃ x, a = .str x) ∨ (∃ l, a = .tup l) ∨ ∃ l, a = .lst l := by
  cases a with
  | non => exact .inl rfl
  | int i => exact .inr (.inl ⟨_, rfl⟩)
  | str x => exact .inr (.inr (.inl ⟨_, rfl⟩))
  | tup l => exact .inr (.inr (.inr (.inl ⟨_, rfl⟩)))
  | lst l => exact .inr (.inr (.inr (.inr ⟨_, rfl⟩)))
  | _ => cases n <;> cases h
theorem eqvAt : ∀ n, EqvAt n := by
  intro n
  induction n with
  | zero =>
    intro a b m x y h1 h2 e1 e2
    rcases gr_cases h1 with rfl | ⟨i, rfl⟩ | ⟨z, rfl⟩ | ⟨l, rfl⟩ | ⟨l, rfl⟩ <;> rcases gr_cases h2 with rfl | ⟨j, rfl⟩ | ⟨z', rfl⟩ | ⟨k, rfl⟩ | ⟨k, rfl⟩ <;> first
      | (cases h1; done)
      | (cases e1; cases e2; simp [PyData.eqv]; done)
      | (cases e1; obtain ⟨ys, _, rfl⟩ := toData_tup e2; simp [PyData.eqv]; done)
      | (cases e1; obtain ⟨ys, _, rfl⟩ := toData_lst e2; simp [PyData.eqv]; done)
  | succ n ih =>
    intro a b m x y h1 h2 e1 e2
    rcases gr_cases h1 with rfl | ⟨i, rfl⟩ | ⟨z, rfl⟩ | ⟨l, rfl⟩ | ⟨l, rfl⟩ <;> rcases gr_cases h2 with rfl | ⟨j, rfl⟩ | ⟨z', rfl⟩ | ⟨k, rfl⟩ | ⟨k, rfl⟩ <;> first
      | (cases e1; cases e2; simp [PyData.eqv]; done)
      | (cases e1; obtain ⟨ys, _, rfl⟩ := toData_tup e2; simp [PyData.eqv]; done)
      | (cases e1; obtain ⟨ys, _, rfl⟩ := toData_lst e2; simp [PyData.eqv]; done)
      | (cases e2; obtain ⟨ys, _, rfl⟩ := toData_tup e1; simp [PyData.eqv]; done)
      | (cases e2; obtain ⟨ys, _, rfl⟩ := toData_lst e1; simp [PyData.eqv]; done)
      | (obtain ⟨xs, f1, rfl⟩ := toData_tup e1; obtain ⟨ys, _, rfl⟩ := toData_lst e2; simp [PyData.eqv]; done)
      | (obtain ⟨xs, f1, rfl⟩ := toData_lst e1; obtain ⟨ys, _, rfl⟩ := toData_tup e2; simp [PyData.eqv]; done)
      | (obtain ⟨xs, f1, rfl⟩ := toData_tup e1
         obtain ⟨ys, f2, rfl⟩ := toData_tup e2
         obtain ⟨m', rfl, h3⟩ := gr_tup h2
         rw [PyData.eqv, eqvAll_iff ih l k m' xs ys h1 h3 f1 f2]
         simp; done)
      | (obtain ⟨xs, f1, rfl⟩ := toData_lst e1
         obtain ⟨ys, f2, rfl⟩ := toData_lst e2
         obtain ⟨m', rfl, h3⟩ := gr_lst h2
         rw [PyData.eqv, eqvAll_iff ih l k m' xs ys h1 h3 f1 f2]
         simp; done)
theorem deepEq_gr {n m : Nat} {a b : D} (ha : gr n a = true) (hb : gr m b = true) (hn : n ≤ 64) (hm : m ≤ 64) : ∃ z : Bool, deepEq a b = some z ∧ (z = true ↔ a = b) := by
  obtain ⟨x, e1, e2, e3⟩ := gr_data n a ha
  obtain ⟨y, f1, f2, f3⟩ := gr_data m b hb
  refine ⟨PyData.eqv x y, ?_, eqvAt n a b m x y ha hb e1 f1⟩
  unfold deepEq
  rw [e1, f1]
  show (if _ then _ else _) = _
  rw [if_pos]
  unfold SeqAt.shaped
  rw [e2, f2]
  simp
  omega
theorem eqD_gr {n m : Nat} {a b : D} (ha : gr n a = true) (hb : gr m b = true) (hn : n ≤ 64) (hm : m ≤ 64) : ∃ z : Bool, eqD a b = some z ∧ (z = true ↔ a = b) := by
  have h := deepEq_gr ha hb hn hm
  rcases gr_cases ha with rfl | ⟨i, rfl⟩ | ⟨z, rfl⟩ | ⟨l, rfl⟩ | ⟨l, rfl⟩ <;> rcases gr_cases hb with rfl | ⟨j, rfl⟩ | ⟨z', rfl⟩ | ⟨k, rfl⟩ | ⟨k, rfl⟩ <;> first
    | exact h
    | (refine ⟨_, rfl, ?_⟩; simp; done)
theorem opEq_self {n : Nat} {a : D} (ha : gr n a = true) (hn : n ≤ 64) : opEq' a a = some (.bl true) := by
  obtain ⟨z, e, h⟩ := eqD_gr ha ha hn hn
  unfold opEq'
  rw [e, h.mpr rfl]
  rfl
theorem opEq_ne {n m : Nat} {a b : D} (ha : gr n a = true) (hb : gr m b = true) (hn : n ≤ 64) (hm : m ≤ 64) (hab : a ≠ b) : opEq' a b = some (.bl false) := by
  obtain ⟨z, e, h⟩ := eqD_gr ha hb hn hm
  unfold opEq'
  rw [e]
  cases z with
  | true => exact absurd (h.mp rfl) hab
  | false => rfl
end MR

set_option Elab.async false
set_option linter.all false
set_option maxRecDepth 100000
set_option exponentiation.threshold 30000
namespace MR
open PySem

theorem opIn_strs (x : Str) (l : List Str) : opIn (.str x) (.lst (l.map D.str)) = some (.bl (decide (x ∈ l))) := by
  have hf : (l.map D.str).all flatD = true := by
    rw [List.all_map, List.all_eq_true]
    intro _ _
    rfl
  have e : inA (.str x) (.lst (l.map D.str)) = some (inD (.str x) (l.map D.str)) := by
    show (if flatD (.str x) && (l.map D.str).all flatD then _ else _) = _
    rw [hf]
    rfl
  unfold opIn
  rw [e]
  have : inD (.str x) (l.map D.str) = decide (x ∈ l) := by
    unfold inD L2.inV
    rw [List.map_map, List.any_map]
    rw [Bool.eq_iff_iff, List.any_eq_true, decide_eq_true_iff]
    constructor
    · rintro ⟨y, hy, e⟩
      have e : L2.eqV (.str y) (.str x) = true := e
      have : y = x := by simpa [L2.eqV] using e
      exact this ▸ hy
    · intro h
      exact ⟨x, h, by show L2.eqV (.str x) (.str x) = true; simp [L2.eqV]⟩
  rw [this]
  rfl
def encO : Option Str → D
  | none => .non
  | some y => .str y
/-- who takes -/
def tkF (nx : Str → Option Str) (dead : Str → Bool) : Nat → List Str → Str → Option (Option Str)
  | 0, _, _ => none
  | n + 1, met, last => match nx last with
    | none => some none
    | some one => if one ∈ met then some none else if dead one = true then tkF nx dead n (met ++ [one]) one else some (some one)
structure KinAt (S : Sto) (r a b : Nat) (h g : List (Kk × D)) : Prop where
  o : S[r]? = some (.ins "Kin" [("heirs", .obj a), ("gone", .obj b)])
  h : S[a]? = some (.con false (.dK h))
  g : S[b]? = some (.con false (.dK g))
section
variable {S : Sto} {r a b : Nat} {h g : List (Kk × D)}
theorem KinAt.ob (K : KinAt S r a b h g) : objAt ["Kin"] S (.obj r) = some (r, "Kin", [("heirs", .obj a), ("gone", .obj b)]) := objAt_obj K.o (by simp)
theorem KinAt.dg (K : KinAt S r a b h g) (σ : Sl) : deref σ S (.obj b) = some (.dK g) := deref_obj K.g
theorem KinAt.ch (K : KinAt S r a b h g) (σ : Sl) (w : D) : chg σ S (.obj a) w = some (σ, S.set a (.con false w)) := chg_obj K.h
def seenD (met : List Str) : List (Kk × D) := met.map fun x => (.inr x, .bl true)
theorem seenD_val (met : List Str) (x : Str) : (valD (seenD met) (.inr x)).isSome = decide (x ∈ met) := by
  induction met with
  | nil => rfl
  | cons y met ih =>
    show (valD ((.inr y, .bl true) :: seenD met) (.inr x)).isSome = _
    rw [valD_cons]
    by_cases e : y = x
    · subst e; simp
    · have : ¬ (Sum.inr y : Kk) = .inr x := fun z => e (Sum.inr.inj z)
      rw [if_neg this, ih]
      have : ¬ x = y := fun z => e z.symm
      simp [this]
theorem frz_enc (o : Option Str) (σ : Sl) : frz (encO o) σ S = .ok (encO o) σ S := by cases o <;> rfl
end
structure BkAt (S : Sto) (bk a : Nat) (bd h : List (Kk × D)) (dl : List Str) : Prop where
  o : S[bk]? = some (.con false (.dK bd))
  vh : valD bd (.inr "heirs") = some (.obj a)
  vd : valD bd (.inr "dead") = some (.lst (dl.map D.str))
  h : S[a]? = some (.con false (.dK h))
section
variable {S : Sto} {bk a : Nat} {bd h : List (Kk × D)} {dl : List Str}
theorem BkAt.d (B : BkAt S bk a bd h dl) (σ : Sl) : deref σ S (.obj bk) = some (.dK bd) := deref_obj B.o
end
theorem tkF_ends {nx : Str → Option Str} {dead : Str → Bool} {vs : List Str} (hv : ∀ x y, nx x = some y → y ∈ vs) : ∀ (n : Nat) (met : List Str) (last : Str), (∀ x ∈ vs, x ∉ met → True) → (vs.filter fun x => decide (x ∉ met)).length < n → ∃ res, tkF nx dead n met last = some res
  | 0, _, _, _, h => by omega
  | n + 1, met, last, _, h => by
    rw [tkF]
    cases e : nx last with
    | none => exact ⟨none, rfl⟩
    | some one =>
      dsimp only
      by_cases hm : one ∈ met
      · rw [if_pos hm]; exact ⟨none, rfl⟩
      · rw [if_neg hm]
        by_cases hd : dead one = true
        · rw [if_pos hd]
          refine tkF_ends hv n (met ++ [one]) one (fun _ _ _ => trivial) ?_
          have h1 : one ∈ vs.filter fun x => decide (x ∉ met) := List.mem_filter.mpr ⟨hv last one e, by simp [hm]⟩
          have h2 : (vs.filter fun x => decide (x ∉ met ++ [one])).length < (vs.filter fun x => decide (x ∉ met)).length := by
            have e1 : (vs.filter fun x => decide (x ∉ met ++ [one])) = (vs.filter fun x => decide (x ∉ met)).filter fun x => decide (x ≠ one) := by
              rw [List.filter_filter]
              congr 1
              funext x
              by_cases hx : x ∈ met <;> by_cases hx2 : x = one <;> simp [hx, hx2]
            rw [e1]
            generalize (vs.filter fun x => decide (x ∉ met)) = l at h1
            induction l with
            | nil => cases h1
            | cons y l ih =>
              rw [List.filter_cons, List.length_cons]
              by_cases hy : y = one
              · subst hy
                simp only [ne_eq, not_true, decide_false, Bool.false_eq_true, if_false]
                have := List.length_filter_le (fun x => decide (x ≠ y)) l
                simp only [ne_eq] at this
                omega
              · simp only [ne_eq, hy, not_false_eq_true, decide_true, if_true, List.length_cons]
                have h3 : one ∈ l := by
                  rcases List.mem_cons.mp h1 with rfl | h3
                  · exact absurd rfl hy
                  · exact h3
                have := ih h3
                simp only [ne_eq] at this
                omega
          omega
        · rw [if_neg hd]; exact ⟨some one, rfl⟩
end MR

set_option Elab.async false
set_option linter.all false
set_option maxRecDepth 100000
set_option exponentiation.threshold 30000
namespace MR
open PySem

def Ret (o : Out) (P : D → Sto → Prop) : Prop := match o with
  | .ok w S => P w S
  | _ => False
def RunF (r : Res Fl) (P : D → Sto → Prop) : Prop := match r with
  | .ok .next _ S => P .non S
  | .ok (.ret w) _ S => P w S
  | _ => False
@[simp] theorem Ret_ok {w : D} {S : Sto} {P : D → Sto → Prop} : Ret (.ok w S) P = P w S := rfl
@[simp] theorem RunF_next {σ : Sl} {S : Sto} {P : D → Sto → Prop} : RunF (.ok .next σ S) P = P .non S := rfl
@[simp] theorem RunF_ret {w : D} {σ : Sl} {S : Sto} {P : D → Sto → Prop} : RunF (.ok (.ret w) σ S) P = P w S := rfl
theorem Ret.ex {o : Out} {P : D → Sto → Prop} (h : Ret o P) : ∃ w S, o = .ok w S ∧ P w S := by
  cases o with
  | ok w S => exact ⟨w, S, rfl, h⟩
  | exc e S => exact h.elim
  | fail => exact h.elim
theorem Ret.of {o : Out} {P : D → Sto → Prop} {w : D} {S : Sto} (e : o = .ok w S) (h : P w S) : Ret o P := by rw [e]; exact h
theorem RunF.of {r : Res Fl} {P : D → Sto → Prop} {r' : Res Fl} (e : r = r') (h : RunF r' P) : RunF r P := by rw [e]; exact h

section
variable {σ : Sl} {S : Sto} {r : Nat} {w : D} {cs : List String}
theorem derefU : deref σ S (.obj r) = (match S[r]? with
  | some (.con lk c) => conD lk c
  | _ => none) := rfl
theorem objAtU : objAt cs S (.obj r) = (match S[r]? with
  | some (.ins c fs) => if c ∈ cs then some (r, c, fs) else none
  | _ => none) := rfl
theorem setG {i j : Nat} {o : Ob} : (S.set i o)[j]? = if i = j then (S[j]?).map (fun _ => o) else S[j]? := by
  by_cases e : i = j
  · subst e
    rw [if_pos rfl]
    by_cases lt : i < S.length
    · rw [List.getElem?_set_self lt, List.getElem?_eq_getElem lt]; rfl
    · rw [List.getElem?_eq_none_iff.mpr (by rw [List.length_set]; omega), List.getElem?_eq_none_iff.mpr (by omega)]; rfl
  · rw [if_neg e, List.getElem?_set_ne e]
theorem set_back {i : Nat} {o o' : Ob} (h : S[i]? = some o) : (S.set i o').set i o = S := by
  rw [List.set_set]
  apply List.ext_getElem?
  intro j
  rw [setG]
  by_cases e : i = j
  · subst e; rw [if_pos rfl, h]; rfl
  · rw [if_neg e]
end
/-- nothing but these places is changed -/
structure Off (fp : List Nat) (S S' : Sto) : Prop where
  len : S'.length = S.length
  off : ∀ j, j ∉ fp → S'[j]? = S[j]?
theorem Off.refl {fp : List Nat} {S : Sto} : Off fp S S := ⟨rfl, fun _ _ => rfl⟩
theorem Off.trans {fp : List Nat} {S S' S'' : Sto} (a : Off fp S S') (b : Off fp S' S'') : Off fp S S'' := ⟨b.len.trans a.len, fun j h => (b.off j h).trans (a.off j h)⟩
theorem Off.set {fp : List Nat} {S S' : Sto} {i : Nat} {o : Ob} (a : Off fp S S') (h : i ∈ fp) : Off fp S (S'.set i o) := ⟨by rw [List.length_set]; exact a.len, fun j hj => by rw [List.getElem?_set_ne (fun e => hj (by rw [← e]; exact h))]; exact a.off j hj⟩
theorem Off.mono {fp fp' : List Nat} {S S' : Sto} (a : Off fp S S') (h : ∀ i ∈ fp, i ∈ fp') : Off fp' S S' := ⟨a.len, fun j hj => a.off j fun z => hj (h j z)⟩

section
variable {α : Type} {e : α → D} {l : List (Str × α)} {k j : Str} {v : α}
def aval (l : List (Str × α)) (k : Str) : Option α := (l.find? fun p => decide (p.1 = k)).map (·.2)
def aput (l : List (Str × α)) (k : Str) (v : α) : List (Str × α) := if (l.any fun p => decide (p.1 = k)) = true then l.map (fun p => if p.1 = k then (p.1, v) else p) else l ++ [(k, v)]
def adrop (l : List (Str × α)) (k : Str) : List (Str × α) := l.filter fun p => decide (p.1 ≠ k)
def keys (l : List (Str × α)) : List Str := l.map (·.1)
def enc (e : α → D) (l : List (Str × α)) : List (Kk × D) := l.map fun p => (.inr p.1, e p.2)
@[simp] theorem aval_nil : aval ([] : List (Str × α)) k = none := rfl
@[simp] theorem aval_cons {p : Str × α} : aval (p :: l) k = if p.1 = k then some p.2 else aval l k := by
  unfold aval
  rw [List.find?_cons]
  by_cases h : p.1 = k
  · simp [h]
  · simp [h]
@[simp] theorem valD_enc : valD (enc e l) (.inr k) = (aval l k).map e := by
  induction l with
  | nil => rfl
  | cons p l ih =>
    show valD ((.inr p.1, e p.2) :: enc e l) (.inr k) = _
    rw [valD_cons, aval_cons, ih]
    by_cases h : p.1 = k
    · simp [h]
    · simp [h]
@[simp] theorem enc_len : (enc e l).length = l.length := by unfold enc; rw [List.length_map]
theorem aval_some_iff : (aval l k).isSome = true ↔ k ∈ keys l := by
  induction l with
  | nil => simp [keys]
  | cons p l ih =>
    rw [aval_cons]
    unfold keys at ih ⊢
    by_cases h : p.1 = k
    · simp [h]
    · have h' : ¬ k = p.1 := fun z => h z.symm
      simp [h, h', ih]
theorem aval_none_iff : aval l k = none ↔ k ∉ keys l := by
  rw [← aval_some_iff]
  cases aval l k <;> simp
theorem aval_mem (h : aval l k = some v) : (k, v) ∈ l := by
  induction l with
  | nil => cases h
  | cons p l ih =>
    rw [aval_cons] at h
    split at h
    · rename_i e; cases h; rw [← e]; exact List.mem_cons_self
    · exact List.mem_cons_of_mem _ (ih h)
theorem aval_of_mem (hn : (keys l).Nodup) (h : (k, v) ∈ l) : aval l k = some v := by
  induction l with
  | nil => cases h
  | cons p l ih =>
    have hn' := List.nodup_cons.mp (show ((p :: l).map (·.1)).Nodup from hn)
    rw [aval_cons]
    rcases List.mem_cons.mp h with rfl | h
    · simp
    · rw [if_neg (fun z => hn'.1 (List.mem_map.mpr ⟨_, h, z.symm⟩)), ih hn'.2 h]
theorem any_keys : (l.any fun p => decide (p.1 = k)) = decide (k ∈ keys l) := by
  unfold keys
  rw [Bool.eq_iff_iff, List.any_eq_true, decide_eq_true_iff, List.mem_map]
  simp
theorem aval_map {f : Str × α → Str × α} (hf : ∀ p, (f p).1 = p.1) : aval (l.map f) k = (l.find? fun p => decide (p.1 = k)).map fun p => (f p).2 := by
  induction l with
  | nil => rfl
  | cons p l ih =>
    rw [List.map_cons, aval_cons, hf, List.find?_cons]
    by_cases h : p.1 = k
    · simp [h]
    · simp only [h, if_false, decide_false]
      exact ih
theorem aval_app : aval (l ++ [(j, v)]) k = if k ∈ keys l then aval l k else if j = k then some v else none := by
  induction l with
  | nil => simp [keys]
  | cons p l ih =>
    rw [List.cons_append, aval_cons, aval_cons, ih]
    unfold keys
    by_cases h : p.1 = k
    · simp [h]
    · have h' : ¬ k = p.1 := fun z => h z.symm
      simp only [h, if_false, List.map_cons, List.mem_cons, h', false_or]
theorem aval_put : aval (aput l j v) k = if j = k then some v else aval l k := by
  unfold aput
  rw [any_keys]
  by_cases hj : j ∈ keys l
  · simp only [hj, decide_true, if_true]
    rw [aval_map (fun p => by split <;> rfl)]
    by_cases e : j = k
    · subst e
      rw [if_pos rfl]
      obtain ⟨w, hw⟩ := Option.isSome_iff_exists.mp (aval_some_iff.mpr hj)
      unfold aval at hw
      obtain ⟨p, hp, _⟩ := Option.map_eq_some_iff.mp hw
      have h1 : p.1 = j := by simpa using List.find?_some hp
      rw [hp]
      simp [h1]
    · rw [if_neg e]
      unfold aval
      cases hf : l.find? fun p => decide (p.1 = k) with
      | none => rfl
      | some p =>
        have h1 : p.1 = k := by simpa using List.find?_some hf
        have : ¬ p.1 = j := fun z => e (z.symm.trans h1)
        simp [this]
  · simp only [hj, decide_false, Bool.false_eq_true, if_false]
    rw [aval_app]
    by_cases e : j = k
    · subst e
      rw [if_neg hj, if_pos rfl, if_pos rfl]
    · rw [if_neg e, if_neg e]
      split
      · rfl
      · rename_i h; exact (aval_none_iff.mpr h).symm
theorem keys_put : keys (aput l j v) = if j ∈ keys l then keys l else keys l ++ [j] := by
  unfold aput
  rw [any_keys]
  by_cases hj : j ∈ keys l
  · simp only [hj, decide_true, if_true]
    unfold keys
    rw [List.map_map]
    apply List.map_congr_left
    intro p _
    show (if p.1 = j then (p.1, v) else p).1 = p.1
    split <;> rfl
  · simp only [hj, decide_false, Bool.false_eq_true, if_false]
    unfold keys
    simp
theorem keys_drop : keys (adrop l j) = (keys l).filter fun x => decide (x ≠ j) := by
  unfold keys adrop
  rw [List.filter_map]
  rfl
theorem aval_drop : aval (adrop l j) k = if j = k then none else aval l k := by
  by_cases e : j = k
  · subst e
    rw [if_pos rfl, aval_none_iff, keys_drop]
    simp
  · rw [if_neg e]
    induction l with
    | nil => rfl
    | cons p l ih =>
      unfold adrop at ih ⊢
      rw [List.filter_cons]
      by_cases h : p.1 = j
      · simp only [ne_eq, h, not_true, decide_false, Bool.false_eq_true, if_false]
        rw [ih, aval_cons, if_neg (fun z => e (h.symm.trans z))]
      · simp only [ne_eq, h, not_false_eq_true, decide_true, if_true]
        rw [aval_cons, aval_cons, ih]
end
@[simp] theorem kD_inr {x : Str} : kD (.inr x) = .str x := rfl
@[simp] theorem kD_inl {x : Int} : kD (.inl x) = .int x := rfl
@[simp] theorem opListA_dK {l : List (Kk × D)} : opListA (.dK l) = some (.lst (l.map fun p => kD p.1)) := rfl
@[simp] theorem opVals_dK {l : List (Kk × D)} : opVals (.dK l) = some (.lst (l.map (·.2))) := rfl
@[simp] theorem sDAugD_def {op : Int → Int → Int} {fd fy fv : DE} {σ : Sl} {S : Sto} : sDAugD op fd fy fv σ S = (fd σ S).bind fun x σ S => (fy σ S).bind fun y σ S => match deref σ S x, keyD y with
  | some (.dK l), some k => (match valD l k with
    | some (.int i) => (fv σ S).bind fun z σ S => (match z, deref σ S x with
      | .int j, some (.dK l') => if l'.length < most then ofMutS (chg σ S x (.dK (putD l' k (.int (op i j))))) else .fail
      | _, _ => .fail)
    | _ => .fail)
  | _, _ => .fail := rfl
@[simp] theorem sRaise_def {c : String} {σ : Sl} {S : Sto} : sRaise c σ S = .exc ⟨c, none⟩ σ S := rfl
@[simp] theorem kPop_1 {x b : D} {l : List (Kk × D)} {k : Kk} {σ : Sl} {S : Sto} (h : keyD b = some k) : kPop x (.dK l) [b] σ S = (match valD l k with
    | some w => ofMut w (chg σ S x (.dK (dropD l k)))
    | none => .fail) := by
  unfold kPop
  simp only [h] <;> rfl
end MR

set_option Elab.async false
set_option linter.all false
set_option maxRecDepth 100000
namespace MR
open PySem
structure Ld where
  lords : List (Str × Option Str)
  hold : List (Str × Str)
  own : List (Str × Int)
  due : List (Str × Fr)
abbrev Ld.ks (L : Ld) : List Str := keys L.lords
def Ld.lord (L : Ld) (k : Str) : Option Str := (aval L.lords k).join
/-- the place of a name -/
def ixOf (l : List Str) (k : Str) : Nat := l.findIdx (· == k)
theorem ixOf_lt {l : List Str} {k : Str} : k ∈ l ↔ ixOf l k < l.length := by
  unfold ixOf
  constructor
  · intro h; exact List.findIdx_lt_length_of_exists ⟨k, h, by simp⟩
  · intro h
    have := List.findIdx_getElem (xs := l) (p := (· == k)) (w := h)
    exact eq_of_beq this ▸ List.getElem_mem h
theorem ixOf_app {l m : List Str} {k : Str} (h : k ∈ l) : ixOf (l ++ m) k = ixOf l k := by
  unfold ixOf
  rw [List.findIdx_append, if_pos (List.findIdx_lt_length_of_exists ⟨k, h, by simp⟩)]
theorem ixOf_last {l : List Str} {k : Str} (h : k ∉ l) : ixOf (l ++ [k]) k = l.length := by
  unfold ixOf
  rw [List.findIdx_append]
  have : ¬ (l.findIdx (· == k) < l.length) := fun z => h (ixOf_lt.mpr z)
  rw [if_neg this]
  simp
/-- what holds of each land that comes about -/
structure Wf (L : Ld) : Prop where
  kh : keys L.hold = L.ks
  ko : keys L.own = L.ks
  kd : keys L.due = L.ks
  nd : L.ks.Nodup
  cr : aval L.lords "" = some none
  no : ∀ k, aval L.lords k = some none → k = ""
  up : ∀ k p, aval L.lords k = some (some p) → p ∈ L.ks ∧ ixOf L.ks p < ixOf L.ks k
  sk : ∀ k ∈ L.ks, PyData.strOk k = true
  sh : ∀ m ∈ L.hold.map (·.2), PyData.strOk m = true
section
variable {L : Ld}
theorem Wf.crk (W : Wf L) : ("" : Str) ∈ L.ks := aval_some_iff.mp (by rw [W.cr]; rfl)
theorem lord_some {k p : Str} (h : L.lord k = some p) : aval L.lords k = some (some p) := by
  unfold Ld.lord at h
  cases e : aval L.lords k with
  | none => rw [e] at h; cases h
  | some o => rw [e] at h; cases o with
    | none => cases h
    | some q => cases h; rfl
theorem lord_of {k : Str} {o : Option Str} (h : aval L.lords k = some o) : L.lord k = o := by unfold Ld.lord; rw [h]; cases o <;> rfl
theorem Wf.lord_ne (W : Wf L) {k : Str} (hk : k ∈ L.ks) (h0 : k ≠ "") : ∃ p, L.lord k = some p ∧ p ∈ L.ks ∧ ixOf L.ks p < ixOf L.ks k := by
  obtain ⟨o, ho⟩ := Option.isSome_iff_exists.mp (aval_some_iff.mpr hk)
  cases o with
  | none => exact absurd (W.no k ho) h0
  | some p => exact ⟨p, lord_of ho, W.up k p ho⟩
theorem Wf.lord_cr (W : Wf L) : L.lord "" = none := lord_of W.cr
def chn (L : Ld) : Nat → Str → List Str
  | 0, x => [x]
  | n + 1, x => x :: (match L.lord x with
    | some p => chn L n p
    | none => [])
/-- the chain of x -/
def Ld.chain (L : Ld) (x : Str) : List Str := chn L (ixOf L.ks x) x
theorem chn_more (W : Wf L) : ∀ (n m : Nat) (x : Str), x ∈ L.ks → ixOf L.ks x ≤ n → n ≤ m → chn L m x = chn L n x := by
  intro n
  induction n with
  | zero =>
    intro m x hx hi hm
    have e : L.lord x = none := by
      cases h : L.lord x with
      | none => rfl
      | some p => have := (W.up x p (lord_some h)).2; omega
    cases m with
    | zero => rfl
    | succ m => unfold chn; rw [e]
  | succ n ih =>
    intro m x hx hi hm
    cases m with
    | zero => omega
    | succ m =>
      show (x :: _) = (x :: _)
      cases h : L.lord x with
      | none => rfl
      | some p =>
        obtain ⟨h1, h2⟩ := W.up x p (lord_some h)
        show x :: chn L m p = x :: chn L n p
        rw [ih m p h1 (by omega) (by omega)]
theorem chain_step (W : Wf L) {x p : Str} (h : L.lord x = some p) : L.chain x = x :: L.chain p := by
  obtain ⟨h1, h2⟩ := W.up x p (lord_some h)
  have hx : x ∈ L.ks := aval_some_iff.mp (by rw [lord_some h]; rfl)
  unfold Ld.chain
  obtain ⟨n, hn⟩ : ∃ n, ixOf L.ks x = n + 1 := ⟨ixOf L.ks x - 1, by omega⟩
  rw [hn]
  show x :: (match L.lord x with
    | some p => chn L n p
    | none => []) = _
  rw [h]
  show x :: chn L n p = _
  rw [chn_more W (ixOf L.ks p) n p h1 (Nat.le_refl _) (by omega)]
theorem chain_cr (W : Wf L) : L.chain "" = [("" : Str)] := by
  unfold Ld.chain
  cases ixOf L.ks "" with
  | zero => rfl
  | succ n =>
    show ("" : Str) :: (match L.lord "" with
      | some p => chn L n p
      | none => []) = _
    rw [W.lord_cr]
/-- along chains -/
theorem chain_ind (W : Wf L) {P : Str → Prop} (h0 : P "") (h1 : ∀ x p, x ∈ L.ks → x ≠ "" → L.lord x = some p → p ∈ L.ks → P p → P x) : ∀ x ∈ L.ks, P x := by
  have key : ∀ (n : Nat) (x : Str), x ∈ L.ks → ixOf L.ks x < n → P x := by
    intro n
    induction n with
    | zero => intro x _ h; omega
    | succ n ih =>
      intro x hx hi
      by_cases e : x = ""
      · rw [e]; exact h0
      · obtain ⟨p, hp, hm, hlt⟩ := W.lord_ne hx e
        exact h1 x p hx e hp hm (ih p hm (by omega))
  exact fun x hx => key _ x hx (Nat.lt_succ_self _)
theorem chain_sub (W : Wf L) : ∀ x ∈ L.ks, ∀ y ∈ L.chain x, y ∈ L.ks ∧ ixOf L.ks y ≤ ixOf L.ks x := by
  refine chain_ind W ?_ ?_
  · intro y hy
    rw [chain_cr W] at hy
    rw [List.mem_singleton.mp hy]
    exact ⟨W.crk, Nat.le_refl _⟩
  · intro x p hx h0 hp hm ih y hy
    rw [chain_step W hp] at hy
    rcases List.mem_cons.mp hy with rfl | hy
    · exact ⟨hx, Nat.le_refl _⟩
    · have := ih y hy
      have h2 := (W.up x p (lord_some hp)).2
      exact ⟨this.1, by omega⟩
def Ld.kids (L : Ld) (e : Str) : List Str := L.ks.filter fun k => decide (aval L.lords k = some (some e))
def Ld.under (L : Ld) (e : Str) : List Str := srtS (L.kids e)
theorem mem_kids {e k : Str} : k ∈ L.kids e ↔ L.lord k = some e := by
  unfold Ld.kids
  rw [List.mem_filter, decide_eq_true_iff]
  constructor
  · intro h; exact lord_of h.2
  · intro h; exact ⟨aval_some_iff.mp (by rw [lord_some h]; rfl), lord_some h⟩
theorem mem_under {e k : Str} : k ∈ L.under e ↔ L.lord k = some e := by
  unfold Ld.under
  rw [(srtS_perm _).mem_iff, mem_kids]
/-- 1 where e is in the chain of x -/
def inc (L : Ld) (e x : Str) : Nat := if e ∈ L.chain x then 1 else 0
theorem sum_zeroN (l : List Str) : (l.map fun _ => (0 : Nat)).sum = 0 := by
  induction l with
  | nil => rfl
  | cons x l ih => simp only [List.map_cons, List.sum_cons]; omega
theorem sum_zeroI (l : List Str) : (l.map fun _ => (0 : Int)).sum = 0 := by
  induction l with
  | nil => rfl
  | cons x l ih => simp only [List.map_cons, List.sum_cons]; omega
theorem sum_one {l : List Str} (hn : l.Nodup) (x : Str) : (l.map fun c => if c = x then 1 else 0).sum = if x ∈ l then 1 else 0 := by
  induction l with
  | nil => rfl
  | cons y l ih =>
    have h := List.nodup_cons.mp hn
    rw [List.map_cons, List.sum_cons, ih h.2]
    by_cases e : y = x
    · subst e
      simp [h.1]
    · have e' : ¬ x = y := fun z => e z.symm
      simp [e, e']
theorem inc_split (W : Wf L) {e : Str} (he : e ∈ L.ks) : ∀ x ∈ L.ks, inc L e x = (if x = e then 1 else 0) + ((L.kids e).map fun c => inc L c x).sum := by
  have ndk : (L.kids e).Nodup := List.Pairwise.filter _ W.nd
  refine chain_ind W ?_ ?_
  · have z : ((L.kids e).map fun c => inc L c "").sum = 0 := by
      have : (L.kids e).map (fun c => inc L c "") = (L.kids e).map fun _ => 0 := by
        apply List.map_congr_left
        intro c hc
        unfold inc
        rw [chain_cr W, if_neg]
        intro h
        have : c = "" := List.mem_singleton.mp h
        rw [this] at hc
        have := mem_kids.mp hc
        rw [W.lord_cr] at this
        cases this
      rw [this, sum_zeroN]
    rw [z]
    unfold inc
    rw [chain_cr W]
    by_cases h : e = ""
    · subst h; simp
    · have h' : ¬ ("" : Str) = e := fun z => h z.symm
      simp [h, h']
  · intro x p hx h0 hp hm ih
    have hlt := (W.up x p (lord_some hp)).2
    have hxp : x ∉ L.chain p := fun z => by have := (chain_sub W p hm x z).2; omega
    have e1 : ∀ c, inc L c x = (if c = x then 1 else 0) + inc L c p := by
      intro c
      unfold inc
      rw [chain_step W hp]
      by_cases h : c = x
      · subst h; simp [hxp]
      · simp [h]
    have e2 : ((L.kids e).map fun c => inc L c x).sum = (if x ∈ L.kids e then 1 else 0) + ((L.kids e).map fun c => inc L c p).sum := by
      rw [← sum_one ndk x]
      clear ih ndk
      generalize L.kids e = l
      induction l with
      | nil => rfl
      | cons c l ih2 =>
        simp only [List.map_cons, List.sum_cons]
        rw [ih2, e1 c]
        omega
    rw [e1 e, ih, e2]
    have e3 : (if x ∈ L.kids e then 1 else 0) = if p = e then 1 else 0 := by
      by_cases h : p = e
      · subst h
        rw [if_pos rfl, if_pos (mem_kids.mpr hp)]
      · rw [if_neg h, if_neg]
        intro z
        have := mem_kids.mp z
        rw [hp] at this
        cases this
        exact h rfl
    rw [e3]
    have e4 : (if e = x then 1 else 0) = if x = e then 1 else 0 := by
      by_cases h : x = e
      · rw [if_pos h, if_pos h.symm]
      · rw [if_neg h, if_neg (fun z => h z.symm)]
    rw [e4]
def Ld.ac (L : Ld) (k : Str) : Int := (aval L.own k).getD 0
def Ld.breadth (L : Ld) (e : Str) : Int := (L.ks.map fun x => (inc L e x : Int) * L.ac x).sum
def Ld.size (L : Ld) (e : Str) : Nat := (L.ks.map fun x => inc L e x).sum
theorem sum_swap {α β : Type} (f : α → β → Int) (l : List α) (m : List β) : (l.map fun x => (m.map fun y => f x y).sum).sum = (m.map fun y => (l.map fun x => f x y).sum).sum := by
  induction l with
  | nil =>
    simp only [List.map_nil, List.sum_nil]
    induction m with
    | nil => rfl
    | cons y m ih => simp only [List.map_cons, List.sum_cons]; rw [← ih]; rfl
  | cons x l ih =>
    simp only [List.map_cons, List.sum_cons]
    rw [ih]
    clear ih
    induction m with
    | nil => rfl
    | cons y m ih => simp only [List.map_cons, List.sum_cons]; rw [← ih]; omega
theorem sum_nat {α : Type} (f : α → Nat) (l : List α) : ((l.map f).sum : Int) = (l.map fun x => (f x : Int)).sum := by
  induction l with
  | nil => rfl
  | cons x l ih => simp only [List.map_cons, List.sum_cons]; rw [← ih]; omega
theorem sum_mulr {α : Type} (f : α → Int) (l : List α) (c : Int) : (l.map fun x => f x * c).sum = (l.map f).sum * c := by
  induction l with
  | nil => simp
  | cons x l ih => simp only [List.map_cons, List.sum_cons]; rw [ih, Int.add_mul]
theorem sum_pick {l : List Str} (hn : l.Nodup) (g : Str → Int) {e : Str} (he : e ∈ l) : (l.map fun x => (if x = e then (1 : Int) else 0) * g x).sum = g e := by
  induction l with
  | nil => cases he
  | cons y l ih =>
    have h := List.nodup_cons.mp hn
    simp only [List.map_cons, List.sum_cons]
    rcases List.mem_cons.mp he with rfl | he
    · have : (l.map fun x => (if x = e then (1 : Int) else 0) * g x) = l.map fun _ => 0 := by
        apply List.map_congr_left
        intro x hx
        rw [if_neg (fun z : x = e => h.1 (z ▸ hx))]
        simp
      rw [this, sum_zeroI]
      simp
    · rw [ih h.2 he, if_neg (fun z : y = e => h.1 (z ▸ he))]
      simp
theorem sum_addI {α : Type} (f g : α → Int) (l : List α) : (l.map fun x => f x + g x).sum = (l.map f).sum + (l.map g).sum := by
  induction l with
  | nil => rfl
  | cons x l ih => simp only [List.map_cons, List.sum_cons]; rw [ih]; omega
theorem wsum_split (W : Wf L) {e : Str} (he : e ∈ L.ks) (g : Str → Int) : (L.ks.map fun x => (inc L e x : Int) * g x).sum = g e + ((L.kids e).map fun c => (L.ks.map fun x => (inc L c x : Int) * g x).sum).sum := by
  rw [sum_swap (fun c x => (inc L c x : Int) * g x) (L.kids e) L.ks]
  rw [← sum_pick W.nd g he, ← sum_addI]
  congr 1
  apply List.map_congr_left
  intro x hx
  rw [inc_split W he x hx, sum_mulr (fun c => (inc L c x : Int))]
  rw [← sum_nat]
  by_cases h : x = e
  · simp only [h, if_true]; rw [Int.natCast_add, Int.add_mul]; rfl
  · simp only [h, if_false]; rw [Nat.zero_add]; simp
theorem breadth_split (W : Wf L) {e : Str} (he : e ∈ L.ks) : L.breadth e = L.ac e + ((L.kids e).map L.breadth).sum := wsum_split W he L.ac
theorem under_ks {e k : Str} (h : k ∈ L.under e) : k ∈ L.ks := aval_some_iff.mp (by rw [lord_some (mem_under.mp h)]; rfl)
end
end MR

set_option Elab.async false
set_option linter.all false
set_option maxRecDepth 100000
set_option exponentiation.threshold 30000
namespace MR
open PySem
structure LandAt (S : Sto) (r a b c d : Nat) (la lb : Bool) (L : Ld) : Prop where
  o : S[r]? = some (.ins "Land" [("lords", .obj a), ("holders", .obj b), ("acres_of", .obj c), ("services", .obj d)])
  l : S[a]? = some (.con la (.dK (enc encO L.lords)))
  h : S[b]? = some (.con lb (.dK (enc D.str L.hold)))
  w : S[c]? = some (.con false (.dK (enc D.int L.own)))
  s : S[d]? = some (.con false (.dK (enc encF L.due)))
  nd : [r, a, b, c, d].Nodup
section
variable {S : Sto} {r a b c d : Nat} {la lb : Bool} {L : Ld} {e : Str}
theorem LandAt.ob (A : LandAt S r a b c d la lb L) : objAt ["Land"] S (.obj r) = some (r, "Land", [("lords", .obj a), ("holders", .obj b), ("acres_of", .obj c), ("services", .obj d)]) := by rw [objAtU, A.o]; simp
theorem LandAt.dl (A : LandAt S r a b c d la lb L) (σ : Sl) : deref σ S (.obj a) = some (.dK (enc encO L.lords)) := by rw [derefU, A.l]
theorem LandAt.ds (A : LandAt S r a b c d la lb L) (σ : Sl) : deref σ S (.obj d) = some (.dK (enc encF L.due)) := by rw [derefU, A.s]
def Ld.names (L : Ld) : List Str := srtS (L.ks.filter fun k => decide (k ≠ ("" : Str)))
def Ld.held (L : Ld) (m : Str) : List Str := srtS ((keys L.hold).filter fun k => decide (aval L.hold k = some m))
@[simp] theorem kLPop_app {x : D} {l : List D} {y : D} {σ : Sl} : kLPop x (.lst (l ++ [y])) [] σ S = ofMut y (chg σ S x (.lst l)) := by
  unfold kLPop
  simp
@[simp] theorem kExt_lst {x : D} {l m : List D} {σ : Sl} (h : l.length + m.length ≤ most) : kExt x (.lst l) [.lst m] σ S = ofMut .non (chg σ S x (.lst (l ++ m))) := by
  unfold kExt
  simp only [h, if_true]
@[simp] theorem sAug_val {σ : Sl} {n : Nat} {i : Int} {op : Int → Int → Int} {f : DE} (h : σ[n]? = some (.val (.int i))) : sAug n op f σ S = (f σ S).bind fun y σ S => match y with
  | .int j => .ok .next (σ.set n (.val (.int (op i j)))) S
  | _ => .fail := by
  unfold sAug
  rw [h] <;> rfl
theorem gr_strs {l : List Str} (h : ∀ x ∈ l, PyData.strOk x = true) : gr 1 (.lst (l.map D.str)) = true := by
  show (l.map D.str).all (gr 0) = true
  rw [List.all_map, List.all_eq_true]
  intro x hx
  exact h x hx
end
end MR

set_option Elab.async false
set_option linter.all false
set_option maxRecDepth 100000
set_option exponentiation.threshold 30000
namespace MR
open PySem
def setAll {α : Type} (l : List (Str × α)) (cs : List Str) (v : α) : List (Str × α) := l.map fun q => if q.1 ∈ cs then (q.1, v) else q
section
variable {α : Type} {l : List (Str × α)} {v : α}
theorem aput_in {k : Str} (h : k ∈ keys l) : aput l k v = l.map fun q => if q.1 = k then (q.1, v) else q := by
  unfold aput
  rw [any_keys]
  simp only [h, decide_true, if_true]
theorem aput_out {k : Str} (h : k ∉ keys l) : aput l k v = l ++ [(k, v)] := by
  unfold aput
  rw [any_keys]
  simp only [h, decide_false, Bool.false_eq_true, if_false]
theorem setAll_keys {cs : List Str} : keys (setAll l cs v) = keys l := by
  unfold keys setAll
  rw [List.map_map]
  apply List.map_congr_left
  intro q _
  show (if q.1 ∈ cs then (q.1, v) else q).1 = q.1
  split <;> rfl
theorem aval_setAll {cs : List Str} {k : Str} : aval (setAll l cs v) k = if k ∈ cs ∧ k ∈ keys l then some v else aval l k := by
  unfold setAll
  rw [aval_map (fun p => by split <;> rfl)]
  by_cases hk : k ∈ keys l
  · obtain ⟨w, hw⟩ := Option.isSome_iff_exists.mp (aval_some_iff.mpr hk)
    have hw' := hw
    unfold aval at hw
    obtain ⟨p, hp, hp2⟩ := Option.map_eq_some_iff.mp hw
    have h1 : p.1 = k := by simpa using List.find?_some hp
    rw [hp, hw']
    by_cases hc : k ∈ cs
    · simp [hc, hk, h1]
    · simp [hc, h1, hp2]
  · have : l.find? (fun p => decide (p.1 = k)) = none := by
      have := aval_none_iff.mpr hk
      unfold aval at this
      simpa using this
    rw [this, aval_none_iff.mpr hk]
    simp [hk]
end
def Ld.grant (L : Ld) (e n m : Str) (a s : Int) : Ld := ⟨aput L.lords n (some e), aput L.hold n m, aput (aput L.own n a) e (L.ac e - a), aput L.due n (s, 1)⟩
def Ld.sv (L : Ld) (e : Str) : Fr := (aval L.due e).getD (0, 1)
def moved (L : Ld) (e : Str) (a : Int) : Fr := (frT ((L.sv e).1 * a) ((L.sv e).2 * L.breadth e), frB ((L.sv e).1 * a) ((L.sv e).2 * L.breadth e))
def left (L : Ld) (e : Str) (a : Int) : Fr := (frT ((L.sv e).1 * (L.breadth e - a)) ((L.sv e).2 * L.breadth e), frB ((L.sv e).1 * (L.breadth e - a)) ((L.sv e).2 * L.breadth e))
def Ld.part (L : Ld) (e n m : Str) (a : Int) : Ld := ⟨aput L.lords n (L.lord e), aput L.hold n m, aput (aput L.own n a) e (L.ac e - a), aput (aput L.due n (moved L e a)) e (left L e a)⟩
def Ld.convey (L : Ld) (e m : Str) : Ld := { L with hold := aput L.hold e m }
def Ld.fall (L : Ld) (e p : Str) : Ld := ⟨adrop (setAll L.lords (L.under e) (some p)) e, adrop L.hold e, aput (adrop L.own e) p (L.ac p + L.ac e), adrop L.due e⟩
theorem ixOf_cons {z x : Str} {l : List Str} : ixOf (z :: l) x = if z = x then 0 else ixOf l x + 1 := by
  unfold ixOf
  rw [List.findIdx_cons]
  by_cases h : z = x
  · simp [h]
  · have : (z == x) = false := beq_eq_false_iff_ne.mpr h
    simp [h, this]
theorem ix_filter (P : Str → Bool) {x y : Str} (hx : P x = true) (hy : P y = true) : ∀ l : List Str, y ∈ l → ixOf l x < ixOf l y → ixOf (l.filter P) x < ixOf (l.filter P) y
  | [], h, _ => by cases h
  | z :: l, h, h2 => by
    rw [ixOf_cons, ixOf_cons] at h2
    by_cases zx : z = x
    · subst zx
      rw [List.filter_cons, if_pos hx, ixOf_cons, ixOf_cons]
      by_cases zy : z = y
      · subst zy; simp at h2
      · simp [zy]
    · by_cases zy : z = y
      · subst zy; simp at h2
      · simp only [zx, zy, if_false] at h2
        have hm : y ∈ l := by
          rcases List.mem_cons.mp h with e | h
          · exact absurd e.symm zy
          · exact h
        have ih := ix_filter P hx hy l hm (by omega)
        rw [List.filter_cons]
        split
        · rw [ixOf_cons, ixOf_cons, if_neg zx, if_neg zy]; omega
        · exact ih
section
variable {L : Ld} {e n m : Str} {a s : Int}
theorem vals_put {l : List (Str × Str)} {k v : Str} {P : Str → Prop} (h : ∀ x ∈ l.map (·.2), P x) (hv : P v) : ∀ x ∈ (aput l k v).map (·.2), P x := by
  intro x hx
  obtain ⟨q, hq, rfl⟩ := List.mem_map.mp hx
  unfold aput at hq
  split at hq
  · obtain ⟨q', hq', rfl⟩ := List.mem_map.mp hq
    split
    · exact hv
    · exact h _ (List.mem_map.mpr ⟨q', hq', rfl⟩)
  · rcases List.mem_append.mp hq with hq | hq
    · exact h _ (List.mem_map.mpr ⟨q, hq, rfl⟩)
    · rw [List.mem_singleton.mp hq]; exact hv
/-- a new estate with the lord p -/
theorem Wf.new (W : Wf L) (hn : n ∉ L.ks) (n0 : n ≠ "") {p : Str} (hp : p ∈ L.ks) (sn : PyData.strOk n = true) (sm : PyData.strOk m = true) {L' : Ld} (h1 : L'.lords = aput L.lords n (some p)) (h2 : L'.hold = aput L.hold n m) (h3 : keys L'.own = L.ks ++ [n]) (h4 : keys L'.due = L.ks ++ [n]) : Wf L' := by
  have ek : L'.ks = L.ks ++ [n] := by
    show keys L'.lords = _
    rw [h1, keys_put, if_neg hn]
  refine ⟨?_, by rw [ek]; exact h3, by rw [ek]; exact h4, ?_, ?_, ?_, ?_, ?_, ?_⟩
  · rw [ek, h2, keys_put, if_neg (by rw [W.kh]; exact hn), W.kh]
  · rw [ek]
    exact List.nodup_append.mpr ⟨W.nd, List.pairwise_singleton _ _, fun x hx y hy => by rw [List.mem_singleton.mp hy]; exact fun z => hn (z ▸ hx)⟩
  · rw [h1, aval_put, if_neg n0]; exact W.cr
  · intro k hk
    rw [h1, aval_put] at hk
    split at hk
    · cases hk
    · exact W.no k hk
  · intro k q hk
    rw [h1, aval_put] at hk
    rw [ek]
    split at hk
    · rename_i e1
      cases hk
      subst e1
      exact ⟨List.mem_append_left _ hp, by rw [ixOf_app hp, ixOf_last hn]; exact ixOf_lt.mp hp⟩
    · have hkm : k ∈ L.ks := aval_some_iff.mp (by rw [hk]; rfl)
      obtain ⟨g1, g2⟩ := W.up k q hk
      exact ⟨List.mem_append_left _ g1, by rw [ixOf_app g1, ixOf_app hkm]; exact g2⟩
  · intro k hk
    rw [ek] at hk
    rcases List.mem_append.mp hk with hk | hk
    · exact W.sk k hk
    · rw [List.mem_singleton.mp hk]; exact sn
  · rw [h2]
    exact vals_put W.sh sm
theorem keys_put2 {α : Type} {l : List (Str × α)} {n e : Str} {u v : α} (hn : n ∉ keys l) (he : e ∈ keys l) : keys (aput (aput l n u) e v) = keys l ++ [n] := by
  rw [keys_put, keys_put, if_neg hn, if_pos (List.mem_append_left _ he)]
theorem Wf.grant (W : Wf L) (he : e ∈ L.ks) (hn : n ∉ L.ks) (n0 : n ≠ "") (sn : PyData.strOk n = true) (sm : PyData.strOk m = true) : Wf (L.grant e n m a s) :=
  W.new hn n0 he sn sm rfl rfl (by rw [← W.ko]; exact keys_put2 (by rw [W.ko]; exact hn) (by rw [W.ko]; exact he)) (by
    show keys (aput L.due n (s, 1)) = _
    rw [keys_put, if_neg (by rw [W.kd]; exact hn), W.kd])
theorem Wf.part (W : Wf L) (he : e ∈ L.ks) (e0 : e ≠ "") (hn : n ∉ L.ks) (n0 : n ≠ "") (sn : PyData.strOk n = true) (sm : PyData.strOk m = true) : Wf (L.part e n m a) := by
  obtain ⟨p, hp, hm, _⟩ := W.lord_ne he e0
  exact W.new hn n0 hm sn sm (by show aput L.lords n (L.lord e) = _; rw [hp]) rfl (by rw [← W.ko]; exact keys_put2 (by rw [W.ko]; exact hn) (by rw [W.ko]; exact he)) (by rw [← W.kd]; exact keys_put2 (by rw [W.kd]; exact hn) (by rw [W.kd]; exact he))
theorem Wf.convey (W : Wf L) (he : e ∈ L.ks) (sm : PyData.strOk m = true) : Wf (L.convey e m) :=
  ⟨by show keys (aput L.hold e m) = L.ks; rw [keys_put, if_pos (by rw [W.kh]; exact he), W.kh], W.ko, W.kd, W.nd, W.cr, W.no, W.up, W.sk, vals_put W.sh sm⟩
theorem Wf.fall (W : Wf L) {p : Str} (hp : L.lord e = some p) : Wf (L.fall e p) := by
  obtain ⟨hpm, hpl⟩ := W.up e p (lord_some hp)
  have he : e ∈ L.ks := aval_some_iff.mp (by rw [lord_some hp]; rfl)
  have pe : p ≠ e := fun z => by rw [z] at hpl; omega
  have e0 : e ≠ "" := fun z => by rw [z, W.lord_cr] at hp; cases hp
  have ek : (L.fall e p).ks = L.ks.filter fun x => decide (x ≠ e) := by
    show keys (adrop (setAll L.lords (L.under e) (some p)) e) = _
    rw [keys_drop, setAll_keys]
  have key : ∀ k, aval (L.fall e p).lords k = if e = k then none else if L.lord k = some e then some (some p) else aval L.lords k := by
    intro k
    show aval (adrop (setAll L.lords (L.under e) (some p)) e) k = _
    rw [aval_drop, aval_setAll]
    by_cases h : e = k
    · rw [if_pos h, if_pos h]
    · rw [if_neg h, if_neg h]
      by_cases h2 : L.lord k = some e
      · rw [if_pos h2, if_pos ⟨mem_under.mpr h2, under_ks (mem_under.mpr h2)⟩]
      · rw [if_neg h2, if_neg (fun z => h2 (mem_under.mp z.1))]
  have mem' : ∀ x, x ∈ (L.fall e p).ks ↔ x ∈ L.ks ∧ x ≠ e := fun x => by rw [ek, List.mem_filter, decide_eq_true_iff]
  refine ⟨?_, ?_, ?_, ?_, ?_, ?_, ?_, ?_, ?_⟩
  · rw [ek]; show keys (adrop L.hold e) = _; rw [keys_drop, W.kh]
  · rw [ek]; show keys (aput (adrop L.own e) p _) = _
    rw [keys_put, keys_drop, W.ko, if_pos]
    rw [List.mem_filter, decide_eq_true_iff]
    exact ⟨hpm, pe⟩
  · rw [ek]; show keys (adrop L.due e) = _; rw [keys_drop, W.kd]
  · rw [ek]; exact List.Pairwise.filter _ W.nd
  · rw [key, if_neg e0, if_neg (by rw [W.lord_cr]; intro z; cases z)]; exact W.cr
  · intro k hk
    rw [key] at hk
    split at hk
    · cases hk
    · split at hk
      · cases hk
      · exact W.no k hk
  · intro k q hk
    rw [key] at hk
    split at hk
    · cases hk
    · rename_i ne
      have fin : ∀ q, q ∈ L.ks → q ≠ e → k ∈ L.ks → ixOf L.ks q < ixOf L.ks k → q ∈ (L.fall e p).ks ∧ ixOf (L.fall e p).ks q < ixOf (L.fall e p).ks k := fun q h1 h2 h3 h4 => by
        refine ⟨(mem' q).mpr ⟨h1, h2⟩, ?_⟩
        rw [ek]
        exact ix_filter _ (by simpa using h2) (by simpa using fun z : k = e => ne z.symm) L.ks h3 h4
      split at hk
      · rename_i h2
        cases hk
        have hkm : k ∈ L.ks := aval_some_iff.mp (by rw [lord_some h2]; rfl)
        have := (W.up k e (lord_some h2)).2
        exact fin p hpm pe hkm (by omega)
      · rename_i h2
        have hkm : k ∈ L.ks := aval_some_iff.mp (by rw [hk]; rfl)
        obtain ⟨g1, g2⟩ := W.up k q hk
        exact fin q g1 (fun z => h2 (by rw [lord_of hk, z])) hkm g2
  · intro k hk; exact W.sk k ((mem' k).mp hk).1
  · intro x hx
    obtain ⟨q, hq, rfl⟩ := List.mem_map.mp hx
    exact W.sh _ (List.mem_map.mpr ⟨q, (List.mem_filter.mp hq).1, rfl⟩)
end
end MR

set_option Elab.async false
set_option linter.all false
set_option maxRecDepth 100000
set_option exponentiation.threshold 30000
namespace MR
open PySem
section
variable {S : Sto} {r a b c d : Nat} {L : Ld} {e n m : Str} {x s : Int}
theorem atI_lit {α : Type} (l : List α) (k : Nat) : L2.atI l (k : Int) = l[k]? := by
  unfold L2.atI L2.ixN
  rw [if_pos (by omega)]
  by_cases h : k < l.length
  · rw [if_pos (by omega)]
    simp
  · rw [if_neg (by omega), List.getElem?_eq_none_iff.mpr (by omega)]
    rfl
theorem atI0 {α : Type} {x : α} {l : List α} : L2.atI (x :: l) 0 = some x := atI_lit (x :: l) 0
structure Lens (L : Ld) : Prop where
  l : L.lords.length < 64
  h : L.hold.length < 64
  o : L.own.length < 64
  d : L.due.length < 64
theorem LandAt.ne (A : LandAt S r a b c d false false L) : (¬ a = r ∧ ¬ b = r ∧ ¬ c = r ∧ ¬ d = r) ∧ (¬ a = b ∧ ¬ a = c ∧ ¬ a = d ∧ ¬ b = c ∧ ¬ b = d ∧ ¬ c = d) ∧ (¬ b = a ∧ ¬ c = a ∧ ¬ d = a ∧ ¬ c = b ∧ ¬ d = b ∧ ¬ d = c) := by
  have nd := A.nd
  simp only [List.nodup_cons, List.mem_cons, List.not_mem_nil, or_false, not_or] at nd
  obtain ⟨⟨n1, n2, n3, n4⟩, ⟨n5, n6, n7⟩, ⟨n8, n9⟩, n10, _⟩ := nd
  exact ⟨⟨fun z => n1 z.symm, fun z => n2 z.symm, fun z => n3 z.symm, fun z => n4 z.symm⟩, ⟨n5, n6, n7, n8, n9, n10⟩, fun z => n5 z.symm, fun z => n6 z.symm, fun z => n7 z.symm, fun z => n8 z.symm, fun z => n9 z.symm, fun z => n10 z.symm⟩
end
end MR

set_option Elab.async false
set_option linter.all false
set_option maxRecDepth 100000
namespace MR
open PySem
section
variable {fe f : DE} {σ : Sl} {S : Sto} {a : Nat} {l : List (Kk × D)}
end
end MR

set_option Elab.async false
set_option linter.all false
set_option maxRecDepth 100000
set_option exponentiation.threshold 30000
namespace MR
open PySem
structure Bk where
  L : Ld
  known : List Str
  heirs : List (Str × Str)
  dead : List Str
  lieges : List (Str × Str)
def bkD (n : Nat) : List (Kk × D) := [(.inr "lords", .obj n), (.inr "holders", .obj (n + 1)), (.inr "own", .obj (n + 2)), (.inr "due", .obj (n + 3)), (.inr "known", .obj (n + 4)), (.inr "heirs", .obj (n + 5)), (.inr "dead", .obj (n + 6)), (.inr "lieges", .obj (n + 7))]
structure BookAt (S : Sto) (n : Nat) (la lb : Bool) (B : Bk) : Prop where
  c0 : S[n]? = some (.con la (.dK (enc encO B.L.lords)))
  c1 : S[n + 1]? = some (.con lb (.dK (enc D.str B.L.hold)))
  c2 : S[n + 2]? = some (.con false (.dK (enc D.int B.L.own)))
  c3 : S[n + 3]? = some (.con false (.dK (enc encF B.L.due)))
  c4 : S[n + 4]? = some (.con false (.lst (B.known.map D.str)))
  c5 : S[n + 5]? = some (.con false (.dK (enc D.str B.heirs)))
  c6 : S[n + 6]? = some (.con false (.lst (B.dead.map D.str)))
  c7 : S[n + 7]? = some (.con false (.dK (enc D.str B.lieges)))
  c8 : S[n + 8]? = some (.con false (.dK (bkD n)))
section
variable {S : Sto} {n : Nat} {la lb : Bool} {B : Bk} {e m : Str}
theorem BookAt.d0 (A : BookAt S n la lb B) (σ : Sl) : deref σ S (.obj n) = some (.dK (enc encO B.L.lords)) := by rw [derefU, A.c0]
theorem BookAt.d1 (A : BookAt S n la lb B) (σ : Sl) : deref σ S (.obj (n + 1)) = some (.dK (enc D.str B.L.hold)) := by rw [derefU, A.c1]
theorem BookAt.d2 (A : BookAt S n la lb B) (σ : Sl) : deref σ S (.obj (n + 2)) = some (.dK (enc D.int B.L.own)) := by rw [derefU, A.c2]
theorem BookAt.d8 (A : BookAt S n la lb B) (σ : Sl) : deref σ S (.obj (n + 8)) = some (.dK (bkD n)) := by rw [derefU, A.c8]
end
end MR

set_option Elab.async false
set_option linter.all false
set_option maxRecDepth 100000
set_option exponentiation.threshold 30000
namespace MR
open PySem
@[simp] theorem ofString_iff {a b : String} : (Str.ofString a = Str.ofString b) ↔ a = b := ⟨ofString_inj, congrArg _⟩
inductive Rw where
  | heir (d : Int) (m h : Str)
  | grant (d : Int) (e n m : Str) (a s : Int)
  | part (d : Int) (e n m : Str) (a : Int)
  | convey (d : Int) (e m : Str)
  | liege (d : Int) (m l : Str)
  | surr (d : Int) (e : Str)
  | death (d : Int) (m : Str)
def Rw.D : Rw → MR.D
  | .heir d m h => .tup [.str "heir", .int d, .str m, .str h]
  | .grant d e n m a s => .tup [.str "grant", .int d, .str e, .str n, .str m, .int a, .int s]
  | .part d e n m a => .tup [.str "part", .int d, .str e, .str n, .str m, .int a]
  | .convey d e m => .tup [.str "convey", .int d, .str e, .str m]
  | .liege d m l => .tup [.str "liege", .int d, .str m, .str l]
  | .surr d e => .tup [.str "surrender", .int d, .str e]
  | .death d m => .tup [.str "death", .int d, .str m]
def Ld.bound (L : Ld) (m : Str) : List Str := ((L.held m).filter fun k => decide (k ≠ ("" : Str))).map fun k => ((L.lord k).bind fun p => aval L.hold p).getD ""
def Bk.why (B : Bk) : Rw → Str
  | .heir _ m _ => if m ∈ B.dead then "dead" else "stands"
  | .grant _ e n m a _ => if e ∉ B.L.ks then "nowhere" else if n ∈ B.known then "taken" else if m ∈ B.dead then "dead" else if B.L.ac e < a then "acres" else "stands"
  | .part _ e n m a => if e ∉ B.L.ks then "nowhere" else if n ∈ B.known then "taken" else if m ∈ B.dead then "dead" else if B.L.ac e < a then "acres" else "stands"
  | .convey _ e m => if e ∉ B.L.ks then "nowhere" else if m ∈ B.dead then "dead" else "stands"
  | .liege _ m l => if m ∈ B.dead then "dead" else if l ∉ B.L.bound m then "nobond" else "stands"
  | .surr _ e => if e ∉ B.L.ks then "nowhere" else "stands"
  | .death _ m => if m ∈ B.dead then "dead" else "stands"
theorem opInG_tup {x : Str} {l : List Str} : opInG (.str x) (.tup (l.map D.str)) = some (.bl (decide (x ∈ l))) := by
  have h : opInG (.str x) (.tup (l.map D.str)) = opIn (.str x) (.lst (l.map D.str)) := by unfold opInG opIn; rfl
  rw [h, opIn_strs]
theorem inT2 {x a b : Str} : opInG (.str x) (.tup [.str a, .str b]) = some (.bl (decide (x ∈ [a, b]))) := opInG_tup (l := [a, b])
section
variable {S : Sto} {n : Nat} {la lb : Bool} {B : Bk} {e m : Str}
theorem mem_held {L : Ld} {m k : Str} : k ∈ L.held m ↔ aval L.hold k = some m := by
  unfold Ld.held
  rw [(srtS_perm _).mem_iff, List.mem_filter, decide_eq_true_iff]
  exact ⟨fun h => h.2, fun h => ⟨aval_some_iff.mp (by rw [h]; rfl), h⟩⟩
end
end MR

set_option Elab.async false
set_option linter.all false
set_option maxRecDepth 100000
set_option exponentiation.threshold 30000
namespace MR
open PySem
abbrev fp9 (n : Nat) : List Nat := [n, n + 1, n + 2, n + 3, n + 4, n + 5, n + 6, n + 7, n + 8]
section
variable {S : Sto} {n : Nat} {B : Bk} {e nw m : Str} {a s : Int}
end
end MR

set_option Elab.async false
set_option linter.all false
set_option maxRecDepth 100000
set_option exponentiation.threshold 30000
namespace MR
open PySem
section
variable {α : Type}
theorem map_aval {l : List (Str × Int)} (hn : (keys l).Nodup) : (keys l).map (fun k => (aval l k).getD 0) = l.map (·.2) := by
  unfold keys
  rw [List.map_map]
  apply List.map_congr_left
  intro p hp
  show (aval l p.1).getD 0 = p.2
  rw [aval_of_mem hn hp]
  rfl
theorem sum_snd_put {l : List (Str × Int)} {k : Str} {v : Int} (hn : (keys l).Nodup) : ((aput l k v).map (·.2)).sum = (l.map (·.2)).sum - (aval l k).getD 0 + v := by
  by_cases h : k ∈ keys l
  · rw [aput_in h]
    induction l with
    | nil => cases h
    | cons p l ih =>
      have hn' := List.nodup_cons.mp (show ((p :: l).map (·.1)).Nodup from hn)
      simp only [List.map_cons, List.sum_cons, aval_cons]
      by_cases e : p.1 = k
      · have nk : k ∉ keys l := by rw [← e]; exact hn'.1
        have e2 : (l.map fun q => if q.1 = k then (q.1, v) else q) = l := by
          conv => rhs; rw [← List.map_id l]
          apply List.map_congr_left
          intro q hq
          rw [if_neg (fun z : q.1 = k => nk (z ▸ List.mem_map.mpr ⟨q, hq, rfl⟩))]
          rfl
        rw [e2]
        simp only [e, if_true, Option.getD_some]
        omega
      · have hk : k ∈ keys l := by
          rcases List.mem_cons.mp (show k ∈ p.1 :: keys l from h) with z | z
          · exact absurd z.symm e
          · exact z
        simp only [e, if_false]
        rw [ih hn'.2 hk]
        omega
  · rw [aput_out h, aval_none_iff.mpr h]
    simp only [List.map_append, List.sum_append, List.map_cons, List.map_nil, List.sum_cons, List.sum_nil, Option.getD_none]
    omega
theorem sum_snd_drop {l : List (Str × Int)} {k : Str} (hn : (keys l).Nodup) : ((adrop l k).map (·.2)).sum = (l.map (·.2)).sum - (aval l k).getD 0 := by
  induction l with
  | nil => rfl
  | cons p l ih =>
    have hn' := List.nodup_cons.mp (show ((p :: l).map (·.1)).Nodup from hn)
    have ih := ih hn'.2
    unfold adrop at ih ⊢
    rw [List.filter_cons]
    simp only [List.map_cons, List.sum_cons, aval_cons]
    by_cases e : p.1 = k
    · have nk : aval l k = none := aval_none_iff.mpr (by rw [← e]; exact hn'.1)
      rw [nk] at ih
      simp only [e, ne_eq, not_true, decide_false, Bool.false_eq_true, if_false, if_true, Option.getD_some]
      rw [ih]
      simp
      omega
    · simp only [ne_eq, e, not_false_eq_true, decide_true, if_true, if_false, List.map_cons, List.sum_cons]
      rw [ih]
      omega
theorem mem_put {l : List (Str × α)} {k : Str} {v : α} {P : α → Prop} (h : ∀ p ∈ l, P p.2) (hv : P v) : ∀ p ∈ aput l k v, P p.2 := by
  intro p hp
  unfold aput at hp
  split at hp
  · obtain ⟨q, hq, rfl⟩ := List.mem_map.mp hp
    split
    · exact hv
    · exact h q hq
  · rcases List.mem_append.mp hp with hp | hp
    · exact h p hp
    · rw [List.mem_singleton.mp hp]; exact hv
theorem mem_drop {l : List (Str × α)} {k : Str} {P : α → Prop} (h : ∀ p ∈ l, P p.2) : ∀ p ∈ adrop l k, P p.2 := fun p hp => h p (List.mem_filter.mp hp).1
end
structure Nu (L : Ld) (k : Nat) (tot : Int) : Prop where
  nn : ∀ p ∈ L.own, 0 ≤ p.2
  sm : (L.own.map (·.2)).sum = tot
  sz : ∀ p ∈ L.due, Sz k p.2
section
variable {L : Ld} {k : Nat} {tot : Int} {e n m : Str} {a s : Int}
theorem Nu.ac0 (N : Nu L k tot) (x : Str) : 0 ≤ L.ac x := by
  unfold Ld.ac
  cases h : aval L.own x with
  | none => exact Int.le_refl _
  | some v => exact N.nn _ (aval_mem h)
theorem Nu.all (W : Wf L) (N : Nu L k tot) : (L.ks.map L.ac).sum = tot := by
  rw [← N.sm, ← map_aval (l := L.own) (by rw [W.ko]; exact W.nd), W.ko]
  rfl
theorem sum_le {l : List Str} {f g : Str → Int} (h : ∀ x ∈ l, f x ≤ g x) : (l.map f).sum ≤ (l.map g).sum := by
  induction l with
  | nil => exact Int.le_refl _
  | cons x l ih =>
    simp only [List.map_cons, List.sum_cons]
    have h1 := h x List.mem_cons_self
    have h2 := ih fun y hy => h y (List.mem_cons_of_mem _ hy)
    omega
theorem inc01 (L : Ld) (e x : Str) : inc L e x = 0 ∨ inc L e x = 1 := by unfold inc; split; exact .inr rfl; exact .inl rfl
theorem Nu.br_le (W : Wf L) (N : Nu L k tot) : L.breadth e ≤ tot := by
  rw [← N.all W]
  refine sum_le fun x hx => ?_
  have h := N.ac0 x
  rcases inc01 L e x with h1 | h1 <;> rw [h1] <;> simp <;> omega
theorem sum_pos {l : List Str} {f : Str → Int} (h : ∀ x ∈ l, 0 ≤ f x) : 0 ≤ (l.map f).sum := by
  have := sum_le (l := l) (f := fun _ => 0) (g := f) h
  rwa [sum_zeroI] at this
theorem Nu.br_nn (N : Nu L k tot) (e : Str) : 0 ≤ L.breadth e := by
  refine sum_pos fun x hx => ?_
  have h := N.ac0 x
  rcases inc01 L e x with h1 | h1 <;> rw [h1] <;> simp <;> omega
theorem Nu.br_ge (W : Wf L) (N : Nu L k tot) (he : e ∈ L.ks) : L.ac e ≤ L.breadth e := by
  rw [breadth_split W he]
  have := sum_pos (l := L.kids e) (f := L.breadth) fun x _ => N.br_nn x
  omega
theorem Nu.sv (W : Wf L) (N : Nu L k tot) (he : e ∈ L.ks) : Sz k (L.sv e) := by
  obtain ⟨v, hv⟩ := Option.isSome_iff_exists.mp (aval_some_iff.mpr (show e ∈ keys L.due by rw [W.kd]; exact he))
  unfold Ld.sv
  rw [hv]
  exact N.sz _ (aval_mem hv)
theorem Nu.mono {k' : Nat} (N : Nu L k tot) (h : k ≤ k') : Nu L k' tot := ⟨N.nn, N.sm, fun p hp => (N.sz p hp).mono h⟩
theorem own_new (W : Wf L) (N : Nu L k tot) (he : e ∈ L.ks) (hn : n ∉ L.ks) (ha : 0 ≤ a) (hae : a ≤ L.ac e) : (∀ p ∈ aput (aput L.own n a) e (L.ac e - a), 0 ≤ p.2) ∧ ((aput (aput L.own n a) e (L.ac e - a)).map (·.2)).sum = tot := by
  have hno : n ∉ keys L.own := by rw [W.ko]; exact hn
  have nd : (keys L.own).Nodup := by rw [W.ko]; exact W.nd
  have nd2 : (keys (aput L.own n a)).Nodup := by
    rw [keys_put, if_neg hno]
    exact List.nodup_append.mpr ⟨nd, List.pairwise_singleton _ _, fun x hx y hy => by rw [List.mem_singleton.mp hy]; exact fun z => hno (z ▸ hx)⟩
  refine ⟨mem_put (P := fun v => 0 ≤ v) (mem_put (P := fun v => 0 ≤ v) N.nn ha) (by omega), ?_⟩
  rw [sum_snd_put nd2, sum_snd_put nd, aval_put, if_neg (fun z : n = e => hn (z ▸ he)), aval_none_iff.mpr hno, N.sm]
  show tot - 0 + a - L.ac e + (L.ac e - a) = tot
  omega
theorem Nu.grant (W : Wf L) (N : Nu L k tot) (he : e ∈ L.ks) (hn : n ∉ L.ks) (ha : 0 ≤ a) (hae : a ≤ L.ac e) (hs : Sz k (s, 1)) : Nu (L.grant e n m a s) k tot := by
  obtain ⟨h1, h2⟩ := own_new W N he hn ha hae
  exact ⟨h1, h2, mem_put N.sz hs⟩
theorem Nu.part (W : Wf L) (N : Nu L k tot) (he : e ∈ L.ks) (hn : n ∉ L.ks) (ha : 1 ≤ a) (hae : a ≤ L.ac e) (ht : tot < 2 ^ 20) : Nu (L.part e n m a) (k + 20) tot := by
  obtain ⟨h1, h2⟩ := own_new W N he hn (by omega) hae
  have hz := N.sv W he
  have b1 := N.br_le W (e := e)
  have b2 := N.br_ge W he
  have hne : (L.sv e).2 * L.breadth e ≠ 0 := Int.ne_of_gt (Int.mul_pos hz.pos (by omega))
  have hbb : ((L.sv e).2 * L.breadth e).natAbs < 2 ^ (k + 20) := mul_bits hz.b (by omega)
  refine ⟨h1, h2, mem_put (mem_put (fun p hp => (N.sz p hp).mono (by omega)) ?_) ?_⟩
  · exact ⟨Nat.lt_of_le_of_lt (frT_le hne) (mul_bits hz.t (by omega)), Nat.lt_of_le_of_lt (frB_le hne) hbb, frB_pos hne⟩
  · exact ⟨Nat.lt_of_le_of_lt (frT_le hne) (mul_bits hz.t (by omega)), Nat.lt_of_le_of_lt (frB_le hne) hbb, frB_pos hne⟩
theorem Nu.convey (N : Nu L k tot) : Nu (L.convey e m) k tot := ⟨N.nn, N.sm, N.sz⟩
theorem Nu.fall (W : Wf L) (N : Nu L k tot) {p : Str} (hp : L.lord e = some p) : Nu (L.fall e p) k tot := by
  obtain ⟨hpm, hpl⟩ := W.up e p (lord_some hp)
  have pe : ¬ e = p := fun z => by rw [z] at hpl; omega
  have nd : (keys L.own).Nodup := by rw [W.ko]; exact W.nd
  have nd2 : (keys (adrop L.own e)).Nodup := by rw [keys_drop]; exact List.Pairwise.filter _ nd
  have h1 := N.ac0 p
  have h2 := N.ac0 e
  refine ⟨mem_put (P := fun v => 0 ≤ v) (mem_drop (P := fun v => 0 ≤ v) N.nn) (by omega), ?_, mem_drop N.sz⟩
  show ((aput (adrop L.own e) p (L.ac p + L.ac e)).map (·.2)).sum = tot
  rw [sum_snd_put nd2, sum_snd_drop nd, aval_drop, if_neg pe, N.sm]
  show tot - L.ac e - L.ac p + (L.ac p + L.ac e) = tot
  omega
end
structure Rw.ok (r : Rw) : Prop where
  h : match r with
    | .grant _ e n m a s => n ≠ "" ∧ PyData.strOk n = true ∧ PyData.strOk m = true ∧ 1 ≤ a ∧ 0 ≤ s ∧ s < 10000
    | .part _ e n m a => e ≠ "" ∧ n ≠ "" ∧ PyData.strOk n = true ∧ PyData.strOk m = true ∧ 1 ≤ a
    | .convey _ e m => e ≠ "" ∧ PyData.strOk m = true
    | .surr _ e => e ≠ ""
    | .heir _ m h => PyData.strOk m = true ∧ PyData.strOk h = true
    | .liege _ m l => PyData.strOk m = true ∧ PyData.strOk l = true
    | .death _ m => PyData.strOk m = true
/-- deeds on land -/
def Rw.lands : Rw → Bool
  | .grant .. => true
  | .part .. => true
  | .convey .. => true
  | .surr .. => true
  | _ => false
def Ld.act (L : Ld) : Rw → Ld
  | .grant _ e n m a s => L.grant e n m a s
  | .part _ e n m a => L.part e n m a
  | .convey _ e m => L.convey e m
  | .surr _ e => L.fall e ((L.lord e).getD "")
  | _ => L
def Rw.new : Rw → List Str
  | .grant _ _ n _ _ _ => [n]
  | .part _ _ n _ _ => [n]
  | _ => []
def Bk.actL (B : Bk) (r : Rw) : Bk := { B with L := B.L.act r, known := B.known ++ r.new }
structure Sound (B : Bk) (t : Nat) (tot : Int) : Prop where
  W : Wf B.L
  N : Nu B.L (20 + 20 * t) tot
  len : B.L.ks.length ≤ t + 1
  kn : ∀ k ∈ B.L.ks, k ≠ "" → k ∈ B.known
  kl : B.known.length ≤ t
  tt : tot < 10000
theorem stands_cases {c : Prop} [Decidable c] {x y : Str} (h : (if c then x else y) = "stands") (hx : x ≠ "stands") : ¬ c ∧ y = "stands" := by
  by_cases hc : c
  · rw [if_pos hc] at h; exact absurd h hx
  · rw [if_neg hc] at h; exact ⟨hc, h⟩
section
variable {B : Bk} {t : Nat} {tot : Int}
theorem new_facts (Z : Sound B t tot) {d : Int} {e n m : Str} {a s : Int} (h : B.why (.grant d e n m a s) = "stands") (n0 : n ≠ "") : e ∈ B.L.ks ∧ n ∉ B.L.ks ∧ n ∉ B.known ∧ a ≤ B.L.ac e := by
  unfold Bk.why at h
  obtain ⟨h1, h⟩ := stands_cases h (by decide)
  obtain ⟨h2, h⟩ := stands_cases h (by decide)
  obtain ⟨h3, h⟩ := stands_cases h (by decide)
  obtain ⟨h4, h⟩ := stands_cases h (by decide)
  exact ⟨Classical.byContradiction h1, fun z => h2 (Z.kn n z n0), h2, by omega⟩
theorem Sound.act (Z : Sound B t tot) {r : Rw} (hl : r.lands = true) (ok : r.ok) (h : B.why r = "stands") (ht : t < 60) : Sound (B.actL r) (t + 1) tot := by
  have W := Z.W
  have N := Z.N
  cases r with
  | grant d e n m a s =>
    obtain ⟨n0, sn, sm, a1, s0, s1⟩ := ok.h
    obtain ⟨he, hn, hk, hae⟩ := new_facts Z h n0
    have ek : (B.L.grant e n m a s).ks = B.L.ks ++ [n] := by show keys (aput B.L.lords n (some e)) = _; rw [keys_put, if_neg hn]
    refine ⟨W.grant he hn n0 sn sm, (N.grant W he hn (by omega) hae ?_).mono (by omega), ?_, ?_, ?_, Z.tt⟩
    · have : (2 : Nat) ^ 14 ≤ 2 ^ (20 + 20 * t) := Nat.pow_le_pow_right (by decide) (by omega)
      exact ⟨by show s.natAbs < _; omega, by show (1 : Int).natAbs < _; omega, by show (0 : Int) < 1; omega⟩
    · show (B.L.grant e n m a s).ks.length ≤ _
      rw [ek, List.length_append, List.length_singleton]
      have := Z.len
      omega
    · intro k hk2 k0
      show k ∈ B.known ++ [n]
      have hk3 : k ∈ (B.L.grant e n m a s).ks := hk2
      rw [ek] at hk3
      rcases List.mem_append.mp hk3 with z | z
      · exact List.mem_append_left _ (Z.kn k z k0)
      · exact List.mem_append_right _ z
    · show (B.known ++ [n]).length ≤ _
      rw [List.length_append, List.length_singleton]
      have := Z.kl
      omega
  | part d e n m a =>
    obtain ⟨e0, n0, sn, sm, a1⟩ := ok.h
    obtain ⟨he, hn, hk, hae⟩ := new_facts (s := 0) Z (show B.why (.grant d e n m a 0) = "stands" from h) n0
    have ek : (B.L.part e n m a).ks = B.L.ks ++ [n] := by show keys (aput B.L.lords n (B.L.lord e)) = _; rw [keys_put, if_neg hn]
    refine ⟨W.part he e0 hn n0 sn sm, (N.part W he hn a1 hae (by have := Z.tt; omega)).mono (by omega), ?_, ?_, ?_, Z.tt⟩
    · show (B.L.part e n m a).ks.length ≤ _
      rw [ek, List.length_append, List.length_singleton]
      have := Z.len
      omega
    · intro k hk2 k0
      show k ∈ B.known ++ [n]
      have hk3 : k ∈ (B.L.part e n m a).ks := hk2
      rw [ek] at hk3
      rcases List.mem_append.mp hk3 with z | z
      · exact List.mem_append_left _ (Z.kn k z k0)
      · exact List.mem_append_right _ z
    · show (B.known ++ [n]).length ≤ _
      rw [List.length_append, List.length_singleton]
      have := Z.kl
      omega
  | convey d e m =>
    obtain ⟨e0, sm⟩ := ok.h
    unfold Bk.why at h
    obtain ⟨h1, h⟩ := stands_cases h (by decide)
    have he : e ∈ B.L.ks := Classical.byContradiction h1
    exact ⟨W.convey he sm, (Nu.convey N).mono (by omega), Nat.le_succ_of_le Z.len, fun k hk k0 => by show k ∈ B.known ++ []; rw [List.append_nil]; exact Z.kn k hk k0, by show (B.known ++ []).length ≤ _; rw [List.append_nil]; exact Nat.le_succ_of_le Z.kl, Z.tt⟩
  | surr d e =>
    have e0 : e ≠ "" := ok.h
    unfold Bk.why at h
    obtain ⟨h1, h⟩ := stands_cases h (by decide)
    have he : e ∈ B.L.ks := Classical.byContradiction h1
    obtain ⟨p, hp, _⟩ := W.lord_ne he e0
    have ea : B.L.act (.surr d e) = B.L.fall e p := by show B.L.fall e ((B.L.lord e).getD "") = _; rw [hp]; rfl
    have ek : (B.L.fall e p).ks = B.L.ks.filter fun x => decide (x ≠ e) := by
      show keys (adrop (setAll B.L.lords (B.L.under e) (some p)) e) = _
      rw [keys_drop, setAll_keys]
    refine ⟨by show Wf (B.L.act (.surr d e)); rw [ea]; exact W.fall hp, by show Nu (B.L.act (.surr d e)) _ _; rw [ea]; exact (N.fall W hp).mono (by omega), ?_, ?_, ?_, Z.tt⟩
    · show (B.L.act (.surr d e)).ks.length ≤ _
      rw [ea, ek]
      exact Nat.le_trans (List.length_filter_le ..) (Nat.le_succ_of_le Z.len)
    · intro k hk k0
      show k ∈ B.known ++ []
      rw [List.append_nil]
      have hk : k ∈ (B.L.act (.surr d e)).ks := hk
      rw [ea, ek] at hk
      exact Z.kn k (List.mem_filter.mp hk).1 k0
    · show (B.known ++ []).length ≤ _
      rw [List.append_nil]
      exact Nat.le_succ_of_le Z.kl
  | _ => cases hl
end
end MR

set_option Elab.async false
set_option linter.all false
set_option maxRecDepth 100000
set_option exponentiation.threshold 30000
namespace MR
open PySem
section
variable {S : Sto} {n : Nat} {B : Bk} {t : Nat} {tot : Int}
end
end MR

set_option Elab.async false
set_option linter.all false
set_option maxRecDepth 100000
set_option exponentiation.threshold 30000
namespace MR
open PySem
section
theorem wipe1 (σ : Sl) (i : Nat) (d : D) : wipeD ((wipeD σ [i]).set i (.val d)) [i] = wipeD σ [i] := by
  apply List.ext_getElem?
  intro j
  rw [wipeD_get, wipeD_get]
  by_cases e : j = i
  · subst e
    simp only [List.mem_singleton, if_true]
    by_cases lt : j < σ.length
    · rw [List.getElem?_set_self (by rw [wipeD_len]; exact lt), List.getElem?_eq_getElem lt]
      rfl
    · rw [List.getElem?_eq_none_iff.mpr (by rw [List.length_set, wipeD_len]; omega), List.getElem?_eq_none_iff.mpr (by omega)]
  · simp only [List.mem_singleton, e, if_false]
    rw [List.getElem?_set_ne (fun z => e z.symm), wipeD_get]
    simp [e]
/-- a comprehension over texts -/
theorem lc_strs {it : DI} {i : Nat} {c : DT} {e : DE} {σ σ' : Sl} {S : Sto} {l : List Str} (p : Str → Bool) (h : Str → D) (hi : it σ S = .ok (l.map D.str) σ' S) (hno : noOwn σ' [i] = true) (hl : l.length ≤ most)
    (st : ∀ x ∈ l, c ((wipeD σ' [i]).set i (.val (.str x))) S = .ok (p x) ((wipeD σ' [i]).set i (.val (.str x))) S ∧ (p x = true → dV e ((wipeD σ' [i]).set i (.val (.str x))) S = .ok (h x) ((wipeD σ' [i]).set i (.val (.str x))) S)) :
    dLc it (gN i) c e [i] σ S = .ok (.lst ((l.filter p).map h)) σ' S := by
  have key := dLc_gen (it := it) (g := gN i) (c := c) (e := e) (vs := [i]) (σ := σ) (σ' := σ') (S := S) (items := l.map D.str) (fun d => (wipeD σ' [i]).set i (.val d))
    (fun d => match d with
      | .str x => p x
      | _ => false)
    (fun d => match d with
      | .str x => h x
      | _ => .non) hi hno (by rw [List.length_map]; exact hl) (by
      intro d hd
      obtain ⟨x, hx, rfl⟩ := List.mem_map.mp hd
      obtain ⟨s1, s2⟩ := st x hx
      exact ⟨rfl, wipe1 _ _ _, s1, s2⟩)
  rw [key]
  congr 2
  rw [List.filter_map, List.map_map]
  rfl
variable {S : Sto} {r a b c d n : Nat} {B : Bk} {e : Str}
end
end MR

set_option Elab.async false
set_option linter.all false
set_option maxRecDepth 100000
set_option exponentiation.threshold 30000
namespace MR
open PySem
section
theorem letter_small {c : Nat} (h : letter c = true) : c < 0x110000 := by
  unfold letter hasC at h
  have h2 : c ∈ abc.cps.toList := by simpa using h
  have : ∀ d ∈ abc.cps.toList, d < 0x110000 := by decide +kernel
  exact this c h2
theorem nm_ok {x : Str} (h : isNm x = true) : PyData.strOk x = true := by
  unfold isNm at h
  rw [Bool.and_eq_true] at h
  have h2 := h.2
  unfold letters at h2
  unfold PyData.strOk
  rw [← Array.all_toList, List.all_eq_true]
  intro c hc
  exact decide_eq_true (letter_small (List.all_eq_true.mp h2 c hc))
structure Pools (men lands : List Str) (w : Int) : Prop where
  lm : men.length = 6
  ll : lands.length = 9
  nm : ∀ x ∈ men, isNm x = true
  nl : ∀ x ∈ lands, isNm x = true
  dm : men.Nodup
  dl : lands.Nodup
  w1 : 1 ≤ w
  w2 : w ≤ 9999
theorem int_at {fs : List Int} (i : Nat) (hg : Good fs) (h : i < fs.length) : ∃ x : Int, L2.atI (fs.map D.int) (i : Int) = some (.int x) ∧ 0 ≤ x ∧ x < 1000003 := by
  refine ⟨fs[i]'h, ?_, hg _ (List.getElem_mem ..)⟩
  rw [atI_lit, List.getElem?_map, List.getElem?_eq_getElem h]
  rfl
theorem Good.cut {fs : List Int} (hg : Good fs) (a b : Nat) : Good ((fs.drop a).take b) := fun v hv => hg v (List.mem_of_mem_drop (List.mem_of_mem_take hv))
end
end MR

set_option Elab.async false
set_option linter.all false
set_option maxRecDepth 100000
set_option exponentiation.threshold 30000
namespace MR
open PySem
/-- what a drawn charter is made of -/
def Rw.fit (men lands : List Str) (B : Bk) (dd : Int) : Rw → Prop
  | .grant d e n m a s => d = dd ∧ (e ∈ B.L.ks ∨ e ∈ ("" : Str) :: lands) ∧ n ∈ lands ∧ m ∈ men ∧ 1 ≤ a ∧ a ≤ 9999 ∧ 0 ≤ s ∧ s ≤ 9999
  | .part d e n m a => d = dd ∧ (e ∈ B.L.ks ∨ e ∈ ("" : Str) :: lands) ∧ e ≠ "" ∧ n ∈ lands ∧ m ∈ men ∧ 1 ≤ a ∧ a ≤ 9999
  | .convey d e m => d = dd ∧ (e ∈ B.L.ks ∨ e ∈ ("" : Str) :: lands) ∧ e ≠ "" ∧ m ∈ men
  | .surr d e => d = dd ∧ (e ∈ B.L.ks ∨ e ∈ ("" : Str) :: lands) ∧ e ≠ ""
  | .heir d m h => d = dd ∧ m ∈ men ∧ h ∈ men ∧ h ≠ m
  | .liege d m l => d = dd ∧ m ∈ men ∧ l ≠ m ∧ (l = "" ∨ l ∈ men ∨ l ∈ B.L.bound m)
  | .death d m => d = dd ∧ m ∈ men
section
variable {S : Sto} {n t : Nat} {B : Bk} {tot : Int} {men lands : List Str} {w : Int}
end
end MR

set_option Elab.async false
set_option linter.all false
set_option maxRecDepth 100000
set_option exponentiation.threshold 30000
namespace MR
open PySem
section
variable {S : Sto} {n t : Nat} {B : Bk} {tot : Int} {men lands : List Str} {w : Int} {x0 x1 x2 x3 x4 x5 x6 x7 dd : Int}
def free (B : Bk) (lands : List Str) : List Str := lands.filter fun x => !decide (x ∈ B.known)
end
end MR

set_option Elab.async false
set_option linter.all false
set_option maxRecDepth 100000
set_option exponentiation.threshold 30000
namespace MR
open PySem
section
variable {S : Sto} {n t : Nat} {B : Bk} {tot : Int} {men lands : List Str} {w : Int} {x0 x1 x2 x3 x4 x5 x6 x7 : Int}
end
end MR

set_option Elab.async false
set_option linter.all false
set_option maxRecDepth 100000
set_option exponentiation.threshold 30000
namespace MR
open PySem
theorem eq_nil {l : List Str} (hs : ∀ x ∈ l, PyData.strOk x = true) : opEq' (.lst (l.map D.str)) (.lst []) = some (.bl (decide (l = []))) := by
  cases l with
  | nil => exact opEq_self (n := 1) rfl (by decide)
  | cons x l =>
    rw [opEq_ne (n := 1) (m := 1) (gr_strs hs) rfl (by decide) (by decide) (by intro z; cases z)]
    rfl
section
variable {S : Sto} {n t : Nat} {B : Bk} {tot : Int} {men lands kk : List Str} {w : Int} {x0 x1 x2 x3 x4 x5 x6 x7 : Int}
end
end MR

set_option Elab.async false
set_option linter.all false
set_option maxRecDepth 100000
set_option exponentiation.threshold 30000
namespace MR
open PySem
section
variable {S S' : Sto} {r a b c d n t : Nat} {B : Bk} {L : Ld} {tot : Int} {men lands kk : List Str} {w : Int}
theorem LandAt.off (A : LandAt S r a b c d false false L) {fp : List Nat} (o : Off fp S S') (h : ∀ i ∈ [r, a, b, c, d], i ∉ fp) : LandAt S' r a b c d false false L :=
  ⟨by rw [o.off _ (h _ (by simp))]; exact A.o, by rw [o.off _ (h _ (by simp))]; exact A.l, by rw [o.off _ (h _ (by simp))]; exact A.h, by rw [o.off _ (h _ (by simp))]; exact A.w, by rw [o.off _ (h _ (by simp))]; exact A.s, A.nd⟩
theorem BookAt.off (A : BookAt S n false false B) {fp : List Nat} (o : Off fp S S') (h : ∀ i ∈ fp9 n, i ∉ fp) : BookAt S' n false false B :=
  ⟨by rw [o.off _ (h _ (by simp))]; exact A.c0, by rw [o.off _ (h _ (by simp))]; exact A.c1, by rw [o.off _ (h _ (by simp))]; exact A.c2, by rw [o.off _ (h _ (by simp))]; exact A.c3, by rw [o.off _ (h _ (by simp))]; exact A.c4, by rw [o.off _ (h _ (by simp))]; exact A.c5, by rw [o.off _ (h _ (by simp))]; exact A.c6, by rw [o.off _ (h _ (by simp))]; exact A.c7, by rw [o.off _ (h _ (by simp))]; exact A.c8⟩
structure Wrld (S : Sto) (r a b c d n : Nat) (B : Bk) (t : Nat) (tot : Int) : Prop where
  A : LandAt S r a b c d false false B.L
  K : BookAt S n false false B
  Z : Sound B t tot
  dis : ∀ i ∈ [r, a, b, c, d], i ∉ fp9 n
theorem Sound.up (Z : Sound B t tot) : Sound B (t + 1) tot := ⟨Z.W, Z.N.mono (by omega), by have := Z.len; omega, Z.kn, by have := Z.kl; omega, Z.tt⟩
end
end MR

set_option Elab.async false
set_option linter.all false
set_option maxRecDepth 100000
set_option exponentiation.threshold 30000
namespace MR
open PySem
def L0 (w : Int) : Ld := ⟨[("", none)], [("", "")], [("", w)], [("", (0, 1))]⟩
def B0 (w : Int) : Bk := ⟨L0 w, [], [], [], []⟩
def landC (k : Nat) (w : Int) : Sto := [.ins "Land" [("lords", .obj (k + 1)), ("holders", .obj (k + 2)), ("acres_of", .obj (k + 3)), ("services", .obj (k + 4))], .con false (.dK [(.inr "", .non)]), .con false (.dK [(.inr "", .str "")]), .con false (.dK [(.inr "", .int w)]), .con false (.dK [(.inr "", .tup [.int 0, .int 1])])]
theorem land_init {w : Int} (h1 : 1 ≤ w) (h2 : w ≤ 9999) (S : Sto) : m_Land___init__ [.obj S.length, .int w] (S ++ [.ins "Land" []]) = .ok .non (S ++ landC S.length w) := by
  refine dDef_next (σ' := [.val (.obj S.length), .val (.int w)]) ?_
  have p : ∀ (k : Kk) (w : D), putD ([] : List (Kk × D)) k w = [(k, w)] := fun _ _ => rfl
  have g1 : ∀ (o : Ob) (X : Sto), (S ++ o :: X)[S.length]? = some o := fun o X => by simp
  have g2 : ∀ (o o' : Ob) (X : Sto), (S ++ o :: X).set S.length o' = S ++ o' :: X := fun o o' X => by simp
  simp [b_Land___init__, h1, h2, p, objAtU, g1, g2, landC]
end MR

set_option Elab.async false
set_option linter.all false
set_option maxRecDepth 100000
set_option exponentiation.threshold 30000
namespace MR
open PySem
section
variable {L : Ld} {k : Nat} {tot : Int}
end
end MR

set_option Elab.async false
set_option linter.all false
set_option maxRecDepth 100000
set_option exponentiation.threshold 30000
namespace MR
open PySem
/-- what follows behind a statement -/
def seqK (g : DS) (r : Res Fl) : Res Fl := r.bind fun x σ S => match x with
  | .next => g σ S
  | x => .ok x σ S
@[simp] theorem seqK_next {g : DS} {σ : Sl} {S : Sto} : seqK g (.ok .next σ S) = g σ S := rfl
@[simp] theorem seqK_ret {g : DS} {w : D} {σ : Sl} {S : Sto} : seqK g (.ok (.ret w) σ S) = .ok (.ret w) σ S := rfl
@[simp] theorem seqK_exc {g : DS} {e : Exn} {σ : Sl} {S : Sto} : seqK g (.exc e σ S) = .exc e σ S := rfl
theorem RunF_seq {f g : DS} {σ : Sl} {S : Sto} {P : D → Sto → Prop} {r : Res Fl} (h : f σ S = r) (k : RunF (seqK g r) P) : RunF (sSeq f g σ S) P := by
  rw [sSeq_def, h]
  exact k
theorem run_seq {f g : DS} {σ : Sl} {S : Sto} {r r' : Res Fl} (h : f σ S = r) (k : seqK g r = r') : sSeq f g σ S = r' := by
  rw [sSeq_def, h]
  exact k
theorem dDef_exc {n : Nat} {f : DS} {ws : List D} {S S' : Sto} {e : Exn} {σ' : Sl} (h : f (ws.map Slot.val ++ List.replicate (n - ws.length) .emp) S = .exc e σ' S') : dDef n f ws S = .exc e S' := by
  unfold dDef
  rw [h]
end MR

set_option Elab.async false
set_option linter.all false
set_option maxRecDepth 100000
set_option exponentiation.threshold 30000
namespace MR
open PySem
section
variable {rs : List String} {fb : DS} {c k : String} {i : Nat} {fs : Addr → Exn → DS} {σ σ1 σ2 : Sl} {S S1 S2 : Sto} {f : Fl}
theorem sTry_ok (h : fb σ S = .ok f σ1 S1) : sTry rs fb c i fs σ S = .ok f σ1 S1 := by unfold sTry; rw [h]
theorem sTry_next (h : fb σ S = .exc ⟨k, none⟩ σ1 S1) (hr : k ∈ rs) (hs : excSub k c = true) (hf : ∀ a, ∃ σ3, fs a ⟨k, none⟩ (σ1.set i (.exn a)) S1 = .ok .next σ3 S2 ∧ σ3.set i .emp = σ2) : sTry rs fb c i fs σ S = .ok .next σ2 S2 := by
  unfold sTry
  rw [h]
  dsimp only
  rw [if_pos ⟨hr, rfl⟩, if_pos hs, if_pos ⟨.next, σ2, S2, hf⟩]
  obtain ⟨σ3, e, q⟩ := hf 0
  rw [e, ← q]
@[simp] theorem dIsE_at {a : Addr} {r : String} (h : σ[i]? = some (.exn a)) : dIsE a i r c σ S = .ok (.bl (excSub r c)) σ S := by
  unfold dIsE
  rw [h]
  exact if_pos rfl
end
section
variable {S : Sto} {r a b c d : Nat} {la lb : Bool} {L : Ld} {e : Str}
/-- a store that only grew -/
theorem LandAt.grow (A : LandAt S r a b c d la lb L) (X : Sto) : LandAt (S ++ X) r a b c d la lb L := by
  have g : ∀ {i : Nat} {o : Ob}, S[i]? = some o → (S ++ X)[i]? = some o := fun {i o} h => by
    rw [List.getElem?_append_left (List.getElem?_eq_some_iff.mp h).1]; exact h
  exact ⟨g A.o, g A.l, g A.h, g A.w, g A.s, A.nd⟩
end
theorem BookAt.grow {S : Sto} {n : Nat} {la lb : Bool} {B : Bk} (A : BookAt S n la lb B) (X : Sto) : BookAt (S ++ X) n la lb B := by
  have g : ∀ {i : Nat} {o : Ob}, S[i]? = some o → (S ++ X)[i]? = some o := fun {i o} h => by
    rw [List.getElem?_append_left (List.getElem?_eq_some_iff.mp h).1]; exact h
  exact ⟨g A.c0, g A.c1, g A.c2, g A.c3, g A.c4, g A.c5, g A.c6, g A.c7, g A.c8⟩
theorem Wrld.grow {S : Sto} {r a b c d n : Nat} {B : Bk} {t : Nat} {tot : Int} (A : Wrld S r a b c d n B t tot) (X : Sto) : Wrld (S ++ X) r a b c d n B t tot := ⟨A.A.grow X, A.K.grow X, A.Z, A.dis⟩
def HeldBy (men : List Str) (B : Bk) : Prop := ∀ m : Str, m ∈ B.L.hold.map (·.2) → m = "" ∨ m ∈ men
theorem vals_drop {l : List (Str × Str)} {k : Str} {P : Str → Prop} (h : ∀ x ∈ l.map (·.2), P x) : ∀ x ∈ (adrop l k).map (·.2), P x := fun x hx => by
  obtain ⟨p, hp, rfl⟩ := List.mem_map.mp hx
  exact h _ (List.mem_map.mpr ⟨p, (List.mem_filter.mp hp).1, rfl⟩)
theorem HeldBy.act {men lands : List Str} {B : Bk} {q : Rw} {dd : Int} (h : HeldBy men B) (f : q.fit men lands B dd) (hl : q.lands = true) : HeldBy men (B.actL q) := by
  cases q with
  | grant d e n m x s => obtain ⟨_, _, _, h2, _⟩ := f; exact vals_put (P := fun m => m = "" ∨ m ∈ men) h (.inr h2)
  | part d e n m x => obtain ⟨_, _, _, _, h2, _⟩ := f; exact vals_put (P := fun m => m = "" ∨ m ∈ men) h (.inr h2)
  | convey d e m => obtain ⟨_, _, _, h2⟩ := f; exact vals_put (P := fun m => m = "" ∨ m ∈ men) h (.inr h2)
  | surr d e =>
    exact vals_drop (P := fun m => m = "" ∨ m ∈ men) h
  | _ => cases hl
end MR

set_option Elab.async false
set_option linter.all false
set_option maxRecDepth 100000
set_option exponentiation.threshold 30000
namespace MR
open PySem
def Rw.day : Rw → Int
  | .heir d _ _ => d | .grant d _ _ _ _ _ => d | .part d _ _ _ _ => d | .convey d _ _ => d | .liege d _ _ => d | .surr d _ => d | .death d _ => d
def Rw.kd : Rw → Str
  | .heir .. => "heir" | .grant .. => "grant" | .part .. => "part" | .convey .. => "convey" | .liege .. => "liege" | .surr .. => "surrender" | .death .. => "death"
def Rw.ix : Rw → Nat
  | .heir .. => 0 | .grant .. => 1 | .part .. => 2 | .convey .. => 3 | .liege .. => 4 | .surr .. => 5 | .death .. => 6
/-- what stands behind the kind and the day -/
def Rw.rest : Rw → List MR.D
  | .heir _ m h => [.str m, .str h] | .grant _ e n m a s => [.str e, .str n, .str m, .int a, .int s] | .part _ e n m a => [.str e, .str n, .str m, .int a]
  | .convey _ e m => [.str e, .str m] | .liege _ m l => [.str m, .str l] | .surr _ e => [.str e] | .death _ m => [.str m]
theorem Rw.D_inj {a b : Rw} (h : a.D = b.D) : a = b := by
  cases a <;> cases b <;> simp [Rw.D] at h <;> first | (simp [h]; done) | skip
def Rw.dat : Rw → List PyData
  | .heir d m h => [.str "heir", .int d, .str m, .str h]
  | .grant d e n m a s => [.str "grant", .int d, .str e, .str n, .str m, .int a, .int s]
  | .part d e n m a => [.str "part", .int d, .str e, .str n, .str m, .int a]
  | .convey d e m => [.str "convey", .int d, .str e, .str m]
  | .liege d m l => [.str "liege", .int d, .str m, .str l]
  | .surr d e => [.str "surrender", .int d, .str e]
  | .death d m => [.str "death", .int d, .str m]
theorem Rw.dat_eq (r : Rw) : toData r.D = some (.tuple r.dat) := by cases r <;> rfl
def Rw.key (r : Rw) : PyData := .tuple [.int r.day, .int r.ix, .tuple r.dat]
/-- r is judged ahead of q -/
def Rw.lt (r q : Rw) : Bool := PySem.W.dataLt r.key q.key
theorem alike_dat (a b : Rw) : PySem.W.alike (.tuple a.dat) (.tuple b.dat) = true := by
  cases a <;> cases b <;> simp [Rw.dat, PySem.W.alike, PySem.W.alikeAll]
theorem alike_key (a b : Rw) : PySem.W.alike a.key b.key = true := by
  have := alike_dat a b
  simp only [Rw.key, PySem.W.alike, PySem.W.alikeAll] at this ⊢
  simp [this]
theorem Rw.lt_irrefl (a : Rw) : a.lt a = false := PyProof.Rows.lex_irrefl _
theorem Rw.lt_trans {a b c : Rw} (h : a.lt b = true) (h2 : b.lt c = true) : a.lt c = true := PyProof.Rows.lex_trans _ _ _ h h2
theorem toks_eq {x y : PyData} (ha : PySem.W.alike x y = true) (h : PySem.W.keyToks x = PySem.W.keyToks y) : PyData.eqv x y = true := by
  cases e : PyData.eqv x y with
  | true => rfl
  | false =>
    have q := (PySem.W.toks_eqv x y ha).2 e [] [Sum.inl 0]
    rw [h, PySem.W.lex_pre] at q
    have q2 : PyProof.Rows.lexLt PyProof.Rows.itemOrd (PySem.W.keyToks y) (PySem.W.keyToks y) = false := PyProof.Rows.lex_irrefl _
    rw [q2] at q
    exact absurd q (by decide)
theorem dataLt_tail {x y : PyData} (h : PySem.W.alike x y = true) : PyProof.Rows.lexLt PyProof.Rows.itemOrd (PySem.W.keyToksAll [x]) (PySem.W.keyToksAll [y]) = PySem.W.dataLt x y := by
  rw [PySem.W.dataLt_cons h]
  split
  · rename_i e
    have q := (PySem.W.toks_eqv x y h).1 e
    unfold PySem.W.dataLt
    rw [q, PyProof.Rows.lex_irrefl, PyProof.Rows.lex_irrefl]
  · rfl
theorem lt_eq (a b : Rw) : a.lt b = if a.day = b.day then (if a.ix = b.ix then PySem.W.dataLt (.tuple a.dat) (.tuple b.dat) else decide (a.ix < b.ix)) else decide (a.day < b.day) := by
  unfold Rw.lt Rw.key
  rw [PySem.W.dataLt_tuple, PySem.W.dataLt_cons (by simp [PySem.W.alike]), PySem.W.dataLt_cons (by simp [PySem.W.alike]), dataLt_tail (alike_dat a b)]
  simp only [PySem.W.dataLt_int, PyData.eqv, beq_iff_eq, Int.natCast_inj, Int.ofNat_lt]
def Rw.sok (r : Rw) : Prop := gr 1 r.D = true
theorem Rw.total {a b : Rw} (ha : a.sok) (hb : b.sok) (h1 : a.lt b = false) (h2 : b.lt a = false) : a = b := by
  have e := PyProof.Rows.lex_total _ _ h1 h2
  have q := toks_eq (alike_key a b) e
  have q2 : PyData.eqv (.tuple a.dat) (.tuple b.dat) = true := by
    unfold Rw.key at q
    simp only [PyData.eqv, PyData.eqvAll, Bool.and_eq_true] at q ⊢
    exact q.2.2.1
  obtain ⟨z, hz, hi⟩ := deepEq_gr ha hb (by decide) (by decide)
  unfold deepEq at hz
  rw [Rw.dat_eq, Rw.dat_eq] at hz
  simp only [Option.bind_some] at hz
  split at hz
  · cases hz
    exact Rw.D_inj (hi.mp q2)
  · cases hz
def Asc (l : List Rw) : Prop := l.Pairwise fun a b => b.lt a = false
theorem asc_uniq : ∀ {l m : List Rw}, (∀ r ∈ l, r.sok) → Asc l → Asc m → l.Perm m → l = m
  | [], m, _, _, _, p => (List.Perm.eq_nil p.symm).symm
  | a :: l, [], _, _, _, p => absurd p.length_eq (by simp)
  | a :: l, b :: m, hs, ha, hb, p => by
    have ha' := List.pairwise_cons.mp ha
    have hb' := List.pairwise_cons.mp hb
    have e : a = b := by
      rcases List.mem_cons.mp (p.mem_iff.mp (List.mem_cons_self (a := a) (l := l))) with z | z
      · exact z
      · rcases List.mem_cons.mp (p.mem_iff.mpr (List.mem_cons_self (a := b) (l := m))) with y | y
        · exact y.symm
        · exact Rw.total (hs a List.mem_cons_self) (hs b (List.mem_cons_of_mem _ y)) (hb'.1 a z) (ha'.1 b y)
    subst e
    rw [asc_uniq (fun r hr => hs r (List.mem_cons_of_mem _ hr)) ha'.2 hb'.2 (List.Perm.cons_inv p)]
/-- in the order of judging -/
noncomputable def srtR (l : List Rw) : List Rw := l.mergeSort fun a b => !b.lt a
theorem srtR_perm (l : List Rw) : (srtR l).Perm l := List.mergeSort_perm _ _
theorem lt_asym {a b : Rw} (h : a.lt b = true) : b.lt a = false := by
  cases e : b.lt a with
  | false => rfl
  | true =>
    have := Rw.lt_trans h e
    rw [Rw.lt_irrefl] at this
    cases this
theorem lt_ntrans {a b c : Rw} (ha : a.sok) (hb : b.sok) (h1 : b.lt a = false) (h2 : c.lt b = false) : c.lt a = false := by
  cases e : c.lt a with
  | false => rfl
  | true =>
    cases e2 : a.lt b with
    | true => have := Rw.lt_trans e e2; rw [h2] at this; cases this
    | false => rw [Rw.total ha hb e2 h1] at e; rw [h2] at e; cases e
theorem srtR_asc {l : List Rw} (hs : ∀ r ∈ l, r.sok) : Asc (srtR l) := by
  -- over the rows that are in order
  have key : ∀ m : List {r : Rw // r.sok}, (m.mergeSort fun a b => !b.1.lt a.1).Pairwise fun a b => b.1.lt a.1 = false := fun m => by
    have h := List.pairwise_mergeSort (le := fun a b : {r : Rw // r.sok} => !b.1.lt a.1) (fun a b c h1 h2 => by
      simp only [Bool.not_eq_true'] at h1 h2 ⊢
      exact lt_ntrans a.2 b.2 h1 h2) (fun a b => by
      cases e : b.1.lt a.1 with
      | false => simp [e]
      | true => simp [e, lt_asym e]) m
    exact h.imp fun {a b} q => by simpa using q
  have e := sort_map (fun r : {r : Rw // r.sok} => r.1) (fun a b => !b.lt a) (l.attach.map fun x => ⟨x.1, hs x.1 x.2⟩)
  have e2 : (l.attach.map fun x => (⟨x.1, hs x.1 x.2⟩ : {r : Rw // r.sok})).map (fun r => r.1) = l := by
    rw [List.map_map]
    exact List.attach_map_subtype_val l
  rw [e2] at e
  unfold Asc srtR
  rw [← e]
  exact List.pairwise_map.mpr (key _)
def kinds7 : List Str := ["heir", "grant", "part", "convey", "liege", "surrender", "death"]
open Classical in
theorem kinds_eq (S : Sto) : m__law_kinds [] S = .ok (.lst (kinds7.map D.str)) S := by
  have k7 : 7 ≤ most := by decide
  refine dDef_ret (σ' := []) ?_
  simp [b__law_kinds, k7, kinds7]
end MR

set_option Elab.async false
set_option linter.all false
set_option maxRecDepth 100000
set_option exponentiation.threshold 30000
namespace MR
open PySem
structure BkAt2 (S : Sto) (bk a : Nat) (wd : D) (bd h : List (Kk × D)) (dl : List Str) : Prop where
  o : S[bk]? = some (.con false (.dK bd))
  vh : valD bd (.inr "heirs") = some (.obj a)
  vd : valD bd (.inr "dead") = some wd
  dd : ∀ σ, deref σ S wd = some (.lst (dl.map D.str))
  h : S[a]? = some (.con false (.dK h))
section
variable {S : Sto} {bk a : Nat} {wd : D} {bd h : List (Kk × D)} {dl : List Str}
theorem BkAt2.d (B : BkAt2 S bk a wd bd h dl) (σ : Sl) : deref σ S (.obj bk) = some (.dK bd) := deref_obj B.o
end

/-- who takes after m -/
def tkr (hs : List (Str × Str)) (dead : List Str) (m : Str) : Option Str := (tkF (fun x => aval hs x) (fun x => decide (x ∈ dead)) (hs.length + 1) [m] m).getD none
theorem tkr_ok (hs : List (Str × Str)) (dead : List Str) (m : Str) : tkF (fun x => aval hs x) (fun x => decide (x ∈ dead)) (hs.length + 1) [m] m = some (tkr hs dead m) := by
  obtain ⟨res, e⟩ := tkF_ends (nx := fun x => aval hs x) (dead := fun x => decide (x ∈ dead)) (vs := hs.map (·.2)) (fun x y h => List.mem_map.mpr ⟨_, aval_mem h, rfl⟩) (hs.length + 1) [m] m (fun _ _ _ => trivial) (Nat.lt_succ_of_le (Nat.le_trans (List.length_filter_le ..) (by rw [List.length_map]; exact Nat.le_refl _)))
  unfold tkr
  rw [e]
  rfl
theorem tkF_in {nx : Str → Option Str} {dead : Str → Bool} {P : Str → Prop} (hv : ∀ x y, nx x = some y → P y) : ∀ (n : Nat) (met : List Str) (last : Str) (x : Str), tkF nx dead n met last = some (some x) → P x
  | 0, _, _, _, e => by cases e
  | n + 1, met, last, x, e => by
    rw [tkF] at e
    cases h : nx last with
    | none => rw [h] at e; cases e
    | some one =>
      rw [h] at e
      dsimp only at e
      split at e
      · cases e
      · split at e
        · exact tkF_in hv n _ _ x e
        · cases e; exact hv _ _ h
theorem tkr_in {hs : List (Str × Str)} {dead : List Str} {m x : Str} (e : tkr hs dead m = some x) : x ∈ hs.map (·.2) := by
  have h := tkr_ok hs dead m
  rw [e] at h
  exact tkF_in (P := fun x => x ∈ hs.map (·.2)) (fun a b q => List.mem_map.mpr ⟨_, aval_mem q, rfl⟩) _ _ _ _ h
/-- what becomes of the estates of one who is dead -/
def Ld.leave (t : Option Str) (L : Ld) (e : Str) : Ld := match t with
  | none => L.fall e ((L.lord e).getD "")
  | some x => L.convey e x
def Ld.bury (t : Option Str) : List Str → Ld → Ld
  | [], L => L
  | e :: es, L => Ld.bury t es (L.leave t e)
def Bk.act (B : Bk) : Rw → Bk
  | .heir _ m h => { B with heirs := aput B.heirs m h }
  | .liege _ m l => { B with lieges := aput B.lieges m l }
  | .death _ m => { B with dead := B.dead ++ [m], L := B.L.bury (tkr B.heirs (B.dead ++ [m]) m) (B.L.held m) }
  | r => B.actL r
theorem fall_ks {L : Ld} {e p : Str} : (L.fall e p).ks = L.ks.filter fun x => decide (x ≠ e) := by
  show keys (adrop (setAll L.lords (L.under e) (some p)) e) = _
  rw [keys_drop, setAll_keys]
structure LGood (L : Ld) (k : Nat) (tot : Int) : Prop where
  W : Wf L
  N : Nu L k tot
  hc : aval L.hold "" = some ""
theorem leave_good {L : Ld} {k : Nat} {tot : Int} (G : LGood L k tot) {t : Option Str} {e : Str} (he : e ∈ L.ks) (e0 : e ≠ "") (st : ∀ x, t = some x → PyData.strOk x = true) : LGood (L.leave t e) k tot ∧ ((L.leave t e).ks = L.ks ∨ (L.leave t e).ks = L.ks.filter fun x => decide (x ≠ e)) := by
  cases t with
  | none =>
    obtain ⟨p, hp, _⟩ := G.W.lord_ne he e0
    have ep : L.leave none e = L.fall e p := by show L.fall e ((L.lord e).getD "") = _; rw [hp]; rfl
    rw [ep]
    refine ⟨⟨G.W.fall hp, G.N.fall G.W hp, ?_⟩, .inr fall_ks⟩
    show aval (adrop L.hold e) "" = _
    rw [aval_drop, if_neg e0]
    exact G.hc
  | some x =>
    refine ⟨⟨G.W.convey he (st x rfl), G.N.convey, ?_⟩, .inl rfl⟩
    show aval (aput L.hold e x) "" = _
    rw [aval_put, if_neg e0]
    exact G.hc
theorem leave_in {L : Ld} {k : Nat} {tot : Int} (G : LGood L k tot) {t : Option Str} {e x : Str} (he : e ∈ L.ks) (e0 : e ≠ "") (st : ∀ x, t = some x → PyData.strOk x = true) (hx : x ∈ L.ks) (ne : x ≠ e) : x ∈ (L.leave t e).ks := by
  rcases (leave_good G he e0 st).2 with z | z
  · rw [z]; exact hx
  · rw [z, List.mem_filter]; exact ⟨hx, by simp [ne]⟩
theorem leave_sub {L : Ld} {k : Nat} {tot : Int} (G : LGood L k tot) {t : Option Str} {e : Str} (he : e ∈ L.ks) (e0 : e ≠ "") (st : ∀ x, t = some x → PyData.strOk x = true) : (∀ x ∈ (L.leave t e).ks, x ∈ L.ks) ∧ (L.leave t e).ks.length ≤ L.ks.length := by
  rcases (leave_good G he e0 st).2 with z | z
  · rw [z]; exact ⟨fun _ h => h, Nat.le_refl _⟩
  · rw [z]; exact ⟨fun x h => (List.mem_filter.mp h).1, List.length_filter_le ..⟩
theorem bury_good {k : Nat} {tot : Int} {t : Option Str} (st : ∀ x, t = some x → PyData.strOk x = true) : ∀ (es : List Str) (L : Ld), LGood L k tot → (∀ e ∈ es, e ∈ L.ks ∧ e ≠ "") → es.Nodup → LGood (L.bury t es) k tot ∧ (∀ x ∈ (L.bury t es).ks, x ∈ L.ks) ∧ (L.bury t es).ks.length ≤ L.ks.length
  | [], L, G, _, _ => ⟨G, fun _ h => h, Nat.le_refl _⟩
  | e :: es, L, G, h, hn => by
    have hn' := List.nodup_cons.mp hn
    obtain ⟨he, e0⟩ := h e List.mem_cons_self
    have G2 := (leave_good G he e0 st).1
    obtain ⟨s1, s2⟩ := leave_sub G he e0 st
    obtain ⟨q1, q2, q3⟩ := bury_good st es (L.leave t e) G2 (fun x hx => ⟨leave_in G he e0 st (h x (List.mem_cons_of_mem _ hx)).1 (fun z => hn'.1 (z ▸ hx)), (h x (List.mem_cons_of_mem _ hx)).2⟩) hn'.2
    exact ⟨q1, fun x hx => s1 x (q2 x hx), Nat.le_trans q3 s2⟩
/-- what holds of a book that comes about -/
structure Snd (B : Bk) (t : Nat) (tot : Int) : Prop where
  Z : Sound B t tot
  hc : aval B.L.hold "" = some ""
  dn : ("" : Str) ∉ B.dead
  dd : B.dead.Nodup
  kd : B.known.Nodup
  hl : B.heirs.length ≤ t
  dl : B.dead.length ≤ t
  ll : B.lieges.length ≤ t
  sh : ∀ p ∈ B.heirs, PyData.strOk p.2 = true
theorem aput_len {α : Type} {l : List (Str × α)} {k : Str} {v : α} : (aput l k v).length ≤ l.length + 1 := by
  unfold aput
  split
  · rw [List.length_map]; omega
  · rw [List.length_append]; simp
theorem held_nodup {L : Ld} (W : Wf L) (m : Str) : (L.held m).Nodup := by
  unfold Ld.held
  refine (srtS_perm _).nodup_iff.mpr (List.Pairwise.filter _ ?_)
  rw [W.kh]
  exact W.nd
theorem held_ks {L : Ld} (W : Wf L) {m k : Str} (h : k ∈ L.held m) : k ∈ L.ks := by
  rw [← W.kh]
  exact aval_some_iff.mp (by rw [mem_held.mp h]; rfl)
/-- a charter that may be handed in -/
structure Rw.fine (r : Rw) : Prop where
  ok : r.ok
  dm : ∀ d m, r = .death d m → m ≠ ""
theorem held_ne {L : Ld} (hc : aval L.hold "" = some "") {m k : Str} (m0 : m ≠ "") (h : k ∈ L.held m) : k ≠ "" := fun z => by
  have := mem_held.mp h
  rw [z, hc] at this
  exact m0 (Option.some.inj this).symm
theorem Snd.up {B : Bk} {t : Nat} {tot : Int} (Z : Snd B t tot) : Snd B (t + 1) tot := ⟨Z.Z.up, Z.hc, Z.dn, Z.dd, Z.kd, by have := Z.hl; omega, by have := Z.dl; omega, by have := Z.ll; omega, Z.sh⟩
theorem Snd.act {B : Bk} {t : Nat} {tot : Int} (Z : Snd B t tot) {r : Rw} (f : r.fine) (h : B.why r = "stands") (ht : t < 60) : Snd (B.act r) (t + 1) tot := by
  have hl := Z.hl
  have dl := Z.dl
  have ll := Z.ll
  cases r with
  | heir d m x =>
    refine ⟨⟨Z.Z.up.W, Z.Z.up.N, Z.Z.up.len, Z.Z.up.kn, Z.Z.up.kl, Z.Z.up.tt⟩, Z.hc, Z.dn, Z.dd, Z.kd, ?_, by show B.dead.length ≤ _; omega, by show B.lieges.length ≤ _; omega, ?_⟩
    · show (aput B.heirs m x).length ≤ _
      have := aput_len (l := B.heirs) (k := m) (v := x)
      omega
    · exact mem_put (P := fun y => PyData.strOk y = true) Z.sh f.ok.h.2
  | liege d m x =>
    refine ⟨⟨Z.Z.up.W, Z.Z.up.N, Z.Z.up.len, Z.Z.up.kn, Z.Z.up.kl, Z.Z.up.tt⟩, Z.hc, Z.dn, Z.dd, Z.kd, by show B.heirs.length ≤ _; omega, by show B.dead.length ≤ _; omega, ?_, Z.sh⟩
    show (aput B.lieges m x).length ≤ _
    have := aput_len (l := B.lieges) (k := m) (v := x)
    omega
  | death d m =>
    have m0 := f.dm d m rfl
    unfold Bk.why at h
    obtain ⟨h1, _⟩ := stands_cases h (by decide)
    have G : LGood B.L (20 + 20 * (t + 1)) tot := ⟨Z.Z.W, Z.Z.up.N, Z.hc⟩
    obtain ⟨q1, q2, q3⟩ := bury_good (t := tkr B.heirs (B.dead ++ [m]) m) (fun x e => by
      obtain ⟨p, hp, rfl⟩ := List.mem_map.mp (tkr_in e)
      exact Z.sh p hp) (B.L.held m) B.L G (fun e he => ⟨held_ks Z.Z.W he, held_ne Z.hc m0 he⟩) (held_nodup Z.Z.W m)
    refine ⟨⟨q1.W, q1.N, ?_, ?_, ?_, Z.Z.tt⟩, q1.hc, ?_, ?_, Z.kd, by show B.heirs.length ≤ _; omega, ?_, by show B.lieges.length ≤ _; omega, Z.sh⟩
    · have := Z.Z.len
      show (B.L.bury _ _).ks.length ≤ _
      omega
    · exact fun k hk k0 => Z.Z.kn k (q2 k hk) k0
    · have := Z.Z.kl
      show B.known.length ≤ _
      omega
    · show ("" : Str) ∉ B.dead ++ [m]
      intro z
      rcases List.mem_append.mp z with z | z
      · exact Z.dn z
      · exact m0 (List.mem_singleton.mp z).symm
    · show (B.dead ++ [m]).Nodup
      refine List.nodup_append.mpr ⟨Z.dd, by simp, fun a ha b hb => ?_⟩
      rw [List.mem_singleton.mp hb]
      exact fun z => h1 (z ▸ ha)
    · show (B.dead ++ [m]).length ≤ _
      rw [List.length_append, List.length_singleton]
      omega
  | grant d e n m a s =>
    have q := Z.Z.act (r := .grant d e n m a s) rfl f.ok h ht
    obtain ⟨n0, _⟩ := f.ok.h
    obtain ⟨he, hn, hk, hae⟩ := new_facts Z.Z h n0
    refine ⟨q, ?_, Z.dn, Z.dd, ?_, by show B.heirs.length ≤ _; omega, by show B.dead.length ≤ _; omega, by show B.lieges.length ≤ _; omega, Z.sh⟩
    · show aval (aput B.L.hold n m) "" = _
      rw [aval_put, if_neg n0]; exact Z.hc
    · show (B.known ++ [n]).Nodup
      refine List.nodup_append.mpr ⟨Z.kd, by simp, fun a ha b hb => ?_⟩
      rw [List.mem_singleton.mp hb]
      exact fun z => hk (z ▸ ha)
  | part d e n m a =>
    have q := Z.Z.act (r := .part d e n m a) rfl f.ok h ht
    obtain ⟨e0, n0, _⟩ := f.ok.h
    obtain ⟨he, hn, hk, hae⟩ := new_facts (s := 0) Z.Z (show B.why (.grant d e n m a 0) = "stands" from h) n0
    refine ⟨q, ?_, Z.dn, Z.dd, ?_, by show B.heirs.length ≤ _; omega, by show B.dead.length ≤ _; omega, by show B.lieges.length ≤ _; omega, Z.sh⟩
    · show aval (aput B.L.hold n m) "" = _
      rw [aval_put, if_neg n0]; exact Z.hc
    · show (B.known ++ [n]).Nodup
      refine List.nodup_append.mpr ⟨Z.kd, by simp, fun a ha b hb => ?_⟩
      rw [List.mem_singleton.mp hb]
      exact fun z => hk (z ▸ ha)
  | convey d e m =>
    have q := Z.Z.act (r := .convey d e m) rfl f.ok h ht
    obtain ⟨e0, _⟩ := f.ok.h
    refine ⟨q, ?_, Z.dn, Z.dd, ?_, by show B.heirs.length ≤ _; omega, by show B.dead.length ≤ _; omega, by show B.lieges.length ≤ _; omega, Z.sh⟩
    · show aval (aput B.L.hold e m) "" = _
      rw [aval_put, if_neg e0]; exact Z.hc
    · show (B.known ++ []).Nodup
      rw [List.append_nil]; exact Z.kd
  | surr d e =>
    have q := Z.Z.act (r := .surr d e) rfl f.ok h ht
    have e0 := f.ok.h
    refine ⟨q, ?_, Z.dn, Z.dd, ?_, by show B.heirs.length ≤ _; omega, by show B.dead.length ≤ _; omega, by show B.lieges.length ≤ _; omega, Z.sh⟩
    · show aval (adrop B.L.hold e) "" = _
      rw [aval_drop, if_neg e0]; exact Z.hc
    · show (B.known ++ []).Nodup
      rw [List.append_nil]; exact Z.kd
end MR

set_option Elab.async false
set_option linter.all false
set_option maxRecDepth 100000
set_option exponentiation.threshold 30000
namespace MR
open PySem
def Bk.step (B : Bk) (r : Rw) : Bk := if B.why r = "stands" then B.act r else B
section
variable {S : Sto} {n t : Nat} {B : Bk} {tot : Int}
theorem Snd.step (Z : Snd B t tot) {r : Rw} (f : r.fine) (ht : t < 60) : Snd (B.step r) (t + 1) tot := by
  unfold Bk.step
  split
  · rename_i h; exact Z.act f h ht
  · exact Z.up
end
end MR

set_option Elab.async false
set_option linter.all false
set_option maxRecDepth 100000
set_option exponentiation.threshold 30000
namespace MR
open PySem
structure BenchAt (S : Sto) (q : Nat) (B : Bk) : Prop where
  c0 : S[q]? = some (.ins "Bench" [("judge", .obj (q + 1)), ("known", .obj (q + 11))])
  c1 : S[q + 1]? = some (.ins "Judge" [("ground", .obj (q + 2)), ("kin", .obj (q + 7)), ("lieges", .obj (q + 10))])
  c2 : S[q + 2]? = some (.ins "Land" [("lords", .obj (q + 3)), ("holders", .obj (q + 4)), ("acres_of", .obj (q + 5)), ("services", .obj (q + 6))])
  c3 : S[q + 3]? = some (.con false (.dK (enc encO B.L.lords)))
  c4 : S[q + 4]? = some (.con false (.dK (enc D.str B.L.hold)))
  c5 : S[q + 5]? = some (.con false (.dK (enc D.int B.L.own)))
  c6 : S[q + 6]? = some (.con false (.dK (enc encF B.L.due)))
  c7 : S[q + 7]? = some (.ins "Kin" [("heirs", .obj (q + 8)), ("gone", .obj (q + 9))])
  c8 : S[q + 8]? = some (.con false (.dK (enc D.str B.heirs)))
  c9 : S[q + 9]? = some (.con false (.dK (seenD B.dead)))
  c10 : S[q + 10]? = some (.con false (.dK (enc D.str B.lieges)))
  c11 : S[q + 11]? = some (.con false (.dK (seenD B.known)))
abbrev fp12 (q : Nat) : List Nat := [q, q + 1, q + 2, q + 3, q + 4, q + 5, q + 6, q + 7, q + 8, q + 9, q + 10, q + 11]
section
variable {S S' : Sto} {q t : Nat} {B : Bk} {tot : Int}
theorem BenchAt.A (H : BenchAt S q B) : LandAt S (q + 2) (q + 3) (q + 4) (q + 5) (q + 6) false false B.L := ⟨H.c2, H.c3, H.c4, H.c5, H.c6, by simp⟩
theorem BenchAt.K (H : BenchAt S q B) : KinAt S (q + 7) (q + 8) (q + 9) (enc D.str B.heirs) (seenD B.dead) := ⟨H.c7, H.c8, H.c9⟩
theorem BenchAt.ob (H : BenchAt S q B) : objAt ["Bench"] S (.obj q) = some (q, "Bench", [("judge", .obj (q + 1)), ("known", .obj (q + 11))]) := by rw [objAtU, H.c0]; simp
theorem BenchAt.off (H : BenchAt S q B) {fp : List Nat} (o : Off fp S S') (h : ∀ i ∈ fp12 q, i ∉ fp) : BenchAt S' q B :=
  ⟨by rw [o.off _ (h _ (by simp))]; exact H.c0, by rw [o.off _ (h _ (by simp))]; exact H.c1, by rw [o.off _ (h _ (by simp))]; exact H.c2, by rw [o.off _ (h _ (by simp))]; exact H.c3, by rw [o.off _ (h _ (by simp))]; exact H.c4, by rw [o.off _ (h _ (by simp))]; exact H.c5, by rw [o.off _ (h _ (by simp))]; exact H.c6, by rw [o.off _ (h _ (by simp))]; exact H.c7, by rw [o.off _ (h _ (by simp))]; exact H.c8, by rw [o.off _ (h _ (by simp))]; exact H.c9, by rw [o.off _ (h _ (by simp))]; exact H.c10, by rw [o.off _ (h _ (by simp))]; exact H.c11⟩
/-- the land alone was changed -/
theorem BenchAt.land (H : BenchAt S q B) {L : Ld} (A : LandAt S' (q + 2) (q + 3) (q + 4) (q + 5) (q + 6) false false L) (o : Off [q + 3, q + 4, q + 5, q + 6] S S') : BenchAt S' q { B with L := L } :=
  ⟨by rw [o.off _ (by simp)]; exact H.c0, by rw [o.off _ (by simp)]; exact H.c1, A.o, A.l, A.h, A.w, A.s, by rw [o.off _ (by simp)]; exact H.c7, by rw [o.off _ (by simp)]; exact H.c8, by rw [o.off _ (by simp)]; exact H.c9, by rw [o.off _ (by simp)]; exact H.c10, by rw [o.off _ (by simp)]; exact H.c11⟩
end
end MR

set_option Elab.async false
set_option linter.all false
set_option maxRecDepth 100000
set_option exponentiation.threshold 30000
namespace MR
open PySem
section
variable {S S' : Sto} {q t : Nat} {B : Bk} {tot : Int}
theorem BenchAt.known (H : BenchAt S q B) (x : Str) : BenchAt (S.set (q + 11) (.con false (.dK (seenD (B.known ++ [x]))))) q { B with known := B.known ++ [x] } := by
  refine ⟨?_, ?_, ?_, ?_, ?_, ?_, ?_, ?_, ?_, ?_, ?_, ?_⟩ <;> simp [setG, H.c0, H.c1, H.c2, H.c3, H.c4, H.c5, H.c6, H.c7, H.c8, H.c9, H.c10, H.c11]
end
end MR

set_option Elab.async false
set_option linter.all false
set_option maxRecDepth 100000
set_option exponentiation.threshold 30000
namespace MR
open PySem
/-- nothing of S but at these places is changed; more may be there -/
structure Grow (fp : List Nat) (S S' : Sto) : Prop where
  len : S.length ≤ S'.length
  off : ∀ j, j < S.length → j ∉ fp → S'[j]? = S[j]?
section
variable {fp fp' : List Nat} {S S' S'' : Sto}
theorem Grow.refl : Grow fp S S := ⟨Nat.le_refl _, fun _ _ _ => rfl⟩
theorem Grow.trans (a : Grow fp S S') (b : Grow fp S' S'') : Grow fp S S'' := ⟨Nat.le_trans a.len b.len, fun j h n => (b.off j (Nat.lt_of_lt_of_le h a.len) n).trans (a.off j h n)⟩
theorem Off.grow (a : Off fp S S') : Grow fp S S' := ⟨Nat.le_of_eq a.len.symm, fun j _ n => a.off j n⟩
theorem Grow.app (X : Sto) : Grow fp S (S ++ X) := ⟨by rw [List.length_append]; omega, fun j h _ => List.getElem?_append_left h⟩
theorem Grow.mono (a : Grow fp S S') (h : ∀ i ∈ fp, i ∈ fp') : Grow fp' S S' := ⟨a.len, fun j l n => a.off j l fun z => n (h j z)⟩
theorem Grow.at (a : Grow fp S S') {j : Nat} {o : Ob} (e : S[j]? = some o) (n : j ∉ fp) : S'[j]? = some o := (a.off j (List.getElem?_eq_some_iff.mp e).1 n).trans e
theorem LandAt.kept {r a b c d : Nat} {L : Ld} (A : LandAt S r a b c d false false L) (g : Grow fp S S') (h : ∀ i ∈ [r, a, b, c, d], i ∉ fp) : LandAt S' r a b c d false false L :=
  ⟨g.at A.o (h _ (by simp)), g.at A.l (h _ (by simp)), g.at A.h (h _ (by simp)), g.at A.w (h _ (by simp)), g.at A.s (h _ (by simp)), A.nd⟩
theorem BookAt.kept {n : Nat} {B : Bk} (A : BookAt S n false false B) (g : Grow fp S S') (h : ∀ i ∈ fp9 n, i ∉ fp) : BookAt S' n false false B :=
  ⟨g.at A.c0 (h _ (by simp)), g.at A.c1 (h _ (by simp)), g.at A.c2 (h _ (by simp)), g.at A.c3 (h _ (by simp)), g.at A.c4 (h _ (by simp)), g.at A.c5 (h _ (by simp)), g.at A.c6 (h _ (by simp)), g.at A.c7 (h _ (by simp)), g.at A.c8 (h _ (by simp))⟩
theorem BenchAt.kept {q : Nat} {B : Bk} (H : BenchAt S q B) (g : Grow fp S S') (h : ∀ i ∈ fp12 q, i ∉ fp) : BenchAt S' q B :=
  ⟨g.at H.c0 (h _ (by simp)), g.at H.c1 (h _ (by simp)), g.at H.c2 (h _ (by simp)), g.at H.c3 (h _ (by simp)), g.at H.c4 (h _ (by simp)), g.at H.c5 (h _ (by simp)), g.at H.c6 (h _ (by simp)), g.at H.c7 (h _ (by simp)), g.at H.c8 (h _ (by simp)), g.at H.c9 (h _ (by simp)), g.at H.c10 (h _ (by simp)), g.at H.c11 (h _ (by simp))⟩
end
def twinC (k : Nat) (L : Ld) : Sto := [.ins "Land" [("lords", .obj (k + 5)), ("holders", .obj (k + 6)), ("acres_of", .obj (k + 7)), ("services", .obj (k + 8))], .con false (.dK [(.inr "", .non)]), .con false (.dK [(.inr "", .str "")]), .con false (.dK [(.inr "", .int 1)]), .con false (.dK [(.inr "", .tup [.int 0, .int 1])]),
  .con false (.dK (enc encO L.lords)), .con false (.dK (enc D.str L.hold)), .con false (.dK (enc D.int L.own)), .con false (.dK (enc encF L.due))]
theorem opDict_dK {l : List (Kk × D)} : opDict (.dK l) = some (.dK l) := rfl
theorem twin_eq {S : Sto} {r a b c d : Nat} {L : Ld} (A : LandAt S r a b c d false false L) : m_Land_twin [.obj r] S = .ok (.obj S.length) (S ++ twinC S.length L) := by
  have li := land_init (w := 1) (by decide) (by decide) S
  have rl : r < S.length := (List.getElem?_eq_some_iff.mp A.o).1
  have al : a < S.length := (List.getElem?_eq_some_iff.mp A.l).1
  have bl : b < S.length := (List.getElem?_eq_some_iff.mp A.h).1
  have cl : c < S.length := (List.getElem?_eq_some_iff.mp A.w).1
  have dl : d < S.length := (List.getElem?_eq_some_iff.mp A.s).1
  have g1 : ∀ (o : Ob) (X : Sto), (S ++ o :: X)[S.length]? = some o := fun o X => by simp
  have g2 : ∀ (o o' : Ob) (X : Sto), (S ++ o :: X).set S.length o' = S ++ o' :: X := fun o o' X => by simp
  have gr : ∀ X : Sto, (S ++ X)[r]? = S[r]? := fun X => List.getElem?_append_left rl
  have ga : ∀ X : Sto, (S ++ X)[a]? = S[a]? := fun X => List.getElem?_append_left al
  have gb : ∀ X : Sto, (S ++ X)[b]? = S[b]? := fun X => List.getElem?_append_left bl
  have gc : ∀ X : Sto, (S ++ X)[c]? = S[c]? := fun X => List.getElem?_append_left cl
  have gd : ∀ X : Sto, (S ++ X)[d]? = S[d]? := fun X => List.getElem?_append_left dl
  refine dDef_ret (σ' := [.val (.obj r), .val (.obj S.length)]) ?_
  simp [b_Land_twin, li, landC, objAtU, derefU, g1, g2, gr, ga, gb, gc, gd, A.o, A.l, A.h, A.w, A.s, opDict_dK, twinC]
end MR

set_option Elab.async false
set_option linter.all false
set_option maxRecDepth 100000
set_option exponentiation.threshold 30000
namespace MR
open PySem
/-- a row that may be judged -/
structure Rw.fine2 (r : Rw) : Prop where
  f : r.fine
  lm : ∀ d m l, r = .liege d m l → m ≠ ""
structure St where
  i : Nat
  r : Nat
  a : Nat
  b : Nat
  c : Nat
  d : Nat
  day : Int
  B : Bk
  gd : MR.D
  ld : MR.D
def objs : D → List Nat
  | .obj k => [k]
  | _ => []
def St.cells (s : St) : List Nat := [s.i, s.r, s.a, s.b, s.c, s.d] ++ objs s.gd ++ objs s.ld
/-- a dict that is kept as a value or by its place -/
def DictAt (S : Sto) (w : D) (l : List (Kk × D)) : Prop := w = .dK l ∨ ∃ k, w = .obj k ∧ S[k]? = some (.con false (.dK l))
structure StAt (S : Sto) (s : St) : Prop where
  o : S[s.i]? = some (.ins "Stand" [("since", .int s.day), ("ground_then", .obj s.r), ("gone_then", s.gd), ("lieges_then", s.ld)])
  A : LandAt S s.r s.a s.b s.c s.d false false s.B.L
  g : DictAt S s.gd (seenD s.B.dead)
  l : DictAt S s.ld (enc D.str s.B.lieges)
section
variable {S S' : Sto} {fp : List Nat} {s : St} {n q t : Nat} {B : Bk} {tot : Int} {w : D} {l : List (Kk × D)}
theorem DictAt.kept (A : DictAt S w l) (g : Grow fp S S') (h : ∀ x ∈ objs w, x ∉ fp) : DictAt S' w l := by
  rcases A with z | ⟨k, rfl, e⟩
  · exact .inl z
  · exact .inr ⟨k, rfl, g.at e (h k (by simp [objs]))⟩
theorem DictAt.de (A : DictAt S w l) (σ : Sl) : deref σ S w = some (.dK l) := by
  rcases A with rfl | ⟨k, rfl, e⟩
  · rfl
  · rw [derefU, e]
theorem StAt.kept (A : StAt S s) (g : Grow fp S S') (h : ∀ x ∈ s.cells, x ∉ fp) : StAt S' s :=
  ⟨g.at A.o (h _ (by simp [St.cells])), A.A.kept g (fun i hi => h i (by
    simp only [St.cells, List.mem_append, List.mem_cons, List.not_mem_nil, or_false] at hi ⊢
    exact .inl (.inl (.inr hi)))), A.g.kept g (fun x hx => h x (by simp [St.cells, hx])), A.l.kept g (fun x hx => h x (by simp [St.cells, hx]))⟩
abbrev fpC (n : Nat) : List Nat := [n, n + 1, n + 10] ++ fp12 (n + 11)
abbrev wdD (ws : List (Rw × Str)) : List D := ws.map fun p => .tup [p.1.D, .str p.2]
structure CtAt (S : Sto) (n : Nat) (w b : Int) (ws : List (Rw × Str)) (st : List St) : Prop where
  o : S[n]? = some (.ins "Court" [("wide", .int w), ("rich", .int b), ("words", .obj (n + 1)), ("stands", .obj (n + 10))])
  wd : S[n + 1]? = some (.con false (.lst (wdD ws)))
  sd : S[n + 10]? = some (.con false (.lst (st.map fun s => .obj s.i)))
  each : ∀ s ∈ st, StAt S s
  out : ∀ s ∈ st, ∀ x ∈ s.cells, x ∉ fpC n
  ne : st ≠ []
theorem CtAt.ob {w b : Int} {ws : List (Rw × Str)} {st : List St} (C : CtAt S n w b ws st) : objAt ["Court"] S (.obj n) = some (n, "Court", [("wide", .int w), ("rich", .int b), ("words", .obj (n + 1)), ("stands", .obj (n + 10))]) := by rw [objAtU, C.o]; simp
/-- the words of charters, judged one behind the other -/
def vds (B : Bk) : List Rw → List (Rw × Str)
  | [] => []
  | r :: rs => (r, B.why r) :: vds (B.step r) rs
def fin (B : Bk) (rs : List Rw) : Bk := rs.foldl Bk.step B
def noteV (st : List (Int × Bk)) (d : Int) (B : Bk) : List (Int × Bk) := (if (st.getLast?.map (·.1)) = some d then st.dropLast else st) ++ [(d, B)]
/-- what stands behind each day -/
def stds (B : Bk) (st : List (Int × Bk)) : List Rw → List (Int × Bk)
  | [] => st
  | r :: rs => stds (B.step r) (if B.why r = "stands" then noteV st r.day (B.step r) else st) rs
abbrev St.v (s : St) : Int × Bk := (s.day, s.B)
end
end MR

set_option Elab.async false
set_option linter.all false
set_option maxRecDepth 100000
set_option exponentiation.threshold 30000
namespace MR
open PySem
end MR

set_option Elab.async false
set_option linter.all false
set_option maxRecDepth 100000
set_option exponentiation.threshold 30000
namespace MR
open PySem
theorem lockL_for {fe : DE} {g : DG} {f : DS} {σ σ' : Sl} {S : Sto} {r : Nat} {l : List D} {x : Fl} (hs : S[r]? = some (.con false (.lst l))) (h1 : fe σ S = .ok (.obj r) σ S) (h2 : fe σ (S.set r (.con true (.lst l))) = .ok (.obj r) σ (S.set r (.con true (.lst l))))
    (h : forL g f l σ (S.set r (.con true (.lst l))) = .ok x σ' (S.set r (.con true (.lst l)))) : sLockL fe (sFor (iLstL fe) g f) σ S = .ok x σ' S := by
  have lt : r < S.length := (List.getElem?_eq_some_iff.mp hs).1
  have hlk : (S.set r (.con true (.lst l)))[r]? = some (.con true (.lst l)) := List.getElem?_set_self lt
  have ep : pickO fe σ S = some (r, l) := by
    unfold pickO
    rw [h1]
    simp only [hs]
  have hi : iLstL fe σ (S.set r (.con true (.lst l))) = .ok l σ (S.set r (.con true (.lst l))) := by
    show (fe σ _).bind _ = _
    rw [h2]
    show (match lockdL σ (S.set r (.con true (.lst l))) (.obj r) with
      | some l' => Res.ok l' σ (S.set r (.con true (.lst l)))
      | none => .fail) = _
    unfold lockdL
    simp only [hlk]
  unfold sLockL
  rw [ep]
  dsimp only
  rw [sFor_def, hi]
  dsimp only [Res.bind]
  rw [h]
  dsimp only [unlkL]
  unfold openL
  simp only [hlk]
  rw [set_back hs]
noncomputable instance : DecidableEq Rw := fun _ _ => Classical.propDecidable _
section
variable {S : Sto} {n : Nat} {w b : Int} {ws : List (Rw × Str)} {st : List St}
theorem CtAt.obL (C : CtAt S n w b ws st) {r : Nat} {o : Ob} (h : r = n + 1 ∨ r = n + 10) : objAt ["Court"] (S.set r o) (.obj n) = some (n, "Court", [("wide", .int w), ("rich", .int b), ("words", .obj (n + 1)), ("stands", .obj (n + 10))]) := by
  rw [objAtU, setG, if_neg (by omega), C.o]
  simp
def pickS (f : St) (st : List St) (day : Int) : St := st.foldl (fun f s => if s.day ≤ day then s else f) f
theorem stand_loop {day : Int} {p0 : D} : ∀ (l : List St) (f : St) (s3 : Slot) (T : Sto), (∀ s ∈ l, T[s.i]? = some (.ins "Stand" [("since", .int s.day), ("ground_then", .obj s.r), ("gone_then", s.gd), ("lieges_then", s.ld)])) →
    ∃ u3, forL (gN 3) fb_Court_stand_1 (l.map fun s => .obj s.i) [.val p0, .val (.int day), .val (.obj f.i), s3] T = .ok .next [.val p0, .val (.int day), .val (.obj (pickS f l day).i), u3] T
  | [], f, s3, T, _ => ⟨s3, rfl⟩
  | s :: l, f, s3, T, h => by
    have o : objAt ["Stand"] T (.obj s.i) = some (s.i, "Stand", [("since", .int s.day), ("ground_then", .obj s.r), ("gone_then", s.gd), ("lieges_then", s.ld)]) := by rw [objAtU, h s List.mem_cons_self]; simp
    obtain ⟨u3, e⟩ := stand_loop (day := day) (p0 := p0) l (if s.day ≤ day then s else f) (.val (.obj s.i)) T (fun x hx => h x (List.mem_cons_of_mem _ hx))
    refine ⟨u3, ?_⟩
    rw [List.map_cons, forL_cons rfl (σ2 := [.val p0, .val (.int day), .val (.obj (if s.day ≤ day then s else f).i), .val (.obj s.i)]) (S2 := T)]
    · exact e
    · by_cases c : s.day ≤ day
      · simp [fb_Court_stand_1, o, c]
      · simp [fb_Court_stand_1, o, c]
theorem stand_eq (C : CtAt S n w b ws st) (day : Int) : ∃ f rest, st = f :: rest ∧ m_Court_stand [.obj n, .int day] S = .ok (.obj (pickS f st day).i) S := by
  obtain ⟨f, rest, est⟩ : ∃ f rest, st = f :: rest := by
    cases st with
    | nil => exact absurd rfl C.ne
    | cons f rest => exact ⟨f, rest, rfl⟩
  refine ⟨f, rest, est, ?_⟩
  obtain ⟨u3, e⟩ := stand_loop (day := day) (p0 := .obj n) st f .emp (S.set (n + 10) (.con true (.lst (st.map fun s => .obj s.i)))) (fun s hs => by
    rw [setG, if_neg (fun z => C.out s hs s.i (by simp [St.cells]) (by rw [← z]; simp))]
    exact (C.each s hs).o)
  have o1 := C.ob
  have o2 := C.obL (r := n + 10) (o := .con true (.lst (st.map fun s => .obj s.i))) (.inr rfl)
  have lk := lockL_for (fe := dFld ["Court"] "stands" (dVar 0)) (g := gN 3) (f := fb_Court_stand_1) (σ := [.val (.obj n), .val (.int day), .val (.obj f.i), .emp]) C.sd (by simp [o1]) (by simp [o2]) e
  have at0 : L2.atI (st.map fun s => D.obj s.i) 0 = some (.obj f.i) := by rw [est]; exact atI0
  have sd := C.sd
  refine dDef_ret (σ' := [.val (.obj n), .val (.int day), .val (.obj (pickS f st day).i), u3]) ?_
  unfold b_Court_stand
  refine run_seq (r := .ok .next [.val (.obj n), .val (.int day), .val (.obj f.i), .emp] S) ?_ ?_
  · generalize (st.map fun s => D.obj s.i) = l at *
    simp [o1, derefU, sd, at0]
  · rw [seqK_next]
    refine run_seq lk ?_
    simp
theorem pickS_mem {day : Int} : ∀ (l : List St) (f : St), pickS f l day = f ∨ pickS f l day ∈ l
  | [], f => .inl rfl
  | s :: l, f => by
    rcases pickS_mem (day := day) l (if s.day ≤ day then s else f) with z | z
    · by_cases c : s.day ≤ day
      · rw [if_pos c] at z
        exact .inr (by show pickS (if s.day ≤ day then s else f) l day ∈ _; rw [if_pos c, z]; exact List.mem_cons_self)
      · rw [if_neg c] at z
        exact .inl (by show pickS (if s.day ≤ day then s else f) l day = _; rw [if_neg c, z])
    · exact .inr (List.mem_cons_of_mem _ z)
/-- the book that stands on a day -/
def bookOn (f : Bk) (st : List (Int × Bk)) (day : Int) : Bk := st.foldl (fun f s => if s.1 ≤ day then s.2 else f) f
theorem pickS_B {day : Int} : ∀ (l : List St) (f : St), (pickS f l day).B = bookOn f.B (l.map St.v) day
  | [], f => rfl
  | s :: l, f => by
    show (pickS (if s.day ≤ day then s else f) l day).B = bookOn (if s.day ≤ day then s.B else f.B) (l.map St.v) day
    rw [pickS_B l]
    congr 1
    split <;> rfl
/-- the stand of a day -/
theorem stand_at (C : CtAt S n w b ws st) (day : Int) : ∃ s ∈ st, m_Court_stand [.obj n, .int day] S = .ok (.obj s.i) S ∧ ∃ f, (st.map St.v).head? = some f ∧ s.B = bookOn f.2 (st.map St.v) day := by
  obtain ⟨f, rest, est, e⟩ := stand_eq C day
  refine ⟨pickS f st day, ?_, e, f.v, by rw [est]; rfl, pickS_B st f⟩
  rcases pickS_mem (day := day) st f with z | z
  · rw [z, est]; exact List.mem_cons_self
  · exact z
theorem StAt.ob {s : St} (A : StAt S s) : objAt ["Stand"] S (.obj s.i) = some (s.i, "Stand", [("since", .int s.day), ("ground_then", .obj s.r), ("gone_then", s.gd), ("lieges_then", s.ld)]) := by rw [objAtU, A.o]; simp
theorem court_land_ok (C : CtAt S n w b ws st) (day : Int) : ∃ f, (st.map St.v).head? = some f ∧ m_Court_land [.obj n, .int day] S = .ok (.obj S.length) (S ++ twinC S.length (bookOn f.2 (st.map St.v) day).L) := by
  obtain ⟨s, hs, e, f, hf, eB⟩ := stand_at C day
  refine ⟨f, hf, ?_⟩
  have A := C.each s hs
  have tw := twin_eq A.A
  rw [eB] at tw
  have ol := A.A.ob
  have os := A.ob
  refine dDef_ret (σ' := [.val (.obj n), .val (.int day)]) ?_
  simp [b_Court_land, C.ob, e, os, ol, tw]
end
end MR

set_option Elab.async false
set_option linter.all false
set_option maxRecDepth 100000
set_option exponentiation.threshold 30000
namespace MR
open PySem
section
variable {S : Sto} {n t : Nat} {B : Bk} {tot : Int}
end
end MR

set_option Elab.async false
set_option linter.all false
set_option maxRecDepth 100000
set_option exponentiation.threshold 30000
namespace MR
open PySem
theorem strOk_empty : PyData.strOk "" = true := by decide +kernel
end MR

set_option Elab.async false
set_option linter.all false
set_option maxRecDepth 100000
set_option exponentiation.threshold 30000
namespace MR
open PySem
/-- charters that may be handed to a court -/
structure Rows (rows : List Rw) : Prop where
  f : ∀ r ∈ rows, r.fine2
  s : ∀ r ∈ rows, r.sok
  nd : rows.Nodup
  d0 : ∀ r ∈ rows, 0 ≤ r.day
  d1 : ∀ r ∈ rows, r.day ≤ 9999
theorem ints_at {l : List Int} (x : Int) (h : l ≠ []) : ∃ y ∈ l, L2.atI (l.map D.int) (x % (l.length : Int)) = some (.int y) := by
  have hp : 0 < l.length := List.length_pos_iff.mpr h
  have h0 := Int.emod_nonneg x (show (l.length : Int) ≠ 0 by omega)
  have h1 := Int.emod_lt_of_pos x (show (0 : Int) < (l.length : Int) by omega)
  obtain ⟨k, hk, e⟩ : ∃ k : Nat, k < l.length ∧ x % (l.length : Int) = (k : Int) := ⟨(x % (l.length : Int)).toNat, by omega, by omega⟩
  refine ⟨l[k], List.getElem_mem hk, ?_⟩
  rw [e]
  exact atI_map hk
section
variable {S : Sto} {n : Nat} {B : Bk} {tot w : Int} {men lands : List Str} {fs ways : List Int}
end
end MR

set_option Elab.async false
set_option linter.all false
set_option maxRecDepth 100000
namespace MR
open PySem
noncomputable section
end
end MR

set_option Elab.async false
set_option linter.all false
set_option maxRecDepth 100000
set_option exponentiation.threshold 30000
namespace MR
open PySem
section
variable {S S' : Sto} {n hi : Nat} {w b : Int} {rows : List Rw} {st : List St} {men lands : List Str} {fs : List Int}
/-- a court over rows, in the cells from n up to hi -/
structure Ct (S : Sto) (n hi : Nat) (w b : Int) (rows : List Rw) (st : List St) : Prop where
  C : CtAt S n w b (vds (B0 w) (srtR rows)) st
  v : st.map St.v = stds (B0 w) [(0, B0 w)] (srtR rows)
  Z : Snd (fin (B0 w) (srtR rows)) rows.length w
  R : Rows rows
  hl : rows.length < 59
  w1 : 1 ≤ w
  w2 : w ≤ 9999
  low : ∀ s ∈ st, ∀ x ∈ s.cells, x < hi
  h10 : n + 10 < hi
/-- what lies below m stays -/
def Pre (m : Nat) (S S' : Sto) : Prop := m ≤ S.length ∧ m ≤ S'.length ∧ ∀ j < m, S'[j]? = S[j]?
theorem Grow.pre (g : Grow [] S S') : Pre S.length S S' := ⟨Nat.le_refl _, g.len, fun j h => g.off j h (by simp)⟩
theorem Pre.mono {m m' : Nat} (p : Pre m S S') (h : m' ≤ m) : Pre m' S S' := ⟨Nat.le_trans h p.1, Nat.le_trans h p.2.1, fun j hj => p.2.2 j (Nat.lt_of_lt_of_le hj h)⟩
theorem Pre.trans {m : Nat} {S'' : Sto} (p : Pre m S S') (q : Pre m S' S'') : Pre m S S'' := ⟨p.1, q.2.1, fun j hj => (q.2.2 j hj).trans (p.2.2 j hj)⟩
theorem Ct.pre (K : Ct S n hi w b rows st) {m : Nat} (p : Pre m S S') (h : hi ≤ m) : Ct S' n hi w b rows st := by
  have at_ : ∀ {j : Nat} {o : Ob}, j < hi → S[j]? = some o → S'[j]? = some o := fun {j o} hj e => (p.2.2 j (by omega)).trans e
  have h10 := K.h10
  refine ⟨⟨at_ (by omega) K.C.o, at_ (by omega) K.C.wd, at_ (by omega) K.C.sd, fun s hs => ?_, K.C.out, K.C.ne⟩, K.v, K.Z, K.R, K.hl, K.w1, K.w2, K.low, K.h10⟩
  have A := K.C.each s hs
  have lo := K.low s hs
  refine ⟨at_ (lo _ (by simp [St.cells])) A.o, ⟨at_ (lo _ (by simp [St.cells])) A.A.o, at_ (lo _ (by simp [St.cells])) A.A.l, at_ (lo _ (by simp [St.cells])) A.A.h, at_ (lo _ (by simp [St.cells])) A.A.w, at_ (lo _ (by simp [St.cells])) A.A.s, A.A.nd⟩, ?_, ?_⟩
  · rcases A.g with z | ⟨k, z, e⟩
    · exact .inl z
    · exact .inr ⟨k, z, at_ (lo _ (by simp [St.cells, z, objs])) e⟩
  · rcases A.l with z | ⟨k, z, e⟩
    · exact .inl z
    · exact .inr ⟨k, z, at_ (lo _ (by simp [St.cells, z, objs])) e⟩
theorem StAt.lt {s : St} (A : StAt S s) : ∀ x ∈ s.cells, x < S.length := by
  have lt : ∀ {j : Nat} {o : Ob}, S[j]? = some o → j < S.length := fun e => (List.getElem?_eq_some_iff.mp e).1
  intro x hx
  simp only [St.cells, List.mem_append, List.mem_cons, List.not_mem_nil, or_false] at hx
  rcases hx with (hx | hx) | hx
  · rcases hx with rfl | rfl | rfl | rfl | rfl | rfl
    · exact lt A.o
    · exact lt A.A.o
    · exact lt A.A.l
    · exact lt A.A.h
    · exact lt A.A.w
    · exact lt A.A.s
  · rcases A.g with z | ⟨k, z, e⟩
    · rw [z] at hx; cases hx
    · rw [z] at hx; rw [List.mem_singleton.mp hx]; exact lt e
  · rcases A.l with z | ⟨k, z, e⟩
    · rw [z] at hx; cases hx
    · rw [z] at hx; rw [List.mem_singleton.mp hx]; exact lt e
end
end MR

set_option Elab.async false
set_option linter.all false
set_option maxRecDepth 100000
set_option exponentiation.threshold 30000
namespace MR
open PySem
theorem asc_days {l : List Rw} (h : Asc l) : l.Pairwise fun a b => a.day ≤ b.day := by
  refine h.imp fun {a b} h => ?_
  rw [lt_eq] at h
  by_cases c : b.day = a.day
  · omega
  · rw [if_neg c] at h
    have := of_decide_eq_false h
    omega
/-- the rows up to a day -/
def unt (d : Int) (l : List Rw) : List Rw := l.filter fun r => decide (r.day ≤ d)
theorem srtR_unt {l : List Rw} (hs : ∀ r ∈ l, r.sok) (d : Int) : srtR (unt d l) = unt d (srtR l) := by
  have hs' : ∀ r ∈ unt d l, r.sok := fun r hr => hs r (List.mem_filter.mp hr).1
  refine asc_uniq (fun r hr => hs' r ((srtR_perm _).mem_iff.mp hr)) (srtR_asc hs') ?_ ?_
  · exact List.Pairwise.sublist List.filter_sublist (srtR_asc hs)
  · exact (srtR_perm _).trans ((srtR_perm l).filter _).symm
theorem Rows.unt {rows : List Rw} (R : Rows rows) (d : Int) : Rows (unt d rows) :=
  ⟨fun r hr => R.f r (List.mem_filter.mp hr).1, fun r hr => R.s r (List.mem_filter.mp hr).1, R.nd.filter _, fun r hr => R.d0 r (List.mem_filter.mp hr).1, fun r hr => R.d1 r (List.mem_filter.mp hr).1⟩
def onV (d : Int) (st : List (Int × Bk)) : Option Bk := (st.filter fun s => decide (s.1 ≤ d)).getLast?.map (·.2)
theorem bookOn_onV (d : Int) : ∀ (st : List (Int × Bk)) (f : Bk), bookOn f st d = (onV d st).getD f
  | [], f => rfl
  | s :: st, f => by
    have ih := bookOn_onV d st
    unfold bookOn at ih ⊢
    rw [List.foldl_cons, ih]
    unfold onV
    rw [List.filter_cons]
    by_cases c : s.1 ≤ d
    · rw [if_pos c, if_pos (decide_eq_true c)]
      cases h : st.filter fun s => decide (s.1 ≤ d) with
      | nil => rfl
      | cons a b => rw [List.getLast?_cons_cons]; rfl
    · rw [if_neg c, if_neg (by simpa using c)]
theorem onV_app {d : Int} {st : List (Int × Bk)} {s : Int × Bk} (h : ¬ s.1 ≤ d) : onV d (st ++ [s]) = onV d st := by
  unfold onV
  rw [List.filter_append, List.filter_cons, if_neg (by simpa using h)]
  simp
theorem onV_note {d e : Int} {st : List (Int × Bk)} {B : Bk} (h : ¬ e ≤ d) : onV d (noteV st e B) = onV d st := by
  unfold noteV
  rw [onV_app h]
  split
  · rename_i z
    cases hl : st.getLast? with
    | none => rw [hl] at z; cases z
    | some s =>
      rw [hl] at z
      have : s.1 = e := by simpa using z
      have e2 : st = st.dropLast ++ [s] := by obtain ⟨h0, rfl⟩ := List.getLast?_eq_some_iff.mp hl; simp
      rw [e2, List.dropLast_concat, onV_app (by rw [this]; exact h)]
  · rfl
theorem onV_late {d : Int} : ∀ (rs : List Rw) (B : Bk) (st : List (Int × Bk)), (∀ r ∈ rs, ¬ r.day ≤ d) → onV d (stds B st rs) = onV d st
  | [], _, _, _ => rfl
  | r :: rs, B, st, h => by
    rw [stds, onV_late rs _ _ fun q hq => h q (List.mem_cons_of_mem _ hq)]
    split
    · exact onV_note (h r List.mem_cons_self)
    · rfl
theorem onV_last {d : Int} {st : List (Int × Bk)} {s : Int × Bk} (h : s.1 ≤ d) : onV d (st ++ [s]) = some s.2 := by
  unfold onV
  rw [List.filter_append, List.filter_cons, if_pos (decide_eq_true h)]
  simp
theorem onV_stds {d : Int} : ∀ (rs : List Rw) (B : Bk) (st : List (Int × Bk)), onV d st = some B → (rs.Pairwise fun a b => a.day ≤ b.day) → onV d (stds B st rs) = some (fin B (unt d rs))
  | [], _, _, h, _ => h
  | r :: rs, B, st, h, hp => by
    obtain ⟨h1, h2⟩ := List.pairwise_cons.mp hp
    by_cases c : r.day ≤ d
    · rw [stds, onV_stds rs (B.step r) _ ?_ h2]
      · unfold unt
        rw [List.filter_cons, if_pos (decide_eq_true c)]
        rfl
      · by_cases z : B.why r = "stands"
        · rw [if_pos z]
          exact onV_last c
        · rw [if_neg z]
          unfold Bk.step
          rw [if_neg z]
          exact h
    · have late : ∀ q ∈ r :: rs, ¬ q.day ≤ d := fun q hq => by
        rcases List.mem_cons.mp hq with rfl | hq
        · exact c
        · have := h1 q hq
          omega
      rw [onV_late _ _ _ late, h]
      have : unt d (r :: rs) = [] := List.filter_eq_nil_iff.mpr fun q hq => by simpa using late q hq
      rw [this]
      rfl
section
variable {S S' : Sto} {n hi : Nat} {w b : Int} {rows : List Rw} {st : List St} {men lands : List Str} {fs : List Int}
theorem Ct.book (K : Ct S n hi w b rows st) {d : Int} (h : 0 ≤ d) (f : Bk) : bookOn f (st.map St.v) d = fin (B0 w) (srtR (unt d rows)) := by
  rw [bookOn_onV, K.v, onV_stds _ _ _ (by unfold onV; rw [List.filter_cons, if_pos (decide_eq_true h)]; rfl) (asc_days (srtR_asc K.R.s)), srtR_unt K.R.s]
  rfl
theorem Ct.land (K : Ct S n hi w b rows st) {d : Int} (h : 0 ≤ d) : m_Court_land [.obj n, .int d] S = .ok (.obj S.length) (S ++ twinC S.length (fin (B0 w) (srtR (unt d rows))).L) := by
  obtain ⟨f, _, e⟩ := court_land_ok K.C d
  rw [K.book h] at e
  exact e
end
end MR

set_option Elab.async false
set_option linter.all false
set_option maxRecDepth 100000
namespace MR
open PySem
noncomputable section
def b_Court_liege : DS := (sRet (dMeth isDct kGet (dFld ["Stand"] "lieges_then" (dMet "stand" [("Court", m_Court_stand)] (dVar 0) (aCons (dVar 1) aNil))) (aCons (dVar 2) aNil)))
def m_Court_liege : Den := dDef 3 b_Court_liege
def b_Court_dead : DS := (sRet (d2 opInG (dVar 2) (dFld ["Stand"] "gone_then" (dMet "stand" [("Court", m_Court_stand)] (dVar 0) (aCons (dVar 1) aNil)))))
def m_Court_dead : Den := dDef 3 b_Court_dead
end
end MR

set_option Elab.async false
set_option linter.all false
set_option maxRecDepth 100000
set_option exponentiation.threshold 30000
namespace MR
open PySem
theorem get_encO (l : List (Str × Str)) (m : Str) : (valD (enc D.str l) (.inr m)).getD .non = encO (aval l m) := by rw [valD_enc]; cases aval l m <;> rfl
section
variable {S S' : Sto} {n hi : Nat} {w b : Int} {rows : List Rw} {st : List St} {men lands : List Str} {fs : List Int}
theorem Ct.stand (K : Ct S n hi w b rows st) {d : Int} (h : 0 ≤ d) : ∃ s, StAt S s ∧ m_Court_stand [.obj n, .int d] S = .ok (.obj s.i) S ∧ s.B = fin (B0 w) (srtR (unt d rows)) := by
  obtain ⟨s, hs, e, f, _, eB⟩ := stand_at K.C d
  rw [K.book h] at eB
  exact ⟨s, K.C.each s hs, e, eB⟩
theorem Ct.liege (K : Ct S n hi w b rows st) {d : Int} (h : 0 ≤ d) (m : Str) : m_Court_liege [.obj n, .int d, .str m] S = .ok (encO (aval (fin (B0 w) (srtR (unt d rows))).lieges m)) S := by
  obtain ⟨s, A, e, eB⟩ := K.stand h
  have ob := K.C.ob
  have so := A.ob
  have dl := A.l
  rw [eB] at dl
  refine dDef_ret (σ' := [.val (.obj n), .val (.int d), .val (.str m)]) ?_
  have ge := get_encO (fin (B0 w) (srtR (unt d rows))).lieges m
  generalize enc D.str (fin (B0 w) (srtR (unt d rows))).lieges = ll at *
  simp [b_Court_liege, ob, e, so, dl.de, ge, frz_enc]
theorem Ct.dead (K : Ct S n hi w b rows st) {d : Int} (h : 0 ≤ d) (m : Str) : m_Court_dead [.obj n, .int d, .str m] S = .ok (.bl (decide (m ∈ (fin (B0 w) (srtR (unt d rows))).dead))) S := by
  obtain ⟨s, A, e, eB⟩ := K.stand h
  have ob := K.C.ob
  have so := A.ob
  have dg := A.g
  rw [eB] at dg
  have sv := seenD_val (fin (B0 w) (srtR (unt d rows))).dead m
  refine dDef_ret (σ' := [.val (.obj n), .val (.int d), .val (.str m)]) ?_
  generalize seenD (fin (B0 w) (srtR (unt d rows))).dead = ll at *
  simp [b_Court_dead, ob, e, so, dg.de, sv]
end
end MR

set_option Elab.async false
set_option linter.all false
set_option maxRecDepth 100000
set_option exponentiation.threshold 30000
namespace MR
open PySem
theorem five_any (a b c d e v : Int) : ∃ y : Int, L2.atI [.int a, .int b, .int c, .int d, .int e] (v % 5) = some (D.int y) := by
  obtain ⟨y, _, h⟩ := ints_at (l := [a, b, c, d, e]) v (by simp)
  exact ⟨y, h⟩
theorem strs_at {l : List Str} (x : Int) (h : l ≠ []) : ∃ y ∈ l, L2.atI (l.map D.str) (x % (l.length : Int)) = some (.str y) := by
  have hp : 0 < l.length := List.length_pos_iff.mpr h
  have i0 : 0 ≤ x % (l.length : Int) := Int.emod_nonneg _ (by omega)
  have i1 : x % (l.length : Int) < l.length := Int.emod_lt_of_pos _ (by omega)
  obtain ⟨k, hk, e⟩ : ∃ k : Nat, k < l.length ∧ x % (l.length : Int) = (k : Int) := ⟨(x % (l.length : Int)).toNat, by omega, by omega⟩
  refine ⟨l[k], List.getElem_mem hk, ?_⟩
  rw [e, atI_lit, List.getElem?_map, List.getElem?_eq_getElem hk]
  rfl
theorem opIntS_bl {b : Bool} : opIntS (.bl b) = some (.int (if b then 1 else 0)) := by cases b <;> rfl
section
variable {S : Sto} {fs : List Int} {names : List Str}
theorem num_turn (hg : Good fs) (hl : 14 ≤ fs.length) {i : Nat} (hi : i < 6) {c : Nat} (hc : c = 100 ∨ c = 97 ∨ c = 115) {p1 p2 : D} {acc : List D} (ha : acc.length < 100) {s6 : Slot} :
    ∃ (y : Int) (u6 : Slot), fb__law_any_row_1 [.val (.lst (fs.map D.int)), .val p1, .val p2, .own (.lst acc), .val (.int (i : Nat)), .val (.str ⟨#[c]⟩), s6, .emp] S = .ok .next [.val (.lst (fs.map D.int)), .val p1, .val p2, .own (.lst (acc ++ [.int y])), .val (.int (i : Nat)), .val (.str ⟨#[c]⟩), u6, .emp] S := by
  obtain ⟨x, a1, _, _⟩ := int_at (1 + i) hg (by omega)
  obtain ⟨v, a8, _, _⟩ := int_at (8 + i) hg (by omega)
  obtain ⟨y, ey⟩ := five_any (x % 10000) (x % 10000) 9999 1 0 v
  have e1 : (1 : Int) + (i : Int) = ((1 + i : Nat) : Int) := by omega
  have e8 : (8 : Int) + (i : Int) = ((8 + i : Nat) : Int) := by omega
  have hin : hasC "das" c = true := by rcases hc with rfl | rfl | rfl <;> decide
  have k5 : 5 ≤ most := by decide
  have ka : acc.length < most := Nat.lt_trans ha (by decide)
  rw [← e1] at a1
  rw [← e8] at a8
  refine ⟨if y < (if decide ((⟨#[c]⟩ : Str) = "a") then 1 else 0) then (if decide ((⟨#[c]⟩ : Str) = "a") then 1 else 0) else y, .val (.int y), ?_⟩
  unfold fb__law_any_row_1
  generalize fs.map D.int = fl at *
  refine run_seq (r := .ok .next [.val (.lst fl), .val p1, .val p2, .own (.lst acc), .val (.int (i : Nat)), .val (.str ⟨#[c]⟩), .val (.int y), .emp] S) ?_ ?_
  · simp [a1, a8, k5, ey]
  rw [seqK_next]
  generalize hb : decide ((⟨#[c]⟩ : Str) = "a") = b
  simp [opIn_sign, hin, hb, opIntS_bl, kApp, ka]
theorem txt_turn (hg : Good fs) (hl : 14 ≤ fs.length) (hn : names ≠ []) {i : Nat} (hi : i < 6) {c : Nat} (hc : c = 99 ∨ c = 110) {p2 : D} {acc : List D} (ha : acc.length < 100) {s6 : Slot} :
    ∃ (z : Str) (u6 : Slot), (z ∈ names ∨ c = 99 ∧ z = "") ∧ fb__law_any_row_1 [.val (.lst (fs.map D.int)), .val (.lst (names.map D.str)), .val p2, .own (.lst acc), .val (.int (i : Nat)), .val (.str ⟨#[c]⟩), s6, .emp] S = .ok .next [.val (.lst (fs.map D.int)), .val (.lst (names.map D.str)), .val p2, .own (.lst (acc ++ [.str z])), .val (.int (i : Nat)), .val (.str ⟨#[c]⟩), u6, .emp] S := by
  obtain ⟨x, a1, _, _⟩ := int_at (1 + i) hg (by omega)
  obtain ⟨v, a8, _, _⟩ := int_at (8 + i) hg (by omega)
  obtain ⟨y, ey⟩ := five_any (x % 10000) (x % 10000) 9999 1 0 v
  obtain ⟨z, hz, ez⟩ := strs_at x hn
  have e1 : (1 : Int) + (i : Int) = ((1 + i : Nat) : Int) := by omega
  have e8 : (8 : Int) + (i : Int) = ((8 + i : Nat) : Int) := by omega
  have hin : hasC "das" c = false := by rcases hc with rfl | rfl <;> decide
  have k5 : 5 ≤ most := by decide
  have ka : acc.length < most := Nat.lt_trans ha (by decide)
  have np : (0 : Int) < names.length := by have := List.length_pos_iff.mpr hn; omega
  have ll : ((names.map D.str).length : Int) = names.length := by rw [List.length_map]
  rw [← e1] at a1
  rw [← e8] at a8
  have st1 : ∀ (nl : List D), (sSet 6 (d2 opIx (dLst (aCons (d2 opMod (d2 opIx (dVar 0) (d2 opAdd (dC (.int 1)) (dVar 4))) (dC (.int 10000))) (aCons (d2 opMod (d2 opIx (dVar 0) (d2 opAdd (dC (.int 1)) (dVar 4))) (dC (.int 10000))) (aCons (dC (.int 9999)) (aCons (dC (.int 1)) (aCons (dC (.int 0)) aNil)))))) (d2 opMod (d2 opIx (dVar 0) (d2 opAdd (dC (.int 8)) (dVar 4))) (dC (.int 5))))) [.val (.lst (fs.map D.int)), .val (.lst nl), .val p2, .own (.lst acc), .val (.int (i : Nat)), .val (.str ⟨#[c]⟩), s6, .emp] S = .ok .next [.val (.lst (fs.map D.int)), .val (.lst nl), .val p2, .own (.lst acc), .val (.int (i : Nat)), .val (.str ⟨#[c]⟩), .val (.int y), .emp] S := fun nl => by
    generalize fs.map D.int = fl at *
    simp [a1, a8, k5, ey]
  by_cases q : c = 99 ∧ v % 3 = 0
  · refine ⟨"", .val (.int y), .inr ⟨q.1, rfl⟩, ?_⟩
    obtain ⟨rfl, qv⟩ := q
    have ec : (⟨#[99]⟩ : Str) = "c" := by decide
    unfold fb__law_any_row_1
    refine run_seq (st1 _) ?_
    rw [seqK_next]
    generalize fs.map D.int = fl at *
    generalize names.map D.str = nl at *
    simp [opIn_sign, hin, show ((⟨#[99]⟩ : Str) = "c") = True from eq_true ec, a8, qv, kApp, ka]
  · refine ⟨z, .val (.int y), .inl hz, ?_⟩
    unfold fb__law_any_row_1
    refine run_seq (st1 _) ?_
    rw [seqK_next]
    generalize fs.map D.int = fl at *
    generalize hL : (names.length : Int) = L at *
    generalize names.map D.str = nl at *
    rcases hc with rfl | rfl
    · have ec : ((⟨#[99]⟩ : Str) = "c") = True := eq_true (by decide)
      have qv : ¬ v % 3 = 0 := fun z => q ⟨rfl, z⟩
      simp [opIn_sign, hin, ec, a8, qv, a1, ll, np, ez, kApp, ka]
    · have ec : ((⟨#[110]⟩ : Str) = "c") = False := eq_false (by decide)
      simp [opIn_sign, hin, ec, a1, ll, np, ez, kApp, ka]
/-- what a letter of a shape asks -/
def okC (names : List Str) (c : Nat) (x : D) : Prop := ((c = 100 ∨ c = 97 ∨ c = 115) ∧ ∃ y : Int, x = .int y) ∨ ((c = 99 ∨ c = 110) ∧ ∃ z : Str, x = .str z ∧ (z ∈ names ∨ c = 99 ∧ z = ""))
def OkL (names : List Str) : List Nat → List D → Prop
  | [], [] => True
  | c :: cs, x :: xs => okC names c x ∧ OkL names cs xs
  | _, _ => False
def vc (c : Nat) : Bool := c == 100 || c == 97 || c == 115 || c == 99 || c == 110
theorem row_loop (hg : Good fs) (hl : 14 ≤ fs.length) (hn : names ≠ []) {p2 : D} : ∀ (cs : List Nat) (i : Nat) (acc : List D) (s4 s5 s6 : Slot), cs.all vc = true → i + cs.length ≤ 6 → acc.length + cs.length < 100 →
    ∃ (xs : List D) (u4 u5 u6 : Slot), forL (gT 2 (gsCons (gN 4) (gsCons (gN 5) gsNil))) fb__law_any_row_1 (enum (i : Nat) (cs.map fun c => .str ⟨#[c]⟩)) [.val (.lst (fs.map D.int)), .val (.lst (names.map D.str)), .val p2, .own (.lst acc), s4, s5, s6, .emp] S = .ok .next [.val (.lst (fs.map D.int)), .val (.lst (names.map D.str)), .val p2, .own (.lst (acc ++ xs)), u4, u5, u6, .emp] S ∧ OkL names cs xs
  | [], i, acc, s4, s5, s6, _, _, _ => ⟨[], s4, s5, s6, by simp [enum], trivial⟩
  | c :: cs, i, acc, s4, s5, s6, hv, hi, ha => by
    rw [List.all_cons, Bool.and_eq_true] at hv
    rw [List.length_cons] at hi ha
    have hg4 : ∀ σ4 σ5 σ6 : Slot, gT 2 (gsCons (gN 4) (gsCons (gN 5) gsNil)) (.tup [.int (i : Nat), .str ⟨#[c]⟩]) [.val (.lst (fs.map D.int)), .val (.lst (names.map D.str)), .val p2, .own (.lst acc), σ4, σ5, σ6, .emp] = some [.val (.lst (fs.map D.int)), .val (.lst (names.map D.str)), .val p2, .own (.lst acc), .val (.int (i : Nat)), .val (.str ⟨#[c]⟩), σ6, .emp] := fun _ _ _ => by simp [gT, gsCons, gsNil]
    have e1 : (i : Int) + 1 = ((i + 1 : Nat) : Int) := by omega
    have vv : (c = 100 ∨ c = 97 ∨ c = 115) ∨ (c = 99 ∨ c = 110) := by
      have := hv.1
      simp only [vc, Bool.or_eq_true, beq_iff_eq] at this
      omega
    obtain ⟨x, u6, st, ok⟩ : ∃ (x : D) (u6 : Slot), fb__law_any_row_1 [.val (.lst (fs.map D.int)), .val (.lst (names.map D.str)), .val p2, .own (.lst acc), .val (.int (i : Nat)), .val (.str ⟨#[c]⟩), s6, .emp] S = .ok .next [.val (.lst (fs.map D.int)), .val (.lst (names.map D.str)), .val p2, .own (.lst (acc ++ [x])), .val (.int (i : Nat)), .val (.str ⟨#[c]⟩), u6, .emp] S ∧ okC names c x := by
      rcases vv with vv | vv
      · obtain ⟨y, u6, st⟩ := num_turn (S := S) hg hl (i := i) (by omega) vv (p1 := .lst (names.map D.str)) (p2 := p2) (acc := acc) (by omega) (s6 := s6)
        exact ⟨_, u6, st, .inl ⟨vv, y, rfl⟩⟩
      · obtain ⟨z, u6, hz, st⟩ := txt_turn (S := S) hg hl hn (i := i) (by omega) vv (p2 := p2) (acc := acc) (by omega) (s6 := s6)
        exact ⟨_, u6, st, .inr ⟨vv, z, rfl, hz⟩⟩
    obtain ⟨xs, u4, u5, u6', e, oks⟩ := row_loop hg hl hn cs (i + 1) (acc ++ [x]) (.val (.int (i : Nat))) (.val (.str ⟨#[c]⟩)) u6 hv.2 (by omega) (by rw [List.length_append, List.length_singleton]; omega)
    refine ⟨x :: xs, u4, u5, u6', ?_, ok, oks⟩
    rw [List.map_cons, enum, forL_cons (hg4 s4 s5 s6) st, e1, e, List.append_assoc]
    rfl
def shapesD : List (Kk × D) := [(.inr "heir", .str "dnn"), (.inr "grant", .str "dcnnas"), (.inr "part", .str "dnnna"), (.inr "convey", .str "dnn"), (.inr "liege", .str "dnc"), (.inr "surrender", .str "dn"), (.inr "death", .str "dn")]
theorem shapes_eq (S : Sto) : m__law_shapes [] S = .ok (.dK shapesD) S := by
  refine dDef_ret (σ' := []) ?_
  simp [b__law_shapes]
  rfl
/-- the list of the row -/
theorem row_list (hg : Good fs) (hl : 14 ≤ fs.length) (hn : names ≠ []) {x0 : Int} (a0 : L2.atI (fs.map D.int) 0 = some (.int x0)) {kd z : Str} {cs : List Nat} (ek : L2.atI (kinds7.map D.str) (x0 % 7) = some (.str kd)) (ez : valD shapesD (.inr kd) = some (.str z)) (es : signs z = cs.map fun c => .str ⟨#[c]⟩) (hv : cs.all vc = true) (hc : cs.length ≤ 6) {g : DS} :
    ∃ (xs : List D) (u4 u5 u6 : Slot), OkL names cs xs ∧ (sSeq (sSet 2 (d2 opIx (dCall0 m__law_kinds) (d2 opMod (d2 opIx (dVar 0) (dC (.int 0))) (dC (.int 7))))) (sSeq (sSetO 3 (dLst (aCons (dVar 2) aNil))) (sSeq (sFor (iEnumS (d2 opGet (dCall0 m__law_shapes) (dVar 2))) (gT 2 (gsCons (gN 4) (gsCons (gN 5) gsNil))) fb__law_any_row_1) g))) [.val (.lst (fs.map D.int)), .val (.lst (names.map D.str)), .emp, .emp, .emp, .emp, .emp, .emp] S = g [.val (.lst (fs.map D.int)), .val (.lst (names.map D.str)), .val (.str kd), .own (.lst (.str kd :: xs)), u4, u5, u6, .emp] S := by
  obtain ⟨xs, u4, u5, u6, e, ok⟩ := row_loop (S := S) hg hl hn (p2 := .str kd) cs 0 [.str kd] .emp .emp .emp hv (by omega) (by simp; omega)
  refine ⟨xs, u4, u5, u6, ok, ?_⟩
  have e : forL (gT 2 (gsCons (gN 4) (gsCons (gN 5) gsNil))) fb__law_any_row_1 (enum 0 (cs.map fun c => .str ⟨#[c]⟩)) [.val (.lst (fs.map D.int)), .val (.lst (names.map D.str)), .val (.str kd), .own (.lst [.str kd]), .emp, .emp, .emp, .emp] S = .ok .next [.val (.lst (fs.map D.int)), .val (.lst (names.map D.str)), .val (.str kd), .own (.lst (.str kd :: xs)), u4, u5, u6, .emp] S := e
  have kq := kinds_eq S
  have sq := shapes_eq S
  have k1 : 1 ≤ most := by decide
  rw [← es] at e
  generalize fs.map D.int = fl at *
  generalize names.map D.str = nl at *
  generalize kinds7.map D.str = kl at *
  generalize shapesD = sd at *
  refine run_seq (r := .ok .next [.val (.lst fl), .val (.lst nl), .val (.str kd), .emp, .emp, .emp, .emp, .emp] S) (by simp [dCall0, kq, a0, ek]) ?_
  rw [seqK_next]
  refine run_seq (r := .ok .next [.val (.lst fl), .val (.lst nl), .val (.str kd), .own (.lst [.str kd]), .emp, .emp, .emp, .emp] S) (by simp [k1]) ?_
  rw [seqK_next]
  refine run_seq (r := .ok .next [.val (.lst fl), .val (.lst nl), .val (.str kd), .own (.lst (.str kd :: xs)), u4, u5, u6, .emp] S) (by
    simp [dCall0, sq, ez, iEnumS, e]) ?_
  rw [seqK_next]
abbrev fixS : DS := (sIf (tAnd (tVal (d2 opInG (dVar 2) (dTup (aCons (dC (.str "heir")) (aCons (dC (.str "liege")) aNil))))) (tVal (d2 opEq' (d2 opIx (dVar 3) (dC (.int 2))) (d2 opIx (dVar 3) (dC (.int 3)))))) (sLPut (dVar 3) (dC (.int 3)) (d2 opIx (dLc (iLst (dVar 1)) (gN 7) lt__law_any_row_2 le__law_any_row_3 [7]) (d2 opMod (d2 opIx (dVar 0) (dC (.int 7))) (d2 opSub (d1 opLen (dVar 1)) (dC (.int 1)))))) sNil)
theorem fix_no {kd : Str} {row : List D} {p0 p1 : D} {u4 u5 u6 : Slot} (h : kd ∉ [("heir" : Str), "liege"]) : fixS [.val p0, .val p1, .val (.str kd), .own (.lst row), u4, u5, u6, .emp] S = .ok .next [.val p0, .val p1, .val (.str kd), .own (.lst row), u4, u5, u6, .emp] S := by
  have k2 : 2 ≤ most := by decide
  have hin := inT2 (x := kd) (a := "heir") (b := "liege")
  rw [decide_eq_false h] at hin
  simp [k2, hin]
theorem filter_ne_len {l : List Str} (hd : l.Nodup) (x : Str) : l.length - 1 ≤ (l.filter fun y => !decide (y = x)).length := by
  induction l with
  | nil => simp
  | cons y l ih =>
    obtain ⟨h1, h2⟩ := List.nodup_cons.mp hd
    by_cases c : y = x
    · subst c
      rw [List.filter_cons, if_neg (by simp)]
      have : l.filter (fun z => !decide (z = y)) = l := List.filter_eq_self.mpr fun z hz => by simpa using fun q => h1 (by rw [← q]; exact hz)
      rw [this]
      simp
    · rw [List.filter_cons, if_pos (by simpa using c), List.length_cons, List.length_cons]
      have := ih h2
      omega
theorem fix_yes (hg : Good fs) (hl : 14 ≤ fs.length) {n : Nat} (N : Nms n names) (hn : 2 ≤ n) (hn2 : n ≤ 100) {kd a b : Str} {y : Int} {u4 u5 u6 : Slot} (h : kd ∈ [("heir" : Str), "liege"]) (hb : b ∈ names ∨ b = "") :
    ∃ b' : Str, (b' ∈ names ∨ b' = "") ∧ fixS [.val (.lst (fs.map D.int)), .val (.lst (names.map D.str)), .val (.str kd), .own (.lst [.str kd, .int y, .str a, .str b]), u4, u5, u6, .emp] S = .ok .next [.val (.lst (fs.map D.int)), .val (.lst (names.map D.str)), .val (.str kd), .own (.lst [.str kd, .int y, .str a, .str b']), u4, u5, u6, .emp] S := by
  have k2 : 2 ≤ most := by decide
  have hin := inT2 (x := kd) (a := "heir") (b := "liege")
  rw [decide_eq_true h] at hin
  have at2 : ∀ (x w z q : D), L2.atI [x, w, z, q] 2 = some z := fun x w z q => atI_lit [x, w, z, q] 2
  have at3 : ∀ (x w z q : D), L2.atI [x, w, z, q] 3 = some q := fun x w z q => atI_lit [x, w, z, q] 3
  by_cases c : a = b
  · subst c
    obtain ⟨x, a7, g0, _⟩ := int_at 7 hg (by omega)
    have a7 : L2.atI (fs.map D.int) 7 = some (.int x) := a7
    have hlen := N.len
    have fl := filter_ne_len N.nd a
    have np : (0 : Int) < (names.length : Int) - 1 := by omega
    have i0 : 0 ≤ x % ((names.length : Int) - 1) := Int.emod_nonneg _ (by omega)
    have i1 : x % ((names.length : Int) - 1) < (names.length : Int) - 1 := Int.emod_lt_of_pos _ np
    obtain ⟨k, hk, e⟩ : ∃ k : Nat, k < (names.filter fun y => !decide (y = a)).length ∧ x % ((names.length : Int) - 1) = (k : Int) := ⟨(x % ((names.length : Int) - 1)).toNat, by omega, by omega⟩
    have ea : L2.atI ((names.filter fun y => !decide (y = a)).map D.str) (x % ((names.length : Int) - 1)) = some (.str (names.filter fun y => !decide (y = a))[k]) := by
      rw [e, atI_lit, List.getElem?_map, List.getElem?_eq_getElem hk]
      rfl
    have hm : (names.filter fun y => !decide (y = a))[k] ∈ names := (List.mem_filter.mp (List.getElem_mem hk)).1
    refine ⟨(names.filter fun y => !decide (y = a))[k], .inl hm, ?_⟩
    generalize (names.filter fun y => !decide (y = a))[k] = z at *
    have key := lc_strs (it := iLst (dVar 1)) (i := 7) (c := lt__law_any_row_2) (e := le__law_any_row_3) (σ := [.val (.lst (fs.map D.int)), .val (.lst (names.map D.str)), .val (.str kd), .own (.lst [.str kd, .int y, .str a, .str a]), u4, u5, u6, .emp]) (σ' := [.val (.lst (fs.map D.int)), .val (.lst (names.map D.str)), .val (.str kd), .own (.lst [.str kd, .int y, .str a, .str a]), u4, u5, u6, .emp]) (S := S) (l := names) (fun x => !decide (x = a)) D.str (by simp) rfl (by rw [hlen]; exact Nat.le_trans hn2 (by decide)) (fun x _ => ⟨by
      simp [wipeD, lt__law_any_row_2, at2], fun _ => by simp [wipeD, le__law_any_row_3]⟩)
    have ll : ((names.map D.str).length : Int) = names.length := by rw [List.length_map]
    generalize (names.filter fun y => !decide (y = a)).map D.str = ql at *
    generalize fs.map D.int = fl at *
    have om : opMod (.int x) (.int ((names.length : Int) - 1)) = some (.int (x % ((names.length : Int) - 1))) := opMod_int np
    generalize (names.length : Int) = L at *
    generalize names.map D.str = nl at *
    simp [k2, hin, at2, at3, sLPut, key, a7, ll, om, ea, ofMutS]
  · refine ⟨b, hb, ?_⟩
    generalize fs.map D.int = fl at *
    generalize names.map D.str = nl at *
    simp [k2, hin, at2, at3, c]
theorem OkL_cons {c : Nat} {cs : List Nat} {xs : List D} (h : OkL names (c :: cs) xs) : ∃ x xs', xs = x :: xs' ∧ okC names c x ∧ OkL names cs xs' := by
  cases xs with
  | nil => exact h.elim
  | cons x xs => exact ⟨x, xs, rfl, h.1, h.2⟩
theorem OkL_nil {xs : List D} (h : OkL names [] xs) : xs = [] := by
  cases xs with
  | nil => rfl
  | cons x xs => exact h.elim
theorem strs_ok {n : Nat} (N : Nms n names) {z : Str} (h : z ∈ names ∨ z = "") : PyData.strOk z = true := by
  rcases h with h | rfl
  · exact nm_ok (N.nm z h)
  · exact strOk_empty
theorem nm_len8 {z : Str} (h : isNm z = true) : z.length ≤ 8 := by
  unfold isNm at h
  rw [Bool.and_eq_true, Bool.and_eq_true, decide_eq_true_iff, decide_eq_true_iff] at h
  exact h.1.2
theorem strs_len {n : Nat} (N : Nms n names) {z : Str} (h : z ∈ names ∨ z = "") : z.length ≤ 8 := by
  rcases h with h | rfl
  · exact nm_len8 (N.nm z h)
  · decide
theorem okN {c : Nat} {x : D} (h : okC names c x) (hc : c = 99 ∨ c = 110) : ∃ z : Str, x = .str z ∧ (z ∈ names ∨ z = "") := by
  rcases h with ⟨h, _⟩ | ⟨_, z, rfl, h⟩
  · omega
  · exact ⟨z, rfl, h.imp id And.right⟩
theorem okD {c : Nat} {x : D} (h : okC names c x) (hc : c = 100 ∨ c = 97 ∨ c = 115) : ∃ y : Int, x = .int y := by
  rcases h with ⟨_, h⟩ | ⟨h, _⟩
  · exact h
  · omega
/-- a row of any kind is a row -/

def Rw.sh : Rw → Prop
  | .heir _ m h => m.length ≤ 8 ∧ h.length ≤ 8
  | .grant _ e n m _ _ => e.length ≤ 8 ∧ n.length ≤ 8 ∧ m.length ≤ 8
  | .part _ e n m _ => e.length ≤ 8 ∧ n.length ≤ 8 ∧ m.length ≤ 8
  | .convey _ e m => e.length ≤ 8 ∧ m.length ≤ 8
  | .liege _ m l => m.length ≤ 8 ∧ l.length ≤ 8
  | .surr _ e => e.length ≤ 8
  | .death _ m => m.length ≤ 8
theorem any_row_ok2 (hg : Good fs) (hl : 14 ≤ fs.length) {n : Nat} (N : Nms n names) (hn : 2 ≤ n) (hn2 : n ≤ 100) (S : Sto) : ∃ r : Rw, (r.sok ∧ r.sh) ∧ m__law_any_row [.lst (fs.map D.int), .lst (names.map D.str)] S = .ok r.D S := by
  have hne : names ≠ [] := fun z => by have := N.len; rw [z] at this; simp at this; omega
  obtain ⟨x0, a0, g0, _⟩ := int_at 0 hg (by omega)
  have a0 : L2.atI (fs.map D.int) 0 = some (.int x0) := a0
  obtain ⟨i, hi, ei⟩ : ∃ i : Nat, i < 7 ∧ x0 % 7 = (i : Int) := ⟨(x0 % 7).toNat, by omega, by omega⟩
  have s0 : ∀ k : String, k ∈ ["heir", "grant", "part", "convey", "liege", "surrender", "death"] → PyData.strOk (Str.ofString k) = true := by decide +kernel
  have fin : ∀ {kd : Str} {row : List D} {u4 u5 u6 : Slot} {xs : List D} {v4 v5 v6 : Slot} {r : Rw}, fixS [.val (.lst (fs.map D.int)), .val (.lst (names.map D.str)), .val (.str kd), .own (.lst (.str kd :: xs)), u4, u5, u6, .emp] S = .ok .next [.val (.lst (fs.map D.int)), .val (.lst (names.map D.str)), .val (.str kd), .own (.lst row), u4, u5, u6, .emp] S → row.length ≤ 10 → r.D = .tup row →
      b__law_any_row [.val (.lst (fs.map D.int)), .val (.lst (names.map D.str)), .emp, .emp, .emp, .emp, .emp, .emp] S = (sSeq fixS (sRet (d1 opTuple (dVar 3)))) [.val (.lst (fs.map D.int)), .val (.lst (names.map D.str)), .val (.str kd), .own (.lst (.str kd :: xs)), u4, u5, u6, .emp] S →
      m__law_any_row [.lst (fs.map D.int), .lst (names.map D.str)] S = .ok r.D S := by
    intro kd row u4 u5 u6 xs v4 v5 v6 r ef hr er eb
    refine dDef_ret (σ' := [.val (.lst (fs.map D.int)), .val (.lst (names.map D.str)), .val (.str kd), .own (.lst row), u4, u5, u6, .emp]) ?_
    refine Eq.trans eb ?_
    refine run_seq ef ?_
    rw [seqK_next, er]
    have k10 : row.length ≤ most := Nat.le_trans hr (by decide)
    generalize fs.map D.int = fl at *
    generalize names.map D.str = nl at *
    simp [opTuple, k10]
  have go : ∀ (kd z : Str) (cs : List Nat), L2.atI (kinds7.map D.str) (x0 % 7) = some (.str kd) → valD shapesD (.inr kd) = some (.str z) → signs z = (cs.map fun c => .str ⟨#[c]⟩) → cs.all vc = true → cs.length ≤ 6 →
      ∃ (xs : List D) (u4 u5 u6 : Slot), OkL names cs xs ∧ b__law_any_row [.val (.lst (fs.map D.int)), .val (.lst (names.map D.str)), .emp, .emp, .emp, .emp, .emp, .emp] S = (sSeq fixS (sRet (d1 opTuple (dVar 3)))) [.val (.lst (fs.map D.int)), .val (.lst (names.map D.str)), .val (.str kd), .own (.lst (.str kd :: xs)), u4, u5, u6, .emp] S := fun kd z cs ek ez es hv hc => row_list hg hl hne a0 ek ez es hv hc
  have K : ∀ (i : Nat), i < 7 → x0 % 7 = (i : Int) → ∀ kd : Str, kinds7[i]? = some kd → L2.atI (kinds7.map D.str) (x0 % 7) = some (.str kd) := fun i _ e kd h => by rw [e, atI_lit, List.getElem?_map, h]; rfl
  rcases (show i = 0 ∨ i = 1 ∨ i = 2 ∨ i = 3 ∨ i = 4 ∨ i = 5 ∨ i = 6 by omega) with rfl | rfl | rfl | rfl | rfl | rfl | rfl
  · obtain ⟨xs, u4, u5, u6, ok, eb⟩ := go "heir" "dnn" [100, 110, 110] (K 0 (by omega) ei _ rfl) (by rfl) (by rfl) (by decide) (by decide)
    obtain ⟨x0, xs, rfl, o0, ok⟩ := OkL_cons ok
    obtain ⟨x1, xs, rfl, o1, ok⟩ := OkL_cons ok
    obtain ⟨x2, xs, rfl, o2, ok⟩ := OkL_cons ok
    obtain rfl := OkL_nil ok
    obtain ⟨y0, rfl⟩ := okD o0 (by omega)
    obtain ⟨z1, rfl, h1⟩ := okN o1 (by omega)
    obtain ⟨z2, rfl, h2⟩ := okN o2 (by omega)
    obtain ⟨z2', h2', ef⟩ := fix_yes (S := S) hg hl N hn hn2 (kd := "heir") (a := z1) (b := z2) (y := y0) (u4 := u4) (u5 := u5) (u6 := u6) (by simp) h2
    refine ⟨.heir y0 z1 z2', ⟨?_, ?_⟩, fin (v4 := .emp) (v5 := .emp) (v6 := .emp) ef (by simp) rfl eb⟩
    · have q := s0 "heir" (by simp)
      have q1 := strs_ok N h1
      have q2 := strs_ok N h2'
      simp [Rw.sok, Rw.D, gr, q, q1, q2]
    · have q1 := strs_len N h1
      have q2 := strs_len N h2'
      exact ⟨q1, q2⟩
  · obtain ⟨xs, u4, u5, u6, ok, eb⟩ := go "grant" "dcnnas" [100, 99, 110, 110, 97, 115] (K 1 (by omega) ei _ rfl) (by rfl) (by rfl) (by decide) (by decide)
    obtain ⟨x0, xs, rfl, o0, ok⟩ := OkL_cons ok
    obtain ⟨x1, xs, rfl, o1, ok⟩ := OkL_cons ok
    obtain ⟨x2, xs, rfl, o2, ok⟩ := OkL_cons ok
    obtain ⟨x3, xs, rfl, o3, ok⟩ := OkL_cons ok
    obtain ⟨x4, xs, rfl, o4, ok⟩ := OkL_cons ok
    obtain ⟨x5, xs, rfl, o5, ok⟩ := OkL_cons ok
    obtain rfl := OkL_nil ok
    obtain ⟨y0, rfl⟩ := okD o0 (by omega)
    obtain ⟨z1, rfl, h1⟩ := okN o1 (by omega)
    obtain ⟨z2, rfl, h2⟩ := okN o2 (by omega)
    obtain ⟨z3, rfl, h3⟩ := okN o3 (by omega)
    obtain ⟨y4, rfl⟩ := okD o4 (by omega)
    obtain ⟨y5, rfl⟩ := okD o5 (by omega)
    refine ⟨.grant y0 z1 z2 z3 y4 y5, ⟨?_, ?_⟩, fin (v4 := .emp) (v5 := .emp) (v6 := .emp) (fix_no (by decide)) (by simp) rfl eb⟩
    · have q := s0 "grant" (by simp)
      have q1 := strs_ok N h1
      have q2 := strs_ok N h2
      have q3 := strs_ok N h3
      simp [Rw.sok, Rw.D, gr, q, q1, q2, q3]
    · have q1 := strs_len N h1
      have q2 := strs_len N h2
      have q3 := strs_len N h3
      exact ⟨q1, q2, q3⟩
  · obtain ⟨xs, u4, u5, u6, ok, eb⟩ := go "part" "dnnna" [100, 110, 110, 110, 97] (K 2 (by omega) ei _ rfl) (by rfl) (by rfl) (by decide) (by decide)
    obtain ⟨x0, xs, rfl, o0, ok⟩ := OkL_cons ok
    obtain ⟨x1, xs, rfl, o1, ok⟩ := OkL_cons ok
    obtain ⟨x2, xs, rfl, o2, ok⟩ := OkL_cons ok
    obtain ⟨x3, xs, rfl, o3, ok⟩ := OkL_cons ok
    obtain ⟨x4, xs, rfl, o4, ok⟩ := OkL_cons ok
    obtain rfl := OkL_nil ok
    obtain ⟨y0, rfl⟩ := okD o0 (by omega)
    obtain ⟨z1, rfl, h1⟩ := okN o1 (by omega)
    obtain ⟨z2, rfl, h2⟩ := okN o2 (by omega)
    obtain ⟨z3, rfl, h3⟩ := okN o3 (by omega)
    obtain ⟨y4, rfl⟩ := okD o4 (by omega)
    refine ⟨.part y0 z1 z2 z3 y4, ⟨?_, ?_⟩, fin (v4 := .emp) (v5 := .emp) (v6 := .emp) (fix_no (by decide)) (by simp) rfl eb⟩
    · have q := s0 "part" (by simp)
      have q1 := strs_ok N h1
      have q2 := strs_ok N h2
      have q3 := strs_ok N h3
      simp [Rw.sok, Rw.D, gr, q, q1, q2, q3]
    · have q1 := strs_len N h1
      have q2 := strs_len N h2
      have q3 := strs_len N h3
      exact ⟨q1, q2, q3⟩
  · obtain ⟨xs, u4, u5, u6, ok, eb⟩ := go "convey" "dnn" [100, 110, 110] (K 3 (by omega) ei _ rfl) (by rfl) (by rfl) (by decide) (by decide)
    obtain ⟨x0, xs, rfl, o0, ok⟩ := OkL_cons ok
    obtain ⟨x1, xs, rfl, o1, ok⟩ := OkL_cons ok
    obtain ⟨x2, xs, rfl, o2, ok⟩ := OkL_cons ok
    obtain rfl := OkL_nil ok
    obtain ⟨y0, rfl⟩ := okD o0 (by omega)
    obtain ⟨z1, rfl, h1⟩ := okN o1 (by omega)
    obtain ⟨z2, rfl, h2⟩ := okN o2 (by omega)
    refine ⟨.convey y0 z1 z2, ⟨?_, ?_⟩, fin (v4 := .emp) (v5 := .emp) (v6 := .emp) (fix_no (by decide)) (by simp) rfl eb⟩
    · have q := s0 "convey" (by simp)
      have q1 := strs_ok N h1
      have q2 := strs_ok N h2
      simp [Rw.sok, Rw.D, gr, q, q1, q2]
    · have q1 := strs_len N h1
      have q2 := strs_len N h2
      exact ⟨q1, q2⟩
  · obtain ⟨xs, u4, u5, u6, ok, eb⟩ := go "liege" "dnc" [100, 110, 99] (K 4 (by omega) ei _ rfl) (by rfl) (by rfl) (by decide) (by decide)
    obtain ⟨x0, xs, rfl, o0, ok⟩ := OkL_cons ok
    obtain ⟨x1, xs, rfl, o1, ok⟩ := OkL_cons ok
    obtain ⟨x2, xs, rfl, o2, ok⟩ := OkL_cons ok
    obtain rfl := OkL_nil ok
    obtain ⟨y0, rfl⟩ := okD o0 (by omega)
    obtain ⟨z1, rfl, h1⟩ := okN o1 (by omega)
    obtain ⟨z2, rfl, h2⟩ := okN o2 (by omega)
    obtain ⟨z2', h2', ef⟩ := fix_yes (S := S) hg hl N hn hn2 (kd := "liege") (a := z1) (b := z2) (y := y0) (u4 := u4) (u5 := u5) (u6 := u6) (by simp) h2
    refine ⟨.liege y0 z1 z2', ⟨?_, ?_⟩, fin (v4 := .emp) (v5 := .emp) (v6 := .emp) ef (by simp) rfl eb⟩
    · have q := s0 "liege" (by simp)
      have q1 := strs_ok N h1
      have q2 := strs_ok N h2'
      simp [Rw.sok, Rw.D, gr, q, q1, q2]
    · have q1 := strs_len N h1
      have q2 := strs_len N h2'
      exact ⟨q1, q2⟩
  · obtain ⟨xs, u4, u5, u6, ok, eb⟩ := go "surrender" "dn" [100, 110] (K 5 (by omega) ei _ rfl) (by rfl) (by rfl) (by decide) (by decide)
    obtain ⟨x0, xs, rfl, o0, ok⟩ := OkL_cons ok
    obtain ⟨x1, xs, rfl, o1, ok⟩ := OkL_cons ok
    obtain rfl := OkL_nil ok
    obtain ⟨y0, rfl⟩ := okD o0 (by omega)
    obtain ⟨z1, rfl, h1⟩ := okN o1 (by omega)
    refine ⟨.surr y0 z1, ⟨?_, ?_⟩, fin (v4 := .emp) (v5 := .emp) (v6 := .emp) (fix_no (by decide)) (by simp) rfl eb⟩
    · have q := s0 "surrender" (by simp)
      have q1 := strs_ok N h1
      simp [Rw.sok, Rw.D, gr, q, q1]
    · have q1 := strs_len N h1
      exact q1
  · obtain ⟨xs, u4, u5, u6, ok, eb⟩ := go "death" "dn" [100, 110] (K 6 (by omega) ei _ rfl) (by rfl) (by rfl) (by decide) (by decide)
    obtain ⟨x0, xs, rfl, o0, ok⟩ := OkL_cons ok
    obtain ⟨x1, xs, rfl, o1, ok⟩ := OkL_cons ok
    obtain rfl := OkL_nil ok
    obtain ⟨y0, rfl⟩ := okD o0 (by omega)
    obtain ⟨z1, rfl, h1⟩ := okN o1 (by omega)
    refine ⟨.death y0 z1, ⟨?_, ?_⟩, fin (v4 := .emp) (v5 := .emp) (v6 := .emp) (fix_no (by decide)) (by simp) rfl eb⟩
    · have q := s0 "death" (by simp)
      have q1 := strs_ok N h1
      simp [Rw.sok, Rw.D, gr, q, q1]
    · have q1 := strs_len N h1
      exact q1
end
end MR

set_option Elab.async false
set_option linter.all false
set_option maxRecDepth 100000
namespace MR
open PySem
/-- what a part of a row is -/
inductive Tg where
  | d | c | n | a | s
deriving DecidableEq
def Tg.ch : Tg → Nat
  | .d => 100 | .c => 99 | .n => 110 | .a => 97 | .s => 115
def Tg.wd : Tg → Str
  | .d => "day" | .c => "crowned" | .n => "name" | .a => "acres" | .s => "service"
def Tg.num : Tg → Bool
  | .d => true | .a => true | .s => true | _ => false
def Tg.fit : Tg → Kk → Bool
  | .d, .inl i => decide (0 ≤ i) && decide (i ≤ 9999)
  | .s, .inl i => decide (0 ≤ i) && decide (i ≤ 9999)
  | .a, .inl i => decide (1 ≤ i) && decide (i ≤ 9999)
  | .c, .inr z => decide (z = "") || isNm z
  | .n, .inr z => isNm z
  | _, _ => false
/-- a number where a number must be, a text (not too long) where a text must be -/
def Tg.typ : Tg → Kk → Bool
  | g, .inl _ => g.num
  | g, .inr _ => !g.num
def fitL : List Tg → List Kk → Bool
  | t :: ts, x :: xs => t.fit x && fitL ts xs
  | _, _ => true
def typL : List Tg → List Kk → Bool
  | t :: ts, x :: xs => t.typ x && typL ts xs
  | _, _ => true
def shpL : List (Str × List Tg) := [("heir", [.d, .n, .n]), ("grant", [.d, .c, .n, .n, .a, .s]), ("part", [.d, .n, .n, .n, .a]), ("convey", [.d, .n, .n]), ("liege", [.d, .n, .c]), ("surrender", [.d, .n]), ("death", [.d, .n])]
def shp (k : Str) : Option (List Tg) := aval shpL k
def ltrs (ts : List Tg) : Str := txt (ts.map Tg.ch)
theorem shapes_enc : shapesD = enc (fun ts => D.str (ltrs ts)) shpL := by
  unfold shapesD shpL enc ltrs
  simp only [List.map_cons, List.map_nil, Tg.ch]
  congr
theorem tab_enc : tab_SHAPES = shpL.map fun p => (p.1, p.2.map fun t => D.str t.wd) := by
  unfold tab_SHAPES shpL
  simp only [List.map_cons, List.map_nil, Tg.wd]
theorem lookup_map {α : Type} {f : α → List D} (k : Str) : ∀ l : List (Str × α), (l.map fun p => (p.1, f p.2)).lookup k = (aval l k).map f
  | [] => rfl
  | (a, v) :: l => by
    rw [List.map_cons, List.lookup_cons]
    unfold aval
    rw [List.find?_cons]
    by_cases h : a = k
    · subst h
      simp
    · have h1 : (k == a) = false := by simpa using fun e => h e.symm
      have h2 : decide (a = k) = false := by simpa using h
      rw [h1]
      simp only [h2]
      exact lookup_map k l
theorem tab_look (k : Str) : tab_SHAPES.lookup k = (shp k).map fun ts => ts.map fun t => D.str t.wd := by
  rw [tab_enc]
  exact lookup_map k shpL
theorem shp_len {k : Str} {ts : List Tg} (h : shp k = some ts) : ts.length ≤ 6 := by
  have := aval_mem h
  simp only [shpL, List.mem_cons, Prod.mk.injEq, List.not_mem_nil, or_false] at this
  rcases this with ⟨_, rfl⟩ | ⟨_, rfl⟩ | ⟨_, rfl⟩ | ⟨_, rfl⟩ | ⟨_, rfl⟩ | ⟨_, rfl⟩ | ⟨_, rfl⟩ <;> decide
/-- the texts of a row are not too long -/
def ShortL (xs : List Kk) : Prop := ∀ z : Str, (Sum.inr z : Kk) ∈ xs → z.length ≤ 1000
/-- two like ones where two unlike ones must be -/
def likeB (k : Str) (xs : List Kk) : Bool := decide (k ∈ [("heir" : Str), "liege"]) && decide (xs[1]? = xs[2]?)
def goodK (k : Str) (xs : List Kk) : Bool := match shp k with
  | none => false
  | some ts => decide (xs.length = ts.length) && (fitL ts xs && !likeB k xs)
section
variable {S : Sto}
theorem lnamed_eq {t : Str} (h : t.length ≤ most) (S : Sto) : m__law_named [.str t] S = .ok (.bl (isNm t)) S := is_name_eq h S
theorem short_most {z : Str} (h : z.length ≤ 1000) : z.length ≤ most := Nat.le_trans h (by decide)
theorem fits_eq (t : Tg) (x : Kk) (h : t.typ x = true) (hs : ∀ z, x = .inr z → z.length ≤ 1000) (S : Sto) : m_fits [kD x, .str t.wd] S = .ok (.bl (t.fit x)) S := by
  have k2 : 2 ≤ most := by decide
  have inn : ∀ z : Str, opInG (.str z) (.tup [.str "day", .str "service"]) = some (.bl (decide (z ∈ [("day" : Str), "service"]))) := fun z => inT2
  cases x with
  | inl i =>
    cases t with
    | d => exact dDef_ret (σ' := [.val (.int i), .val (.str "day")]) (by simp [b_fits, kD, Tg.wd, Tg.fit, k2, inn]; by_cases q : 0 ≤ i <;> simp [q])
    | s => exact dDef_ret (σ' := [.val (.int i), .val (.str "service")]) (by simp [b_fits, kD, Tg.wd, Tg.fit, k2, inn]; by_cases q : 0 ≤ i <;> simp [q])
    | a => exact dDef_ret (σ' := [.val (.int i), .val (.str "acres")]) (by simp [b_fits, kD, Tg.wd, Tg.fit, k2, inn]; by_cases q : 1 ≤ i <;> simp [q])
    | c => cases h
    | n => cases h
  | inr z =>
    have hz := is_name_eq (short_most (hs z rfl)) S
    cases t with
    | n => exact dDef_ret (σ' := [.val (.str z), .val (.str "name")]) (by simp [b_fits, kD, Tg.wd, Tg.fit, k2, inn, hz])
    | c =>
      refine dDef_ret (σ' := [.val (.str z), .val (.str "crowned")]) ?_
      by_cases q : z = ""
      · simp [b_fits, kD, Tg.wd, Tg.fit, k2, inn, q]
      · simp [b_fits, kD, Tg.wd, Tg.fit, k2, inn, hz, q]
    | d => cases h
    | a => cases h
    | s => cases h
theorem pairs_cons {x y : D} {xs ys : List D} : pairs (x :: xs) (y :: ys) = .tup [x, y] :: pairs xs ys := rfl
theorem good_turn (t : Tg) (x : Kk) (h : t.typ x = true) (hs : ∀ z, x = .inr z → z.length ≤ 1000) {a b : D} : fb__law_good_1 [.val a, .val b, .val (kD x), .val (.str ⟨#[t.ch]⟩)] S = .ok (if t.fit x then .next else .ret (.bl false)) [.val a, .val b, .val (kD x), .val (.str ⟨#[t.ch]⟩)] S := by
  have inn : opIn (.str ⟨#[t.ch]⟩) (.str "das") = some (.bl t.num) := by
    have q : hasC "das" t.ch = t.num := by cases t <;> decide
    rw [opIn_sign, q]
  have ea : decide ((⟨#[t.ch]⟩ : Str) = "a") = decide (t = .a) := by cases t <;> decide
  have ec : decide ((⟨#[t.ch]⟩ : Str) = "c") = decide (t = .c) := by cases t <;> decide
  generalize hch : (⟨#[t.ch]⟩ : Str) = ch at *
  cases x with
  | inl i =>
    have hn : t.num = true := h
    rw [hn] at inn
    by_cases q : t = .a
    · subst q
      by_cases q1 : 1 ≤ i <;> by_cases q2 : i ≤ 9999 <;> simp [fb__law_good_1, kD, inn, ea, opIntS_bl, Tg.fit, q1, q2]
    · have q0 : t = .d ∨ t = .s := by cases t <;> simp_all [Tg.num]
      have ef : t.fit (.inl i) = (decide (0 ≤ i) && decide (i ≤ 9999)) := by rcases q0 with rfl | rfl <;> rfl
      rw [decide_eq_false q] at ea
      by_cases q1 : 0 ≤ i <;> by_cases q2 : i ≤ 9999 <;> simp [fb__law_good_1, kD, inn, ea, opIntS_bl, ef, q1, q2]
  | inr z =>
    have hn : t.num = false := by
      have : (!t.num) = true := h
      simpa using this
    have hz := lnamed_eq (short_most (hs z rfl)) S
    rw [hn] at inn
    by_cases q : t = .c
    · subst q
      cases hb : isNm z <;> rw [hb] at hz <;> by_cases q1 : z = ""
      · simp [fb__law_good_1, kD, inn, ec, hz, Tg.fit, hb, show (z = "") = True from eq_true q1]
      · simp [fb__law_good_1, kD, inn, ec, hz, Tg.fit, hb, q1]
      · simp [fb__law_good_1, kD, inn, ec, hz, Tg.fit, hb, show (z = "") = True from eq_true q1]
      · simp [fb__law_good_1, kD, inn, ec, hz, Tg.fit, hb, q1]
    · have q0 : t = .n := by cases t <;> simp_all [Tg.num]
      subst q0
      rw [decide_eq_false q] at ec
      cases hb : isNm z <;> rw [hb] at hz <;> simp [fb__law_good_1, kD, inn, ec, hz, Tg.fit, hb]
theorem good_loop {a b : D} : ∀ (ts : List Tg) (xs : List Kk) (s2 s3 : Slot), typL ts xs = true → ShortL xs → ∃ u2 u3, forL (gT 2 (gsCons (gN 2) (gsCons (gN 3) gsNil))) fb__law_good_1 (pairs (xs.map kD) (ts.map fun t => D.str ⟨#[t.ch]⟩)) [.val a, .val b, s2, s3] S = .ok (if fitL ts xs then .next else .ret (.bl false)) [.val a, .val b, u2, u3] S
  | [], xs, s2, s3, _, _ => ⟨s2, s3, by cases xs <;> rfl⟩
  | t :: ts, [], s2, s3, _, _ => ⟨s2, s3, rfl⟩
  | t :: ts, x :: xs, s2, s3, h, hs => by
    obtain ⟨h1, h2⟩ := Bool.and_eq_true_iff.mp (show (t.typ x && typL ts xs) = true from h)
    have tr := good_turn (S := S) t x h1 (fun z e => hs z (by rw [e]; exact List.mem_cons_self ..)) (a := a) (b := b)
    have hg : gT 2 (gsCons (gN 2) (gsCons (gN 3) gsNil)) (.tup [kD x, .str ⟨#[t.ch]⟩]) [.val a, .val b, s2, s3] = some [.val a, .val b, .val (kD x), .val (.str ⟨#[t.ch]⟩)] := by simp [gT, gsCons, gsNil]
    cases hf : t.fit x with
    | true =>
      rw [hf] at tr
      obtain ⟨u2, u3, e⟩ := good_loop ts xs (.val (kD x)) (.val (.str ⟨#[t.ch]⟩)) h2 fun z hz => hs z (List.mem_cons_of_mem _ hz)
      refine ⟨u2, u3, ?_⟩
      rw [List.map_cons, List.map_cons, pairs_cons, forL_cons hg tr, e]
      show _ = Res.ok (if (t.fit x && fitL ts xs) then _ else _) _ _
      rw [hf, Bool.true_and]
    | false =>
      rw [hf] at tr
      refine ⟨.val (kD x), .val (.str ⟨#[t.ch]⟩), ?_⟩
      rw [List.map_cons, List.map_cons, pairs_cons, forL]
      dsimp only
      rw [hg]
      dsimp only
      rw [tr]
      show _ = Res.ok (if (t.fit x && fitL ts xs) then _ else _) _ _
      rw [hf, Bool.false_and]
      rfl
theorem check_turn (t : Tg) (x : Kk) (h : t.typ x = true) (hs : ∀ z, x = .inr z → z.length ≤ 1000) {a b : D} : fb_check_row_1 [.val a, .val b, .val (kD x), .val (.str t.wd)] S = if t.fit x then .ok .next [.val a, .val b, .val (kD x), .val (.str t.wd)] S else .exc ⟨"NoForm", none⟩ [.val a, .val b, .val (kD x), .val (.str t.wd)] S := by
  have e := fits_eq t x h hs S
  have fx : frz (kD x) [.val a, .val b, .val (kD x), .val (.str t.wd)] S = .ok (kD x) [.val a, .val b, .val (kD x), .val (.str t.wd)] S := by cases x <;> rfl
  cases hf : t.fit x <;> rw [hf] at e <;> simp [fb_check_row_1, fx, e, sRaise]
theorem check_loop {a b : D} : ∀ (ts : List Tg) (xs : List Kk) (s2 s3 : Slot), typL ts xs = true → ShortL xs → ∃ u2 u3, forL (gT 2 (gsCons (gN 2) (gsCons (gN 3) gsNil))) fb_check_row_1 (pairs (xs.map kD) (ts.map fun t => D.str t.wd)) [.val a, .val b, s2, s3] S = if fitL ts xs then .ok .next [.val a, .val b, u2, u3] S else .exc ⟨"NoForm", none⟩ [.val a, .val b, u2, u3] S
  | [], xs, s2, s3, _, _ => ⟨s2, s3, by cases xs <;> rfl⟩
  | t :: ts, [], s2, s3, _, _ => ⟨s2, s3, rfl⟩
  | t :: ts, x :: xs, s2, s3, h, hs => by
    obtain ⟨h1, h2⟩ := Bool.and_eq_true_iff.mp (show (t.typ x && typL ts xs) = true from h)
    have tr := check_turn (S := S) t x h1 (fun z e => hs z (by rw [e]; exact List.mem_cons_self ..)) (a := a) (b := b)
    have hg : gT 2 (gsCons (gN 2) (gsCons (gN 3) gsNil)) (.tup [kD x, .str t.wd]) [.val a, .val b, s2, s3] = some [.val a, .val b, .val (kD x), .val (.str t.wd)] := by simp [gT, gsCons, gsNil]
    cases hf : t.fit x with
    | true =>
      rw [hf] at tr
      obtain ⟨u2, u3, e⟩ := check_loop ts xs (.val (kD x)) (.val (.str t.wd)) h2 fun z hz => hs z (List.mem_cons_of_mem _ hz)
      refine ⟨u2, u3, ?_⟩
      rw [List.map_cons, List.map_cons, pairs_cons, forL_cons hg tr, e]
      show _ = if (t.fit x && fitL ts xs) = true then _ else _
      rw [hf, Bool.true_and]
    | false =>
      rw [hf] at tr
      refine ⟨.val (kD x), .val (.str t.wd), ?_⟩
      rw [List.map_cons, List.map_cons, pairs_cons, forL]
      dsimp only
      rw [hg]
      dsimp only
      rw [tr]
      show _ = if (t.fit x && fitL ts xs) = true then _ else _
      rw [hf, Bool.false_and]
      rfl
@[simp] theorem deref_cst {σ : Sl} {l : List D} : deref σ S (.cst l) = some (.cst l) := rfl
@[simp] theorem frz_cst {σ : Sl} {l : List D} : frz (.cst l) σ S = .ok (.cst l) σ S := rfl
@[simp] theorem opLenC_cst {l : List D} : opLenC (.cst l) = some (.int l.length) := rfl
theorem opSl_tail {a : D} {l : List D} : opSl (.tup (a :: l)) (some 1) none = some (.tup l) := by
  have h1 : HT.sIx (a :: l).length 0 (some 1) = 1 := by
    rw [show (1 : Int) = ((1 : Nat) : Int) from rfl, HT.sIx_nat, List.length_cons]
    omega
  have e0 : opSl (.tup (a :: l)) (some 1) none = if HT.sIx (a :: l).length 0 (some 1) = 0 ∧ HT.sIx (a :: l).length (a :: l).length none = (a :: l).length then none else some (.tup (cutL (a :: l) (some 1) none)) := rfl
  rw [e0, if_neg (by rw [h1]; omega)]
  unfold cutL
  rw [h1]
  show some (D.tup (List.take ((a :: l).length - 1) (List.drop 1 (a :: l)))) = _
  rw [List.drop_one, List.tail_cons, List.length_cons, Nat.add_sub_cancel, List.take_length]
theorem kD_frz {σ : Sl} (x : Kk) : frz (kD x) σ S = .ok (kD x) σ S := by cases x <;> rfl
theorem kD_deref {σ : Sl} (x : Kk) : deref σ S (kD x) = some (kD x) := by cases x <;> rfl
theorem kD_str (z : Str) : kD (.inr z) = .str z := rfl
theorem three {xs : List Kk} (h : xs.length = 3) : ∃ x y z, xs = [x, y, z] := match xs, h with
  | [x, y, z], _ => ⟨x, y, z, rfl⟩
theorem like_shp {k : Str} (h : k ∈ [("heir" : Str), "liege"]) : ∃ t, shp k = some [.d, .n, t] ∧ (t = .n ∨ t = .c) := by
  rcases List.mem_cons.mp h with rfl | h
  · exact ⟨.n, by decide, .inl rfl⟩
  · rcases List.mem_cons.mp h with rfl | h
    · exact ⟨.c, by decide, .inr rfl⟩
    · cases h
/-- the two parts that must be unlike are texts -/
theorem like_texts {k : Str} {xs : List Kk} {ts : List Tg} (h : k ∈ [("heir" : Str), "liege"]) (e : shp k = some ts) (hl : xs.length = ts.length) (ht : typL ts xs = true) : ∃ x a b, xs = [x, .inr a, .inr b] := by
  obtain ⟨t, e2, q⟩ := like_shp h
  rw [e] at e2
  cases e2
  obtain ⟨x, y, z, rfl⟩ := three hl
  cases y with
  | inl i => rcases q with rfl | rfl <;> simp [typL, Tg.typ, Tg.num] at ht
  | inr a => cases z with
    | inl i => rcases q with rfl | rfl <;> simp [typL, Tg.typ, Tg.num] at ht
    | inr b => exact ⟨x, a, b, rfl⟩
theorem check_row_eq {k : Str} {xs : List Kk} (ht : ∀ ts, shp k = some ts → xs.length = ts.length → typL ts xs = true) (hs : ShortL xs) : m_check_row [.tup (.str k :: xs.map kD)] S = if goodK k xs then .ok .non S else .exc ⟨"NoForm", none⟩ S := by
  have a0 : ∀ l : List D, L2.atI (D.str k :: l) 0 = some (.str k) := fun l => L2.atI_nat (j := 0) rfl
  unfold goodK
  have lk := tab_look k
  generalize hT : tab_SHAPES = T at lk
  cases e : shp k with
  | none =>
    rw [e] at lk
    refine dDef_exc (σ' := [.val (.tup (.str k :: xs.map kD)), .emp, .emp, .emp]) ?_
    simp [b_check_row, hT, a0, opNotInTab, lk, sRaise]
  | some ts =>
    rw [e] at lk
    have lk : T.lookup k = some (ts.map fun t => D.str t.wd) := lk
    have lx : ((D.str k :: xs.map kD).length : Int) = 1 + (xs.length : Int) := by rw [List.length_cons, List.length_map]; omega
    have lt : ((ts.map fun t => D.str t.wd).length : Int) = ts.length := by rw [List.length_map]
    show m_check_row _ S = if (decide (xs.length = ts.length) && (fitL ts xs && !likeB k xs)) = true then _ else _
    by_cases hl : xs.length = ts.length
    · rw [decide_eq_true hl]
      obtain ⟨u2, u3, lp⟩ := check_loop (S := S) (a := .tup (.str k :: xs.map kD)) (b := .cst (ts.map fun t => D.str t.wd)) ts xs .emp .emp (ht ts e hl) hs
      have hi : (1 : Int) + (xs.length : Int) = 1 + ts.length := by omega
      cases hf : fitL ts xs with
      | false =>
        rw [hf] at lp
        have lp : forL (gT 2 (gsCons (gN 2) (gsCons (gN 3) gsNil))) fb_check_row_1 (pairs (xs.map kD) (ts.map fun t => D.str t.wd)) [.val (.tup (.str k :: xs.map kD)), .val (.cst (ts.map fun t => D.str t.wd)), .emp, .emp] S = .exc ⟨"NoForm", none⟩ [.val (.tup (.str k :: xs.map kD)), .val (.cst (ts.map fun t => D.str t.wd)), u2, u3] S := lp
        have sl := opSl_tail (a := .str k) (l := xs.map kD)
        have ax := a0 (xs.map kD)
        rw [if_neg (by simp)]
        refine dDef_exc (σ' := [.val (.tup (.str k :: xs.map kD)), .val (.cst (ts.map fun t => D.str t.wd)), u2, u3]) ?_
        generalize hr : (D.str k :: xs.map kD) = row at *
        generalize hc : (ts.map fun t => D.str t.wd) = cs at *
        generalize xs.map kD = xd at *
        simp [b_check_row, hT, ax, opNotInTab, opTab, lk, lx, lt, hi, iZipC, sl, lp]
      | true =>
        rw [hf] at lp
        have lp : forL (gT 2 (gsCons (gN 2) (gsCons (gN 3) gsNil))) fb_check_row_1 (pairs (xs.map kD) (ts.map fun t => D.str t.wd)) [.val (.tup (.str k :: xs.map kD)), .val (.cst (ts.map fun t => D.str t.wd)), .emp, .emp] S = .ok .next [.val (.tup (.str k :: xs.map kD)), .val (.cst (ts.map fun t => D.str t.wd)), u2, u3] S := lp
        have sl := opSl_tail (a := .str k) (l := xs.map kD)
        have ax := a0 (xs.map kD)
        have k2 : 2 ≤ most := by decide
        have hin := inT2 (x := k) (a := "heir") (b := "liege")
        have step : ∀ r', (sIf (tAnd (tVal (d2 opInG (d2 opIx (dVar 0) (dC (.int 0))) (dTup (aCons (dC (.str "heir")) (aCons (dC (.str "liege")) aNil))))) (tVal (d2 opEq' (d2 opIx (dVar 0) (dC (.int 2))) (d2 opIx (dVar 0) (dC (.int 3)))))) (sRaise "NoForm") sNil) [.val (.tup (.str k :: xs.map kD)), .val (.cst (ts.map fun t => D.str t.wd)), u2, u3] S = r' →
            b_check_row [.val (.tup (.str k :: xs.map kD)), .emp, .emp, .emp] S = r' := fun r' h => by
          generalize hr : (D.str k :: xs.map kD) = row at *
          generalize hc : (ts.map fun t => D.str t.wd) = cs at *
          generalize xs.map kD = xd at *
          rw [← h]
          simp [b_check_row, hT, ax, opNotInTab, opTab, lk, lx, lt, hi, iZipC, sl, lp]
        by_cases hk : k ∈ [("heir" : Str), "liege"]
        · rw [decide_eq_true hk] at hin
          obtain ⟨x, a, b, rfl⟩ := like_texts hk e hl (ht ts e hl)
          have at2 : ∀ (x w z q : D), L2.atI [x, w, z, q] 2 = some z := fun x w z q => atI_lit [x, w, z, q] 2
          have at3 : ∀ (x w z q : D), L2.atI [x, w, z, q] 3 = some q := fun x w z q => atI_lit [x, w, z, q] 3
          by_cases hab : a = b
          · subst hab
            have lb : likeB k [x, .inr a, .inr a] = true := by unfold likeB; rw [decide_eq_true hk]; simp
            rw [lb, if_neg (by simp)]
            refine dDef_exc (σ' := [.val (.tup [.str k, kD x, .str a, .str a]), .val (.cst (ts.map fun t => D.str t.wd)), u2, u3]) (step _ ?_)
            simp only [List.map_cons, List.map_nil, kD_str] at ax ⊢
            simp [ax, hin, k2, at2, at3, sRaise]
          · have lb : likeB k [x, .inr a, .inr b] = false := by unfold likeB; simp [hab]
            rw [lb, if_pos (by simp)]
            refine dDef_next (σ' := [.val (.tup [.str k, kD x, .str a, .str b]), .val (.cst (ts.map fun t => D.str t.wd)), u2, u3]) (step _ ?_)
            simp only [List.map_cons, List.map_nil, kD_str] at ax ⊢
            simp [ax, hin, k2, at2, at3, hab]
        · rw [decide_eq_false hk] at hin
          have lb : likeB k xs = false := by unfold likeB; rw [decide_eq_false hk]; rfl
          rw [lb, if_pos (by simp)]
          refine dDef_next (σ' := [.val (.tup (.str k :: xs.map kD)), .val (.cst (ts.map fun t => D.str t.wd)), u2, u3]) (step _ ?_)
          generalize hr : (D.str k :: xs.map kD) = row at *
          simp [ax, hin, k2]
    · have hi : ¬ (1 : Int) + (xs.length : Int) = 1 + ts.length := by omega
      rw [decide_eq_false hl, if_neg (by simp)]
      refine dDef_exc (σ' := [.val (.tup (.str k :: xs.map kD)), .val (.cst (ts.map fun t => D.str t.wd)), .emp, .emp]) ?_
      have ax := a0 (xs.map kD)
      generalize hr : (D.str k :: xs.map kD) = row at *
      generalize hc : (ts.map fun t => D.str t.wd) = cs at *
      simp [b_check_row, hT, ax, opNotInTab, opTab, lk, lx, lt, hi, sRaise]
theorem signs_ltrs (ts : List Tg) : signs (ltrs ts) = ts.map fun t => D.str ⟨#[t.ch]⟩ := by
  unfold signs ltrs
  rw [txt_cps, List.map_map]
  rfl
theorem ltrs_len (ts : List Tg) : (ltrs ts).length = ts.length := by
  unfold ltrs
  rw [txt_len, List.length_map]
theorem ltrs_ne {k : Str} {ts : List Tg} (h : shp k = some ts) : decide (ltrs ts = "?") = false := by
  have := aval_mem h
  simp only [shpL, List.mem_cons, Prod.mk.injEq, List.not_mem_nil, or_false] at this
  rcases this with ⟨_, rfl⟩ | ⟨_, rfl⟩ | ⟨_, rfl⟩ | ⟨_, rfl⟩ | ⟨_, rfl⟩ | ⟨_, rfl⟩ | ⟨_, rfl⟩ <;> decide
theorem law_good_eq {k : Str} {xs : List Kk} (ht : ∀ ts, shp k = some ts → xs.length = ts.length → typL ts xs = true) (hs : ShortL xs) (S : Sto) : m__law_good [.tup (.str k :: xs.map kD)] S = .ok (.bl (goodK k xs)) S := by
  have a0 : ∀ l : List D, L2.atI (D.str k :: l) 0 = some (.str k) := fun l => L2.atI_nat (j := 0) rfl
  have ax := a0 (xs.map kD)
  have k2 : 2 ≤ most := by decide
  have sq := shapes_eq S
  have vl : valD shapesD (.inr k) = (shp k).map fun ts => D.str (ltrs ts) := by rw [shapes_enc]; exact valD_enc
  have eo : opLen (.str "?") = some (.int 1) := by
    have k1 : ("?" : Str).length = 1 := by decide
    rw [opLen_str (by rw [k1]; decide), k1]
    rfl
  unfold goodK
  have lx : ((D.str k :: xs.map kD).length : Int) = 1 + (xs.length : Int) := by rw [List.length_cons, List.length_map]; omega
  generalize shapesD = sd at *
  cases e : shp k with
  | none =>
    rw [e] at vl
    have vl : valD sd (.inr k) = none := vl
    refine dDef_ret (σ' := [.val (.tup (.str k :: xs.map kD)), .val (.str "?"), .emp, .emp]) ?_
    generalize hr : (D.str k :: xs.map kD) = row at *
    by_cases q : (1 : Int) + (xs.length : Int) = 1 + 1 <;> simp [b__law_good, ax, dCall0, sq, isDct, kGet, keyD, vl, lx, eo, q]
  | some ts =>
    rw [e] at vl
    have vl : valD sd (.inr k) = some (.str (ltrs ts)) := vl
    have ne := ltrs_ne e
    have zl : (ltrs ts).length ≤ most := by rw [ltrs_len]; exact Nat.le_trans (shp_len e) (by decide)
    have el : opLen (.str (ltrs ts)) = some (.int ts.length) := by rw [opLen_str zl, ltrs_len ts]
    have es := signs_ltrs ts
    show m__law_good _ S = .ok (.bl (decide (xs.length = ts.length) && (fitL ts xs && !likeB k xs))) S
    by_cases hl : xs.length = ts.length
    · rw [decide_eq_true hl]
      obtain ⟨u2, u3, lp⟩ := good_loop (S := S) (a := .tup (.str k :: xs.map kD)) (b := .str (ltrs ts)) ts xs .emp .emp (ht ts e hl) hs
      have hi : (1 : Int) + (xs.length : Int) = 1 + ts.length := by omega
      have sl := opSl_tail (a := .str k) (l := xs.map kD)
      rw [← es] at lp
      generalize ltrs ts = z at *
      cases hf : fitL ts xs with
      | false =>
        rw [hf] at lp
        have lp : forL (gT 2 (gsCons (gN 2) (gsCons (gN 3) gsNil))) fb__law_good_1 (pairs (xs.map kD) (signs z)) [.val (.tup (.str k :: xs.map kD)), .val (.str z), .emp, .emp] S = .ok (.ret (.bl false)) [.val (.tup (.str k :: xs.map kD)), .val (.str z), u2, u3] S := lp
        refine dDef_ret (σ' := [.val (.tup (.str k :: xs.map kD)), .val (.str z), u2, u3]) ?_
        generalize hr : (D.str k :: xs.map kD) = row at *
        generalize xs.map kD = xd at *
        simp [b__law_good, ax, dCall0, sq, isDct, kGet, keyD, vl, lx, el, hi, ne, iZipX, seqD, sl, lp]
      | true =>
        rw [hf] at lp
        have lp : forL (gT 2 (gsCons (gN 2) (gsCons (gN 3) gsNil))) fb__law_good_1 (pairs (xs.map kD) (signs z)) [.val (.tup (.str k :: xs.map kD)), .val (.str z), .emp, .emp] S = .ok .next [.val (.tup (.str k :: xs.map kD)), .val (.str z), u2, u3] S := lp
        have hin := inT2 (x := k) (a := "heir") (b := "liege")
        have step : ∀ r', (sRet (vNot (vAnd (d2 opInG (d2 opIx (dVar 0) (dC (.int 0))) (dTup (aCons (dC (.str "heir")) (aCons (dC (.str "liege")) aNil)))) (d2 opEq' (d2 opIx (dVar 0) (dC (.int 2))) (d2 opIx (dVar 0) (dC (.int 3))))))) [.val (.tup (.str k :: xs.map kD)), .val (.str z), u2, u3] S = r' →
            b__law_good [.val (.tup (.str k :: xs.map kD)), .emp, .emp, .emp] S = r' := fun r' h => by
          generalize hr : (D.str k :: xs.map kD) = row at *
          generalize xs.map kD = xd at *
          rw [← h]
          simp [b__law_good, ax, dCall0, sq, isDct, kGet, keyD, vl, lx, el, hi, ne, iZipX, seqD, sl, lp]
        by_cases hk : k ∈ [("heir" : Str), "liege"]
        · rw [decide_eq_true hk] at hin
          obtain ⟨x, a, b, rfl⟩ := like_texts hk e hl (ht ts e hl)
          have at2 : ∀ (x w z q : D), L2.atI [x, w, z, q] 2 = some z := fun x w z q => atI_lit [x, w, z, q] 2
          have at3 : ∀ (x w z q : D), L2.atI [x, w, z, q] 3 = some q := fun x w z q => atI_lit [x, w, z, q] 3
          have lb : likeB k [x, .inr a, .inr b] = decide (a = b) := by
            unfold likeB
            rw [decide_eq_true hk, Bool.true_and]
            simp
          rw [lb]
          refine dDef_ret (σ' := [.val (.tup [.str k, kD x, .str a, .str b]), .val (.str z), u2, u3]) (step _ ?_)
          simp only [List.map_cons, List.map_nil, kD_str] at ax ⊢
          simp [ax, hin, k2, at2, at3]
        · rw [decide_eq_false hk] at hin
          have lb : likeB k xs = false := by unfold likeB; rw [decide_eq_false hk]; rfl
          rw [lb]
          refine dDef_ret (σ' := [.val (.tup (.str k :: xs.map kD)), .val (.str z), u2, u3]) (step _ ?_)
          generalize hr : (D.str k :: xs.map kD) = row at *
          simp [ax, hin, k2]
    · have hi : ¬ (1 : Int) + (xs.length : Int) = 1 + ts.length := by omega
      rw [decide_eq_false hl]
      refine dDef_ret (σ' := [.val (.tup (.str k :: xs.map kD)), .val (.str (ltrs ts)), .emp, .emp]) ?_
      generalize hr : (D.str k :: xs.map kD) = row at *
      generalize ltrs ts = z at *
      simp [b__law_good, ax, dCall0, sq, isDct, kGet, keyD, vl, lx, el, hi]
end
end MR

set_option Elab.async false
set_option linter.all false
set_option maxRecDepth 100000
namespace MR
open PySem
abbrev rowL (k : Str) (xs : List Kk) : List D := .str k :: xs.map kD
/-- the texts of a row are no longer than b -/
def Shl (b : Nat) (xs : List Kk) : Prop := ∀ z : Str, (Sum.inr z : Kk) ∈ xs → z.length ≤ b
theorem rowL_take (k : Str) (xs : List Kk) (m : Nat) : (rowL k xs).take (m + 1) = rowL k (xs.take m) := by
  unfold rowL
  rw [List.take_succ_cons, List.map_take]
theorem rowL_drop (k : Str) (xs : List Kk) (m : Nat) : (rowL k xs).drop (m + 1) = (xs.drop m).map kD := by
  unfold rowL
  rw [List.drop_succ_cons, List.map_drop]
theorem rowL_len (k : Str) (xs : List Kk) : (rowL k xs).length = xs.length + 1 := by unfold rowL; rw [List.length_cons, List.length_map]
theorem kks_at {l : List Kk} (x : Int) (h : l ≠ []) : ∃ y ∈ l, L2.atI (l.map kD) (x % (l.length : Int)) = some (kD y) := by
  have hp : 0 < l.length := List.length_pos_iff.mpr h
  have i0 : 0 ≤ x % (l.length : Int) := Int.emod_nonneg _ (by omega)
  have i1 : x % (l.length : Int) < l.length := Int.emod_lt_of_pos _ (by omega)
  obtain ⟨k, hk, e⟩ : ∃ k : Nat, k < l.length ∧ x % (l.length : Int) = (k : Int) := ⟨(x % (l.length : Int)).toNat, by omega, by omega⟩
  refine ⟨l[k], List.getElem_mem hk, ?_⟩
  rw [e, atI_lit, List.getElem?_map, List.getElem?_eq_getElem hk]
  rfl
theorem slT_to {l : List D} (n : Nat) : opSlT (.tup l) none (some (n : Int)) = some (.tup (l.take n)) := by
  show some (D.tup (cutL l none (some (n : Int)))) = _
  rw [cutL_to]
theorem slT_from {l : List D} (n : Nat) : opSlT (.tup l) (some (n : Int)) none = some (.tup (l.drop n)) := by
  show some (D.tup (cutL l (some (n : Int)) none)) = _
  rw [cutL_from]
theorem catT_tup {l m : List D} (h : l.length + m.length ≤ most) : catT (.tup l) (.tup m) = some (.tup (l ++ m)) := if_pos h
theorem opIsi_kD (y : Kk) : opIsi .str (kD y) = some (.bl (match y with | .inl _ => false | .inr _ => true)) := by cases y <;> rfl
def isI : Kk → Bool
  | .inl _ => true
  | .inr _ => false
theorem opIsi_kDi (y : Kk) : opIsi .int (kD y) = some (.bl (isI y)) := by cases y <;> rfl
theorem opGet_tupA {l : List D} {n : Nat} {d : D} (h : l[n]? = some d) : opGet (.tup l) (.int (n : Int)) = some d := by
  show L2.atI l (n : Int) = some d
  rw [atI_lit, h]
section
variable {S : Sto} {fs : List Int}
theorem bent_ok (hg : Good fs) (hl : 8 ≤ fs.length) {k : Str} {xs : List Kk} {b : Nat} (hb : b ≤ 900) (hx : xs.length ≤ 20) (hs : Shl b xs) (S : Sto) :
    ∃ k' xs', m__law_bent_row [.tup (rowL k xs), .lst (fs.map D.int)] S = .ok (.tup (rowL k' xs')) S ∧ xs'.length ≤ xs.length + 1 ∧ Shl (b + 10) xs' := by
  obtain ⟨x0, a0, g0, _⟩ := int_at 0 hg (by omega)
  obtain ⟨x1, a1, g1, _⟩ := int_at 1 hg (by omega)
  obtain ⟨x2, a2, g2, _⟩ := int_at 2 hg (by omega)
  obtain ⟨x3, a3, g3, _⟩ := int_at 3 hg (by omega)
  have a0 : L2.atI (fs.map D.int) 0 = some (.int x0) := a0
  have a1 : L2.atI (fs.map D.int) 1 = some (.int x1) := a1
  have a2 : L2.atI (fs.map D.int) 2 = some (.int x2) := a2
  have a3 : L2.atI (fs.map D.int) 3 = some (.int x3) := a3
  have rl := rowL_len k xs
  have rp : (0 : Int) < ((rowL k xs).length : Int) := by omega
  obtain ⟨w, hw⟩ : ∃ w : Int, w = x0 % 7 := ⟨_, rfl⟩
  obtain ⟨at_, hat, ea⟩ : ∃ n : Nat, n < (rowL k xs).length ∧ x1 % ((rowL k xs).length : Int) = (n : Int) :=
    ⟨(x1 % ((rowL k xs).length : Int)).toNat, by have := Int.emod_lt_of_pos x1 rp; have := Int.emod_nonneg x1 (show ((rowL k xs).length : Int) ≠ 0 by omega); omega, by have := Int.emod_nonneg x1 (show ((rowL k xs).length : Int) ≠ 0 by omega); omega⟩
  have el : opLen (.tup (rowL k xs)) = some (.int ((rowL k xs).length : Int)) := rfl
  have k1 : 1 ≤ most := by decide
  have k3 : 3 ≤ most := by decide
  have k5 : 5 ≤ most := by decide
  have k6 : 6 ≤ most := by decide
  have k7 : 7 ≤ most := by decide
  have fin : ∀ {d : D} {σ' : Sl}, b__law_bent_row [.val (.tup (rowL k xs)), .val (.lst (fs.map D.int)), .emp, .emp, .emp, .emp] S = .ok (.ret d) σ' S → m__law_bent_row [.tup (rowL k xs), .lst (fs.map D.int)] S = .ok d S := fun h => dDef_ret h
  have take_sh : ∀ m, Shl (b + 10) (xs.take m) := fun m z hz => Nat.le_trans (hs z (List.mem_of_mem_take hz)) (by omega)
  have drop_sh : ∀ m, Shl (b + 10) (xs.drop m) := fun m z hz => Nat.le_trans (hs z (List.mem_of_mem_drop hz)) (by omega)
  have app_sh : ∀ {l m : List Kk}, Shl (b + 10) l → Shl (b + 10) m → Shl (b + 10) (l ++ m) := fun h1 h2 z hz => (List.mem_append.mp hz).elim (h1 z) (h2 z)
  by_cases w1 : w = 1
  · have em : (if (at_ : Int) > 1 then (at_ : Int) else 1) = (((at_ - 1) + 1 : Nat) : Int) := by split <;> omega
    refine ⟨k, xs.take (at_ - 1), fin (σ' := [.val (.tup (rowL k xs)), .val (.lst (fs.map D.int)), .val (.int at_), .val (.int w), .emp, .emp]) ?_, by rw [List.length_take]; omega, take_sh _⟩
    have sl := slT_to (l := rowL k xs) ((at_ - 1) + 1)
    rw [rowL_take, ← em] at sl
    have w1' : (x0 % 7 = 1) := by omega
    generalize rowL k (xs.take (at_ - 1)) = res at *
    generalize ((rowL k xs).length : Int) = L at *
    generalize rowL k xs = row at *
    generalize fs.map D.int = fl at *
    simp [-opLen_tup, el, b__law_bent_row, a0, a1, rp, ea, ← hw, w1, dSlT, sl]
  by_cases w2 : w = 2
  · obtain ⟨y, hy, ey⟩ := kks_at (l := [.inl 3, .inr "ann", .inr ""]) x2 (by simp)
    have ey : L2.atI [D.int 3, .str "ann", .str ""] (x2 % 3) = some (kD y) := ey
    have yl : Shl (b + 10) [y] := fun z hz => by
      rw [List.mem_singleton] at hz
      subst hz
      simp only [List.mem_cons, List.not_mem_nil, or_false, reduceCtorEq, Sum.inr.injEq, false_or] at hy
      rcases hy with rfl | rfl
      · exact Nat.le_trans (by decide) (Nat.le_add_left 10 b)
      · exact Nat.le_trans (by decide) (Nat.le_add_left 10 b)
    refine ⟨k, xs ++ [y], fin (σ' := [.val (.tup (rowL k xs)), .val (.lst (fs.map D.int)), .val (.int at_), .val (.int w), .emp, .emp]) ?_, by rw [List.length_append, List.length_singleton]; exact Nat.le_refl _, app_sh (fun z hz => Nat.le_trans (hs z hz) (by omega)) yl⟩
    have ct : catT (.tup (rowL k xs)) (.tup [kD y]) = some (.tup (rowL k (xs ++ [y]))) := by
      rw [catT_tup (by rw [rl]; simp; unfold most; omega)]
      unfold rowL
      rw [List.map_append, List.cons_append]
      rfl
    have fy : ∀ σ : Sl, frz (kD y) σ S = .ok (kD y) σ S := fun σ => kD_frz y
    generalize rowL k (xs ++ [y]) = res at *
    generalize ((rowL k xs).length : Int) = L at *
    generalize rowL k xs = row at *
    generalize fs.map D.int = fl at *
    simp [-opLen_tup, el, b__law_bent_row, a0, a1, a2, rp, ea, ← hw, w1, w2, dCatT, k3, k1, ey, fy, ct]
  by_cases w3 : w = 3 ∧ 0 < at_
  · obtain ⟨w3, h0⟩ := w3
    obtain ⟨m, rfl⟩ : ∃ m, at_ = m + 1 := ⟨at_ - 1, by omega⟩
    refine ⟨k, xs.take m ++ xs.drop (m + 1), fin (σ' := [.val (.tup (rowL k xs)), .val (.lst (fs.map D.int)), .val (.int (m + 1 : Nat)), .val (.int w), .emp, .emp]) ?_, by rw [List.length_append, List.length_take, List.length_drop]; omega, app_sh (take_sh _) (drop_sh _)⟩
    have s1 := slT_to (l := rowL k xs) (m + 1)
    have s2 := slT_from (l := rowL k xs) (m + 2)
    rw [rowL_take] at s1
    rw [rowL_drop] at s2
    have e2 : ((m + 1 : Nat) : Int) + 1 = ((m + 2 : Nat) : Int) := by omega
    have ct : catT (.tup (rowL k (xs.take m))) (.tup ((xs.drop (m + 1)).map kD)) = some (.tup (rowL k (xs.take m ++ xs.drop (m + 1)))) := by
      rw [catT_tup (by rw [rowL_len, List.length_map, List.length_take, List.length_drop]; unfold most; omega)]
      unfold rowL
      rw [List.map_append, List.cons_append]
    have hp : (0 : Int) < ((m + 1 : Nat) : Int) := by omega
    generalize ((m + 1 : Nat) : Int) = mi at *
    generalize ((m + 2 : Nat) : Int) = mj at *
    generalize rowL k (xs.take m ++ xs.drop (m + 1)) = res at *
    generalize rowL k (xs.take m) = r1 at *
    generalize (xs.drop (m + 1)).map kD = r2 at *
    generalize ((rowL k xs).length : Int) = L at *
    generalize rowL k xs = row at *
    generalize fs.map D.int = fl at *
    simp [-opLen_tup, el, b__law_bent_row, a0, a1, rp, ea, ← hw, w3, hp, dCatT, dSlT, e2, s1, s2, ct]
  by_cases w4 : 4 < w ∨ at_ = 0
  · obtain ⟨z, hz, ez⟩ := strs_at (l := ["grants", "", "Heir", "troth", "death "]) x2 (by simp)
    have ez : L2.atI [D.str "grants", .str "", .str "Heir", .str "troth", .str "death "] (x2 % 5) = some (.str z) := ez
    refine ⟨z, xs, fin (σ' := [.val (.tup (rowL k xs)), .val (.lst (fs.map D.int)), .val (.int at_), .val (.int w), .emp, .emp]) ?_, by omega, fun z hz => Nat.le_trans (hs z hz) (by omega)⟩
    have s2 := slT_from (l := rowL k xs) 1
    rw [show rowL k xs = (D.str k) :: xs.map kD from rfl, List.drop_one, List.tail_cons] at s2
    have s2 : opSlT (.tup (rowL k xs)) (some 1) none = some (.tup (xs.map kD)) := s2
    have ct : catT (.tup [.str z]) (.tup (xs.map kD)) = some (.tup (rowL z xs)) := by
      rw [catT_tup (by rw [List.length_map]; simp; unfold most; omega)]
      rfl
    have c3 : (w = 3) → at_ = 0 := fun h => by
      rcases w4 with w4 | w4
      · omega
      · exact w4
    generalize rowL z xs = res at *
    generalize xs.map kD = r2 at *
    generalize ((rowL k xs).length : Int) = L at *
    generalize rowL k xs = row at *
    generalize fs.map D.int = fl at *
    by_cases q3 : w = 3
    · have q4 := c3 q3
      subst q4
      simp [-opLen_tup, el, b__law_bent_row, a0, a1, a2, rp, ea, ← hw, w1, w2, q3, dCatT, dSlT, s2, k5, k1, ez, ct]
    · by_cases q5 : 4 < w
      · simp [-opLen_tup, el, b__law_bent_row, a0, a1, a2, rp, ea, ← hw, w1, w2, q3, q5, dCatT, dSlT, s2, k5, k1, ez, ct]
      · have q6 : at_ = 0 := by omega
        subst q6
        simp [-opLen_tup, el, b__law_bent_row, a0, a1, a2, rp, ea, ← hw, w1, w2, q3, q5, dCatT, dSlT, s2, k5, k1, ez, ct]
  · have w5 : ¬ 4 < w := fun h => w4 (.inl h)
    obtain ⟨m, rfl⟩ : ∃ m, at_ = m + 1 := ⟨at_ - 1, by omega⟩
    have hp : (0 : Int) < ((m + 1 : Nat) : Int) := by omega
    have hp2 : ¬ ((m + 1 : Nat) : Int) = 0 := by omega
    have q3 : ¬ w = 3 := fun h => w3 ⟨h, by omega⟩
    have hm : m < xs.length := by omega
    have gx : (rowL k xs)[m + 1]? = some (kD xs[m]) := by
      unfold rowL
      rw [List.getElem?_cons_succ, List.getElem?_map, List.getElem?_eq_getElem hm]
      rfl
    have gg := opGet_tupA gx
    have mx : xs[m] ∈ xs := List.getElem_mem hm
    have s1 := slT_to (l := rowL k xs) (m + 1)
    have s2 := slT_from (l := rowL k xs) (m + 2)
    rw [rowL_take] at s1
    rw [rowL_drop] at s2
    have e2 : ((m + 1 : Nat) : Int) + 1 = ((m + 2 : Nat) : Int) := by omega
    have ct : ∀ y : Kk, (catT (.tup (rowL k (xs.take m))) (.tup [kD y])) = some (.tup (rowL k (xs.take m ++ [y]))) ∧ catT (.tup (rowL k (xs.take m ++ [y]))) (.tup ((xs.drop (m + 1)).map kD)) = some (.tup (rowL k ((xs.take m ++ [y]) ++ xs.drop (m + 1)))) := fun y => by
      constructor
      · rw [catT_tup (by rw [rowL_len, List.length_take]; simp; unfold most; omega)]
        unfold rowL
        rw [List.map_append, List.cons_append]
        rfl
      · rw [catT_tup (by rw [rowL_len, List.length_append, List.length_map, List.length_take, List.length_drop]; simp; unfold most; omega)]
        unfold rowL
        simp only [List.map_append, List.cons_append]
    have res_len : ∀ y : Kk, ((xs.take m ++ [y]) ++ xs.drop (m + 1)).length ≤ xs.length + 1 := fun y => by
      rw [List.length_append, List.length_append, List.length_take, List.length_drop, List.length_singleton]
      omega
    have res_sh : ∀ y : Kk, (∀ z, y = .inr z → z.length ≤ b + 10) → Shl (b + 10) ((xs.take m ++ [y]) ++ xs.drop (m + 1)) := fun y h => app_sh (app_sh (take_sh _) (fun z hz => h z (List.mem_singleton.mp hz).symm)) (drop_sh _)
    cases hy : xs[m] with
    | inl i =>
      obtain ⟨y, hy2, ey⟩ := ints_at (l := [0, -1, 10000, 10 ^ 20, 9999, 0 - i]) x2 (by simp)
      have ey : L2.atI [D.int 0, .int (-1), .int 10000, .int (10 ^ 20), .int 9999, .int (0 - i)] (x2 % 6) = some (.int y) := ey
      obtain ⟨c1, c2⟩ := ct (.inl y)
      have c1 : catT (.tup (rowL k (xs.take m))) (.tup [.int y]) = _ := c1
      rw [hy] at gg
      have gg : opGet (.tup (rowL k xs)) (.int ((m + 1 : Nat) : Int)) = some (.int i) := gg
      refine ⟨k, (xs.take m ++ [.inl y]) ++ xs.drop (m + 1), fin (σ' := [.val (.tup (rowL k xs)), .val (.lst (fs.map D.int)), .val (.int (m + 1 : Nat)), .val (.int w), .emp, .emp]) ?_, res_len _, res_sh _ fun z h => nomatch h⟩
      have ei : opIsi .str (D.int i) = some (.bl false) := rfl
      have ep : opPow (.int 10) (.int 20) = some (.int (10 ^ 20)) := by simp [opPow, small]
      generalize ((m + 1 : Nat) : Int) = mi at *
      generalize ((m + 2 : Nat) : Int) = mj at *
      generalize rowL k ((xs.take m ++ [.inl y]) ++ xs.drop (m + 1)) = res at *
      generalize rowL k (xs.take m ++ [.inl y]) = r3 at *
      generalize rowL k (xs.take m) = r1 at *
      generalize (xs.drop (m + 1)).map kD = r2 at *
      generalize ((rowL k xs).length : Int) = L at *
      generalize rowL k xs = row at *
      generalize fs.map D.int = fl at *
      generalize (10 ^ 20 : Int) = big at *
      simp at ey
      simp [-opLen_tup, el, b__law_bent_row, a0, a1, a2, rp, ea, ← hw, w1, w2, q3, w5, hp2, dCatT, dSlT, e2, s1, s2, gg, ei, ep, k6, ey, k1, c1, c2]
    | inr z0 =>
      have z0l : z0.length ≤ b := hs z0 (by rw [← hy]; exact mx)
      have l8 : ("abcdefgh" : Str).length = 8 := by decide
      have l1 : (" " : Str).length = 1 := by decide
      have lA : ("A" : Str).length = 1 := by decide
      obtain ⟨y, hy2, ey⟩ : ∃ y ∈ xs, L2.atI (rowL k xs) (1 + x3 % (((rowL k xs).length : Int) - 1)) = some (kD y) := by
        have ne : xs ≠ [] := fun h => by rw [h] at hm; exact absurd hm (Nat.not_lt_zero _)
        obtain ⟨y, h1, h2⟩ := kks_at x3 ne
        refine ⟨y, h1, ?_⟩
        have el : ((rowL k xs).length : Int) - 1 = (xs.length : Int) := by omega
        have np : (0 : Int) < xs.length := by omega
        obtain ⟨j, hj⟩ : ∃ j : Nat, x3 % (xs.length : Int) = (j : Int) := ⟨(x3 % (xs.length : Int)).toNat, by have := Int.emod_nonneg x3 (show (xs.length : Int) ≠ 0 by omega); omega⟩
        rw [el, hj, show (1 : Int) + (j : Int) = ((j + 1 : Nat) : Int) by omega, atI_lit]
        rw [hj, atI_lit] at h2
        exact h2
      have rp1 : (0 : Int) < ((rowL k xs).length : Int) - 1 := by omega
      have es : opSub (.int ((rowL k xs).length : Int)) (.int 1) = some (.int (((rowL k xs).length : Int) - 1)) := rfl
      obtain ⟨v, hv, ev⟩ := kks_at (l := [.inr "", .inr (z0 ++ "abcdefgh"), .inr (z0 ++ " "), .inr (("A" : Str) ++ z0), .inr "-", y, .inr "a1"]) x2 (by simp)
      have ev : L2.atI [D.str "", .str (z0 ++ "abcdefgh"), .str (z0 ++ " "), .str (("A" : Str) ++ z0), .str "-", kD y, .str "a1"] (x2 % 7) = some (kD v) := ev
      have vl : ∀ z, v = .inr z → z.length ≤ b + 10 := fun z e => by
        subst e
        have ap : ∀ a c : Str, (a ++ c).length = a.length + c.length := fun a c => Str.length_append ..
        simp only [List.mem_cons, List.not_mem_nil, or_false, Sum.inr.injEq] at hv
        rcases hv with rfl | rfl | rfl | rfl | rfl | rfl | rfl
        · exact Nat.le_trans (by decide) (Nat.le_add_left 10 b)
        · rw [ap, l8]; omega
        · rw [ap, l1]; omega
        · rw [ap, lA]; omega
        · exact Nat.le_trans (by decide) (Nat.le_add_left 10 b)
        · exact Nat.le_trans (hs _ hy2) (by omega)
        · exact Nat.le_trans (by decide) (Nat.le_add_left 10 b)
      rw [hy] at gg
      have gg : opGet (.tup (rowL k xs)) (.int ((m + 1 : Nat) : Int)) = some (.str z0) := gg
      have m8 : opAdd (.str z0) (.str "abcdefgh") = some (.str (z0 ++ "abcdefgh")) := opAdd_str (by rw [l8]; unfold most; omega)
      have m1 : opAdd (.str z0) (.str " ") = some (.str (z0 ++ " ")) := opAdd_str (by rw [l1]; unfold most; omega)
      have mA : opAdd (.str "A") (.str z0) = some (.str (("A" : Str) ++ z0)) := opAdd_str (by rw [lA]; unfold most; omega)
      have ei : opIsi .str (D.str z0) = some (.bl true) := rfl
      have iv := opIsi_kD v
      have fy : ∀ σ : Sl, frz (kD y) σ S = .ok (kD y) σ S := fun σ => kD_frz y
      have fv : ∀ σ : Sl, frz (kD v) σ S = .ok (kD v) σ S := fun σ => kD_frz v
      have dv : ∀ σ : Sl, deref σ S (kD v) = some (kD v) := fun σ => kD_deref v
      have dy : ∀ σ : Sl, deref σ S (kD y) = some (kD y) := fun σ => kD_deref y
      generalize z0 ++ ("abcdefgh" : Str) = t1 at *
      generalize z0 ++ (" " : Str) = t2 at *
      generalize ("A" : Str) ++ z0 = t3 at *
      cases v with
      | inr z =>
        obtain ⟨c1, c2⟩ := ct (.inr z)
        have c1 : catT (.tup (rowL k (xs.take m))) (.tup [.str z]) = _ := c1
        refine ⟨k, (xs.take m ++ [.inr z]) ++ xs.drop (m + 1), fin (σ' := [.val (.tup (rowL k xs)), .val (.lst (fs.map D.int)), .val (.int (m + 1 : Nat)), .val (.int w), .val (kD y), .val (.str z)]) ?_, res_len _, res_sh _ fun z' h => by cases h; exact vl z rfl⟩
        have ev : _ = some (D.str z) := ev
        have iv : opIsi .str (.str z) = some (.bl true) := iv
        generalize kD y = yd at *
        generalize ((m + 1 : Nat) : Int) = mi at *
        generalize ((m + 2 : Nat) : Int) = mj at *
        generalize rowL k ((xs.take m ++ [.inr z]) ++ xs.drop (m + 1)) = res at *
        generalize rowL k (xs.take m ++ [.inr z]) = r3 at *
        generalize rowL k (xs.take m) = r1 at *
        generalize (xs.drop (m + 1)).map kD = r2 at *
        generalize ((rowL k xs).length : Int) - 1 = L1 at *
        generalize ((rowL k xs).length : Int) = L at *
        generalize rowL k xs = row at *
        generalize fs.map D.int = fl at *
        simp [-opLen_tup, -opSub_int, es, el, b__law_bent_row, a0, a1, a2, a3, rp, rp1, ea, ← hw, w1, w2, q3, w5, hp2, dCatT, dSlT, e2, s1, s2, gg, ei, ey, fy, dy, m8, m1, mA, k7, ev, iv, k1, c1, c2]
      | inl i =>
        obtain ⟨c1, c2⟩ := ct (.inr "")
        have c1 : catT (.tup (rowL k (xs.take m))) (.tup [.str ""]) = _ := c1
        refine ⟨k, (xs.take m ++ [.inr ""]) ++ xs.drop (m + 1), fin (σ' := [.val (.tup (rowL k xs)), .val (.lst (fs.map D.int)), .val (.int (m + 1 : Nat)), .val (.int w), .val (kD y), .val (.str "")]) ?_, res_len _, res_sh _ fun z' h => by cases h; exact Nat.le_trans (by decide) (Nat.le_add_left 10 b)⟩
        have ev : _ = some (D.int i) := ev
        have iv : opIsi .str (.int i) = some (.bl false) := iv
        generalize kD y = yd at *
        generalize ((m + 1 : Nat) : Int) = mi at *
        generalize ((m + 2 : Nat) : Int) = mj at *
        generalize rowL k ((xs.take m ++ [.inr ""]) ++ xs.drop (m + 1)) = res at *
        generalize rowL k (xs.take m ++ [.inr ""]) = r3 at *
        generalize rowL k (xs.take m) = r1 at *
        generalize (xs.drop (m + 1)).map kD = r2 at *
        generalize ((rowL k xs).length : Int) - 1 = L1 at *
        generalize ((rowL k xs).length : Int) = L at *
        generalize rowL k xs = row at *
        generalize fs.map D.int = fl at *
        simp [-opLen_tup, -opSub_int, es, el, b__law_bent_row, a0, a1, a2, a3, rp, rp1, ea, ← hw, w1, w2, q3, w5, hp2, dCatT, dSlT, e2, s1, s2, gg, ei, ey, fy, dy, m8, m1, mA, k7, ev, iv, k1, c1, c2]
/-- numbers stand where numbers must, texts where texts must, as far as the row goes -/
def keptB (k : Str) (xs : List Kk) : Bool := typL ((shp k).getD []) xs
theorem all_typ : ∀ (ts : List Tg) (xs : List Kk), (List.zip xs ts).all (fun p => p.2.typ p.1) = typL ts xs
  | [], xs => by simp [typL]
  | t :: ts, [] => rfl
  | t :: ts, x :: xs => by
    rw [List.zip_cons_cons, List.all_cons, all_typ ts xs]
    rfl
theorem pairs_zip : ∀ (xs : List Kk) (ts : List Tg), pairs (xs.map kD) (ts.map fun t => D.str ⟨#[t.ch]⟩) = (List.zip xs ts).map fun p => .tup [kD p.1, .str ⟨#[p.2.ch]⟩]
  | [], ts => by cases ts <;> rfl
  | x :: xs, [] => rfl
  | x :: xs, t :: ts => by
    rw [List.zip_cons_cons, List.map_cons, List.map_cons, List.map_cons, pairs_cons, pairs_zip xs ts]
theorem kept_lc {k : Str} {xs : List Kk} {ts : List Tg} {z : Str} (ez : signs z = ts.map fun t => D.str ⟨#[t.ch]⟩) (hx : xs.length ≤ 100) (S : Sto) :
    dLc (iZipX (dSl (dVar 0) (oSome (dC (.int 1))) oNone) (dVar 1)) (gT 2 (gsCons (gN 3) (gsCons (gN 2) gsNil))) tTrue le__law_kinds_kept_1 [3, 2] [.val (.tup (rowL k xs)), .val (.str z), .emp, .emp] S =
      .ok (.lst ((List.zip xs ts).map fun p => .bl (p.2.typ p.1))) [.val (.tup (rowL k xs)), .val (.str z), .emp, .emp] S := by
  have sl := opSl_tail (a := .str k) (l := xs.map kD)
  have hi : iZipX (dSl (dVar 0) (oSome (dC (.int 1))) oNone) (dVar 1) [.val (.tup (rowL k xs)), .val (.str z), .emp, .emp] S = .ok ((List.zip xs ts).map fun p => .tup [kD p.1, .str ⟨#[p.2.ch]⟩]) [.val (.tup (rowL k xs)), .val (.str z), .emp, .emp] S := by
    rw [← pairs_zip, ← ez]
    unfold rowL
    generalize (D.str k :: xs.map kD) = row at *
    generalize xs.map kD = xd at *
    simp [iZipX, seqD, sl]
  have e := dLc_map (g := gT 2 (gsCons (gN 3) (gsCons (gN 2) gsNil))) (e := le__law_kinds_kept_1) (vs := [3, 2]) (S := S) (fun d => match d with
      | .tup [a, b] => [.val (.tup (rowL k xs)), .val (.str z), .val b, .val a]
      | _ => []) (fun d => match d with
      | .tup [a, .str c] => (match (d2 opEq' (d1 (opIsi .int) (dC a)) (d2 opIn (dC (.str c)) (dC (.str "das"))) [] []) with
        | .ok w _ _ => w
        | _ => .non)
      | _ => .non) hi rfl (by rw [List.length_map, List.length_zip]; exact Nat.le_trans (Nat.min_le_left ..) (Nat.le_trans hx (by decide))) fun d hd => by
        obtain ⟨⟨x, t⟩, _, rfl⟩ := List.mem_map.mp hd
        have inn : opIn (.str ⟨#[t.ch]⟩) (.str "das") = some (.bl t.num) := by
          have q : hasC "das" t.ch = t.num := by cases t <;> decide
          rw [opIn_sign, q]
        have ik := opIsi_kDi x
        have dk : ∀ (σ : Sl) (S : Sto), deref σ S (kD x) = some (kD x) := fun σ S => by cases x <;> rfl
        generalize hch : (⟨#[t.ch]⟩ : Str) = ch at *
        refine ⟨by simp [gT, gsCons, gsNil, wipeD], by simp [wipeD], ?_⟩
        simp [le__law_kinds_kept_1, inn, ik, dk]
  rw [List.map_map] at e
  rw [e]
  congr 2
  refine List.map_congr_left fun p _ => ?_
  obtain ⟨x, t⟩ := p
  have inn : opIn (.str ⟨#[t.ch]⟩) (.str "das") = some (.bl t.num) := by
    have q : hasC "das" t.ch = t.num := by cases t <;> decide
    rw [opIn_sign, q]
  have ik := opIsi_kDi x
  have dk : ∀ (σ : Sl) (S : Sto), deref σ S (kD x) = some (kD x) := fun σ S => by cases x <;> rfl
  have eq : t.typ x = decide (isI x = t.num) := by cases x <;> cases t <;> rfl
  generalize hch : (⟨#[t.ch]⟩ : Str) = ch at *
  simp [inn, ik, dk, eq, hch]
theorem kept_eq {k : Str} {xs : List Kk} (hx : xs.length ≤ 100) (S : Sto) : m__law_kinds_kept [.tup (rowL k xs)] S = .ok (.bl (keptB k xs)) S := by
  have ax : L2.atI (rowL k xs) 0 = some (.str k) := L2.atI_nat (j := 0) rfl
  have sq := shapes_eq S
  have vl : valD shapesD (.inr k) = (shp k).map fun ts => D.str (ltrs ts) := by rw [shapes_enc]; exact valD_enc
  have key : ∀ (ts : List Tg) (z : Str), (valD shapesD (.inr k)).getD (.str "") = .str z → signs z = (ts.map fun t => D.str ⟨#[t.ch]⟩) → m__law_kinds_kept [.tup (rowL k xs)] S = .ok (.bl (typL ts xs)) S := fun ts z h1 h2 => by
    have e := kept_lc (k := k) (xs := xs) h2 hx S
    have ea : opAll (.lst ((List.zip xs ts).map fun p => .bl (p.2.typ p.1))) = some (.bl (typL ts xs)) := by
      rw [← all_typ]
      exact opAll_map ..
    refine dDef_ret (σ' := [.val (.tup (rowL k xs)), .val (.str z), .emp, .emp]) ?_
    generalize shapesD = sd at *
    generalize rowL k xs = row at *
    generalize ((List.zip xs ts).map fun p => D.bl (p.2.typ p.1)) = bs at *
    simp [b__law_kinds_kept, ax, dCall0, sq, isDct, kGet, keyD, h1, e, ea]
  unfold keptB
  cases e : shp k with
  | none => exact key [] "" (by rw [vl, e]; rfl) rfl
  | some ts => exact key ts (ltrs ts) (by rw [vl, e]; rfl) (signs_ltrs ts)
theorem why_form_eq {k : Str} {xs : List Kk} (ht : keptB k xs = true) (hs : ShortL xs) (S : Sto) : ∃ l, m__law_why_form [.tup (rowL k xs)] S = .ok (.tup [.bl (goodK k xs), .lst l]) S ∧ l = if goodK k xs then [] else [.bl true, .bl true, .bl false, .bl false, .bl false, .bl false, .bl false, .bl false, .bl false, .bl false] := by
  have hc := check_row_eq (S := S) (k := k) (xs := xs) (fun ts e _ => by unfold keptB at ht; rw [e] at ht; exact ht) hs
  have k4 : 4 ≤ most := by decide
  have k3 : 3 ≤ most := by decide
  have k2 : 2 ≤ most := by decide
  have k7 : 7 ≤ most := by decide
  have k10 : 10 ≤ most := by decide
  show ∃ l, m__law_why_form [.tup (.str k :: xs.map kD)] S = _ ∧ _
  generalize (D.str k :: xs.map kD) = row at *
  cases hg : goodK k xs with
  | true =>
    rw [hg, if_pos rfl] at hc
    refine ⟨[], dDef_ret (σ' := [.val (.tup row), .val (.lst []), .val (.bl true), .emp]) ?_, rfl⟩
    unfold b__law_why_form
    refine run_seq (r := .ok .next [.val (.tup row), .val (.lst []), .emp, .emp] S) (by simp) ?_
    rw [seqK_next]
    refine run_seq (r := .ok .next [.val (.tup row), .val (.lst []), .val (.bl false), .emp] S) (by simp) ?_
    rw [seqK_next]
    refine run_seq (r := .ok .next [.val (.tup row), .val (.lst []), .val (.bl true), .emp] S) (sTry_ok (by simp [tb__law_why_form_1, hc])) ?_
    rw [seqK_next]
    simp [k2]
  | false =>
    rw [hg, if_neg (by simp)] at hc
    refine ⟨_, dDef_ret (σ' := [.val (.tup row), .val (.lst [.bl true, .bl true, .bl false, .bl false, .bl false, .bl false, .bl false, .bl false, .bl false, .bl false]), .val (.bl false), .emp]) ?_, rfl⟩
    unfold b__law_why_form
    refine run_seq (r := .ok .next [.val (.tup row), .val (.lst []), .emp, .emp] S) (by simp) ?_
    rw [seqK_next]
    refine run_seq (r := .ok .next [.val (.tup row), .val (.lst []), .val (.bl false), .emp] S) (by simp) ?_
    rw [seqK_next]
    refine run_seq (r := .ok .next [.val (.tup row), .val (.lst [.bl true, .bl true, .bl false, .bl false, .bl false, .bl false, .bl false, .bl false, .bl false, .bl false]), .val (.bl false), .emp] S) (sTry_next (σ1 := [.val (.tup row), .val (.lst []), .val (.bl false), .emp]) (S1 := S) (k := "NoForm") (by simp [tb__law_why_form_1, hc]) (by decide) (by decide) fun a => ⟨[.val (.tup row), .val (.lst [.bl true, .bl true, .bl false, .bl false, .bl false, .bl false, .bl false, .bl false, .bl false, .bl false]), .val (.bl false), .exn a], ?_, rfl⟩) ?_
    · simp [th__law_why_form_2, dIsE, excSub, k4, k3, k7, k10]
    rw [seqK_next]
    simp [k2]
theorem eq_true' : opEq' (.tup [.bl true, .lst []]) (.tup [.bl true, .lst []]) = some (.bl true) := by rfl
theorem eq_false' : opEq' (.tup [.bl false, .lst [.bl true, .bl true, .bl false, .bl false, .bl false, .bl false, .bl false, .bl false, .bl false, .bl false]]) (.tup [.bl false, .lst [.bl true, .bl true, .bl false, .bl false, .bl false, .bl false, .bl false, .bl false, .bl false, .bl false]]) = some (.bl true) := by rfl
def Rw.k : Rw → Str
  | .heir .. => "heir" | .grant .. => "grant" | .part .. => "part" | .convey .. => "convey" | .liege .. => "liege" | .surr .. => "surrender" | .death .. => "death"
def Rw.xs : Rw → List Kk
  | .heir d m h => [.inl d, .inr m, .inr h]
  | .grant d e n m a s => [.inl d, .inr e, .inr n, .inr m, .inl a, .inl s]
  | .part d e n m a => [.inl d, .inr e, .inr n, .inr m, .inl a]
  | .convey d e m => [.inl d, .inr e, .inr m]
  | .liege d m l => [.inl d, .inr m, .inr l]
  | .surr d e => [.inl d, .inr e]
  | .death d m => [.inl d, .inr m]
theorem Rw.rowD_eq (r : Rw) : r.D = .tup (rowL r.k r.xs) := by cases r <;> rfl
theorem Rw.kept (r : Rw) : keptB r.k r.xs = true := by cases r <;> rfl
theorem Rw.xlen (r : Rw) : r.xs.length ≤ 6 := by cases r <;> simp [Rw.xs]
theorem Rw.shl {r : Rw} (h : r.sh) : Shl 8 r.xs := by
  cases r <;> intro z hz <;> simp only [Rw.xs, List.mem_cons, List.not_mem_nil, or_false, Sum.inr.injEq, reduceCtorEq, false_or] at hz <;> simp only [Rw.sh] at h <;> (repeat' rcases hz with rfl | hz) <;> simp_all
/-- the loop over the bents -/
theorem bent_loop {fs : List Int} (hg : Good fs) (hl : fs.length = 50) {p1 p2 : D} (hp1 : p1 = .lst (fs.map D.int)) {s0 : Slot} : ∀ (n i : Nat) (k : Str) (xs : List Kk) (s4 s5 : Slot), i + n ≤ 2 → keptB k xs = true → xs.length ≤ 6 + i → Shl (8 + 10 * i) xs →
    ∃ k' xs' u4 u5, forL (gN 4) fb_law_1 ((List.range n).map fun j => .int ((i + j : Nat) : Int)) [s0, .val p1, .val p2, .val (.tup (rowL k xs)), s4, s5] S = .ok .next [s0, .val p1, .val p2, .val (.tup (rowL k' xs')), u4, u5] S ∧ keptB k' xs' = true ∧ Shl 28 xs'
  | 0, i, k, xs, s4, s5, hi, hk, hx, hs => ⟨k, xs, s4, s5, rfl, hk, fun z hz => Nat.le_trans (hs z hz) (by omega)⟩
  | n + 1, i, k, xs, s4, s5, hi, hk, hx, hs => by
    subst hp1
    obtain ⟨k2, xs2, e, l2, h2⟩ := bent_ok (fs := fs.drop (30 + 8 * i)) (hg.drop _) (by rw [List.length_drop, hl]; omega) (k := k) (xs := xs) (b := 8 + 10 * i) (by omega) (by omega) hs S
    have ke := kept_eq (k := k2) (xs := xs2) (by omega) S
    have sl : opSl (.lst (fs.map D.int)) (some (30 + 8 * (i : Int))) none = some (.lst ((fs.drop (30 + 8 * i)).map D.int)) := by
      rw [show (30 : Int) + 8 * (i : Int) = ((30 + 8 * i : Nat) : Int) by omega, opSl_lst, cutL_from, List.map_drop]
    have m8 : opMul' (.int 8) (.int (i : Int)) = some (.int (8 * (i : Int))) := opMul_int (by
      rcases (show i = 0 ∨ i = 1 by omega) with rfl | rfl <;> decide)
    have er : ((List.range (n + 1)).map fun j => D.int ((i + j : Nat) : Int)) = .int (i : Int) :: (List.range n).map fun j => .int ((i + 1 + j : Nat) : Int) := by
      rw [List.range_succ_eq_map, List.map_cons, List.map_map]
      congr 1
      refine List.map_congr_left fun j _ => ?_
      show D.int ((i + (j + 1) : Nat) : Int) = _
      rw [show i + (j + 1) = i + 1 + j by omega]
    have rl := rowL_len k xs
    have turn : ∀ (k3 : Str) (xs3 : List Kk), (if decide (1 < (rowL k xs).length) && keptB k2 xs2 then (k3 = k2 ∧ xs3 = xs2) else (k3 = k ∧ xs3 = xs)) → fb_law_1 [s0, .val (.lst (fs.map D.int)), .val p2, .val (.tup (rowL k xs)), .val (.int (i : Int)), s5] S = .ok .next [s0, .val (.lst (fs.map D.int)), .val p2, .val (.tup (rowL k3 xs3)), .val (.int (i : Int)), .val (.tup (rowL k2 xs2))] S := fun k3 xs3 h => by
      have el : opLen (.tup (rowL k xs)) = some (.int ((rowL k xs).length : Int)) := rfl
      have eg : decide ((1 : Int) < ((rowL k xs).length : Int)) = decide (1 < (rowL k xs).length) := decide_eq_decide.mpr (by omega)
      generalize decide (1 < (rowL k xs).length) = lb at *
      generalize ((rowL k xs).length : Int) = L at *
      generalize keptB k2 xs2 = kb at *
      generalize (fs.drop (30 + 8 * i)).map D.int = fd at *
      generalize fs.map D.int = fl at *
      generalize hii : (i : Int) = ii at *
      cases lb <;> cases kb <;> simp only [Bool.false_and, Bool.true_and, Bool.false_eq_true, if_false, if_true] at h <;> obtain ⟨rfl, rfl⟩ := h
      all_goals
        generalize rowL k3 xs3 = row3 at *
        first
          | generalize rowL k2 xs2 = row2 at *
          | generalize rowL k xs = row at *
        simp [-opLen_tup, -opSl_lst, el, fb_law_1, m8, sl, e, eg, ke]
    have hg4 : gN 4 (.int (i : Int)) [s0, .val (.lst (fs.map D.int)), .val p2, .val (.tup (rowL k xs)), s4, s5] = some [s0, .val (.lst (fs.map D.int)), .val p2, .val (.tup (rowL k xs)), .val (.int (i : Int)), s5] := rfl
    cases hb : decide (1 < (rowL k xs).length) && keptB k2 xs2 with
    | true =>
      have t := turn k2 xs2 (by rw [hb]; exact ⟨rfl, rfl⟩)
      have hk2 := (Bool.and_eq_true_iff.mp hb).2
      obtain ⟨k', xs', u4, u5, e2, h3⟩ := bent_loop hg hl rfl n (i + 1) k2 xs2 (.val (.int (i : Int))) (.val (.tup (rowL k2 xs2))) (by omega) hk2 (by omega) (fun z hz => Nat.le_trans (h2 z hz) (by omega)) (p2 := p2) (s0 := s0)
      exact ⟨k', xs', u4, u5, by rw [er, forL_cons hg4 t]; exact e2, h3⟩
    | false =>
      have t := turn k xs (by rw [hb]; exact ⟨rfl, rfl⟩)
      obtain ⟨k', xs', u4, u5, e2, h3⟩ := bent_loop hg hl rfl n (i + 1) k xs (.val (.int (i : Int))) (.val (.tup (rowL k2 xs2))) (by omega) hk (by omega) (fun z hz => Nat.le_trans (hs z hz) (by omega)) (p2 := p2) (s0 := s0)
      exact ⟨k', xs', u4, u5, by rw [er, forL_cons hg4 t]; exact e2, h3⟩
end
theorem false8 : opMul' (.lst [.bl false]) (.int 8) = some (.lst [.bl false, .bl false, .bl false, .bl false, .bl false, .bl false, .bl false, .bl false]) := by
  have e : opMul' (.lst [.bl false]) (.int 8) = if 0 ≤ (8 : Int) ∧ (8 : Int) ≤ 1000000 ∧ [D.bl false].length * (8 : Int).toNat ≤ most then some (.lst (List.replicate (8 : Int).toNat [D.bl false]).flatten) else none := rfl
  rw [e, if_pos (by decide)]
  rfl
theorem trues8 : opAdd (.lst [.bl true, .bl true]) (.lst [.bl false, .bl false, .bl false, .bl false, .bl false, .bl false, .bl false, .bl false]) = some (.lst [.bl true, .bl true, .bl false, .bl false, .bl false, .bl false, .bl false, .bl false, .bl false, .bl false]) := opAdd_lst (by decide)
theorem k04_for {m x0 : Int} {fl : List D} {p0 p2 p3 : D} {R : Res Fl} (sm : small m) (a0 : L2.atI fl 0 = some (.int x0)) (ec : L2.atI [D.int 0, .int 1, .int 1, .int 2] (x0 % 4) = some (.int m)) (el : forL (gN 4) fb_law_1 (ran 0 m) [.val p0, .val (.lst fl), .val p2, .val p3, .emp, .emp] [] = R) :
    sFor (iRan1 (d2 opIx (dLst (aCons (dC (.int 0)) (aCons (dC (.int 1)) (aCons (dC (.int 1)) (aCons (dC (.int 2)) aNil))))) (d2 opMod (d2 opIx (dVar 1) (dC (.int 0))) (dC (.int 4))))) (gN 4) fb_law_1 [.val p0, .val (.lst fl), .val p2, .val p3, .emp, .emp] [] = R := by
  have k4 : 4 ≤ most := by decide
  simp [a0, ec, sm, k4, el]
theorem law_true : ∀ ns : List Int, ns.length ≤ 63 → ∃ S', m_law [.scr ns] [] = .ok (.bl true) S' := by
  intro ns _
  obtain ⟨fs, hl, hg, ef⟩ := feed_ok ns 50 (by decide) []
  obtain ⟨ys, N, en⟩ := names_ok (l := fs.drop 1) (by rw [List.length_drop, hl]; decide) (hg.drop 1) 7 (by decide) []
  obtain ⟨r, hr, ea⟩ := any_row_ok2 (fs := fs.drop 8) (hg.drop 8) (by rw [List.length_drop, hl]; decide) N (by decide) (by decide) []
  obtain ⟨x0, a0, _, _⟩ := int_at 0 hg (by omega)
  obtain ⟨c, hc, ec⟩ := ints_at (l := [0, 1, 1, 2]) x0 (by simp)
  obtain ⟨n, hn, rfl⟩ : ∃ n : Nat, n ≤ 2 ∧ c = (n : Int) := by
    simp only [List.mem_cons, List.not_mem_nil, or_false] at hc
    exact ⟨c.toNat, by omega, by omega⟩
  have ec : L2.atI [D.int 0, .int 1, .int 1, .int 2] (x0 % 4) = some (.int (n : Int)) := ec
  have a0 : L2.atI (fs.map D.int) 0 = some (.int x0) := a0
  rw [Rw.rowD_eq] at ea
  obtain ⟨k, xs, u4, u5, el, hk, hs⟩ := bent_loop (S := []) hg hl rfl n 0 r.k r.xs .emp .emp (by omega) r.kept (Nat.le_trans r.xlen (by omega)) (fun z hz => Nat.le_trans (Rw.shl hr.2 z hz) (by omega)) (p2 := .lst (ys.map D.str)) (s0 := .val (.scr ns))
  have hs' : ShortL xs := fun z hz => Nat.le_trans (hs z hz) (by decide)
  have eg := law_good_eq (k := k) (xs := xs) (fun ts e _ => by unfold keptB at hk; rw [e] at hk; exact hk) hs' []
  obtain ⟨l, ew, hl2⟩ := why_form_eq hk hs' []
  have er : ran 0 (n : Int) = (List.range n).map fun j => D.int ((0 + j : Nat) : Int) := by
    unfold ran
    rw [show ((n : Int) - 0).toNat = n by omega]
    refine List.map_congr_left fun j _ => ?_
    rw [Nat.zero_add, Int.zero_add]
  have s1 : opSl (.lst (fs.map D.int)) (some 1) none = some (.lst ((fs.drop 1).map D.int)) := by
    rw [show (1 : Int) = ((1 : Nat) : Int) from rfl, opSl_lst, cutL_from, List.map_drop]
  have s8 : opSl (.lst (fs.map D.int)) (some 8) none = some (.lst ((fs.drop 8).map D.int)) := by
    rw [show (8 : Int) = ((8 : Nat) : Int) from rfl, opSl_lst, cutL_from, List.map_drop]
  have sm : small (n : Int) := ⟨by omega, by omega⟩
  have k4 : 4 ≤ most := by decide
  have k2 : 2 ≤ most := by decide
  have k1 : 1 ≤ most := by decide
  have ef : m__law_feed [.scr ns, .int 50] [] = _ := ef
  have en : m__law_names [.lst ((fs.drop 1).map D.int), .int 7] [] = _ := en
  rw [← er] at el
  have eg : m__law_good [.tup (rowL k xs)] [] = _ := eg
  refine ⟨[], dDef_ret (σ' := [.val (.scr ns), .val (.lst (fs.map D.int)), .val (.lst (ys.map D.str)), .val (.tup (rowL k xs)), u4, u5]) ?_⟩
  generalize (fs.drop 1).map D.int = f1 at *
  generalize (fs.drop 8).map D.int = f8 at *
  generalize ys.map D.str = yl at *
  generalize fs.map D.int = fl at *
  generalize rowL k xs = row at *
  generalize rowL r.k r.xs = row0 at *
  generalize hni : (n : Int) = ni at *
  have e8 : opMul' (.lst [.bl false]) (.int 8) = some (.lst [.bl false, .bl false, .bl false, .bl false, .bl false, .bl false, .bl false, .bl false]) := false8
  have ec8 := trues8
  unfold b_law
  refine run_seq (r := .ok .next [.val (.scr ns), .val (.lst fl), .emp, .emp, .emp, .emp] []) (by simp [ef]) ?_
  rw [seqK_next]
  refine run_seq (r := .ok .next [.val (.scr ns), .val (.lst fl), .val (.lst yl), .emp, .emp, .emp] []) (by simp [-opSl_lst, s1, en]) ?_
  rw [seqK_next]
  refine run_seq (r := .ok .next [.val (.scr ns), .val (.lst fl), .val (.lst yl), .val (.tup row0), .emp, .emp] []) (by simp [-opSl_lst, s8, ea]) ?_
  rw [seqK_next]
  refine run_seq (r := .ok .next [.val (.scr ns), .val (.lst fl), .val (.lst yl), .val (.tup row), u4, u5] []) (k04_for sm a0 ec el) ?_
  rw [seqK_next]
  have q1 := eq_true'
  have q2 := eq_false'
  cases hb : goodK k xs with
  | true =>
    rw [hb] at ew eg hl2
    rw [if_pos rfl] at hl2
    subst hl2
    refine run_seq (r := .ok (.ret (.bl true)) [.val (.scr ns), .val (.lst fl), .val (.lst yl), .val (.tup row), u4, u5] []) ?_ rfl
    simp [eg, ew, k2, q1]
  | false =>
    rw [hb] at ew eg hl2
    rw [if_neg (by simp)] at hl2
    subst hl2
    refine run_seq (r := .ok .next [.val (.scr ns), .val (.lst fl), .val (.lst yl), .val (.tup row), u4, u5] []) (by simp [eg]) ?_
    rw [seqK_next]
    simp only [sRet_def, dV_def, d2_def, dCall_def, dTup_def, aCons_def, aNil_def]
    generalize hA : (D.lst [.bl true, .bl true, .bl false, .bl false, .bl false, .bl false, .bl false, .bl false, .bl false, .bl false]) = A at *
    generalize hB : (D.lst [.bl false, .bl false, .bl false, .bl false, .bl false, .bl false, .bl false, .bl false]) = B at *
    have dA : ∀ σ : Sl, frz A σ ([] : Sto) = .ok A σ [] := fun σ => by rw [← hA]; rfl
    have dA2 : ∀ σ : Sl, deref σ ([] : Sto) A = some A := fun σ => by rw [← hA]; rfl
    have dB2 : ∀ σ : Sl, deref σ ([] : Sto) B = some B := fun σ => by rw [← hB]; rfl
    simp [-opAdd_lst, ew, k2, k1, e8, ec8, q2, dA, dA2, dB2]
end MR

set_option Elab.async false
set_option linter.all false
set_option maxRecDepth 100000
set_option maxHeartbeats 0
namespace MR
open PySem PySem.Spec PyProof.Rows L2
structure Tx (K : PySem.W.Frag) (mg : Str → Option Value) (w : World) : Prop where
  ValueError : mg "ValueError" = none
  all : mg "all" = none
  enumerate : mg "enumerate" = none
  int : mg "int" = none
  isinstance : mg "isinstance" = none
  len : mg "len" = none
  max : mg "max" = none
  range : mg "range" = none
  str : mg "str" = none
  tuple : mg "tuple" = none
  zip : mg "zip" = none
  LETTERS : ∃ t, mg "LETTERS" = some (.str "abcdefghijklmnopqrstuvwxyz" t)
  MOST : ∃ t, mg "MOST" = some (.int (9999) t)
  x_NoForm : ExF K mg "NoForm"
  g_LandError : mg (Str.ofString "LandError") = some (.ref (ca K "LandError"))
  g_NoEntry : mg (Str.ofString "NoEntry") = some (.ref (ca K "NoEntry"))
  g_NoEstate : mg (Str.ofString "NoEstate") = some (.ref (ca K "NoEstate"))
  g_NoForm : mg (Str.ofString "NoForm") = some (.ref (ca K "NoForm"))
  g_NoLand : mg (Str.ofString "NoLand") = some (.ref (ca K "NoLand"))
  g_NoMan : mg (Str.ofString "NoMan") = some (.ref (ca K "NoMan"))
  g_NoQuarrel : mg (Str.ofString "NoQuarrel") = some (.ref (ca K "NoQuarrel"))
  g_NoText : mg (Str.ofString "NoText") = some (.ref (ca K "NoText"))
  g_NothingThere : mg (Str.ofString "NothingThere") = some (.ref (ca K "NothingThere"))
  g_Twice : mg (Str.ofString "Twice") = some (.ref (ca K "Twice"))
  m_NoForm_LandError : PySem.W.exmOne K (.ref (ca K "NoForm")) (.ref (ca K "LandError")) = some true
  q_NoForm : ExcC K (ca K "NoForm")
  k_NoForm_NoEntry : PySem.W.kitOne K (.ref (ca K "NoForm")) (.ref (ca K "NoEntry")) = some false
  k_NoForm_NoEstate : PySem.W.kitOne K (.ref (ca K "NoForm")) (.ref (ca K "NoEstate")) = some false
  k_NoForm_NoForm : PySem.W.kitOne K (.ref (ca K "NoForm")) (.ref (ca K "NoForm")) = some true
  k_NoForm_NoLand : PySem.W.kitOne K (.ref (ca K "NoForm")) (.ref (ca K "NoLand")) = some false
  k_NoForm_NoMan : PySem.W.kitOne K (.ref (ca K "NoForm")) (.ref (ca K "NoMan")) = some false
  k_NoForm_NoQuarrel : PySem.W.kitOne K (.ref (ca K "NoForm")) (.ref (ca K "NoQuarrel")) = some false
  k_NoForm_NoText : PySem.W.kitOne K (.ref (ca K "NoForm")) (.ref (ca K "NoText")) = some false
  k_NoForm_NothingThere : PySem.W.kitOne K (.ref (ca K "NoForm")) (.ref (ca K "NothingThere")) = some false
  k_NoForm_Twice : PySem.W.kitOne K (.ref (ca K "NoForm")) (.ref (ca K "Twice")) = some false
  kb_NoForm_ValueError : PySem.W.kitOne K (.ref (ca K "NoForm")) (.type "ValueError") = some true
  tb_SHAPES : GTab K w mg "SHAPES" tab_SHAPES
section
variable {P : Program} {w : World} {K : PySem.W.Frag} {mg : Str → Option Value} {base : Heap}
abbrev N__law_feed : List Str := ["_law_script", "_law_many", "_law_feed_here", "_law_salt", "_law_cell", "_law_rest", "_law_k"]
theorem sc__law_feed : FnScope N__law_feed ["_law_script", "_law_many"] (defScope s__law_feed) := ⟨rfl, rfl, rfl, by decide +kernel, rfl, by decide +kernel, by decide +kernel⟩
theorem t__law_feed {f : Addr} {fd : FuncData} (T : Tx K mg w) (FD : FunD K "_law_feed" "_law_feed" (defArgs s__law_feed) (defBody s__law_feed) (defScope s__law_feed) [] [] f fd) (hm : mg "_law_feed" = some (.ref f))  : Fn true P w K mg base "_law_feed" 1 2 m__law_feed := by
  have sc := sc__law_feed
  refine fn_mk (n := 7) FD hm sc rfl rfl (fun _ _ _ _ _ _ us hl => match us, hl with | [_, _], _ => rfl) fun cdv A outer s H E hr => ?_
  have tk := takes_of (X := cxOf (L2.CX P w) P w K mg base N__law_feed "_law_feed" (defScope s__law_feed) f cdv A outer s H E) rfl rfl rfl rfl
  have hp := passes_of (X := cxOf (L2.CX P w) P w K mg base N__law_feed "_law_feed" (defScope s__law_feed) f cdv A outer s H E) rfl
  exact (cs_cons (cs_setO (i := 2) sc.nd (cf_lst ca_nil) rfl (Or.inl rfl) rfl (.inl rfl))
      (cs_cons (cs_set (i := 3) sc.nd c_int rfl (Or.inl rfl) rfl (.inl rfl))
      (cs_cons (cs_for (tvs := [4]) hp (ci_list (c_f (cf_sl (c_var 0) co_none (co_some c_int)))) (cg_name 4 sc.nd) (cs_cons (cs_set (i := 3) sc.nd (c_op op_mod os_mod (c_op op_addA os_add (c_op op_addA os_add (c_op op_mulA os_mul' (c_var 3) c_int) (c_op op_mod os_mod (c_var 4) c_int)) c_int) c_int) rfl (Or.inl rfl) rfl (.inl rfl))
      (cs_cons (cs_set (i := 5) sc.nd (c_op op_sub os_sub (c_var 4) (c_op op_pow os_pow c_int c_int)) rfl (Or.inl rfl) rfl (.inl rfl))
      (cs_cons (cs_if (ct_cmp op_lt os_lt (c_var 5) c_int (nomark _)) (cs_one (cs_expr (c_app (c_var 2) (c_op op_mod os_mod (c_var 4) c_int) rfl rfl rfl rfl) rfl)) cs_nil)
      (cs_one (cs_for (tvs := [6]) hp (ci_ran1 T.range c_int rfl rfl) (cg_name 6 sc.nd) (cs_one (cs_if (ct_cmp op_gt os_gt (c_var 5) c_int (nomark _)) (cs_cons (cs_expr (c_app (c_var 2) (c_op op_mod os_mod (c_var 5) c_int) rfl rfl rfl rfl) rfl)
      (cs_one (cs_set (i := 5) sc.nd (c_op op_divNW os_div (c_var 5) c_int) rfl (Or.inl rfl) rfl (.inl rfl)))) cs_nil)) rfl (fun _ => rfl)))))) rfl (fun _ => rfl))
      (cs_cons (cs_for (tvs := [6]) hp (ci_ran1 T.range (c_op op_sub os_sub (c_var 1) (c_b1 call_lenA b_len T.len (c_var 2) (by decide +kernel) rfl (by decide) (by decide) rfl)) rfl rfl) (cg_name 6 sc.nd) (cs_cons (cs_set (i := 3) sc.nd (c_op op_mod os_mod (c_op op_addA os_add (c_op op_addA os_add (c_op op_addA os_add (c_op op_mulA os_mul' (c_op op_mulA os_mul' (c_var 3) (c_var 3)) (c_var 3)) (c_op op_mulA os_mul' c_int (c_var 3))) (c_op op_mulA os_mul' c_int (c_var 6))) c_int) c_int) rfl (Or.inl rfl) rfl (.inl rfl))
      (cs_one (cs_expr (c_app (c_var 2) (c_op op_mod os_mod (c_op op_divNW os_div (c_var 3) c_int) c_int) rfl rfl rfl rfl) rfl))) rfl (fun _ => rfl))
      (cs_one (cs_retF (cf_sl (c_var 2) co_none (co_some (c_var 1)))))))))
abbrev N__law_names : List Str := ["_law_d", "_law_many", "_law_letters", "_law_base", "_law_at", "_law_names_here", "_law_k", "_law_sign", "_law_name"]
theorem sc__law_names : FnScope N__law_names ["_law_d", "_law_many"] (defScope s__law_names) := ⟨rfl, rfl, rfl, by decide +kernel, rfl, by decide +kernel, by decide +kernel⟩
theorem t__law_names {f : Addr} {fd : FuncData} (T : Tx K mg w) (FD : FunD K "_law_names" "_law_names" (defArgs s__law_names) (defBody s__law_names) (defScope s__law_names) [] [] f fd) (hm : mg "_law_names" = some (.ref f))  : Fn true P w K mg base "_law_names" 1 2 m__law_names := by
  have sc := sc__law_names
  refine fn_mk (n := 9) FD hm sc rfl rfl (fun _ _ _ _ _ _ us hl => match us, hl with | [_, _], _ => rfl) fun cdv A outer s H E hr => ?_
  have tk := takes_of (X := cxOf (L2.CX P w) P w K mg base N__law_names "_law_names" (defScope s__law_names) f cdv A outer s H E) rfl rfl rfl rfl
  have hp := passes_of (X := cxOf (L2.CX P w) P w K mg base N__law_names "_law_names" (defScope s__law_names) f cdv A outer s H E) rfl
  exact (cs_cons (cs_set (i := 2) sc.nd c_str rfl (Or.inr rfl) rfl (.inl rfl))
      (cs_cons (cs_set (i := 3) sc.nd (c_f (cf_join c_str (c_f (cf_lc sc.nd (blkOk_by (own := [("_law_k", 6)]) (N := N__law_names) (sc := defScope s__law_names) (by decide +kernel)) rfl (ci_ran1 T.range (c_op op_mod os_mod (c_ix (c_var 0) c_int (fun _ _ => rfl)) c_int) rfl rfl) (fun _ _ _ _ _ => (cg_name 6 sc.nd)) (fun _ _ _ _ _ => cts_nil) (fun _ _ _ _ _ => (c_ix (c_var 2) (c_op op_mod os_mod (c_op op_addA os_add (c_ix (c_var 0) c_int (fun _ _ => rfl)) (c_op op_mulA os_mul' (c_op op_addA os_add (c_var 6) c_int) (c_op op_divNW os_div (c_ix (c_var 0) c_int (fun _ _ => rfl)) c_int))) c_int) (fun _ _ => rfl))) rfl (fun _ => rfl))) rfl rfl rfl)) rfl (Or.inl rfl) rfl (.inl rfl))
      (cs_cons (cs_set (i := 4) sc.nd (c_op op_mod os_mod (c_ix (c_var 0) c_int (fun _ _ => rfl)) (c_op op_addA os_add (c_b1 call_lenA b_len T.len (c_var 3) (by decide +kernel) rfl (by decide) (by decide) rfl) c_int)) rfl (Or.inl rfl) rfl (.inl rfl))
      (cs_cons (cs_setO (i := 5) sc.nd (cf_lst ca_nil) rfl (Or.inl rfl) rfl (.inl rfl))
      (cs_cons (cs_for (tvs := [6]) hp (ci_ran1 T.range (c_var 1) rfl rfl) (cg_name 6 sc.nd) (cs_cons (cs_set (i := 7) sc.nd (c_ix (c_var 2) (c_op op_mod os_mod (c_op op_addA os_add (c_ix (c_var 0) c_int (fun _ _ => rfl)) (c_op op_mulA os_mul' c_int (c_var 6))) c_int) (fun _ _ => rfl)) rfl (Or.inl rfl) rfl (.inl rfl))
      (cs_cons (cs_set (i := 8) sc.nd (c_op op_addA os_add (c_op op_addA os_add (c_f (cf_sl (c_var 3) co_none (co_some (c_var 4)))) (c_var 7)) (c_f (cf_sl (c_var 3) (co_some (c_var 4)) co_none))) rfl (Or.inl rfl) rfl (.inl rfl))
      (cs_cons (cs_if (ct_cmp (op_eqA hr) os_eq (c_op op_mod os_mod (c_op op_divNW os_div (c_ix (c_var 0) c_int (fun _ _ => rfl)) c_int) c_int) c_int (nomark _)) (cs_one (cs_set (i := 8) sc.nd (c_op op_mulA os_mul' (c_var 7) (c_op op_addA os_add c_int (c_op op_mod os_mod (c_op op_addA os_add (c_ix (c_var 0) c_int (fun _ _ => rfl)) (c_op op_mulA os_mul' c_int (c_var 6))) c_int))) rfl (Or.inl rfl) rfl (.inl rfl))) cs_nil)
      (cs_one (cs_expr (c_app (c_var 5) (c_var 8) rfl rfl rfl rfl) rfl))))) rfl (fun _ => rfl))
      (cs_one (cs_retO 5)))))))
abbrev N__law_kinds : List Str := []
theorem sc__law_kinds : FnScope N__law_kinds [] (defScope s__law_kinds) := ⟨rfl, rfl, rfl, by decide +kernel, rfl, by decide +kernel, by decide +kernel⟩
theorem t__law_kinds {f : Addr} {fd : FuncData} (T : Tx K mg w) (FD : FunD K "_law_kinds" "_law_kinds" (defArgs s__law_kinds) (defBody s__law_kinds) (defScope s__law_kinds) [] [] f fd) (hm : mg "_law_kinds" = some (.ref f))  : Fn true P w K mg base "_law_kinds" 1 0 m__law_kinds := by
  have sc := sc__law_kinds
  refine fn_mk (n := 0) FD hm sc rfl rfl (fun _ _ _ _ _ _ us hl => match us, hl with | [], _ => rfl) fun cdv A outer s H E hr => ?_
  have tk := takes_of (X := cxOf (L2.CX P w) P w K mg base N__law_kinds "_law_kinds" (defScope s__law_kinds) f cdv A outer s H E) rfl rfl rfl rfl
  have hp := passes_of (X := cxOf (L2.CX P w) P w K mg base N__law_kinds "_law_kinds" (defScope s__law_kinds) f cdv A outer s H E) rfl
  exact (cs_one (cs_retF (cf_lst (ca_cons c_str (ca_cons c_str (ca_cons c_str (ca_cons c_str (ca_cons c_str (ca_cons c_str (ca_cons c_str ca_nil rfl) rfl) rfl) rfl) rfl) rfl) rfl))))
abbrev N__law_shapes : List Str := []
theorem sc__law_shapes : FnScope N__law_shapes [] (defScope s__law_shapes) := ⟨rfl, rfl, rfl, by decide +kernel, rfl, by decide +kernel, by decide +kernel⟩
theorem t__law_shapes {f : Addr} {fd : FuncData} (T : Tx K mg w) (FD : FunD K "_law_shapes" "_law_shapes" (defArgs s__law_shapes) (defBody s__law_shapes) (defScope s__law_shapes) [] [] f fd) (hm : mg "_law_shapes" = some (.ref f))  : Fn true P w K mg base "_law_shapes" 1 0 m__law_shapes := by
  have sc := sc__law_shapes
  refine fn_mk (n := 0) FD hm sc rfl rfl (fun _ _ _ _ _ _ us hl => match us, hl with | [], _ => rfl) fun cdv A outer s H E hr => ?_
  have tk := takes_of (X := cxOf (L2.CX P w) P w K mg base N__law_shapes "_law_shapes" (defScope s__law_shapes) f cdv A outer s H E) rfl rfl rfl rfl
  have hp := passes_of (X := cxOf (L2.CX P w) P w K mg base N__law_shapes "_law_shapes" (defScope s__law_shapes) f cdv A outer s H E) rfl
  exact (cs_one (cs_retF (cf_disp (sp_cons c_str c_str (sp_cons c_str c_str (sp_cons c_str c_str (sp_cons c_str c_str (sp_cons c_str c_str (sp_cons c_str c_str (sp_cons c_str c_str sp_nil))))))) rfl rfl (by simp) (by decide))))
abbrev N__law_any_row : List Str := ["_law_d", "_law_names_here", "_law_kind", "_law_row", "_law_k", "_law_sort", "_law_number", "_law_one"]
theorem sc__law_any_row : FnScope N__law_any_row ["_law_d", "_law_names_here"] (defScope s__law_any_row) := ⟨rfl, rfl, rfl, by decide +kernel, rfl, by decide +kernel, by decide +kernel⟩
theorem t__law_any_row {f : Addr} {fd : FuncData} (T : Tx K mg w) (FD : FunD K "_law_any_row" "_law_any_row" (defArgs s__law_any_row) (defBody s__law_any_row) (defScope s__law_any_row) [] [] f fd) (hm : mg "_law_any_row" = some (.ref f)) (C__law_kinds : Fn true P w K mg base "_law_kinds" 1 0 m__law_kinds) (C__law_shapes : Fn true P w K mg base "_law_shapes" 1 0 m__law_shapes) : Fn false P w K mg base "_law_any_row" 2 2 m__law_any_row := by
  have sc := sc__law_any_row
  refine fn_mk (n := 8) FD hm sc rfl rfl (fun _ _ _ _ _ _ us hl => match us, hl with | [_, _], _ => rfl) fun cdv A outer s H E hr => ?_
  have tk := takes_of (X := cxOf (L2.CX P w) P w K mg base N__law_any_row "_law_any_row" (defScope s__law_any_row) f cdv A outer s H E) rfl rfl rfl rfl
  have hp := passes_of (X := cxOf (L2.CX P w) P w K mg base N__law_any_row "_law_any_row" (defScope s__law_any_row) f cdv A outer s H E) rfl
  exact (cs_cons (cs_set (i := 2) sc.nd (c_ix (c_f (cf_call0 C__law_kinds hr (by omega) rfl (by decide))) (c_op op_mod os_mod (c_ix (c_var 0) c_int (fun _ _ => rfl)) c_int) (fun _ _ => rfl)) rfl (Or.inl rfl) rfl (.inl rfl))
      (cs_cons (cs_setO (i := 3) sc.nd (cf_lst (ca_cons (c_var 2) ca_nil rfl)) rfl (Or.inr rfl) rfl (.inl rfl))
      (cs_cons (cs_for (tvs := [4, 5]) hp (ci_enumS T.enumerate (c_get hr (c_f (cf_call0 C__law_shapes hr (by omega) rfl (by decide))) (c_var 2) (fun _ _ => rfl) (fun _ _ => rfl)) rfl rfl) (cg_tup (cgs_cons (cg_name 4 sc.nd) (cgs_cons (cg_name 5 sc.nd) cgs_nil rfl) rfl) rfl rfl rfl) (cs_cons (cs_set (i := 6) sc.nd (c_ix (c_f (cf_lst (ca_cons (c_op op_mod os_mod (c_ix (c_var 0) (c_op op_addA os_add c_int (c_var 4)) (fun _ _ => rfl)) c_int) (ca_cons (c_op op_mod os_mod (c_ix (c_var 0) (c_op op_addA os_add c_int (c_var 4)) (fun _ _ => rfl)) c_int) (ca_cons c_int (ca_cons c_int (ca_cons c_int ca_nil rfl) rfl) rfl) rfl) rfl))) (c_op op_mod os_mod (c_ix (c_var 0) (c_op op_addA os_add c_int (c_var 4)) (fun _ _ => rfl)) c_int) (fun _ _ => rfl)) rfl (Or.inl rfl) rfl (.inl rfl))
      (cs_one (cs_if (ct_in (c_var 5) c_str rfl) (cs_one (cs_expr (c_app (c_var 3) (c_b2 (call_max2 rfl) b_max T.max (c_var 6) (c_t1 call_intA b_int T.int (c_cmp (op_eqA hr) os_eq (c_var 5) c_str (nomark _)) (by decide +kernel) rfl (by decide) (by decide) rfl) (by decide +kernel) rfl (by decide) (by decide) rfl rfl rfl) rfl rfl rfl rfl) rfl)) (cs_one (cs_if (PW.pt (cw_and (ct_cmp (op_eqA hr) os_eq (c_var 5) c_str (nomark _)) (cw_and1 (ct_cmp (op_eqA hr) os_eq (c_op op_mod os_mod (c_ix (c_var 0) (c_op op_addA os_add c_int (c_var 4)) (fun _ _ => rfl)) c_int) c_int (nomark _))))) (cs_one (cs_expr (c_app (c_var 3) c_str rfl rfl rfl rfl) rfl)) (cs_one (cs_expr (c_app (c_var 3) (c_ix (c_var 1) (c_op op_mod os_mod (c_ix (c_var 0) (c_op op_addA os_add c_int (c_var 4)) (fun _ _ => rfl)) (c_b1 call_lenA b_len T.len (c_var 1) (by decide +kernel) rfl (by decide) (by decide) rfl)) (fun _ _ => rfl)) rfl rfl rfl rfl) rfl))))))) rfl (fun _ => rfl))
      (cs_cons (cs_if (PW.pt (cw_and (ct_cmp (op_inG hr) os_inG (c_var 2) (c_tup (ca_cons c_str (ca_cons c_str ca_nil rfl) rfl)) rfl) (cw_and1 (ct_cmp (op_eqA hr) os_eq (c_ix (c_var 3) c_int (fun _ _ => rfl)) (c_ix (c_var 3) c_int (fun _ _ => rfl)) (nomark _))))) (cs_one (cs_lput (c_var 3) c_int (c_ix (c_f (cf_lc sc.nd (blkOk_by (own := [("_law_one", 7)]) (N := N__law_any_row) (sc := defScope s__law_any_row) (by decide +kernel)) rfl (ci_list (c_var 1)) (fun _ _ _ _ _ => (cg_name 7 sc.nd)) (fun _ _ _ _ _ => cts_one (ct_cmp (op_neA hr) os_ne (c_var 7) (c_ix (c_var 3) c_int (fun _ _ => rfl)) (nomark _))) (fun _ _ _ _ _ => (c_var 7)) rfl (fun _ => rfl))) (c_op op_mod os_mod (c_ix (c_var 0) c_int (fun _ _ => rfl)) (c_op op_sub os_sub (c_b1 call_lenA b_len T.len (c_var 1) (by decide +kernel) rfl (by decide) (by decide) rfl) c_int)) (fun _ _ => rfl)) rfl)) cs_nil)
      (cs_one (cs_ret (c_t1 call_tuple_of b_tuple T.tuple (c_var 3) (by decide +kernel) rfl (by decide) (by decide) rfl)))))))
abbrev N__law_bent_row : List Str := ["_law_row", "_law_d", "_law_at", "_law_way", "_law_other", "_law_word"]
theorem sc__law_bent_row : FnScope N__law_bent_row ["_law_row", "_law_d"] (defScope s__law_bent_row) := ⟨rfl, rfl, rfl, by decide +kernel, rfl, by decide +kernel, by decide +kernel⟩
theorem t__law_bent_row {f : Addr} {fd : FuncData} (T : Tx K mg w) (FD : FunD K "_law_bent_row" "_law_bent_row" (defArgs s__law_bent_row) (defBody s__law_bent_row) (defScope s__law_bent_row) [] [] f fd) (hm : mg "_law_bent_row" = some (.ref f))  : Fn false P w K mg base "_law_bent_row" 1 2 m__law_bent_row := by
  have sc := sc__law_bent_row
  refine fn_mk (n := 6) FD hm sc rfl rfl (fun _ _ _ _ _ _ us hl => match us, hl with | [_, _], _ => rfl) fun cdv A outer s H E hr => ?_
  have tk := takes_of (X := cxOf (L2.CX P w) P w K mg base N__law_bent_row "_law_bent_row" (defScope s__law_bent_row) f cdv A outer s H E) rfl rfl rfl rfl
  have hp := passes_of (X := cxOf (L2.CX P w) P w K mg base N__law_bent_row "_law_bent_row" (defScope s__law_bent_row) f cdv A outer s H E) rfl
  exact (cs_cons (cs_set (i := 2) sc.nd (c_op op_mod os_mod (c_ix (c_var 1) c_int (fun _ _ => rfl)) (c_b1 call_lenA b_len T.len (c_var 0) (by decide +kernel) rfl (by decide) (by decide) rfl)) rfl (Or.inl rfl) rfl (.inl rfl))
      (cs_cons (cs_set (i := 3) sc.nd (c_op op_mod os_mod (c_ix (c_var 1) c_int (fun _ _ => rfl)) c_int) rfl (Or.inl rfl) rfl (.inl rfl))
      (cs_cons (cs_if (ct_cmp (op_eqA hr) os_eq (c_var 3) c_int (nomark _)) (cs_one (cs_ret (c_slT (c_var 0) co_none (co_some (c_b2 (call_max2 rfl) b_max T.max c_int (c_var 2) (by decide +kernel) rfl (by decide) (by decide) rfl rfl rfl))))) cs_nil)
      (cs_cons (cs_if (ct_cmp (op_eqA hr) os_eq (c_var 3) c_int (nomark _)) (cs_one (cs_ret (c_catT (c_var 0) (c_tup (ca_cons (c_ix (c_f (cf_lst (ca_cons c_int (ca_cons c_str (ca_cons c_str ca_nil rfl) rfl) rfl))) (c_op op_mod os_mod (c_ix (c_var 1) c_int (fun _ _ => rfl)) c_int) (fun _ _ => rfl)) ca_nil rfl))))) cs_nil)
      (cs_cons (cs_if (PW.pt (cw_and (ct_cmp (op_eqA hr) os_eq (c_var 3) c_int (nomark _)) (cw_and1 (ct_cmp op_gt os_gt (c_var 2) c_int (nomark _))))) (cs_one (cs_ret (c_catT (c_slT (c_var 0) co_none (co_some (c_var 2))) (c_slT (c_var 0) (co_some (c_op op_addA os_add (c_var 2) c_int)) co_none)))) cs_nil)
      (cs_cons (cs_if (PW.pt (cw_or (ct_cmp op_gt os_gt (c_var 3) c_int (nomark _)) (cw_or1 (ct_cmp (op_eqA hr) os_eq (c_var 2) c_int (nomark _))))) (cs_one (cs_ret (c_catT (c_tup (ca_cons (c_ix (c_tup (ca_cons c_str (ca_cons c_str (ca_cons c_str (ca_cons c_str (ca_cons c_str ca_nil rfl) rfl) rfl) rfl) rfl)) (c_op op_mod os_mod (c_ix (c_var 1) c_int (fun _ _ => rfl)) c_int) (fun _ _ => rfl)) ca_nil rfl)) (c_slT (c_var 0) (co_some c_int) co_none)))) cs_nil)
      (cs_cons (cs_if (ct_val (c_isi .str T.isinstance T.str (c_get hr (c_var 0) (c_var 2) (fun _ _ => rfl) (fun _ _ => rfl)) (by decide +kernel) rfl rfl (by decide) (by decide) rfl rfl) (fun _ => rfl)) (cs_cons (cs_set (i := 4) sc.nd (c_ix (c_var 0) (c_op op_addA os_add c_int (c_op op_mod os_mod (c_ix (c_var 1) c_int (fun _ _ => rfl)) (c_op op_sub os_sub (c_b1 call_lenA b_len T.len (c_var 0) (by decide +kernel) rfl (by decide) (by decide) rfl) c_int))) (fun _ _ => rfl)) rfl (Or.inl rfl) rfl (.inl rfl))
      (cs_cons (cs_set (i := 5) sc.nd (c_ix (c_f (cf_lst (ca_cons c_str (ca_cons (c_op op_addA os_add (c_get hr (c_var 0) (c_var 2) (fun _ _ => rfl) (fun _ _ => rfl)) c_str) (ca_cons (c_op op_addA os_add (c_get hr (c_var 0) (c_var 2) (fun _ _ => rfl) (fun _ _ => rfl)) c_str) (ca_cons (c_op op_addA os_add c_str (c_get hr (c_var 0) (c_var 2) (fun _ _ => rfl) (fun _ _ => rfl))) (ca_cons c_str (ca_cons (c_var 4) (ca_cons c_str ca_nil rfl) rfl) rfl) rfl) rfl) rfl) rfl))) (c_op op_mod os_mod (c_ix (c_var 1) c_int (fun _ _ => rfl)) c_int) (fun _ _ => rfl)) rfl (Or.inl rfl) rfl (.inl rfl))
      (cs_cons (cs_if (ct_not (ct_val (c_isi .str T.isinstance T.str (c_var 5) (by decide +kernel) rfl rfl (by decide) (by decide) rfl rfl) (fun _ => rfl))) (cs_one (cs_set (i := 5) sc.nd c_str rfl (Or.inl rfl) rfl (.inl rfl))) cs_nil)
      (cs_one (cs_ret (c_catT (c_catT (c_slT (c_var 0) co_none (co_some (c_var 2))) (c_tup (ca_cons (c_var 5) ca_nil rfl))) (c_slT (c_var 0) (co_some (c_op op_addA os_add (c_var 2) c_int)) co_none))))))) cs_nil)
      (cs_one (cs_ret (c_catT (c_catT (c_slT (c_var 0) co_none (co_some (c_var 2))) (c_tup (ca_cons (c_ix (c_f (cf_lst (ca_cons c_int (ca_cons (c_neg c_int) (ca_cons c_int (ca_cons (c_op op_pow os_pow c_int c_int) (ca_cons c_int (ca_cons (c_op op_sub os_sub c_int (c_get hr (c_var 0) (c_var 2) (fun _ _ => rfl) (fun _ _ => rfl))) ca_nil rfl) rfl) rfl) rfl) rfl) rfl))) (c_op op_mod os_mod (c_ix (c_var 1) c_int (fun _ _ => rfl)) c_int) (fun _ _ => rfl)) ca_nil rfl))) (c_slT (c_var 0) (co_some (c_op op_addA os_add (c_var 2) c_int)) co_none)))))))))))
abbrev N__law_kinds_kept : List Str := ["_law_row", "_law_shape", "_law_kind", "_law_thing"]
theorem sc__law_kinds_kept : FnScope N__law_kinds_kept ["_law_row"] (defScope s__law_kinds_kept) := ⟨rfl, rfl, rfl, by decide +kernel, rfl, by decide +kernel, by decide +kernel⟩
theorem t__law_kinds_kept {f : Addr} {fd : FuncData} (T : Tx K mg w) (FD : FunD K "_law_kinds_kept" "_law_kinds_kept" (defArgs s__law_kinds_kept) (defBody s__law_kinds_kept) (defScope s__law_kinds_kept) [] [] f fd) (hm : mg "_law_kinds_kept" = some (.ref f)) (C__law_shapes : Fn true P w K mg base "_law_shapes" 1 0 m__law_shapes) : Fn false P w K mg base "_law_kinds_kept" 2 1 m__law_kinds_kept := by
  have sc := sc__law_kinds_kept
  refine fn_mk (n := 4) FD hm sc rfl rfl (fun _ _ _ _ _ _ us hl => match us, hl with | [_], _ => rfl) fun cdv A outer s H E hr => ?_
  have tk := takes_of (X := cxOf (L2.CX P w) P w K mg base N__law_kinds_kept "_law_kinds_kept" (defScope s__law_kinds_kept) f cdv A outer s H E) rfl rfl rfl rfl
  have hp := passes_of (X := cxOf (L2.CX P w) P w K mg base N__law_kinds_kept "_law_kinds_kept" (defScope s__law_kinds_kept) f cdv A outer s H E) rfl
  exact (cs_cons (cs_set (i := 1) sc.nd (c_dget2 hr (c_f (cf_call0 C__law_shapes hr (by omega) rfl (by decide))) (c_ix (c_var 0) c_int (fun _ _ => rfl)) c_str ⟨rfl, rfl, rfl, rfl⟩) rfl (Or.inl rfl) rfl (.inl rfl))
      (cs_one (cs_ret (c_b1 (cr_all rfl) b_all T.all (c_f (cf_lc sc.nd (blkOk_by (own := [("_law_thing", 3), ("_law_kind", 2)]) (N := N__law_kinds_kept) (sc := defScope s__law_kinds_kept) (by decide +kernel)) rfl (ci_zipX T.zip (c_f (cf_sl (c_var 0) (co_some c_int) co_none)) (c_var 1) rfl rfl rfl rfl) (fun _ _ _ _ _ => (cg_tup (cgs_cons (cg_name 3 sc.nd) (cgs_cons (cg_name 2 sc.nd) cgs_nil rfl) rfl) rfl rfl rfl)) (fun _ _ _ _ _ => cts_nil) (fun _ _ _ _ _ => (c_cmp (op_eqA hr) os_eq (c_isi .int T.isinstance T.int (c_var 3) (by decide +kernel) rfl rfl (by decide) (by decide) rfl rfl) (c_in (c_var 2) c_str rfl) (nomark _))) rfl (fun _ => rfl))) (by decide +kernel) rfl (by decide) (by decide) rfl))))
abbrev N__law_named : List Str := ["_law_word", "_law_sign"]
theorem sc__law_named : FnScope N__law_named ["_law_word"] (defScope s__law_named) := ⟨rfl, rfl, rfl, by decide +kernel, rfl, by decide +kernel, by decide +kernel⟩
theorem t__law_named {f : Addr} {fd : FuncData} (T : Tx K mg w) (FD : FunD K "_law_named" "_law_named" (defArgs s__law_named) (defBody s__law_named) (defScope s__law_named) [] [] f fd) (hm : mg "_law_named" = some (.ref f))  : Fn false P w K mg base "_law_named" 1 1 m__law_named := by
  have sc := sc__law_named
  refine fn_mk (n := 2) FD hm sc rfl rfl (fun _ _ _ _ _ _ us hl => match us, hl with | [_], _ => rfl) fun cdv A outer s H E hr => ?_
  have tk := takes_of (X := cxOf (L2.CX P w) P w K mg base N__law_named "_law_named" (defScope s__law_named) f cdv A outer s H E) rfl rfl rfl rfl
  have hp := passes_of (X := cxOf (L2.CX P w) P w K mg base N__law_named "_law_named" (defScope s__law_named) f cdv A outer s H E) rfl
  exact (cs_one (cs_ret (c_and (c_chain op_le os_le op_le os_le c_int (c_b1 call_lenA b_len T.len (c_var 0) (by decide +kernel) rfl (by decide) (by decide) rfl) c_int (by with_unfolding_all rfl)) (c_one (c_b1 (cr_all rfl) b_all T.all (c_f (cf_lc sc.nd (blkOk_by (own := [("_law_sign", 1)]) (N := N__law_named) (sc := defScope s__law_named) (by decide +kernel)) rfl (ci_str (c_var 0)) (fun _ _ _ _ _ => (cg_name 1 sc.nd)) (fun _ _ _ _ _ => cts_nil) (fun _ _ _ _ _ => (c_in (c_var 1) c_str rfl)) rfl (fun _ => rfl))) (by decide +kernel) rfl (by decide) (by decide) rfl)))))
abbrev N__law_good : List Str := ["_law_row", "_law_shape", "_law_thing", "_law_kind"]
theorem sc__law_good : FnScope N__law_good ["_law_row"] (defScope s__law_good) := ⟨rfl, rfl, rfl, by decide +kernel, rfl, by decide +kernel, by decide +kernel⟩
theorem t__law_good {f : Addr} {fd : FuncData} (T : Tx K mg w) (FD : FunD K "_law_good" "_law_good" (defArgs s__law_good) (defBody s__law_good) (defScope s__law_good) [] [] f fd) (hm : mg "_law_good" = some (.ref f)) (C__law_shapes : Fn true P w K mg base "_law_shapes" 1 0 m__law_shapes) (C__law_named : Fn false P w K mg base "_law_named" 1 1 m__law_named) : Fn false P w K mg base "_law_good" 2 1 m__law_good := by
  have sc := sc__law_good
  refine fn_mk (n := 4) FD hm sc rfl rfl (fun _ _ _ _ _ _ us hl => match us, hl with | [_], _ => rfl) fun cdv A outer s H E hr => ?_
  have tk := takes_of (X := cxOf (L2.CX P w) P w K mg base N__law_good "_law_good" (defScope s__law_good) f cdv A outer s H E) rfl rfl rfl rfl
  have hp := passes_of (X := cxOf (L2.CX P w) P w K mg base N__law_good "_law_good" (defScope s__law_good) f cdv A outer s H E) rfl
  exact (cs_cons (cs_set (i := 1) sc.nd (c_dget2 hr (c_f (cf_call0 C__law_shapes hr (by omega) rfl (by decide))) (c_ix (c_var 0) c_int (fun _ _ => rfl)) c_str ⟨rfl, rfl, rfl, rfl⟩) rfl (Or.inl rfl) rfl (.inl rfl))
      (cs_cons (cs_if (PW.pt (cw_or (ct_cmp (op_neA hr) os_ne (c_b1 call_lenA b_len T.len (c_var 0) (by decide +kernel) rfl (by decide) (by decide) rfl) (c_op op_addA os_add c_int (c_b1 call_lenA b_len T.len (c_var 1) (by decide +kernel) rfl (by decide) (by decide) rfl)) (nomark _)) (cw_or1 (ct_cmp (op_eqA hr) os_eq (c_var 1) c_str (nomark _))))) (cs_one (cs_ret c_bl)) cs_nil)
      (cs_cons (cs_for (tvs := [2, 3]) hp (ci_zipX T.zip (c_f (cf_sl (c_var 0) (co_some c_int) co_none)) (c_var 1) rfl rfl rfl rfl) (cg_tup (cgs_cons (cg_name 2 sc.nd) (cgs_cons (cg_name 3 sc.nd) cgs_nil rfl) rfl) rfl rfl rfl) (cs_one (cs_if (ct_in (c_var 3) c_str rfl) (cs_one (cs_if (ct_not (ct_chain op_le os_le op_le os_le (c_t1 call_intA b_int T.int (c_cmp (op_eqA hr) os_eq (c_var 3) c_str (nomark _)) (by decide +kernel) rfl (by decide) (by decide) rfl) (c_var 2) c_int (by with_unfolding_all rfl))) (cs_one (cs_ret c_bl)) cs_nil)) (cs_one (cs_if (PW.pt (cw_and (ct_not (ct_val (c_e (c_call C__law_named tk hr (by omega) (ca_cons (c_var 2) ca_nil rfl) rfl rfl (by decide) rfl rfl (la_cons la_nil))) (fun _ => rfl))) (cw_and1 (ct_not (PW.pt (cw_and (ct_cmp (op_eqA hr) os_eq (c_var 3) c_str (nomark _)) (cw_and1 (ct_cmp (op_eqA hr) os_eq (c_var 2) c_str (nomark _))))))))) (cs_one (cs_ret c_bl)) cs_nil)))) rfl (fun _ => rfl))
      (cs_one (cs_ret (c_not (c_and (c_cmp (op_inG hr) os_inG (c_ix (c_var 0) c_int (fun _ _ => rfl)) (c_tup (ca_cons c_str (ca_cons c_str ca_nil rfl) rfl)) rfl) (c_one (c_cmp (op_eqA hr) os_eq (c_ix (c_var 0) c_int (fun _ _ => rfl)) (c_ix (c_var 0) c_int (fun _ _ => rfl)) (nomark _))))))))))
abbrev N_is_name : List Str := ["text", "sign"]
theorem sc_is_name : FnScope N_is_name ["text"] (defScope s_is_name) := ⟨rfl, rfl, rfl, by decide +kernel, rfl, by decide +kernel, by decide +kernel⟩
theorem t_is_name {f : Addr} {fd : FuncData} (T : Tx K mg w) (FD : FunD K "is_name" "is_name" (defArgs s_is_name) (defBody s_is_name) (defScope s_is_name) [] [] f fd) (hm : mg "is_name" = some (.ref f))  : Fn false P w K mg base "is_name" 1 1 m_is_name := by
  have sc := sc_is_name
  refine fn_mk (n := 2) FD hm sc rfl rfl (fun _ _ _ _ _ _ us hl => match us, hl with | [_], _ => rfl) fun cdv A outer s H E hr => ?_
  have tk := takes_of (X := cxOf (L2.CX P w) P w K mg base N_is_name "is_name" (defScope s_is_name) f cdv A outer s H E) rfl rfl rfl rfl
  have hp := passes_of (X := cxOf (L2.CX P w) P w K mg base N_is_name "is_name" (defScope s_is_name) f cdv A outer s H E) rfl
  exact (cs_one (cs_ret (c_and (c_chain op_le os_le op_le os_le c_int (c_b1 call_lenA b_len T.len (c_var 0) (by decide +kernel) rfl (by decide) (by decide) rfl) c_int (by with_unfolding_all rfl)) (c_one (c_b1 (cr_all rfl) b_all T.all (c_f (cf_lc sc.nd (blkOk_by (own := [("sign", 1)]) (N := N_is_name) (sc := defScope s_is_name) (by decide +kernel)) rfl (ci_str (c_var 0)) (fun _ _ _ _ _ => (cg_name 1 sc.nd)) (fun _ _ _ _ _ => cts_nil) (fun _ _ _ _ _ => (c_in (c_var 1) (c_gstr T.LETTERS) rfl)) rfl (fun _ => rfl))) (by decide +kernel) rfl (by decide) (by decide) rfl)))))
abbrev N_fits : List Str := ["thing", "kind"]
theorem sc_fits : FnScope N_fits ["thing", "kind"] (defScope s_fits) := ⟨rfl, rfl, rfl, by decide +kernel, rfl, by decide +kernel, by decide +kernel⟩
theorem t_fits {f : Addr} {fd : FuncData} (T : Tx K mg w) (FD : FunD K "fits" "fits" (defArgs s_fits) (defBody s_fits) (defScope s_fits) [] [] f fd) (hm : mg "fits" = some (.ref f)) (C_is_name : Fn false P w K mg base "is_name" 1 1 m_is_name) : Fn false P w K mg base "fits" 2 2 m_fits := by
  have sc := sc_fits
  refine fn_mk (n := 2) FD hm sc rfl rfl (fun _ _ _ _ _ _ us hl => match us, hl with | [_, _], _ => rfl) fun cdv A outer s H E hr => ?_
  have tk := takes_of (X := cxOf (L2.CX P w) P w K mg base N_fits "fits" (defScope s_fits) f cdv A outer s H E) rfl rfl rfl rfl
  have hp := passes_of (X := cxOf (L2.CX P w) P w K mg base N_fits "fits" (defScope s_fits) f cdv A outer s H E) rfl
  exact (cs_cons (cs_if (ct_cmp (op_eqA hr) os_eq (c_var 1) c_str (nomark _)) (cs_one (cs_ret (c_chain op_le os_le op_le os_le c_int (c_var 0) (c_gint T.MOST) (by with_unfolding_all rfl)))) cs_nil)
      (cs_cons (cs_if (ct_cmp (op_inG hr) os_inG (c_var 1) (c_tup (ca_cons c_str (ca_cons c_str ca_nil rfl) rfl)) rfl) (cs_one (cs_ret (c_chain op_le os_le op_le os_le c_int (c_var 0) (c_gint T.MOST) (by with_unfolding_all rfl)))) cs_nil)
      (cs_cons (cs_if (PW.pt (cw_and (ct_cmp (op_eqA hr) os_eq (c_var 1) c_str (nomark _)) (cw_and1 (ct_cmp (op_eqA hr) os_eq (c_var 0) c_str (nomark _))))) (cs_one (cs_ret c_bl)) cs_nil)
      (cs_one (cs_ret (c_e (c_call C_is_name tk hr (by omega) (ca_cons (c_var 0) ca_nil rfl) rfl rfl (by decide) rfl rfl (la_cons la_nil))))))))
abbrev N_check_row : List Str := ["row", "kinds", "thing", "kind"]
theorem sc_check_row : FnScope N_check_row ["row"] (defScope s_check_row) := ⟨rfl, rfl, rfl, by decide +kernel, rfl, by decide +kernel, by decide +kernel⟩
theorem t_check_row {f : Addr} {fd : FuncData} (T : Tx K mg w) (FD : FunD K "check_row" "check_row" (defArgs s_check_row) (defBody s_check_row) (defScope s_check_row) [] [] f fd) (hm : mg "check_row" = some (.ref f)) (C_fits : Fn false P w K mg base "fits" 2 2 m_fits) : Fn false P w K mg base "check_row" 3 1 m_check_row := by
  have sc := sc_check_row
  refine fn_mk (n := 4) FD hm sc rfl rfl (fun _ _ _ _ _ _ us hl => match us, hl with | [_], _ => rfl) fun cdv A outer s H E hr => ?_
  have tk := takes_of (X := cxOf (L2.CX P w) P w K mg base N_check_row "check_row" (defScope s_check_row) f cdv A outer s H E) rfl rfl rfl rfl
  have hp := passes_of (X := cxOf (L2.CX P w) P w K mg base N_check_row "check_row" (defScope s_check_row) f cdv A outer s H E) rfl
  exact (cs_cons (cs_if (ct_notInTab T.tb_SHAPES (c_ix (c_var 0) c_int (fun _ _ => rfl)) rfl rfl (by decide)) (cs_one (cs_raise (c := "NoForm") T.x_NoForm tk rfl rfl (by decide))) cs_nil)
      (cs_cons (cs_set (i := 1) sc.nd (c_tab T.tb_SHAPES (c_ix (c_var 0) c_int (fun _ _ => rfl)) (fun _ _ => rfl) rfl (by decide)) rfl (Or.inl rfl) rfl (.inl rfl))
      (cs_cons (cs_if (ct_cmp (op_neA hr) os_ne (c_b1 call_lenA b_len T.len (c_var 0) (by decide +kernel) rfl (by decide) (by decide) rfl) (c_op op_addA os_add c_int (c_b1 call_len b_lenC T.len (c_var 1) (by decide +kernel) rfl (by decide) (by decide) rfl)) (nomark _)) (cs_one (cs_raise (c := "NoForm") T.x_NoForm tk rfl rfl (by decide))) cs_nil)
      (cs_cons (cs_for (tvs := [2, 3]) hp (ci_zipC T.zip (c_f (cf_sl (c_var 0) (co_some c_int) co_none)) (c_var 1) rfl rfl rfl rfl) (cg_tup (cgs_cons (cg_name 2 sc.nd) (cgs_cons (cg_name 3 sc.nd) cgs_nil rfl) rfl) rfl rfl rfl) (cs_one (cs_if (ct_not (ct_val (c_e (c_call C_fits tk hr (by omega) (ca_cons (c_var 2) (ca_cons (c_var 3) ca_nil rfl) rfl) rfl rfl (by decide) rfl rfl (la_cons (la_cons la_nil)))) (fun _ => rfl))) (cs_one (cs_raise (c := "NoForm") T.x_NoForm tk rfl rfl (by decide))) cs_nil)) rfl (fun _ => rfl))
      (cs_one (cs_if (PW.pt (cw_and (ct_cmp (op_inG hr) os_inG (c_ix (c_var 0) c_int (fun _ _ => rfl)) (c_tup (ca_cons c_str (ca_cons c_str ca_nil rfl) rfl)) rfl) (cw_and1 (ct_cmp (op_eqA hr) os_eq (c_ix (c_var 0) c_int (fun _ _ => rfl)) (c_ix (c_var 0) c_int (fun _ _ => rfl)) (nomark _))))) (cs_one (cs_raise (c := "NoForm") T.x_NoForm tk rfl rfl (by decide))) cs_nil))))))
abbrev N__law_why_form : List Str := ["_law_row", "_law_marks", "_law_told", "e"]
theorem sc__law_why_form : FnScope N__law_why_form ["_law_row"] (defScope s__law_why_form) := ⟨rfl, rfl, rfl, by decide +kernel, rfl, by decide +kernel, by decide +kernel⟩
theorem t__law_why_form {f : Addr} {fd : FuncData} (T : Tx K mg w) (FD : FunD K "_law_why_form" "_law_why_form" (defArgs s__law_why_form) (defBody s__law_why_form) (defScope s__law_why_form) [] [] f fd) (hm : mg "_law_why_form" = some (.ref f)) (C_check_row : Fn false P w K mg base "check_row" 3 1 m_check_row) : Fn false P w K mg base "_law_why_form" 4 1 m__law_why_form := by
  have sc := sc__law_why_form
  refine fn_mk (n := 4) FD hm sc rfl rfl (fun _ _ _ _ _ _ us hl => match us, hl with | [_], _ => rfl) fun cdv A outer s H E hr => ?_
  have tk := takes_of (X := cxOf (L2.CX P w) P w K mg base N__law_why_form "_law_why_form" (defScope s__law_why_form) f cdv A outer s H E) rfl rfl rfl rfl
  have hp := passes_of (X := cxOf (L2.CX P w) P w K mg base N__law_why_form "_law_why_form" (defScope s__law_why_form) f cdv A outer s H E) rfl
  exact (cs_cons (cs_set (i := 1) sc.nd (c_f (cf_lst ca_nil)) rfl (Or.inl rfl) rfl (.inl rfl))
      (cs_cons (cs_set (i := 2) sc.nd c_bl rfl (Or.inl rfl) rfl (.inl rfl))
      (cs_cons (cs_try (i := 3) (c := "LandError") rfl rfl sc.nd rfl rfl ⟨rfl, by decide, .inl T.g_LandError⟩ tk (al_cons (P := fun y => PySem.W.exmOne K (.ref (ca K y)) (.ref (ca K "LandError")) = some (excSub y "LandError")) (ex_b (by decide +kernel) T.m_NoForm_LandError) (al_nil (P := fun y => PySem.W.exmOne K (.ref (ca K y)) (.ref (ca K "LandError")) = some (excSub y "LandError")))) (fun _ _ _ tk hp => (cs_one (cs_set (i := 2) sc.nd (c_isN (c_e (c_call C_check_row tk hr (by omega) (ca_cons (c_var 0) ca_nil rfl) rfl rfl (by decide) rfl rfl (la_cons la_nil)))) rfl (Or.inl rfl) rfl (.inl rfl)))) (fun a oe y pn hy hz hv => (cs_cons (cs_set (i := 1) sc.nd (c_f (cf_lst (ca_cons (c_isEb (i := 3) (c := "ValueError") ((al_cons (P := fun y => ExcC K (ca K y)) T.q_NoForm (al_nil (P := fun y => ExcC K (ca K y)))) y hy) hz hv ((al_cons (P := fun y => PySem.W.kitOne K (.ref (ca K y)) (.type "ValueError") = some (excSub y "ValueError")) (ex_b (by decide +kernel) T.kb_NoForm_ValueError) (al_nil (P := fun y => PySem.W.kitOne K (.ref (ca K y)) (.type "ValueError") = some (excSub y "ValueError")))) y hy) T.isinstance T.ValueError) (ca_cons (c_isE (i := 3) (c := "NoForm") ((al_cons (P := fun y => ExcC K (ca K y)) T.q_NoForm (al_nil (P := fun y => ExcC K (ca K y)))) y hy) hz hv ((al_cons (P := fun y => PySem.W.kitOne K (.ref (ca K y)) (.ref (ca K "NoForm")) = some (excSub y "NoForm")) (ex_b (by decide +kernel) T.k_NoForm_NoForm) (al_nil (P := fun y => PySem.W.kitOne K (.ref (ca K y)) (.ref (ca K "NoForm")) = some (excSub y "NoForm")))) y hy) T.isinstance T.g_NoForm) (ca_cons (c_isE (i := 3) (c := "NoText") ((al_cons (P := fun y => ExcC K (ca K y)) T.q_NoForm (al_nil (P := fun y => ExcC K (ca K y)))) y hy) hz hv ((al_cons (P := fun y => PySem.W.kitOne K (.ref (ca K y)) (.ref (ca K "NoText")) = some (excSub y "NoText")) (ex_b (by decide +kernel) T.k_NoForm_NoText) (al_nil (P := fun y => PySem.W.kitOne K (.ref (ca K y)) (.ref (ca K "NoText")) = some (excSub y "NoText")))) y hy) T.isinstance T.g_NoText) (ca_cons (c_isE (i := 3) (c := "NoEntry") ((al_cons (P := fun y => ExcC K (ca K y)) T.q_NoForm (al_nil (P := fun y => ExcC K (ca K y)))) y hy) hz hv ((al_cons (P := fun y => PySem.W.kitOne K (.ref (ca K y)) (.ref (ca K "NoEntry")) = some (excSub y "NoEntry")) (ex_b (by decide +kernel) T.k_NoForm_NoEntry) (al_nil (P := fun y => PySem.W.kitOne K (.ref (ca K y)) (.ref (ca K "NoEntry")) = some (excSub y "NoEntry")))) y hy) T.isinstance T.g_NoEntry) ca_nil rfl) rfl) rfl) rfl))) rfl (Or.inl rfl) rfl (.inl rfl))
      (cs_cons (cs_set (i := 1) sc.nd (c_op op_addA os_add (c_var 1) (c_f (cf_lst (ca_cons (c_isE (i := 3) (c := "Twice") ((al_cons (P := fun y => ExcC K (ca K y)) T.q_NoForm (al_nil (P := fun y => ExcC K (ca K y)))) y hy) hz hv ((al_cons (P := fun y => PySem.W.kitOne K (.ref (ca K y)) (.ref (ca K "Twice")) = some (excSub y "Twice")) (ex_b (by decide +kernel) T.k_NoForm_Twice) (al_nil (P := fun y => PySem.W.kitOne K (.ref (ca K y)) (.ref (ca K "Twice")) = some (excSub y "Twice")))) y hy) T.isinstance T.g_Twice) (ca_cons (c_isE (i := 3) (c := "NothingThere") ((al_cons (P := fun y => ExcC K (ca K y)) T.q_NoForm (al_nil (P := fun y => ExcC K (ca K y)))) y hy) hz hv ((al_cons (P := fun y => PySem.W.kitOne K (.ref (ca K y)) (.ref (ca K "NothingThere")) = some (excSub y "NothingThere")) (ex_b (by decide +kernel) T.k_NoForm_NothingThere) (al_nil (P := fun y => PySem.W.kitOne K (.ref (ca K y)) (.ref (ca K "NothingThere")) = some (excSub y "NothingThere")))) y hy) T.isinstance T.g_NothingThere) (ca_cons (c_isE (i := 3) (c := "NoEstate") ((al_cons (P := fun y => ExcC K (ca K y)) T.q_NoForm (al_nil (P := fun y => ExcC K (ca K y)))) y hy) hz hv ((al_cons (P := fun y => PySem.W.kitOne K (.ref (ca K y)) (.ref (ca K "NoEstate")) = some (excSub y "NoEstate")) (ex_b (by decide +kernel) T.k_NoForm_NoEstate) (al_nil (P := fun y => PySem.W.kitOne K (.ref (ca K y)) (.ref (ca K "NoEstate")) = some (excSub y "NoEstate")))) y hy) T.isinstance T.g_NoEstate) ca_nil rfl) rfl) rfl)))) rfl (Or.inl rfl) rfl (.inl rfl))
      (cs_one (cs_set (i := 1) sc.nd (c_op op_addA os_add (c_var 1) (c_f (cf_lst (ca_cons (c_isE (i := 3) (c := "NoMan") ((al_cons (P := fun y => ExcC K (ca K y)) T.q_NoForm (al_nil (P := fun y => ExcC K (ca K y)))) y hy) hz hv ((al_cons (P := fun y => PySem.W.kitOne K (.ref (ca K y)) (.ref (ca K "NoMan")) = some (excSub y "NoMan")) (ex_b (by decide +kernel) T.k_NoForm_NoMan) (al_nil (P := fun y => PySem.W.kitOne K (.ref (ca K y)) (.ref (ca K "NoMan")) = some (excSub y "NoMan")))) y hy) T.isinstance T.g_NoMan) (ca_cons (c_isE (i := 3) (c := "NoQuarrel") ((al_cons (P := fun y => ExcC K (ca K y)) T.q_NoForm (al_nil (P := fun y => ExcC K (ca K y)))) y hy) hz hv ((al_cons (P := fun y => PySem.W.kitOne K (.ref (ca K y)) (.ref (ca K "NoQuarrel")) = some (excSub y "NoQuarrel")) (ex_b (by decide +kernel) T.k_NoForm_NoQuarrel) (al_nil (P := fun y => PySem.W.kitOne K (.ref (ca K y)) (.ref (ca K "NoQuarrel")) = some (excSub y "NoQuarrel")))) y hy) T.isinstance T.g_NoQuarrel) (ca_cons (c_isE (i := 3) (c := "NoLand") ((al_cons (P := fun y => ExcC K (ca K y)) T.q_NoForm (al_nil (P := fun y => ExcC K (ca K y)))) y hy) hz hv ((al_cons (P := fun y => PySem.W.kitOne K (.ref (ca K y)) (.ref (ca K "NoLand")) = some (excSub y "NoLand")) (ex_b (by decide +kernel) T.k_NoForm_NoLand) (al_nil (P := fun y => PySem.W.kitOne K (.ref (ca K y)) (.ref (ca K "NoLand")) = some (excSub y "NoLand")))) y hy) T.isinstance T.g_NoLand) ca_nil rfl) rfl) rfl)))) rfl (Or.inl rfl) rfl (.inl rfl)))))))
      (cs_one (cs_ret (c_tup (ca_cons (c_var 2) (ca_cons (c_var 1) ca_nil rfl) rfl)))))))
abbrev N_law : List Str := ["_law_script", "_law_feed_here", "_law_names_here", "_law_row", "_law_k", "_law_bent"]
theorem sc_law : FnScope N_law ["_law_script"] (defScope s_law) := ⟨rfl, rfl, rfl, by decide +kernel, rfl, by decide +kernel, by decide +kernel⟩
theorem o_law {f : Addr} {fd : FuncData} (T : Tx K mg w) (FD : FunD K "law" "law" (defArgs s_law) (defBody s_law) (defScope s_law) [] [] f fd) (C__law_feed : Fn true P w K mg base "_law_feed" 1 2 m__law_feed) (C__law_names : Fn true P w K mg base "_law_names" 1 2 m__law_names) (C__law_any_row : Fn false P w K mg base "_law_any_row" 2 2 m__law_any_row) (C__law_bent_row : Fn false P w K mg base "_law_bent_row" 1 2 m__law_bent_row) (C__law_kinds_kept : Fn false P w K mg base "_law_kinds_kept" 2 1 m__law_kinds_kept) (C__law_good : Fn false P w K mg base "_law_good" 2 1 m__law_good) (C__law_why_form : Fn false P w K mg base "_law_why_form" 4 1 m__law_why_form) : FnOk P w K mg base (L2.CX P w) 5 f fd ["_law_script"] (spD false K 1 m_law) := by
  have sc := sc_law
  refine def_ok (n := 6) FD sc rfl fun cdv A outer s H E hr => ?_
  have tk := takes_of (X := cxOf (L2.CX P w) P w K mg base N_law "law" (defScope s_law) f cdv A outer s H E) rfl rfl rfl rfl
  have hp := passes_of (X := cxOf (L2.CX P w) P w K mg base N_law "law" (defScope s_law) f cdv A outer s H E) rfl
  exact (cs_cons (cs_set (i := 1) sc.nd (c_f (cf_call C__law_feed tk hr (by omega) (ca_cons (c_var 0) (ca_cons c_int ca_nil rfl) rfl) rfl rfl (by decide) rfl rfl (la_cons (la_cons la_nil)))) rfl (Or.inl rfl) rfl (.inl rfl))
      (cs_cons (cs_set (i := 2) sc.nd (c_f (cf_call C__law_names tk hr (by omega) (ca_cons (c_f (cf_sl (c_var 1) (co_some c_int) co_none)) (ca_cons c_int ca_nil rfl) rfl) rfl rfl (by decide) rfl rfl (la_cons (la_cons la_nil)))) rfl (Or.inl rfl) rfl (.inl rfl))
      (cs_cons (cs_set (i := 3) sc.nd (c_e (c_call C__law_any_row tk hr (by omega) (ca_cons (c_f (cf_sl (c_var 1) (co_some c_int) co_none)) (ca_cons (c_var 2) ca_nil rfl) rfl) rfl rfl (by decide) rfl rfl (la_cons (la_cons la_nil)))) rfl (Or.inl rfl) rfl (.inl rfl))
      (cs_cons (cs_for (tvs := [4]) hp (ci_ran1 T.range (c_ix (c_f (cf_lst (ca_cons c_int (ca_cons c_int (ca_cons c_int (ca_cons c_int ca_nil rfl) rfl) rfl) rfl))) (c_op op_mod os_mod (c_ix (c_var 1) c_int (fun _ _ => rfl)) c_int) (fun _ _ => rfl)) rfl rfl) (cg_name 4 sc.nd) (cs_cons (cs_set (i := 5) sc.nd (c_e (c_call C__law_bent_row tk hr (by omega) (ca_cons (c_var 3) (ca_cons (c_f (cf_sl (c_var 1) (co_some (c_op op_addA os_add c_int (c_op op_mulA os_mul' c_int (c_var 4)))) co_none)) ca_nil rfl) rfl) rfl rfl (by decide) rfl rfl (la_cons (la_cons la_nil)))) rfl (Or.inl rfl) rfl (.inl rfl))
      (cs_one (cs_if (PW.pt (cw_and (ct_cmp op_gt os_gt (c_b1 call_lenA b_len T.len (c_var 3) (by decide +kernel) rfl (by decide) (by decide) rfl) c_int (nomark _)) (cw_and1 (ct_val (c_e (c_call C__law_kinds_kept tk hr (by omega) (ca_cons (c_var 5) ca_nil rfl) rfl rfl (by decide) rfl rfl (la_cons la_nil))) (fun _ => rfl))))) (cs_one (cs_set (i := 3) sc.nd (c_var 5) rfl (Or.inl rfl) rfl (.inl rfl))) cs_nil))) rfl (fun _ => rfl))
      (cs_cons (cs_if (ct_val (c_e (c_call C__law_good tk hr (by omega) (ca_cons (c_var 3) ca_nil rfl) rfl rfl (by decide) rfl rfl (la_cons la_nil))) (fun _ => rfl)) (cs_one (cs_ret (c_cmp (op_eqA hr) os_eq (c_e (c_call C__law_why_form tk hr (by omega) (ca_cons (c_var 3) ca_nil rfl) rfl rfl (by decide) rfl rfl (la_cons la_nil))) (c_tup (ca_cons c_bl (ca_cons (c_f (cf_lst ca_nil)) ca_nil rfl) rfl)) (nomark _)))) cs_nil)
      (cs_one (cs_ret (c_cmp (op_eqA hr) os_eq (c_e (c_call C__law_why_form tk hr (by omega) (ca_cons (c_var 3) ca_nil rfl) rfl rfl (by decide) rfl rfl (la_cons la_nil))) (c_tup (ca_cons c_bl (ca_cons (c_op op_addA os_add (c_f (cf_lst (ca_cons c_bl (ca_cons c_bl ca_nil rfl) rfl))) (c_op op_mulA os_mul' (c_f (cf_lst (ca_cons c_bl ca_nil rfl))) c_int)) ca_nil rfl) rfl)) (nomark _)))))))))
end
theorem facts {P : Program} {w : World} {K : PySem.W.Frag} {h : Heap} {mg : Str → Option Value} {f : Addr} (X : K.In h) (G : h.Ns mainGlobals mg) (hfa : mg ("law" : Str) = some (.ref f)) (cb : SaysB fas fns tbs xfs tss w K) :
    ∃ fd : FuncData, (∀ (s : Shared) (v : Value), BindsTo s fd ⟨[v], []⟩ [("_law_script", v)]) ∧ ∀ base : Heap, K.In base → base.Ns mainGlobals mg → FnOk P w K mg base (L2.CX P w) 5 f fd ["_law_script"] (spD false K 1 m_law) := by
  have cx := cb.x
  have c0 := cx.m
  have c := c0.d
  have T : Tx K mg w := ⟨He.free_ok X G (c.fact 0 rfl), He.free_ok X G (c.fact 1 rfl), He.free_ok X G (c.fact 2 rfl), He.free_ok X G (c.fact 3 rfl), He.free_ok X G (c.fact 4 rfl), He.free_ok X G (c.fact 5 rfl), He.free_ok X G (c.fact 6 rfl), He.free_ok X G (c.fact 7 rfl), He.free_ok X G (c.fact 8 rfl), He.free_ok X G (c.fact 9 rfl), He.free_ok X G (c.fact 10 rfl), He.str_ok X G (c.fact 11 rfl), He.int_ok X G (c.fact 12 rfl), ⟨He.glo_ok X G (c.fact 13 rfl), He.exc_ok (c.fact 14 rfl)⟩, He.glo_ok X G (c.fact 15 rfl), He.glo_ok X G (c.fact 16 rfl), He.glo_ok X G (c.fact 17 rfl), He.glo_ok X G (c.fact 13 rfl), He.glo_ok X G (c.fact 18 rfl), He.glo_ok X G (c.fact 19 rfl), He.glo_ok X G (c.fact 20 rfl), He.glo_ok X G (c.fact 21 rfl), He.glo_ok X G (c.fact 22 rfl), He.glo_ok X G (c.fact 23 rfl), He.exm_ok (c.fact 24 rfl), exq_ok (cx.x 0 rfl), kit_ok (cx.x 1 rfl), kit_ok (cx.x 2 rfl), kit_ok (cx.x 3 rfl), kit_ok (cx.x 4 rfl), kit_ok (cx.x 5 rfl), kit_ok (cx.x 6 rfl), kit_ok (cx.x 7 rfl), kit_ok (cx.x 8 rfl), kit_ok (cx.x 9 rfl), kitb_ok (cx.x 10 rfl), gtab_mk cb 0 (He.glo_ok X G (c.fact 25 rfl))⟩
  obtain ⟨fd__law_feed, F__law_feed⟩ := c.def_ 0 rfl
  have C__law_feed : ∀ base : Heap, Fn true P w K mg base "_law_feed" 1 2 m__law_feed := fun base => t__law_feed T F__law_feed (He.glo_ok X G (c.fact 26 rfl)) 
  obtain ⟨fd__law_names, F__law_names⟩ := c.def_ 1 rfl
  have C__law_names : ∀ base : Heap, Fn true P w K mg base "_law_names" 1 2 m__law_names := fun base => t__law_names T F__law_names (He.glo_ok X G (c.fact 27 rfl)) 
  obtain ⟨fd__law_kinds, F__law_kinds⟩ := c.def_ 2 rfl
  have C__law_kinds : ∀ base : Heap, Fn true P w K mg base "_law_kinds" 1 0 m__law_kinds := fun base => t__law_kinds T F__law_kinds (He.glo_ok X G (c.fact 28 rfl)) 
  obtain ⟨fd__law_shapes, F__law_shapes⟩ := c.def_ 3 rfl
  have C__law_shapes : ∀ base : Heap, Fn true P w K mg base "_law_shapes" 1 0 m__law_shapes := fun base => t__law_shapes T F__law_shapes (He.glo_ok X G (c.fact 29 rfl)) 
  obtain ⟨fd__law_any_row, F__law_any_row⟩ := c.def_ 4 rfl
  have C__law_any_row : ∀ base : Heap, Fn false P w K mg base "_law_any_row" 2 2 m__law_any_row := fun base => t__law_any_row T F__law_any_row (He.glo_ok X G (c.fact 30 rfl)) (C__law_kinds base) (C__law_shapes base)
  obtain ⟨fd__law_bent_row, F__law_bent_row⟩ := c.def_ 5 rfl
  have C__law_bent_row : ∀ base : Heap, Fn false P w K mg base "_law_bent_row" 1 2 m__law_bent_row := fun base => t__law_bent_row T F__law_bent_row (He.glo_ok X G (c.fact 31 rfl)) 
  obtain ⟨fd__law_kinds_kept, F__law_kinds_kept⟩ := c.def_ 6 rfl
  have C__law_kinds_kept : ∀ base : Heap, Fn false P w K mg base "_law_kinds_kept" 2 1 m__law_kinds_kept := fun base => t__law_kinds_kept T F__law_kinds_kept (He.glo_ok X G (c.fact 32 rfl)) (C__law_shapes base)
  obtain ⟨fd__law_named, F__law_named⟩ := c.def_ 7 rfl
  have C__law_named : ∀ base : Heap, Fn false P w K mg base "_law_named" 1 1 m__law_named := fun base => t__law_named T F__law_named (He.glo_ok X G (c.fact 33 rfl)) 
  obtain ⟨fd__law_good, F__law_good⟩ := c.def_ 8 rfl
  have C__law_good : ∀ base : Heap, Fn false P w K mg base "_law_good" 2 1 m__law_good := fun base => t__law_good T F__law_good (He.glo_ok X G (c.fact 34 rfl)) (C__law_shapes base) (C__law_named base)
  obtain ⟨fd_is_name, F_is_name⟩ := c.def_ 9 rfl
  have C_is_name : ∀ base : Heap, Fn false P w K mg base "is_name" 1 1 m_is_name := fun base => t_is_name T F_is_name (He.glo_ok X G (c.fact 35 rfl)) 
  obtain ⟨fd_fits, F_fits⟩ := c.def_ 10 rfl
  have C_fits : ∀ base : Heap, Fn false P w K mg base "fits" 2 2 m_fits := fun base => t_fits T F_fits (He.glo_ok X G (c.fact 36 rfl)) (C_is_name base)
  obtain ⟨fd_check_row, F_check_row⟩ := c.def_ 11 rfl
  have C_check_row : ∀ base : Heap, Fn false P w K mg base "check_row" 3 1 m_check_row := fun base => t_check_row T F_check_row (He.glo_ok X G (c.fact 37 rfl)) (C_fits base)
  obtain ⟨fd__law_why_form, F__law_why_form⟩ := c.def_ 12 rfl
  have C__law_why_form : ∀ base : Heap, Fn false P w K mg base "_law_why_form" 4 1 m__law_why_form := fun base => t__law_why_form T F__law_why_form (He.glo_ok X G (c.fact 38 rfl)) (C_check_row base)
  obtain ⟨fd_law, F_law⟩ := c.def_ 13 rfl
  have e := hfa.symm.trans (He.glo_ok X G (c.fact 39 rfl))
  cases e
  have b := FunD.bindsA (ps := ["_law_script"]) F_law fun _ _ _ _ _ _ us hl => match us, hl with | [_], _ => rfl
  refine ⟨fd_law, fun s v => b s [v] rfl, fun base _ _ => ?_⟩
  exact o_law (P := P) (w := w) (base := base) T F_law (C__law_feed base) (C__law_names base) (C__law_any_row base) (C__law_bent_row base) (C__law_kinds_kept base) (C__law_good base) (C__law_why_form base)
end MR
open PySem PySem.W PySem.Calls PyProof.Rows
theorem PySem.Challenge.cw_manrent_k04_rows_well_made_holds : PySem.Challenge.rw_manrent_k04_rows_well_made.Holds := by
  w_on; o_law
  refine HandSHeadRun.head_any (r := MR.R) (q := view MR.R.prog [29]) (H := MR.hk) (ob := MR.ob) (M := 4000) (loose := MR.loose) (d := HandSHeadRun.topDef MR.R.prog 29) (kwd := []) MR.ob_eq
    (by kernel_rfl) (fun s => by kernel_rfl) MR.run (by kernel_rfl) (by kernel_rfl) (by kernel_rfl) (by rfl) (by first | assumption | decide +kernel) (by decide +kernel) ⟨rfl, rfl, rfl, rfl, rfl, by decide +kernel⟩ ?hw ?hc
  case hw => w_witness2
  case hc =>
    refine L2.walk_ofE (l := PySem.Challenge.rw_manrent_k04_rows_well_made) (n := 63) (k := 5) (x := "_law_script") (CX := fun a b c d e f => ∃ w, L2.CX (PySem.Challenge.rw_manrent_k04_rows_well_made).prog w a b c d e f) rfl (by decide) (by kernel_rfl) ⟨rfl, by decide, by decide⟩ ?F ?G
    case F =>
      intro w mg fa h Y G hmg0
      obtain ⟨K, KX, c⟩ := Y
      have hmg : mg ("law" : PySem.Str) = some (.ref fa) := by
        have e : (HandSHeadRun.topDef MR.R.prog 29).name = ("law" : PySem.Str) := by kernel_rfl
        rw [← e]
        exact hmg0
      obtain ⟨fd, hb, hF⟩ := MR.facts (P := (PySem.Challenge.rw_manrent_k04_rows_well_made).prog) (w := w) KX G hmg c
      exact ⟨K, fd, MR.spD false K 1 MR.m_law, KX, hb, fun H a ns hl _ hS => MR.law_sp MR.law_true H a ns hl hS, fun base k1 k2 => MR.fnok_w (hF base k1 k2)⟩
    case G =>
      intro H s e s' ⟨w, z⟩
      exact MR.cx_no z
