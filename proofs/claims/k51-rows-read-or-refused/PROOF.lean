import PyProof.Rows.All
import Wide.All
import OpenK.AllK
import Wide.FinOn
import HandS.Head0
import HandS.Head1
import HandS.Head2
import HandS.HeadEnd
import HandS.ForMost
import HandS.ForExc
import HandS.HeadHook1
import HandS.CallSlots
import HandS.Wide
import HandS.IsInst
import HandS.Zip
import HandS.ExcCtx
import HandS.SuiteRaise
import HandS.Defaults
import HandS.HeadHook2
import HandS.ExcOwn
import HandS.Small
import HandS.Style
import HandS.Strs
import HandS.More
import HandS.TupSets
import PyProof.Rows.SortShellAny
import KE.KDictList
import HandS.ExcIs
import HandS.ExcInit
import HandS.SortKw
import KE.SortKeyHeap
import HandS.Conv
import KE.DataCmp
import HandS.Deep
import PyProof.Draws
import PyProof.EnumMake
import PyProof.ListIndex
import KE.GoesMore
import KE.KEqDict
import HandS.SetFor
import HandS.DictTup
import HandS.NoneIn
import KE.KDictZip
import KE.KTurns
import HandS.GenBody
import PyProof.NeKinds
import HandS.DictEq
import PyProof.DictFindH
import HandS.HeadHook3
import KE.KStateDown
import HandS.TupAny
import KE.GoesEnum
import KE.GoesZip
import KE.KDictPairs
import HandS.FStr
import HandS.RaiseMore
import KE.GoesEnumKw
import HandS.ExcInitHot
import HandS.ExcField
import KE.KExcIs
import KE.KIntText
import PySem.Challenge.RW_manrent_k51_rows_read_or_refused
set_option Elab.async false
set_option linter.all false
set_option maxRecDepth 100000
namespace MR
open PySem
abbrev Kk := Sum Int Str
inductive D where
  | non | bl (b : Bool) | int (i : Int) | str (x : Str)
  | tup (l : List D) | lst (l : List D)
  | dK (l : List (Kk × D)) | dT (l : List (List Kk × D))
  | obj (r : Nat) | loc (i : Nat) | scr (l : List Int)
  | fK (l : List (Kk × D)) | fT (l : List (List Kk × D)) | cst (l : List D)
inductive Slot where
  | emp | val (w : D) | own (w : D) | exn (a : PySem.Addr) | exx (a d : PySem.Addr) (n : Int)
abbrev Sl := List Slot
inductive Ob where
  | ins (c : String) (fs : List (String × D))
  | con (lk : Bool) (w : D)
abbrev Sto := List Ob
structure Exn where
  c : String
  x : Option Int
inductive Res (α : Type) where
  | ok (a : α) (σ : Sl) (S : Sto)
  | exc (e : Exn) (σ : Sl) (S : Sto)
  | fail
def Res.bind {α β : Type} (r : Res α) (k : α → Sl → Sto → Res β) : Res β := match r with
  | .ok a σ S => k a σ S
  | .exc e σ S => .exc e σ S
  | .fail => .fail
@[simp] theorem Res.bind_ok {α β : Type} {a : α} {σ : Sl} {S : Sto} {k : α → Sl → Sto → Res β} : (Res.ok a σ S).bind k = k a σ S := rfl
@[simp] theorem Res.bind_exc {α β : Type} {e : Exn} {σ : Sl} {S : Sto} {k : α → Sl → Sto → Res β} : (Res.exc e σ S).bind k = .exc e σ S := rfl
@[simp] theorem Res.bind_fail {α β : Type} {k : α → Sl → Sto → Res β} : (Res.fail : Res α).bind k = .fail := rfl
abbrev DE := Sl → Sto → Res D
abbrev DT := Sl → Sto → Res Bool
abbrev DA := Sl → Sto → Res (List D)
inductive Fl where
  | next | ret (w : D) | brk | cnt
abbrev DS := Sl → Sto → Res Fl
inductive Out where
  | ok (w : D) (S : Sto)
  | exc (e : Exn) (S : Sto)
  | fail
abbrev Den := List D → Sto → Out
abbrev conD (lk : Bool) (c : D) : Option D := match c with
  | .lst l => (match lk with
    | true => none
    | false => some (.lst l))
  | c => some c
def deref (σ : Sl) (S : Sto) : D → Option D
  | .loc i => (match σ[i]? with
    | some (.own c) => some c
    | _ => none)
  | .obj r => (match S[r]? with
    | some (.con lk c) => conD lk c
    | _ => none)
  | w => some w
def frz (w : D) (σ : Sl) (S : Sto) : Res D := match w with
  | .loc i => (match σ[i]? with
    | some (.own c) => .ok c (σ.set i (.val c)) S
    | _ => .fail)
  | w => .ok w σ S
def ofOpt {α : Type} (o : Option α) (σ : Sl) (S : Sto) : Res α := match o with
  | some a => .ok a σ S
  | none => .fail
def dVar (i : Nat) : DE := fun σ S => match σ[i]? with
  | some (.val w) => .ok w σ S
  | some (.own _) => .ok (.loc i) σ S
  | _ => .fail
def dC (w : D) : DE := fun σ S => .ok w σ S
def dV (f : DE) : DE := fun σ S => (f σ S).bind frz
def d1 (op : D → Option D) (f : DE) : DE := fun σ S => (f σ S).bind fun x σ S => ofOpt ((deref σ S x).bind op) σ S
def d2 (op : D → D → Option D) (f g : DE) : DE := fun σ S => (f σ S).bind fun x σ S => (g σ S).bind fun y σ S => ofOpt ((deref σ S x).bind fun a => (deref σ S y).bind fun b => op a b) σ S
def most : Nat := 16777216
def opAdd : D → D → Option D
  | .int i, .int j => some (.int (i + j))
  | .str x, .str y => if x.length + y.length ≤ most then some (.str (x ++ y)) else none
  | .lst x, .lst y => if x.length + y.length ≤ most then some (.lst (x ++ y)) else none
  | .tup x, .tup y => if x.length ≠ 0 ∧ y.length ≠ 0 ∧ x.length + y.length ≤ most then some (.tup (x ++ y)) else none
  | _, _ => none
def opSub : D → D → Option D
  | .int i, .int j => some (.int (i - j))
  | _, _ => none
def mulOk (i j : Int) : Prop := i.natAbs.log2 + j.natAbs.log2 < 1000000
instance (i j : Int) : Decidable (mulOk i j) := by unfold mulOk; infer_instance
def opMod : D → D → Option D
  | .int i, .int j => if 0 < j then some (.int (i % j)) else none
  | _, _ => none
def divOk (j : Int) : Prop := j ≠ 0 ∧ j.natAbs.log2 < 9000
instance (j : Int) : Decidable (divOk j) := by unfold divOk; infer_instance
def opDiv : D → D → Option D
  | .int i, .int j => if divOk j then some (.int (i.fdiv j)) else none
  | _, _ => none
def opLt : D → D → Option D
  | .int i, .int j => some (.bl (decide (i < j)))
  | _, _ => none
def opLe : D → D → Option D
  | .int i, .int j => some (.bl (decide (i ≤ j)))
  | _, _ => none
def opGt : D → D → Option D
  | .int i, .int j => some (.bl (decide (j < i)))
  | _, _ => none
def opGe : D → D → Option D
  | .int i, .int j => some (.bl (decide (j ≤ i)))
  | _, _ => none
def opEq : D → D → Option D
  | .int i, .int j => some (.bl (decide (i = j)))
  | .str i, .str j => some (.bl (decide (i = j)))
  | .bl i, .bl j => some (.bl (decide (i = j)))
  | _, _ => none
def tVal (f : DE) : DT := fun σ S => (f σ S).bind fun x σ S => match x with
  | .bl b => .ok b σ S
  | _ => .fail
def tAnd (f g : DT) : DT := fun σ S => (f σ S).bind fun b σ S => if b = true then g σ S else .ok false σ S
def tOr (f g : DT) : DT := fun σ S => (f σ S).bind fun b σ S => if b = true then .ok true σ S else g σ S
def tNot (f : DT) : DT := fun σ S => (f σ S).bind fun b σ S => .ok (!b) σ S
def aNil : DA := fun σ S => .ok [] σ S
def aCons (f : DE) (r : DA) : DA := fun σ S => (dV f σ S).bind fun x σ S => (r σ S).bind fun xs σ S => .ok (x :: xs) σ S
def dTup (r : DA) : DE := fun σ S => (r σ S).bind fun xs σ S => if xs.length ≤ most then .ok (.tup xs) σ S else .fail
def dLst (r : DA) : DE := fun σ S => (r σ S).bind fun xs σ S => if xs.length ≤ most then .ok (.lst xs) σ S else .fail
def dCall (d : Den) (r : DA) : DE := fun σ S => (r σ S).bind fun xs σ S => match d xs S with
  | .ok w S' => .ok w σ S'
  | .exc e S' => .exc e σ S'
  | .fail => .fail
def sNil : DS := fun σ S => .ok .next σ S
def sSeq (f g : DS) : DS := fun σ S => (f σ S).bind fun x σ S => match x with
  | .next => g σ S
  | x => .ok x σ S
def sSet (i : Nat) (f : DE) : DS := fun σ S => (dV f σ S).bind fun w σ S => .ok .next (σ.set i (.val w)) S
def sRet (f : DE) : DS := fun σ S => (dV f σ S).bind fun w σ S => .ok (.ret w) σ S
def sIf (c : DT) (f g : DS) : DS := fun σ S => (c σ S).bind fun b σ S => if b = true then f σ S else g σ S
def sExpr (f : DE) : DS := fun σ S => (f σ S).bind fun _ σ S => .ok .next σ S
def sPar (i j : Nat) (r : DA) : DS := fun σ S => (r σ S).bind fun xs σ S => match xs with
  | [v, w] => .ok .next ((σ.set i (.val v)).set j (.val w)) S
  | _ => .fail
def dDef (n : Nat) (f : DS) : Den := fun ws S => match f (ws.map Slot.val ++ List.replicate (n - ws.length) .emp) S with
  | .ok .next _ S' => .ok .non S'
  | .ok (.ret w) _ S' => .ok w S'
  | .ok _ _ _ => .fail
  | .exc e _ S' => .exc e S'
  | .fail => .fail
def sWhile (c : DT) (f : DS) : Nat → DS
  | 0 => fun _ _ => .fail
  | n + 1 => fun σ S => (c σ S).bind fun b σ S => if b = true then (f σ S).bind fun x σ S => (match x with
      | .next => sWhile c f n σ S
      | .cnt => sWhile c f n σ S
      | .brk => .ok .next σ S
      | .ret w => .ok (.ret w) σ S) else .ok .next σ S
end MR
set_option Elab.async false
set_option linter.all false
set_option maxRecDepth 100000
namespace MR
open PySem PySem.Spec PyProof.Rows L2
def isDc : HO → Prop
  | .dK _ => True
  | .dT _ => True
  | _ => False
def Sub (I H : Hp) : Prop := ∀ a o, I a = some o → H a = some o ∨ (isDc o ∧ ∃ ob, H a = some (.frz ob o))
def pairV : List V → Bool
  | [.str _, .str _] => true
  | .str _ :: .int _ :: _ => true
  | _ => false
def SqP (K : PySem.W.Frag) (I : Hp) (a : Addr) (vs : List V) : Prop := I a = some (.tup vs) ∨ (SqT K I a vs ∧ pairV vs = false)
theorem SqP.sq {K : PySem.W.Frag} {I : Hp} {a : Addr} {vs : List V} (h : SqP K I a vs) : SqT K I a vs := h.elim (fun h => .inl (.inl h)) (·.1)
instance {K : PySem.W.Frag} {I : Hp} {a : Addr} {vs : List V} : Coe (SqP K I a vs) (SqT K I a vs) := ⟨SqP.sq⟩
mutual
inductive Rep (K : PySem.W.Frag) (ρ : List Addr) (I : Hp) : V → D → Prop
  | non : Rep K ρ I .non .non
  | bl {b : Bool} : Rep K ρ I (.bl b) (.bl b)
  | int {i : Int} : Rep K ρ I (.int i) (.int i)
  | str {x : Str} : Rep K ρ I (.str x) (.str x)
  | tup {a : Addr} {vs : List V} {ws : List D} (h : SqP K I a vs) (r : Reps K ρ I vs ws) : Rep K ρ I (.ref a) (.tup ws)
  | lst {a : Addr} {vs : List V} {ws : List D} (h : I a = some (.lst vs)) (r : Reps K ρ I vs ws) : Rep K ρ I (.ref a) (.lst ws)
  | dK {a : Addr} {kvs : List (Key × V)} {kws : List (Kk × D)} (h : I a = some (.dK kvs)) (e : kvs.map (·.1) = kws.map (·.1)) (r : Reps K ρ I (kvs.map (·.2)) (kws.map (·.2))) : Rep K ρ I (.ref a) (.dK kws)
  | dT {a : Addr} {kvs : List (List Key × V)} {kws : List (List Kk × D)} (h : I a = some (.dT kvs)) (e : kvs.map (·.1) = kws.map (·.1)) (r : Reps K ρ I (kvs.map (·.2)) (kws.map (·.2))) : Rep K ρ I (.ref a) (.dT kws)
  | obj {r : Nat} {a : Addr} (h : ρ[r]? = some a) : Rep K ρ I (.ref a) (.obj r)
  | scr {a : Addr} {ns : List Int} (h : SqL K I a (ns.map V.int)) : Rep K ρ I (.ref a) (.scr ns)
  | fK {a : Addr} {o : Obj} {kvs : List (Key × V)} {kws : List (Kk × D)} (h : I a = some (.frz o (.dK kvs))) (e : kvs.map (·.1) = kws.map (·.1)) (r : Reps K ρ I (kvs.map (·.2)) (kws.map (·.2))) : Rep K ρ I (.ref a) (.fK kws)
  | fT {a : Addr} {o : Obj} {kvs : List (List Key × V)} {kws : List (List Kk × D)} (h : I a = some (.frz o (.dT kvs))) (e : kvs.map (·.1) = kws.map (·.1)) (r : Reps K ρ I (kvs.map (·.2)) (kws.map (·.2))) : Rep K ρ I (.ref a) (.fT kws)
  | cst {a : Addr} {vs : List V} {ws : List D} (h : SqT K I a vs) (r : Reps K ρ I vs ws) : Rep K ρ I (.ref a) (.cst ws)
inductive Reps (K : PySem.W.Frag) (ρ : List Addr) (I : Hp) : List V → List D → Prop
  | nil : Reps K ρ I [] []
  | cons {v : V} {vs : List V} {w : D} {ws : List D} (h : Rep K ρ I v w) (r : Reps K ρ I vs ws) : Reps K ρ I (v :: vs) (w :: ws)
end
structure Gr (ρ : List Addr) (I : Hp) (ρ' : List Addr) (I' : Hp) : Prop where
  ex : ∀ a o, I a = some o → I' a = some o
  pre : ∀ (r : Nat) (a : Addr), ρ[r]? = some a → ρ'[r]? = some a
theorem Gr.refl {ρ : List Addr} {I : Hp} : Gr ρ I ρ I := ⟨fun _ _ h => h, fun _ _ h => h⟩
theorem Gr.trans {ρ ρ' ρ'' : List Addr} {I I' I'' : Hp} (a : Gr ρ I ρ' I') (b : Gr ρ' I' ρ'' I'') : Gr ρ I ρ'' I'' := ⟨fun x o h => b.ex x o (a.ex x o h), fun r x h => b.pre r x (a.pre r x h)⟩
theorem SqT.gr {K : PySem.W.Frag} {ρ ρ' : List Addr} {I I' : Hp} {a : Addr} {vs : List V} (g : Gr ρ I ρ' I') (h : SqT K I a vs) : SqT K I' a vs := by
  rcases h with (h | ⟨o, h⟩) | h
  · exact .inl (.inl (g.ex _ _ h))
  · exact .inl (.inr ⟨o, g.ex _ _ h⟩)
  · exact .inr h
theorem SqL.gr {K : PySem.W.Frag} {ρ ρ' : List Addr} {I I' : Hp} {a : Addr} {vs : List V} (g : Gr ρ I ρ' I') (h : SqL K I a vs) : SqL K I' a vs := by
  rcases h with (h | ⟨o, h⟩) | h
  · exact .inl (.inl (g.ex _ _ h))
  · exact .inl (.inr ⟨o, g.ex _ _ h⟩)
  · exact .inr h
theorem SqP.gr {K : PySem.W.Frag} {ρ ρ' : List Addr} {I I' : Hp} {a : Addr} {vs : List V} (g : Gr ρ I ρ' I') (h : SqP K I a vs) : SqP K I' a vs := h.elim (fun h => .inl (g.ex _ _ h)) fun h => .inr ⟨SqT.gr g h.1, h.2⟩
mutual
theorem Rep.gr {K : PySem.W.Frag} {ρ ρ' : List Addr} {I I' : Hp} (g : Gr ρ I ρ' I') : ∀ {v : V} {w : D}, Rep K ρ I v w → Rep K ρ' I' v w
  | _, _, .non => .non
  | _, _, .bl => .bl
  | _, _, .int => .int
  | _, _, .str => .str
  | _, _, .tup h r => .tup (SqP.gr g h) (Reps.gr g r)
  | _, _, .lst h r => .lst (g.ex _ _ h) (Reps.gr g r)
  | _, _, .dK h e r => .dK (g.ex _ _ h) e (Reps.gr g r)
  | _, _, .dT h e r => .dT (g.ex _ _ h) e (Reps.gr g r)
  | _, _, .obj h => .obj (g.pre _ _ h)
  | _, _, .scr h => .scr (SqL.gr g h)
  | _, _, .fK h e r => .fK (g.ex _ _ h) e (Reps.gr g r)
  | _, _, .fT h e r => .fT (g.ex _ _ h) e (Reps.gr g r)
  | _, _, .cst h r => .cst (SqT.gr g h) (Reps.gr g r)
theorem Reps.gr {K : PySem.W.Frag} {ρ ρ' : List Addr} {I I' : Hp} (g : Gr ρ I ρ' I') : ∀ {vs : List V} {ws : List D}, Reps K ρ I vs ws → Reps K ρ' I' vs ws
  | _, _, .nil => .nil
  | _, _, .cons h r => .cons (Rep.gr g h) (Reps.gr g r)
end
section
variable {K : PySem.W.Frag} {ρ : List Addr} {I : Hp}
theorem Reps.length : ∀ {vs : List V} {ws : List D}, Reps K ρ I vs ws → vs.length = ws.length
  | _, _, .nil => rfl
  | _, _, .cons _ r => congrArg (· + 1) r.length
theorem Reps.get : ∀ {vs : List V} {ws : List D} {i : Nat} {w : D}, Reps K ρ I vs ws → ws[i]? = some w → ∃ v, vs[i]? = some v ∧ Rep K ρ I v w
  | _, _, _, _, .nil, e => by cases e
  | _, _, 0, _, .cons h _, e => by cases e; exact ⟨_, rfl, h⟩
  | _, _, i + 1, _, .cons _ r, e => Reps.get (i := i) r e
theorem Reps.append : ∀ {vs vs' : List V} {ws ws' : List D}, Reps K ρ I vs ws → Reps K ρ I vs' ws' → Reps K ρ I (vs ++ vs') (ws ++ ws')
  | _, _, _, _, .nil, q => q
  | _, _, _, _, .cons h r, q => .cons h (Reps.append r q)
theorem Reps.take : ∀ {vs : List V} {ws : List D} (n : Nat), Reps K ρ I vs ws → Reps K ρ I (vs.take n) (ws.take n)
  | _, _, 0, _ => .nil
  | _, _, _ + 1, .nil => .nil
  | _, _, n + 1, .cons h r => .cons h (Reps.take n r)
theorem Reps.drop : ∀ {vs : List V} {ws : List D} (n : Nat), Reps K ρ I vs ws → Reps K ρ I (vs.drop n) (ws.drop n)
  | _, _, 0, r => r
  | _, _, _ + 1, .nil => .nil
  | _, _, n + 1, .cons _ r => Reps.drop n r
theorem Reps.set {v : V} {w : D} (h : Rep K ρ I v w) : ∀ {vs : List V} {ws : List D} (n : Nat), Reps K ρ I vs ws → Reps K ρ I (vs.set n v) (ws.set n w)
  | _, _, _, .nil => .nil
  | _, _, 0, .cons _ r => .cons h r
  | _, _, n + 1, .cons q r => .cons q (Reps.set h n r)
end
def OwnAt (K : PySem.W.Frag) (ρ : List Addr) (I H : Hp) (a : Addr) : D → Prop
  | .lst ws => ∃ vs, H a = some (.lst vs) ∧ Reps K ρ I vs ws
  | .dK kws => ∃ kvs, H a = some (.dK kvs) ∧ kvs.map (·.1) = kws.map (·.1) ∧ Reps K ρ I (kvs.map (·.2)) (kws.map (·.2))
  | .dT kws => ∃ kvs, H a = some (.dT kvs) ∧ kvs.map (·.1) = kws.map (·.1) ∧ Reps K ρ I (kvs.map (·.2)) (kws.map (·.2))
  | _ => False
def LockAt (K : PySem.W.Frag) (ρ : List Addr) (I H : Hp) (a : Addr) : D → Prop
  | .lst ws => ∃ ob vs, H a = some (.frz ob (.lst vs)) ∧ Reps K ρ I vs ws
  | .dK kws => ∃ ob kvs, H a = some (.frz ob (.dK kvs)) ∧ kvs.map (·.1) = kws.map (·.1) ∧ Reps K ρ I (kvs.map (·.2)) (kws.map (·.2))
  | .dT kws => ∃ ob kvs, H a = some (.frz ob (.dT kvs)) ∧ kvs.map (·.1) = kws.map (·.1) ∧ Reps K ρ I (kvs.map (·.2)) (kws.map (·.2))
  | _ => False
abbrev ca (K : PySem.W.Frag) (c : String) : Addr := He.ga K (Str.ofString c)
def CellAt (K : PySem.W.Frag) (ρ : List Addr) (I H : Hp) (a : Addr) : Ob → Prop
  | .ins c fs => ∃ dx fsV, H a = some (.ins (ca K c) dx fsV) ∧ fsV.map (·.1) = fs.map (fun p => Str.ofString p.1) ∧ Reps K ρ I (fsV.map (·.2)) (fs.map (·.2))
  | .con false c => OwnAt K ρ I H a c
  | .con true c => LockAt K ρ I H a c
def SlotAt (K : PySem.W.Frag) (ρ : List Addr) (I F H : Hp) (σV : L2.St) (i : Nat) : Slot → Prop
  | .emp => True
  | .val w => ∃ v, σV[i]? = some (some v) ∧ Rep K ρ I v w
  | .own c => ∃ a, σV[i]? = some (some (.ref a)) ∧ F a = none ∧ I a = none ∧ a ∉ ρ ∧ OwnAt K ρ I H a c
  | .exn b => σV[i]? = some (some (.ref b))
  | .exx b d n => σV[i]? = some (some (.ref b)) ∧ I d = some (.xd [(Str.ofString "at", .int n)])
def FOk (F : Hp) (a : Addr) (o : Ob) : Prop := match o with
  | .con true _ => ∃ ob u, F a = some (.frz ob u)
  | _ => F a = none
theorem FOk.mono {F F' : Hp} {a : Addr} {o : Ob} (h : FOk F a o) (h0 : F a = none → F' a = none) (h1 : ∀ ob u, F a = some (.frz ob u) → F' a = some (.frz ob u)) : FOk F' a o := by
  cases o with
  | ins c fs => exact h0 h
  | con lk c =>
    cases lk with
    | false => exact h0 h
    | true => obtain ⟨ob, u, e⟩ := h; exact ⟨ob, u, h1 ob u e⟩
theorem FOk.not {F : Hp} {a : Addr} {o : Ob} {x : HO} (h : FOk F a o) (e : F a = some x) : ∃ ob u, x = .frz ob u := by
  cases o with
  | ins c fs => rw [show F a = none from h] at e; cases e
  | con lk c =>
    cases lk with
    | false => rw [show F a = none from h] at e; cases e
    | true => obtain ⟨ob, u, e'⟩ := h; rw [e'] at e; cases e; exact ⟨ob, u, rfl⟩
structure RB (K : PySem.W.Frag) (F I : Hp) (ρ : List Addr) (S : Sto) (H : Hp) (σV : L2.St) (σ : Sl) : Prop where
  fr : ∀ a o, F a = some o → H a = some o
  sub : Sub I H
  dis : ∀ a o, F a = some o → (∀ vs, o ≠ .tup vs) → I a = none
  store : ∀ (r : Nat) (o : Ob), S[r]? = some o → ∃ a, ρ[r]? = some a ∧ FOk F a o ∧ I a = none ∧ CellAt K ρ I H a o
  nd : ∀ (r r' : Nat) (a : Addr), ρ[r]? = some a → ρ[r']? = some a → r = r'
  rl : ρ.length = S.length
  len : σ.length = σV.length
  slot : ∀ (i : Nat) (s : Slot), σ[i]? = some s → SlotAt K ρ I F H σV i s
  inj : ∀ (i j : Nat) (c c' : D) (v : V), σ[i]? = some (.own c) → σ[j]? = some (.own c') → σV[i]? = some (some v) → σV[j]? = some (some v) → i = j
def TRep (K : PySem.W.Frag) (ρ : List Addr) (I : Hp) (σV : L2.St) (v : V) (w : D) : Prop := (∃ i, w = .loc i ∧ σV[i]? = some (some v)) ∨ Rep K ρ I v w
theorem TRep.gr {K : PySem.W.Frag} {ρ ρ' : List Addr} {I I' : Hp} {σV : L2.St} {v : V} {w : D} (g : Gr ρ I ρ' I') (h : TRep K ρ I σV v w) : TRep K ρ' I' σV v w := by
  rcases h with h | h
  · exact .inl h
  · exact .inr (h.gr g)
def ExcAt (e : Exn) (d : Option Addr) (I : Hp) : Prop := match e.x with
  | none => d = none
  | some n => ∃ a, d = some a ∧ I a = some (.xd [(Str.ofString "at", .int n)])
def postR {α β : Type} (K : PySem.W.Frag) (Wx : WX) (T : List Addr → Hp → L2.St → β → α → Prop) (F I : Hp) (ρ : List Addr) (σV : L2.St) (r : Res α) (Q : β → Hp → Prop) : Prop := match r with
  | .ok a σ' S' => ∀ I' ρ' H' b, Gr ρ I ρ' I' → RB K F I' ρ' S' H' σV σ' → T ρ' I' σV b a → Q b H'
  | .exc e σ' S' => ∀ I' ρ' H' d, Gr ρ I ρ' I' → RB K F I' ρ' S' H' σV σ' → ExcAt e d I' → Wx (.ref (ca K e.c)) d σV H'
  | .fail => False
def semR {α β : Type} (K : PySem.W.Frag) (Wx : WX) (T : List Addr → Hp → L2.St → β → α → Prop) (f : Sl → Sto → Res α) (σV : L2.St) (H : Hp) (Q : β → Hp → Prop) : Prop :=
  ∃ F I ρ σ S, RB K F I ρ S H σV σ ∧ postR K Wx T F I ρ σV (f σ S) Q
abbrev semE (K : PySem.W.Frag) (Wx : WX) (f : DE) : TE := semR K Wx (TRep K) f
abbrev semT (K : PySem.W.Frag) (Wx : WX) (f : DT) : TT := semR K Wx (fun _ _ _ b a => b = a) f
abbrev semA (K : PySem.W.Frag) (Wx : WX) (f : DA) : TA := semR K Wx (fun ρ I _ vs ws => Reps K ρ I vs ws) f
abbrev semV (K : PySem.W.Frag) (Wx : WX) (f : DE) : TE := semR K Wx (fun ρ I _ v w => Rep K ρ I v w) f
section
variable {K : PySem.W.Frag} {Wx : WX} {F I : Hp} {ρ : List Addr} {σV : L2.St} {H : Hp}
theorem post_gr {α β : Type} {T : List Addr → Hp → L2.St → β → α → Prop} {r : Res α} {Q : β → Hp → Prop} {I1 : Hp} {ρ1 : List Addr} (g : Gr ρ I ρ1 I1) (h : postR K Wx T F I ρ σV r Q) : postR K Wx T F I1 ρ1 σV r Q := by
  cases r with
  | ok a σ S => exact fun I' ρ' H' b g' => h I' ρ' H' b (g.trans g')
  | exc e σ S => exact fun I' ρ' H' d g' => h I' ρ' H' d (g.trans g')
  | fail => exact h
theorem post_bind {α α2 β β2 : Type} {T : List Addr → Hp → L2.St → β → α → Prop} {T2 : List Addr → Hp → L2.St → β2 → α2 → Prop} {r : Res α} {k : α → Sl → Sto → Res α2} {Q : β2 → Hp → Prop} {Q1 : β → Hp → Prop}
    (h : postR K Wx T2 F I ρ σV (r.bind k) Q)
    (q : ∀ I1 ρ1 σ1 S1 H1 a b, r = .ok a σ1 S1 → Gr ρ I ρ1 I1 → RB K F I1 ρ1 S1 H1 σV σ1 → T ρ1 I1 σV b a → postR K Wx T2 F I1 ρ1 σV (k a σ1 S1) Q → Q1 b H1) : postR K Wx T F I ρ σV r Q1 := by
  cases r with
  | ok a σ S => exact fun I' ρ' H' b g rb t => q I' ρ' σ S H' a b rfl g rb t (post_gr g h)
  | exc e σ S => exact h
  | fail => exact h
theorem post_opt {α β : Type} {T : List Addr → Hp → L2.St → β → α → Prop} {o : Option α} {σ : Sl} {S : Sto} {Q : β → Hp → Prop} (h : postR K Wx T F I ρ σV (ofOpt o σ S) Q) : ∃ a, o = some a ∧ postR K Wx T F I ρ σV (.ok a σ S) Q := by
  cases o with
  | none => exact h.elim
  | some a => exact ⟨a, rfl, h⟩
end
def At (K : PySem.W.Frag) (ρ : List Addr) (I H : Hp) (v : V) : D → Prop
  | .non => v = .non
  | .bl b => v = .bl b
  | .int i => v = .int i
  | .str x => v = .str x
  | .tup ws => ∃ a vs, v = .ref a ∧ SqP K H a vs ∧ Reps K ρ I vs ws
  | .lst ws => ∃ a vs, v = .ref a ∧ H a = some (.lst vs) ∧ Reps K ρ I vs ws
  | .dK kws => ∃ a kvs, v = .ref a ∧ Rd H a (.dK kvs) ∧ kvs.map (·.1) = kws.map (·.1) ∧ Reps K ρ I (kvs.map (·.2)) (kws.map (·.2))
  | .dT kws => ∃ a kvs, v = .ref a ∧ Rd H a (.dT kvs) ∧ kvs.map (·.1) = kws.map (·.1) ∧ Reps K ρ I (kvs.map (·.2)) (kws.map (·.2))
  | .obj r => ∃ a, v = .ref a ∧ ρ[r]? = some a
  | .loc _ => False
  | .scr ns => ∃ a, v = .ref a ∧ SqL K H a (ns.map V.int)
  | .fK kws => ∃ a o kvs, v = .ref a ∧ H a = some (.frz o (.dK kvs)) ∧ kvs.map (·.1) = kws.map (·.1) ∧ Reps K ρ I (kvs.map (·.2)) (kws.map (·.2))
  | .fT kws => ∃ a o kvs, v = .ref a ∧ H a = some (.frz o (.dT kvs)) ∧ kvs.map (·.1) = kws.map (·.1) ∧ Reps K ρ I (kvs.map (·.2)) (kws.map (·.2))
  | .cst ws => ∃ a vs, v = .ref a ∧ SqT K H a vs ∧ Reps K ρ I vs ws
theorem Sub.rd {I H : Hp} (s : Sub I H) {a : Addr} {o : HO} (h : I a = some o) : Rd H a o := by
  rcases s a o h with h | ⟨_, ob, h⟩
  · exact .inl h
  · exact .inr ⟨ob, h⟩
theorem Sub.sqT {K : PySem.W.Frag} {I H : Hp} (s : Sub I H) {a : Addr} {vs : List V} (h : SqT K I a vs) : SqT K H a vs := by
  rcases h with (h | ⟨o, h⟩) | h
  · rcases s a _ h with h | ⟨d, _⟩
    · exact .inl (.inl h)
    · exact d.elim
  · rcases s a _ h with h | ⟨d, _⟩
    · exact .inl (.inr ⟨o, h⟩)
    · exact d.elim
  · exact .inr h
theorem Sub.sqP {K : PySem.W.Frag} {I H : Hp} (s : Sub I H) {a : Addr} {vs : List V} (h : SqP K I a vs) : SqP K H a vs := by
  rcases h with h | h
  · rcases s a _ h with h | ⟨d, _⟩
    · exact .inl h
    · exact d.elim
  · exact .inr ⟨s.sqT h.1, h.2⟩
theorem Sub.sqL {K : PySem.W.Frag} {I H : Hp} (s : Sub I H) {a : Addr} {vs : List V} (h : SqL K I a vs) : SqL K H a vs := by
  rcases h with (h | ⟨o, h⟩) | h
  · rcases s a _ h with h | ⟨d, _⟩
    · exact .inl (.inl h)
    · exact d.elim
  · rcases s a _ h with h | ⟨d, _⟩
    · exact .inl (.inr ⟨o, h⟩)
    · exact d.elim
  · exact .inr h
theorem Rep.at {K : PySem.W.Frag} {ρ : List Addr} {I H : Hp} (s : Sub I H) {v : V} {w : D} (h : Rep K ρ I v w) : At K ρ I H v w := by
  cases h with
  | non => rfl
  | bl => rfl
  | int => rfl
  | str => rfl
  | tup h r => exact ⟨_, _, rfl, s.sqP h, r⟩
  | lst h r =>
    rcases s _ _ h with h | ⟨d, _⟩
    · exact ⟨_, _, rfl, h, r⟩
    · exact d.elim
  | dK h e r => exact ⟨_, _, rfl, s.rd h, e, r⟩
  | dT h e r => exact ⟨_, _, rfl, s.rd h, e, r⟩
  | obj h => exact ⟨_, rfl, h⟩
  | scr h => exact ⟨_, rfl, s.sqL h⟩
  | cst h r => exact ⟨_, _, rfl, s.sqT h, r⟩
  | fK h e r =>
    rcases s _ _ h with h | ⟨d, _⟩
    · exact ⟨_, _, _, rfl, h, e, r⟩
    · exact d.elim
  | fT h e r =>
    rcases s _ _ h with h | ⟨d, _⟩
    · exact ⟨_, _, _, rfl, h, e, r⟩
    · exact d.elim
theorem OwnAt.at {K : PySem.W.Frag} {ρ : List Addr} {I H : Hp} {a : Addr} {c : D} (h : OwnAt K ρ I H a c) : At K ρ I H (.ref a) c := by
  cases c with
  | lst ws => obtain ⟨vs, h, r⟩ := h; exact ⟨a, vs, rfl, h, r⟩
  | dK kws => obtain ⟨kvs, h, e, r⟩ := h; exact ⟨a, kvs, rfl, .inl h, e, r⟩
  | dT kws => obtain ⟨kvs, h, e, r⟩ := h; exact ⟨a, kvs, rfl, .inl h, e, r⟩
  | _ => exact h.elim
theorem LockAt.at {K : PySem.W.Frag} {ρ : List Addr} {I H : Hp} {a : Addr} {c d : D} (h : LockAt K ρ I H a c) (e : conD true c = some d) : At K ρ I H (.ref a) d := by
  cases c with
  | lst ws => cases e
  | dK kws => cases e; obtain ⟨ob, kvs, h, e, r⟩ := h; exact ⟨a, kvs, rfl, .inr ⟨ob, h⟩, e, r⟩
  | dT kws => cases e; obtain ⟨ob, kvs, h, e, r⟩ := h; exact ⟨a, kvs, rfl, .inr ⟨ob, h⟩, e, r⟩
  | _ => exact h.elim
theorem conD_false {c d : D} (e : conD false c = some d) : d = c := by cases c <;> (cases e; rfl)
section
variable {K : PySem.W.Frag} {F I : Hp} {ρ : List Addr} {S : Sto} {H : Hp} {σV : L2.St} {σ : Sl}
theorem RB.at (rb : RB K F I ρ S H σV σ) {v : V} {x a : D} (t : TRep K ρ I σV v x) (e : deref σ S x = some a) : At K ρ I H v a := by
  rcases t with ⟨i, rfl, hv⟩ | r
  · unfold deref at e
    split at e
    · rename_i i' h1
      injection h1 with h1
      subst h1
      split at e
      · rename_i c hc
        cases e
        obtain ⟨b, hb, _, _, _, ho⟩ := rb.slot _ _ hc
        rw [hv] at hb
        cases hb
        exact ho.at
      · cases e
    · rename_i h1; cases h1
    · rename_i h1 h2; exact absurd rfl (h1 _)
  · cases r with
    | obj h =>
      unfold deref at e
      simp only at e
      split at e
      · rename_i lk c hc
        obtain ⟨b, hb, _, _, ho⟩ := rb.store _ _ hc
        rw [h] at hb
        cases hb
        cases lk with
        | false => rw [conD_false e]; exact OwnAt.at ho
        | true => exact LockAt.at ho e
      · cases e
    | non => cases e; exact Rep.at rb.sub .non
    | bl => cases e; exact Rep.at rb.sub .bl
    | int => cases e; exact Rep.at rb.sub .int
    | str => cases e; exact Rep.at rb.sub .str
    | tup h r => cases e; exact Rep.at rb.sub (.tup h r)
    | lst h r => cases e; exact Rep.at rb.sub (.lst h r)
    | dK h k r => cases e; exact Rep.at rb.sub (.dK h k r)
    | dT h k r => cases e; exact Rep.at rb.sub (.dT h k r)
    | scr h => cases e; exact Rep.at rb.sub (.scr h)
    | fK h k r => cases e; exact Rep.at rb.sub (.fK h k r)
    | fT h k r => cases e; exact Rep.at rb.sub (.fT h k r)
    | cst h r => cases e; exact Rep.at rb.sub (.cst h r)
theorem Sub.none_of (s : Sub I H) {p : Addr} (h : H p = none) : I p = none := by
  cases e : I p with
  | none => rfl
  | some o =>
    rcases s p o e with q | ⟨_, _, q⟩
    · rw [h] at q; cases q
    · rw [h] at q; cases q
theorem OwnAt.gr {ρ' : List Addr} {I' H' : Hp} {a : Addr} {c : D} (g : Gr ρ I ρ' I') (k : ∀ o, H a = some o → H' a = some o) (h : OwnAt K ρ I H a c) : OwnAt K ρ' I' H' a c := by
  cases c with
  | lst ws => obtain ⟨vs, h, r⟩ := h; exact ⟨vs, k _ h, r.gr g⟩
  | dK kws => obtain ⟨kvs, h, e, r⟩ := h; exact ⟨kvs, k _ h, e, r.gr g⟩
  | dT kws => obtain ⟨kvs, h, e, r⟩ := h; exact ⟨kvs, k _ h, e, r.gr g⟩
  | _ => exact h.elim
theorem OwnAt.notTup {a : Addr} {c : D} {o : HO} (h : OwnAt K ρ I H a c) (e : H a = some o) : ∀ vs, o ≠ .tup vs := fun vs z => by
  subst z
  cases c with
  | lst ws => obtain ⟨vs, h, r⟩ := h; rw [e] at h; cases h
  | dK kws => obtain ⟨kvs, h, _, r⟩ := h; rw [e] at h; cases h
  | dT kws => obtain ⟨kvs, h, _, r⟩ := h; rw [e] at h; cases h
  | _ => exact h.elim
theorem LockAt.gr {ρ' : List Addr} {I' H' : Hp} {a : Addr} {c : D} (g : Gr ρ I ρ' I') (k : ∀ o, H a = some o → H' a = some o) (h : LockAt K ρ I H a c) : LockAt K ρ' I' H' a c := by
  cases c with
  | lst ws => obtain ⟨ob, vs, h, r⟩ := h; exact ⟨ob, vs, k _ h, r.gr g⟩
  | dK kws => obtain ⟨ob, kvs, h, e, r⟩ := h; exact ⟨ob, kvs, k _ h, e, r.gr g⟩
  | dT kws => obtain ⟨ob, kvs, h, e, r⟩ := h; exact ⟨ob, kvs, k _ h, e, r.gr g⟩
  | _ => exact h.elim
theorem CellAt.gr {ρ' : List Addr} {I' H' : Hp} {a : Addr} {c : Ob} (g : Gr ρ I ρ' I') (k : ∀ o, H a = some o → H' a = some o) (h : CellAt K ρ I H a c) : CellAt K ρ' I' H' a c := by
  cases c with
  | ins c fs => obtain ⟨dx, fsV, h, e, r⟩ := h; exact ⟨dx, fsV, k _ h, e, r.gr g⟩
  | con lk c =>
    cases lk with
    | false => exact OwnAt.gr g k h
    | true => exact LockAt.gr g k h
theorem OwnAt.there {a : Addr} {c : D} (h : OwnAt K ρ I H a c) : ∃ o, H a = some o := by
  cases c with
  | lst ws => obtain ⟨vs, h, r⟩ := h; exact ⟨_, h⟩
  | dK kws => obtain ⟨kvs, h, e, r⟩ := h; exact ⟨_, h⟩
  | dT kws => obtain ⟨kvs, h, e, r⟩ := h; exact ⟨_, h⟩
  | _ => exact h.elim
theorem OwnAt.nofrz {a : Addr} {c : D} (h : OwnAt K ρ I H a c) {ob : Obj} {u : HO} : ¬ H a = some (.frz ob u) := fun e => by
  cases c with
  | lst ws => obtain ⟨vs, h, r⟩ := h; rw [h] at e; cases e
  | dK kws => obtain ⟨kvs, h, e2, r⟩ := h; rw [h] at e; cases e
  | dT kws => obtain ⟨kvs, h, e2, r⟩ := h; rw [h] at e; cases e
  | _ => exact h.elim
theorem LockAt.there {a : Addr} {c : D} (h : LockAt K ρ I H a c) : ∃ o, H a = some o := by
  cases c with
  | lst ws => obtain ⟨ob, vs, h, r⟩ := h; exact ⟨_, h⟩
  | dK kws => obtain ⟨ob, kvs, h, e, r⟩ := h; exact ⟨_, h⟩
  | dT kws => obtain ⟨ob, kvs, h, e, r⟩ := h; exact ⟨_, h⟩
  | _ => exact h.elim
theorem CellAt.there {a : Addr} {c : Ob} (h : CellAt K ρ I H a c) : ∃ o, H a = some o := by
  cases c with
  | ins c fs => obtain ⟨dx, fsV, h, e, r⟩ := h; exact ⟨_, h⟩
  | con lk c =>
    cases lk with
    | false => exact OwnAt.there h
    | true => exact LockAt.there h
theorem RB.nρ (rb : RB K F I ρ S H σV σ) {p : Addr} (hp : H p = none) : p ∉ ρ := fun hm => by
  obtain ⟨r, hr⟩ := List.getElem?_of_mem hm
  have lt : r < S.length := by rw [← rb.rl]; exact (List.getElem?_eq_some_iff.mp hr).1
  obtain ⟨a, ha, _, _, hc⟩ := rb.store r _ (List.getElem?_eq_getElem lt)
  rw [hr] at ha
  cases ha
  obtain ⟨o, ho⟩ := hc.there
  rw [hp] at ho
  cases ho
theorem RB.new (rb : RB K F I ρ S H σV σ) {p : Addr} {o : HO} (hp : H p = none) : Gr ρ I ρ (upd I p o) ∧ RB K F (upd I p o) ρ S (upd H p o) σV σ := by
  have ip := rb.sub.none_of hp
  have g : Gr ρ I ρ (upd I p o) := ⟨fun a u h => by rw [upd_ne (ne_of_none h ip)]; exact h, fun _ _ h => h⟩
  refine ⟨g, ⟨fun a u h => ?_, fun a u h => ?_, fun a u h => ?_, fun r c h => ?_, rb.nd, rb.rl, rb.len, fun i s h => ?_, rb.inj⟩⟩
  · have q := rb.fr a u h
    rw [upd_ne (ne_of_none q hp)]
    exact q
  · by_cases e : a = p
    · subst e
      rw [upd_same] at h ⊢
      exact .inl h
    · rw [upd_ne e] at h ⊢
      exact rb.sub a u h
  · rw [upd_ne (ne_of_none (rb.fr a u h) hp)]
    exact rb.dis a u h
  · obtain ⟨a, ha, hf, hi, hc⟩ := rb.store r c h
    obtain ⟨u, hu⟩ := hc.there
    have ne := ne_of_none hu hp
    exact ⟨a, ha, hf, by rw [upd_ne ne]; exact hi, hc.gr g fun u hu => by rw [upd_ne ne]; exact hu⟩
  · have q := rb.slot i s h
    cases s with
    | emp => trivial
    | exn b => first | exact q | exact (List.getElem?_set_ne e).trans q | exact e.trans q
    | exx b d n => first | exact q | exact ⟨(List.getElem?_set_ne e).trans q.1, q.2⟩ | exact ⟨e.trans q.1, q.2⟩ | exact ⟨q.1, g.ex _ _ q.2⟩ | exact ⟨(List.getElem?_set_ne e).trans q.1, g.ex _ _ q.2⟩ | exact ⟨e.trans q.1, g.ex _ _ q.2⟩
    | val w => obtain ⟨v, hv, r⟩ := q; exact ⟨v, hv, r.gr g⟩
    | own c =>
      obtain ⟨a, ha, hf, hi, hr, ho⟩ := q
      obtain ⟨u, hu⟩ := ho.there
      have ne := ne_of_none hu hp
      exact ⟨a, ha, hf, by rw [upd_ne ne]; exact hi, hr, ho.gr g fun u hu => by rw [upd_ne ne]; exact hu⟩
theorem RB.setV (rb : RB K F I ρ S H σV σ) {i : Nat} {v : V} {w : D} (r : Rep K ρ I v w) : RB K F I ρ S H (σV.set i (some v)) (σ.set i (.val w)) := by
  refine ⟨rb.fr, rb.sub, rb.dis, rb.store, rb.nd, rb.rl, by rw [List.length_set, List.length_set]; exact rb.len, fun j s h => ?_, fun j k c c' u h1 h2 h3 h4 => ?_⟩
  · by_cases e : i = j
    · subst e
      have lt : i < (σ.set i (.val w)).length := (List.getElem?_eq_some_iff.mp h).1
      rw [List.length_set] at lt
      rw [List.getElem?_set_self lt] at h
      cases h
      exact ⟨v, List.getElem?_set_self (by rw [← rb.len]; exact lt), r⟩
    · rw [List.getElem?_set_ne e] at h
      have q := rb.slot j s h
      cases s with
      | emp => trivial
      | exn b => first | exact q | exact (List.getElem?_set_ne e).trans q | exact e.trans q
      | exx b d n => first | exact q | exact ⟨(List.getElem?_set_ne e).trans q.1, q.2⟩ | exact ⟨e.trans q.1, q.2⟩ | exact ⟨q.1, g.ex _ _ q.2⟩ | exact ⟨(List.getElem?_set_ne e).trans q.1, g.ex _ _ q.2⟩ | exact ⟨e.trans q.1, g.ex _ _ q.2⟩
      | val w => obtain ⟨v, hv, r⟩ := q; exact ⟨v, by rw [List.getElem?_set_ne e]; exact hv, r⟩
      | own c => obtain ⟨a, ha, q⟩ := q; exact ⟨a, by rw [List.getElem?_set_ne e]; exact ha, q⟩
  · have ne : ∀ {j : Nat} {c : D}, (σ.set i (.val w))[j]? = some (.own c) → i ≠ j := fun {j c} h e => by
      subst e
      have lt : i < (σ.set i (.val w)).length := (List.getElem?_eq_some_iff.mp h).1
      rw [List.length_set] at lt
      rw [List.getElem?_set_self lt] at h
      cases h
    have n1 := ne h1
    have n2 := ne h2
    rw [List.getElem?_set_ne n1] at h1 h3
    rw [List.getElem?_set_ne n2] at h2 h4
    exact rb.inj j k c c' u h1 h2 h3 h4
theorem RB.frz (rb : RB K F I ρ S H σV σ) {i : Nat} {c : D} {v : V} (hc : σ[i]? = some (.own c)) (hv : σV[i]? = some (some v)) : ∃ I', Gr ρ I ρ I' ∧ RB K F I' ρ S H σV (σ.set i (.val c)) ∧ Rep K ρ I' v c := by
  obtain ⟨a, ha, hf, hi, hr, ho⟩ := rb.slot i _ hc
  rw [hv] at ha
  cases ha
  obtain ⟨o, hao⟩ := ho.there
  have g : Gr ρ I ρ (upd I a o) := ⟨fun b u h => by rw [upd_ne (ne_of_none h hi)]; exact h, fun _ _ h => h⟩
  have rep : Rep K ρ (upd I a o) (.ref a) c := by
    cases c with
    | lst ws =>
      obtain ⟨vs, h, r⟩ := ho
      rw [hao] at h; cases h
      exact .lst upd_same (r.gr g)
    | dK kws =>
      obtain ⟨kvs, h, e, r⟩ := ho
      rw [hao] at h; cases h
      exact .dK upd_same e (r.gr g)
    | dT kws =>
      obtain ⟨kvs, h, e, r⟩ := ho
      rw [hao] at h; cases h
      exact .dT upd_same e (r.gr g)
    | _ => exact ho.elim
  have lt : i < σ.length := (List.getElem?_eq_some_iff.mp hc).1
  have ne : ∀ {j : Nat} {c' : D}, (σ.set i (.val c))[j]? = some (.own c') → i ≠ j := fun {j c'} h e => by
    subst e
    rw [List.getElem?_set_self lt] at h
    cases h
  refine ⟨upd I a o, g, ⟨rb.fr, fun b u h => ?_, fun b u h => ?_, fun r ob h => ?_, rb.nd, rb.rl, by rw [List.length_set]; exact rb.len, fun j s h => ?_, fun j k c1 c2 u h1 h2 h3 h4 => ?_⟩, rep⟩
  · by_cases e : b = a
    · subst e
      rw [upd_same] at h
      exact .inl (hao.trans h)
    · rw [upd_ne e] at h
      exact rb.sub b u h
  · rw [upd_ne (ne_of_none h hf)]
    exact rb.dis b u h
  · obtain ⟨b, hb, hfb, hib, hcb⟩ := rb.store r ob h
    have n : b ≠ a := fun e => hr (e ▸ List.mem_of_getElem? hb)
    exact ⟨b, hb, hfb, by rw [upd_ne n]; exact hib, hcb.gr g fun _ z => z⟩
  · by_cases e : i = j
    · subst e
      rw [List.getElem?_set_self lt] at h
      cases h
      exact ⟨_, hv, rep⟩
    · rw [List.getElem?_set_ne e] at h
      have q := rb.slot j s h
      cases s with
      | emp => trivial
      | exn b => first | exact q | exact (List.getElem?_set_ne e).trans q | exact e.trans q
      | exx b d n => first | exact q | exact ⟨(List.getElem?_set_ne e).trans q.1, q.2⟩ | exact ⟨e.trans q.1, q.2⟩ | exact ⟨q.1, g.ex _ _ q.2⟩ | exact ⟨(List.getElem?_set_ne e).trans q.1, g.ex _ _ q.2⟩ | exact ⟨e.trans q.1, g.ex _ _ q.2⟩
      | val w => obtain ⟨v, hv, r⟩ := q; exact ⟨v, hv, r.gr g⟩
      | own c' =>
        obtain ⟨b, hb, hfb, hib, hrb, hob⟩ := q
        have n : b ≠ a := fun z => by
          subst z
          exact e (rb.inj i j c c' _ hc h hv hb)
        exact ⟨b, hb, hfb, by rw [upd_ne n]; exact hib, hrb, hob.gr g fun _ z => z⟩
  · have n1 := ne h1
    have n2 := ne h2
    rw [List.getElem?_set_ne n1] at h1
    rw [List.getElem?_set_ne n2] at h2
    exact rb.inj j k c1 c2 u h1 h2 h3 h4
end
end MR
set_option Elab.async false
set_option linter.all false
set_option maxRecDepth 100000
namespace MR
open PySem PySem.Spec PyProof.Rows L2
theorem _root_.L2.PE.imp {X : Cx} {e : Expr} {t t' : TE} (h : PE X e t) (i : ∀ σ H Q, t' σ H Q → t σ H Q) : PE X e t' := ⟨fun pins s σ H Q I q => h.run pins s σ H Q I (i _ _ _ q)⟩
theorem _root_.L2.PT.imp {X : Cx} {e : Expr} {t t' : TT} (h : PT X e t) (i : ∀ σ H Q, t' σ H Q → t σ H Q) : PT X e t' := ⟨fun pins s σ H Q I q => h.run pins s σ H Q I (i _ _ _ q)⟩
theorem _root_.L2.PW.imp {X : Cx} {e : Expr} {t t' : TT} (h : PW X e t) (i : ∀ σ H Q, t' σ H Q → t σ H Q) : PW X e t' := ⟨fun wh pins s σ H Q I q => h.run wh pins s σ H Q I (i _ _ _ q)⟩
theorem _root_.L2.PA.imp {X : Cx} {e : List Expr} {t t' : TA} (h : PA X e t) (i : ∀ σ H Q, t' σ H Q → t σ H Q) : PA X e t' := ⟨fun pos pins s σ H Q I q => h.run pos pins s σ H Q I (i _ _ _ q)⟩
theorem _root_.L2.PS.imp {X : Cx} {e : Stmt} {t t' : TS} (h : PS X e t) (i : ∀ D σ H, t' D σ H → t D σ H) : PS X e t' := ⟨fun pins s σ H D I q => h.run pins s σ H D I (i _ _ _ q)⟩
theorem _root_.L2.PSs.imp {X : Cx} {e : List Stmt} {t t' : TS} (h : PSs X e t) (i : ∀ D σ H, t' D σ H → t D σ H) : PSs X e t' := ⟨fun pins s σ H D I q => h.run pins s σ H D I (i _ _ _ q)⟩
abbrev SE (X : Cx) (Wx : WX) (e : Expr) (f : DE) : Prop := PE X e (semE X.K Wx f)
abbrev SV (X : Cx) (Wx : WX) (e : Expr) (f : DE) : Prop := PE X e (semV X.K Wx f)
abbrev ST (X : Cx) (Wx : WX) (e : Expr) (f : DT) : Prop := PT X e (semT X.K Wx f)
abbrev SW (X : Cx) (Wx : WX) (e : Expr) (f : DT) : Prop := PW X e (semT X.K Wx f)
abbrev SA (X : Cx) (Wx : WX) (es : List Expr) (f : DA) : Prop := PA X es (semA X.K Wx f)
section
variable {X : Cx} {Wx : WX}
theorem c_var (i : Nat) {x : Str} {pos : Pos} (hN : X.N[i]? = some x := by rfl) (hv : Vis X.env.scope x := by first | exact Or.inl rfl | exact Or.inr (Or.inl rfl) | exact Or.inr (Or.inr rfl)) (hd : (x == ("__debug__" : Str)) = false := by decide)
    (hcd : (x == ("__classdict__" : Str)) = false := by decide) : SE X Wx (.Name x pos) (dVar i) := by
  refine PE.imp (pe_var hN hv hd hcd) fun σV H Q h => ?_
  obtain ⟨F, I, ρ, σ, S, rb, h⟩ := h
  unfold dVar at h
  split at h
  · rename_i w hw
    obtain ⟨v, hv, r⟩ := rb.slot i _ hw
    exact ⟨v, hv, h I ρ H v Gr.refl rb (.inr r)⟩
  · rename_i c hc
    obtain ⟨a, ha, _⟩ := rb.slot i _ hc
    exact ⟨_, ha, h I ρ H _ Gr.refl rb (.inl ⟨i, rfl, ha⟩)⟩
  · exact h.elim
theorem sem_c {v : V} {w : D} {σV : L2.St} {H : Hp} {Q : VK} (r : ∀ ρ I, Sub I H → Rep X.K ρ I v w) (h : semE X.K Wx (dC w) σV H Q) : Q v H := by
  obtain ⟨F, I, ρ, σ, S, rb, h⟩ := h
  exact h I ρ H v Gr.refl rb (.inr (r ρ I rb.sub))
theorem c_int {i : Int} {j : Nat} {pos : Pos} : SE X Wx (.Constant (.int i) j pos) (dC (.int i)) := PE.imp pe_int fun _ _ _ h => sem_c (fun _ _ _ => .int) h
theorem c_bl {i : Bool} {j : Nat} {pos : Pos} : SE X Wx (.Constant (.bool i) j pos) (dC (.bl i)) := PE.imp pe_bl fun _ _ _ h => sem_c (fun _ _ _ => .bl) h
theorem c_non {j : Nat} {pos : Pos} : SE X Wx (.Constant .none j pos) (dC .non) := PE.imp pe_non fun _ _ _ h => sem_c (fun _ _ _ => .non) h
theorem c_str {x : Str} {j : Nat} {pos : Pos} : SE X Wx (.Constant (.str x) j pos) (dC (.str x)) := PE.imp pe_str fun _ _ _ h => sem_c (fun _ _ _ => .str) h
theorem c_glob {x : Str} {v : V} {u : Value} {w : D} {pos : Pos} (hm : X.mg x = some u) (r : RelV v u) (t : ∀ ρ I, Rep X.K ρ I v w) (hg : Gl X x := by rfl) (hd : (x == ("__debug__" : Str)) = false := by decide) : SE X Wx (.Name x pos) (dC w) :=
  PE.imp (pe_glob hg hm r hd) fun _ _ _ h => sem_c (fun ρ I _ => t ρ I) h
theorem c_v {e : Expr} {f : DE} (h : SE X Wx e f) : SV X Wx e (dV f) := by
  refine PE.imp h fun σV H Q h => ?_
  obtain ⟨F, I, ρ, σ, S, rb, h⟩ := h
  refine ⟨F, I, ρ, σ, S, rb, post_bind h fun I1 ρ1 σ1 S1 H1 a b _ g rb1 t hp => ?_⟩
  rcases t with ⟨i, rfl, hv⟩ | r
  · unfold frz at hp
    simp only at hp
    split at hp
    · rename_i c hc
      obtain ⟨I2, g2, rb2, r2⟩ := rb1.frz hc hv
      exact hp I2 ρ1 H1 b g2 rb2 r2
    · exact hp.elim
  · have e : frz a σ1 S1 = .ok a σ1 S1 := by cases r <;> rfl
    rw [e] at hp
    exact hp I1 ρ1 H1 b Gr.refl rb1 r
theorem c_e {e : Expr} {f : DE} (h : SV X Wx e f) : SE X Wx e f := by
  refine PE.imp h fun σV H Q h => ?_
  obtain ⟨F, I, ρ, σ, S, rb, h⟩ := h
  refine ⟨F, I, ρ, σ, S, rb, ?_⟩
  cases e : f σ S with
  | ok a σ' S' =>
    rw [e] at h
    exact fun I' ρ' H' b g rb r => h I' ρ' H' b g rb (.inr r)
  | exc e' σ' S' =>
    rw [e] at h
    exact h
  | fail =>
    rw [e] at h
    exact h
def OpS (K : PySem.W.Frag) (r : R2) (op : D → D → Option D) : Prop := ∀ (F I : Hp) (ρ : List Addr) (S : Sto) (H : Hp) (σV : L2.St) (σ : Sl) (v1 v2 : V) (a b z : D) (Q : VK), RB K F I ρ S H σV σ → At K ρ I H v1 a → At K ρ I H v2 b → op a b = some z →
  (∀ I' H' v, Gr ρ I ρ I' → RB K F I' ρ S H' σV σ → Rep K ρ I' v z → Q v H') → r v1 v2 H Q
theorem sem_op {r : R2} {op : D → D → Option D} {f g : DE} (ho : OpS X.K r op) {σV : L2.St} {H : Hp} {Q : VK} (h : semE X.K Wx (d2 op f g) σV H Q) : tOp r (semE X.K Wx f) (semE X.K Wx g) σV H Q := by
  obtain ⟨F, I, ρ, σ, S, rb, h⟩ := h
  refine ⟨F, I, ρ, σ, S, rb, post_bind h fun I1 ρ1 σ1 S1 H1 x v1 _ g1 rb1 t1 h1 => ?_⟩
  refine ⟨F, I1, ρ1, σ1, S1, rb1, post_bind h1 fun I2 ρ2 σ2 S2 H2 y v2 _ g2 rb2 t2 h2 => ?_⟩
  obtain ⟨z, ez, h3⟩ := post_opt h2
  obtain ⟨a, ea, ez⟩ := Option.bind_eq_some_iff.mp ez
  obtain ⟨b, eb, ez⟩ := Option.bind_eq_some_iff.mp ez
  exact ho F I2 ρ2 S2 H2 σV σ2 v1 v2 a b z Q rb2 (rb2.at (t1.gr g2) ea) (rb2.at t2 eb) ez fun I' H' v g' rb' r' => h3 I' ρ2 H' v g' rb' (.inr r')
theorem c_op {a b : Expr} {o : Operator} {pos : Pos} {r : R2} {op : D → D → Option D} {f g : DE} (hr : OpR X (binaryOp o) r) (hs : OpS X.K r op) (ha : SE X Wx a f) (hb : SE X Wx b g) : SE X Wx (.BinOp a o b pos) (d2 op f g) :=
  PE.imp (pe_op hr ha hb) fun _ _ _ h => sem_op hs h
theorem c_cmp {a b : Expr} {o : CmpOp} {pos : Pos} {r : R2} {op : D → D → Option D} {f g : DE} (hr : OpR X (compareOp o) r) (hs : OpS X.K r op) (ha : SE X Wx a f) (hb : SE X Wx b g) (hm : behindInMarks o b = false) : SE X Wx (.Compare a [o] [b] pos) (d2 op f g) :=
  PE.imp (pe_cmpR hr ha hb hm) fun _ _ _ h => sem_op hs h
theorem sem_tval {f : DE} {σV : L2.St} {H : Hp} {Q : Bool → Hp → Prop} (h : semT X.K Wx (tVal f) σV H Q) : semE X.K Wx f σV H fun x H' => ∃ k, x = .bl k ∧ Q k H' := by
  obtain ⟨F, I, ρ, σ, S, rb, h⟩ := h
  refine ⟨F, I, ρ, σ, S, rb, post_bind h fun I1 ρ1 σ1 S1 H1 x v1 _ g1 rb1 t1 h1 => ?_⟩
  rcases t1 with ⟨i, rfl, _⟩ | t1
  · exact h1.elim
  · cases t1 with
    | bl => exact ⟨_, rfl, h1 I1 ρ1 H1 _ Gr.refl rb1 rfl⟩
    | _ => exact h1.elim
theorem ct_cmp {a b : Expr} {o : CmpOp} {pos : Pos} {r : R2} {op : D → D → Option D} {f g : DE} (hr : OpR X (compareOp o) r) (hs : OpS X.K r op) (ha : SE X Wx a f) (hb : SE X Wx b g) (hm : behindInMarks o b = false) : ST X Wx (.Compare a [o] [b] pos) (tVal (d2 op f g)) :=
  PT.imp (pt_cmpR hr ha hb hm) fun _ _ _ h => sem_op hs (sem_tval h)
theorem ct_val {e : Expr} {f : DE} (h : SE X Wx e f) (he : ∀ whole, isTrue e X.env whole = (do let v ← whole; standAt e.pos; holding [v] (truthy v)) := by intro _; rfl) : ST X Wx e (tVal f) :=
  PT.imp (pt_val h he) fun _ _ _ h => sem_tval h
theorem ct_not {a : Expr} {pos : Pos} {f : DT} (h : ST X Wx a f) : ST X Wx (.UnaryOp .Not a pos) (tNot f) := by
  refine PT.imp (pt_not h) fun σV H Q h => ?_
  obtain ⟨F, I, ρ, σ, S, rb, h⟩ := h
  exact ⟨F, I, ρ, σ, S, rb, post_bind h fun I1 ρ1 σ1 S1 H1 x v1 _ g1 rb1 t1 h1 => h1 I1 ρ1 H1 _ Gr.refl rb1 (by rw [t1])⟩
theorem cw_and1 {a : Expr} {pos : Pos} {f : DT} (h : ST X Wx a f) : SW X Wx (.BoolOp .And [a] pos) f := pw_and1 h
theorem cw_or1 {a : Expr} {pos : Pos} {f : DT} (h : ST X Wx a f) : SW X Wx (.BoolOp .Or [a] pos) f := pw_or1 h
theorem cw_and {a b : Expr} {rest : List Expr} {pos : Pos} {f g : DT} (h : ST X Wx a f) (k : SW X Wx (.BoolOp .And (b :: rest) pos) g) : SW X Wx (.BoolOp .And (a :: b :: rest) pos) (tAnd f g) := by
  refine PW.imp (pw_and h k) fun σV H Q h => ?_
  obtain ⟨F, I, ρ, σ, S, rb, h⟩ := h
  refine ⟨F, I, ρ, σ, S, rb, post_bind h fun I1 ρ1 σ1 S1 H1 x v1 _ g1 rb1 t1 h1 => ?_⟩
  subst t1
  cases v1 with
  | true => exact ⟨F, I1, ρ1, σ1, S1, rb1, h1⟩
  | false => exact h1 I1 ρ1 H1 _ Gr.refl rb1 rfl
theorem cw_or {a b : Expr} {rest : List Expr} {pos : Pos} {f g : DT} (h : ST X Wx a f) (k : SW X Wx (.BoolOp .Or (b :: rest) pos) g) : SW X Wx (.BoolOp .Or (a :: b :: rest) pos) (tOr f g) := by
  refine PW.imp (pw_or h k) fun σV H Q h => ?_
  obtain ⟨F, I, ρ, σ, S, rb, h⟩ := h
  refine ⟨F, I, ρ, σ, S, rb, post_bind h fun I1 ρ1 σ1 S1 H1 x v1 _ g1 rb1 t1 h1 => ?_⟩
  subst t1
  cases v1 with
  | true => exact h1 I1 ρ1 H1 _ Gr.refl rb1 rfl
  | false => exact ⟨F, I1, ρ1, σ1, S1, rb1, h1⟩
theorem sem_vbl {f : DE} {g : Bool → DE} {σV : L2.St} {H : Hp} {Q : VK} (h : semE X.K Wx (fun σ S => (tVal f σ S).bind fun b σ S => g b σ S) σV H Q) : semE X.K Wx f σV H fun x H1 => ∃ c, x = .bl c ∧ semE X.K Wx (g c) σV H1 Q := by
  obtain ⟨F, I, ρ, σ, S, rb, h⟩ := h
  refine ⟨F, I, ρ, σ, S, rb, ?_⟩
  have h2 : postR X.K Wx (TRep X.K) F I ρ σV ((f σ S).bind fun x σ S => ((match x with
    | .bl b => Res.ok b σ S
    | _ => .fail) : Res Bool).bind fun b σ S => g b σ S) Q := by
    unfold tVal at h
    dsimp only at h
    cases e : f σ S with
    | ok a σ' S' => rw [e] at h; exact h
    | exc a σ' S' => rw [e] at h; exact h
    | fail => rw [e] at h; exact h
  refine post_bind h2 fun I1 ρ1 σ1 S1 H1 x v1 _ g1 rb1 t1 h1 => ?_
  rcases t1 with ⟨i, rfl, _⟩ | t1
  · exact h1.elim
  · cases t1 with
    | bl => exact ⟨_, rfl, F, I1, ρ1, σ1, S1, rb1, h1⟩
    | _ => exact h1.elim
def vAnd (f g : DE) : DE := fun σ S => (tVal f σ S).bind fun b σ S => (if b = true then g else dC (.bl false)) σ S
def vOr (f g : DE) : DE := fun σ S => (tVal f σ S).bind fun b σ S => (if b = true then dC (.bl true) else g) σ S
def vNot (f : DE) : DE := fun σ S => (tVal f σ S).bind fun b σ S => (dC (.bl (!b))) σ S
theorem c_one {a : Expr} {op : BoolOp} {pos : Pos} {f : DE} (h : SE X Wx a f) : SE X Wx (.BoolOp op [a] pos) f := pe_one h
theorem c_and {a b : Expr} {rest : List Expr} {pos : Pos} {f g : DE} (h : SE X Wx a f) (k : SE X Wx (.BoolOp .And (b :: rest) pos) g) : SE X Wx (.BoolOp .And (a :: b :: rest) pos) (vAnd f g) := by
  refine PE.imp (pe_and h k) fun σV H Q h => ?_
  obtain ⟨F, I, ρ, σ, S, rb, h⟩ := sem_vbl (g := fun b => if b = true then g else dC (.bl false)) h
  refine ⟨F, I, ρ, σ, S, rb, ?_⟩
  cases e : f σ S with
  | ok a σ' S' =>
    rw [e] at h
    intro I' ρ' H' v gr rb' t
    obtain ⟨c, rfl, q⟩ := h I' ρ' H' v gr rb' t
    refine ⟨c, rfl, ?_⟩
    cases c with
    | true => exact q
    | false => exact sem_c (fun _ _ _ => .bl) q
  | exc a σ' S' => rw [e] at h; exact h
  | fail => rw [e] at h; exact h
theorem c_not {a : Expr} {pos : Pos} {f : DE} (h : SE X Wx a f) : SE X Wx (.UnaryOp .Not a pos) (vNot f) := by
  refine PE.imp (pe_not h) fun σV H Q h => ?_
  obtain ⟨F, I, ρ, σ, S, rb, h⟩ := sem_vbl (g := fun b => dC (.bl (!b))) h
  refine ⟨F, I, ρ, σ, S, rb, ?_⟩
  cases e : f σ S with
  | ok a σ' S' =>
    rw [e] at h
    intro I' ρ' H' v gr rb' t
    obtain ⟨c, rfl, q⟩ := h I' ρ' H' v gr rb' t
    exact ⟨c, rfl, sem_c (fun _ _ _ => .bl) q⟩
  | exc a σ' S' => rw [e] at h; exact h
  | fail => rw [e] at h; exact h
theorem ca_nil : SA X Wx [] aNil := by
  refine PA.imp pa_nil fun σV H Q h => ?_
  obtain ⟨F, I, ρ, σ, S, rb, h⟩ := h
  exact h I ρ H [] Gr.refl rb .nil
theorem ca_cons {e : Expr} {es : List Expr} {f : DE} {r : DA} (h : SE X Wx e f) (k : SA X Wx es r) (hs : starEach (e :: es) X.env = (false, eval e X.env) :: starEach es X.env := by rfl) : SA X Wx (e :: es) (aCons f r) := by
  refine PA.imp (pa_cons (c_v h) k hs) fun σV H Q h => ?_
  obtain ⟨F, I, ρ, σ, S, rb, h⟩ := h
  refine ⟨F, I, ρ, σ, S, rb, post_bind h fun I1 ρ1 σ1 S1 H1 x v1 _ g1 rb1 t1 h1 => ?_⟩
  exact ⟨F, I1, ρ1, σ1, S1, rb1, post_bind h1 fun I2 ρ2 σ2 S2 H2 y v2 _ g2 rb2 t2 h2 => h2 I2 ρ2 H2 _ Gr.refl rb2 (.cons (t1.gr g2) t2)⟩
theorem most_eq : most = sizeLine := by decide
theorem c_tup {es : List Expr} {x1} {pos : Pos} {r : DA} (h : SA X Wx es r) : SE X Wx (.Tuple es x1 pos) (dTup r) := by
  refine PE.imp (pe_tup h) fun σV H Q h => ?_
  obtain ⟨F, I, ρ, σ, S, rb, h⟩ := h
  refine ⟨F, I, ρ, σ, S, rb, post_bind h fun I1 ρ1 σ1 S1 H1 x v1 _ g1 rb1 t1 h1 => ?_⟩
  split at h1
  · rename_i hl
    refine ⟨by rw [t1.length, ← most_eq]; exact hl, fun p hp => ?_⟩
    obtain ⟨g2, rb2⟩ := rb1.new (o := .tup v1) hp
    exact h1 _ ρ1 _ _ g2 rb2 (.inr (.tup (.inl upd_same) (t1.gr g2)))
  · exact h1.elim
end
section
variable {K : PySem.W.Frag}
theorem ops_int0 {g : Int → Int → V} {op : D → D → Option D} (h : ∀ a b z, op a b = some z → ∃ i j, a = .int i ∧ b = .int j ∧ ∀ ρ I, Rep K ρ I (g i j) z) : OpS K (rI0 g) op := by
  intro F I ρ S H σV σ v1 v2 a b z Q rb h1 h2 ez q
  obtain ⟨i, j, rfl, rfl, r⟩ := h a b z ez
  exact ⟨i, j, h1, h2, q I H _ Gr.refl rb (r ρ I)⟩
theorem ops_int {C : Int → Int → Prop} {g : Int → Int → V} {op : D → D → Option D} (h : ∀ a b z, op a b = some z → ∃ i j, a = .int i ∧ b = .int j ∧ C i j ∧ ∀ ρ I, Rep K ρ I (g i j) z) : OpS K (rI C g) op := by
  intro F I ρ S H σV σ v1 v2 a b z Q rb h1 h2 ez q
  obtain ⟨i, j, rfl, rfl, c, r⟩ := h a b z ez
  exact ⟨i, j, h1, h2, c, q I H _ Gr.refl rb (r ρ I)⟩
theorem os_sub : OpS K (rI0 fun i j => .int (i - j)) opSub := ops_int0 fun a b z e => by
  unfold opSub at e; split at e
  · cases e; exact ⟨_, _, rfl, rfl, fun _ _ => .int⟩
  · cases e
theorem os_mod : OpS K (rI (fun _ j => 0 < j) fun i j => .int (i % j)) opMod := ops_int fun a b z e => by
  unfold opMod at e; split at e
  · split at e
    · cases e; exact ⟨_, _, rfl, rfl, by assumption, fun _ _ => .int⟩
    · cases e
  · cases e
def CDivNW (_ j : Int) : Prop := divOk j
theorem op_divNW {X : Cx} : OpR X (binaryOp .FloorDiv) (rI CDivNW fun i j => .int (i.fdiv j)) := opI fun i j _ _ _ _ _ hc q => floordiv_int hc.1 q (.inl (PyProof.noPylong_of_log2 hc.2))
theorem os_div : OpS K (rI CDivNW fun i j => .int (i.fdiv j)) opDiv := ops_int fun a b z e => by
  unfold opDiv at e; split at e
  · split at e
    · cases e; exact ⟨_, _, rfl, rfl, by assumption, fun _ _ => .int⟩
    · cases e
  · cases e
theorem os_lt : OpS K (rI0 fun i j => .bl (decide (i < j))) opLt := ops_int0 fun a b z e => by
  unfold opLt at e; split at e
  · cases e; exact ⟨_, _, rfl, rfl, fun _ _ => .bl⟩
  · cases e
theorem os_le : OpS K (rI0 fun i j => .bl (decide (i ≤ j))) opLe := ops_int0 fun a b z e => by
  unfold opLe at e; split at e
  · cases e; exact ⟨_, _, rfl, rfl, fun _ _ => .bl⟩
  · cases e
theorem os_gt : OpS K (rI0 fun i j => .bl (decide (j < i))) opGt := ops_int0 fun a b z e => by
  unfold opGt at e; split at e
  · cases e; exact ⟨_, _, rfl, rfl, fun _ _ => .bl⟩
  · cases e
end
end MR
set_option Elab.async false
set_option linter.all false
set_option maxRecDepth 100000
namespace MR
open PySem PySem.Spec PyProof.Rows L2
def CXk (kb : Bool) (P : Program) (w : World) : CXT := match kb with
  | true => L2N.CX P w
  | false => L2.CX P w
def Tk (kc : Bool) (X : Cx) (W : WX) : Prop := match kc with
  | true => L2N.Takes X W
  | false => L2.Takes X W
theorem cxn_cx {P : Program} {w : World} {l : List Env} {H : Hp} {s : Shared} {E : XK} {u : Value} {s' : Shared} (h : L2N.CX P w l H s E u s') : L2.CX P w l H s E u s' := by
  obtain ⟨a, B, H', cls, d, e, fl, r⟩ := h
  exact ⟨a, B, H', cls, d, e, L2H.flyingZ_imp (fun o z => z.zc) fl, r⟩
theorem passK {kc kb : Bool} {X : Cx} {W : WX} (tk : Tk kc X W) (hk : (!kc || kb) = true) (σ : L2.St) : PassesAt (CXk kb X.prog X.w) X σ (WE W σ) := by
  cases kc with
  | true => cases kb with
    | true => exact L2N.passAt (X := X) tk σ
    | false => cases hk
  | false => cases kb with
    | true => exact fun a b c e s' I q => L2.passAt (X := X) tk σ a b c e s' I (cxn_cx q)
    | false => exact L2.passAt (X := X) tk σ
theorem cxk_no {kb : Bool} {P : Program} {w : World} {l : List Env} {H : Hp} {s : Shared} {e : Value} {s' : Shared} (h : CXk kb P w l H s (fun _ _ _ => False) e s') : False := by
  cases kb <;> (obtain ⟨_, _, _, _, _, _, _, _, _, _, _, _, z⟩ := h; exact z)
def scalar : D → Bool
  | .non => true | .bl _ => true | .int _ => true | .str _ => true | .tup _ => true
  | _ => false
def RetAt (fr : Bool) (K : PySem.W.Frag) (F I : Hp) (ρ : List Addr) (H : Hp) (v : V) (w : D) : Prop := match fr with
  | false => Rep K ρ I v w
  | true => (∃ a, v = .ref a ∧ F a = none ∧ I a = none ∧ a ∉ ρ ∧ OwnAt K ρ I H a w) ∨ (scalar w = true ∧ Rep K ρ I v w)
def postS (fr : Bool) (K : PySem.W.Frag) (Wx : WX) (F I : Hp) (ρ : List Addr) (r : Res Fl) (D : Ends) : Prop := match r with
  | .ok .next σ' S' => ∀ I' ρ' H' σV', Gr ρ I ρ' I' → RB K F I' ρ' S' H' σV' σ' → D.nx σV' H'
  | .ok (.ret w) _ S' => ∀ I' ρ' H' v, Gr ρ I ρ' I' → RB K F I' ρ' S' H' [] [] → RetAt fr K F I' ρ' H' v w → D.rt v H'
  | .ok .brk σ' S' => ∀ I' ρ' H' σV', Gr ρ I ρ' I' → RB K F I' ρ' S' H' σV' σ' → D.bk σV' H'
  | .ok .cnt σ' S' => ∀ I' ρ' H' σV', Gr ρ I ρ' I' → RB K F I' ρ' S' H' σV' σ' → D.ct σV' H'
  | .exc e σ' S' => ∀ I' ρ' H' d σV', Gr ρ I ρ' I' → RB K F I' ρ' S' H' σV' σ' → ExcAt e d I' → Wx (.ref (ca K e.c)) d σV' H'
  | .fail => False
def semS (fr : Bool) (K : PySem.W.Frag) (Wx : WX) (f : DS) : TS := fun D σV H => ∃ F I ρ σ S, RB K F I ρ S H σV σ ∧ postS fr K Wx F I ρ (f σ S) D
abbrev SS (fr : Bool) (X : Cx) (Wx : WX) (st : Stmt) (f : DS) : Prop := PS X st (semS fr X.K Wx f)
abbrev SSs (fr : Bool) (X : Cx) (Wx : WX) (st : List Stmt) (f : DS) : Prop := PSs X st (semS fr X.K Wx f)
section
variable {fr : Bool} {K : PySem.W.Frag} {Wx : WX} {F I : Hp} {ρ : List Addr} {σV : L2.St} {H : Hp}
theorem postS_gr {r : Res Fl} {D : Ends} {I1 : Hp} {ρ1 : List Addr} (g : Gr ρ I ρ1 I1) (h : postS fr K Wx F I ρ r D) : postS fr K Wx F I1 ρ1 r D := by
  cases r with
  | ok a σ S =>
    cases a with
    | next => exact fun I' ρ' H' b g' => h I' ρ' H' b (g.trans g')
    | ret w => exact fun I' ρ' H' b g' => h I' ρ' H' b (g.trans g')
    | brk => exact fun I' ρ' H' b g' => h I' ρ' H' b (g.trans g')
    | cnt => exact fun I' ρ' H' b g' => h I' ρ' H' b (g.trans g')
  | exc e σ S => exact fun I' ρ' H' d s g' => h I' ρ' H' d s (g.trans g')
  | fail => exact h
theorem postS_bind {α β : Type} {T : List Addr → Hp → L2.St → β → α → Prop} {r : Res α} {k : α → Sl → Sto → Res Fl} {D : Ends} {Q1 : β → Hp → Prop}
    (h : postS fr K Wx F I ρ (r.bind k) D)
    (q : ∀ I1 ρ1 σ1 S1 H1 a b, r = .ok a σ1 S1 → Gr ρ I ρ1 I1 → RB K F I1 ρ1 S1 H1 σV σ1 → T ρ1 I1 σV b a → postS fr K Wx F I1 ρ1 (k a σ1 S1) D → Q1 b H1) : postR K Wx T F I ρ σV r Q1 := by
  cases r with
  | ok a σ S => exact fun I' ρ' H' b g rb t => q I' ρ' σ S H' a b rfl g rb t (postS_gr g h)
  | exc e σ S => exact fun I' ρ' H' d => h I' ρ' H' d σV
  | fail => exact h
theorem RB.drop {S : Sto} {σ : Sl} (rb : RB K F I ρ S H σV σ) : RB K F I ρ S H [] [] := ⟨rb.fr, rb.sub, rb.dis, rb.store, rb.nd, rb.rl, rfl, fun i s h => by simp at h, fun i j c c' v h => by simp at h⟩
end
section
variable {fr : Bool} {X : Cx} {Wx : WX}
theorem cs_nil : SSs fr X Wx [] sNil := by
  refine PSs.imp pss_nil fun D σV H h => ?_
  obtain ⟨F, I, ρ, σ, S, rb, h⟩ := h
  exact h I ρ H σV Gr.refl rb
theorem sem_seq {f g : DS} {D : Ends} {σV : L2.St} {H : Hp} (h : semS fr X.K Wx (sSeq f g) D σV H) : tSeq (semS fr X.K Wx f) (semS fr X.K Wx g) D σV H := by
  obtain ⟨F, I, ρ, σ, S, rb, h⟩ := h
  refine ⟨F, I, ρ, σ, S, rb, ?_⟩
  unfold sSeq at h
  cases e : f σ S with
  | ok a σ' S' =>
    rw [e] at h
    cases a with
    | next => exact fun I' ρ' H' σV' g' rb' => ⟨F, I', ρ', σ', S', rb', postS_gr g' h⟩
    | ret w => exact h
    | brk => exact h
    | cnt => exact h
  | exc a σ' S' => rw [e] at h; exact h
  | fail => rw [e] at h; exact h
theorem cs_cons {st : Stmt} {rest : List Stmt} {f g : DS} (h : SS fr X Wx st f) (k : SSs fr X Wx rest g) : SSs fr X Wx (st :: rest) (sSeq f g) := PSs.imp (pss_cons h k) fun _ _ _ h => sem_seq h
theorem cs_one {st : Stmt} {f : DS} (h : SS fr X Wx st f) : SSs fr X Wx [st] f := pss_one h
theorem cs_ret {e : Expr} {pos : Pos} {f : DE} (h : SE X Wx e f) : SS false X Wx (.Return (some e) pos) (sRet f) := by
  refine PS.imp (ps_ret (c_v h)) fun D σV H h => ?_
  obtain ⟨F, I, ρ, σ, S, rb, h⟩ := h
  exact ⟨F, I, ρ, σ, S, rb, postS_bind h fun I1 ρ1 σ1 S1 H1 x v1 _ g1 rb1 t1 h1 => h1 I1 ρ1 H1 v1 Gr.refl rb1.drop t1⟩
theorem cs_set {i : Nat} {x : Str} {e : Expr} {f : DE} {pos pos' : Pos} (hN : X.N.Nodup) (h : SE X Wx e f) (hi : X.N[i]? = some x := by rfl) (hx : Loc X.env.scope x := by first | exact Or.inl rfl | exact Or.inr rfl)
    (hs : swapsWith e (some (.Name x pos')) pos.line X.env = pure false := by rfl) (hf : X.fn x = true ∨ X.env.scope.names.lookup x = some .local := by first | exact .inl rfl | exact .inr rfl | assumption) : SS fr X Wx (.Assign [.Name x pos'] e pos) (sSet i f) := by
  refine PS.imp (ps_set hN hi hx (c_v h) hs hf) fun D σV H h => ?_
  obtain ⟨F, I, ρ, σ, S, rb, h⟩ := h
  exact ⟨F, I, ρ, σ, S, rb, postS_bind h fun I1 ρ1 σ1 S1 H1 x v1 _ g1 rb1 t1 h1 => h1 I1 ρ1 H1 _ Gr.refl (rb1.setV t1)⟩
theorem cs_expr {e : Expr} {f : DE} {pos : Pos} (h : SE X Wx e f) (hs : swapsWith e none pos.line X.env = pure false := by rfl) : SS fr X Wx (.Expr e pos) (sExpr f) := by
  refine PS.imp (ps_expr h hs) fun D σV H h => ?_
  obtain ⟨F, I, ρ, σ, S, rb, h⟩ := h
  exact ⟨F, I, ρ, σ, S, rb, postS_bind h fun I1 ρ1 σ1 S1 H1 x v1 _ g1 rb1 t1 h1 => h1 I1 ρ1 H1 _ Gr.refl rb1⟩
theorem cs_if {c : Expr} {a b : List Stmt} {pos : Pos} {t : DT} {f g : DS} (hc : ST X Wx c t) (ha : SSs fr X Wx a f) (hb : SSs fr X Wx b g) : SS fr X Wx (.If c a b pos) (sIf t f g) := by
  refine PS.imp (ps_if hc ha hb) fun D σV H h => ?_
  obtain ⟨F, I, ρ, σ, S, rb, h⟩ := h
  refine ⟨F, I, ρ, σ, S, rb, postS_bind h fun I1 ρ1 σ1 S1 H1 x v1 _ g1 rb1 t1 h1 => ?_⟩
  subst t1
  cases v1 with
  | true => exact ⟨F, I1, ρ1, σ1, S1, rb1, h1⟩
  | false => exact ⟨F, I1, ρ1, σ1, S1, rb1, h1⟩
end
def postD (fr : Bool) (K : PySem.W.Frag) (F I : Hp) (ρ : List Addr) (r : Out) (Q : VK) (E : XK) : Prop := match r with
  | .ok w S' => ∀ I' ρ' H' v, Gr ρ I ρ' I' → RB K F I' ρ' S' H' [] [] → RetAt fr K F I' ρ' H' v w → Q v H'
  | .exc e S' => ∀ I' ρ' H' d, Gr ρ I ρ' I' → RB K F I' ρ' S' H' [] [] → ExcAt e d I' → E (.ref (ca K e.c)) d H'
  | .fail => False
def spD (fr : Bool) (K : PySem.W.Frag) (n : Nat) (d : Den) : Sp := fun vs H Q E => vs.length = n ∧ ∃ F I ρ S ws, RB K F I ρ S H [] [] ∧ Reps K ρ I vs ws ∧ postD fr K F I ρ (d ws S) Q E
theorem RB.start {K : PySem.W.Frag} {F I : Hp} {ρ : List Addr} {S : Sto} {H : Hp} {vs : List V} {ws : List D} (rb : RB K F I ρ S H [] []) (r : Reps K ρ I vs ws) (N : List Str) : RB K F I ρ S H (start N vs) (ws.map Slot.val ++ List.replicate (N.length - ws.length) .emp) := by
  have no : ∀ {i : Nat} {c : D}, ¬ (ws.map Slot.val ++ List.replicate (N.length - ws.length) Slot.emp)[i]? = some (Slot.own c) := fun {i c} h => by
    have hm := List.mem_of_getElem? h
    rcases List.mem_append.mp hm with hm | hm
    · obtain ⟨w, _, e⟩ := List.mem_map.mp hm
      cases e
    · have := List.eq_of_mem_replicate hm
      cases this
  refine ⟨rb.fr, rb.sub, rb.dis, rb.store, rb.nd, rb.rl, ?_, fun i s h => ?_, fun i j c c' v h => absurd h no⟩
  · unfold L2.start
    simp only [List.length_append, List.length_map, List.length_replicate, r.length]
  · cases s with
    | emp => trivial
    | exn b =>
      rcases List.mem_append.mp (List.mem_of_getElem? h) with hm | hm
      · obtain ⟨w, _, e⟩ := List.mem_map.mp hm
        cases e
      · have := List.eq_of_mem_replicate hm
        cases this
    | exx b dd nn =>
      rcases List.mem_append.mp (List.mem_of_getElem? h) with hm | hm
      · obtain ⟨w, _, e⟩ := List.mem_map.mp hm
        cases e
      · have := List.eq_of_mem_replicate hm
        cases this
    | own c => exact absurd h no
    | val w =>
      by_cases hi : i < ws.length
      · rw [List.getElem?_append_left (by rw [List.length_map]; exact hi), List.getElem?_map] at h
        obtain ⟨w', hw, e⟩ := Option.map_eq_some_iff.mp h
        cases e
        obtain ⟨v, hv, rv⟩ := r.get hw
        refine ⟨v, ?_, rv⟩
        unfold L2.start
        rw [List.getElem?_append_left (by rw [List.length_map, r.length]; exact hi), List.getElem?_map, hv]
        rfl
      · rw [List.getElem?_append_right (by rw [List.length_map]; omega)] at h
        have := List.eq_of_mem_replicate (List.mem_of_getElem? h)
        cases this
theorem def_ok {fr : Bool} {P : Program} {w : World} {K : PySem.W.Frag} {mg : Str → Option Value} {base : Heap} {x qual : Str} {params : Arguments} {body : List Stmt} {scope : Scope} {f : Addr} {fd : FuncData} {N ps : List Str} {k n : Nat} {d : DS}
    (F : FunD K x qual params body scope [] [] f fd) (S : FnScope N ps scope) (hn : N.length = n)
    (hb : ∀ (cdv : Value) (A : Around) (outer : List Env) (s : Shared) (H : Hp) (E : XK), Room k (A.deeper (envOfC qual scope s.heap.objs.size f cdv)) →
      SSs fr (cxOf (CXk kb P w) P w K mg base N qual scope f cdv A outer s H E) (fun cls d _ H => E cls d H) body d) :
    FnOk P w K mg base (CXk kb P w) (k + 1) f fd ps (spD fr K ps.length (dDef n d)) := by
  refine F.ok S (fun vs H Q E h => h.1) fun cdv A outer s H vs Q E hr h => ?_
  obtain ⟨hl, F0, I, ρ, S0, ws, rb, r, h⟩ := h
  refine ⟨_, hb cdv A outer s H E hr, F0, I, ρ, _, S0, rb.start r N, ?_⟩
  unfold dDef at h
  rw [hn]
  cases e : d (ws.map Slot.val ++ List.replicate (n - ws.length) .emp) S0 with
  | ok a σ' S' =>
    rw [e] at h
    cases a with
    | next =>
      intro I' ρ' H' σV' g rb'
      cases fr with
      | false => exact h I' ρ' H' .non g rb'.drop .non
      | true => exact h I' ρ' H' .non g rb'.drop (.inr ⟨rfl, .non⟩)
    | ret w => exact h
    | brk => exact h.elim
    | cnt => exact h.elim
  | exc a σ' S' =>
    rw [e] at h
    exact fun I' ρ' H' d σV' g rb' he => h I' ρ' H' d g rb'.drop he
  | fail => rw [e] at h; exact h
structure Fn (kb fr : Bool) (P : Program) (w : World) (K : PySem.W.Frag) (mg : Str → Option Value) (base : Heap) (x : Str) (k n : Nat) (d : Den) : Prop where
  ex : ∃ (f : Addr) (fd : FuncData) (ps : List Str), mg x = some (.ref f) ∧ PySem.W.keepIn K (.ref f) = true ∧ Binds K fd ps [] ∧ ps.length = n ∧ FnOk P w K mg base (CXk kb P w) k f fd ps (spD fr K n d)
section
variable {fr : Bool} {X : Cx} {Wx : WX}
open Classical in
noncomputable def fr1 (F H : Hp) (σV : L2.St) (σ : Sl) : Hp := fun a => if ∃ (i : Nat) (c : D), σ[i]? = some (.own c) ∧ σV[i]? = some (some (.ref a)) then H a else F a
theorem RB.callee {K : PySem.W.Frag} {F I : Hp} {ρ : List Addr} {S : Sto} {H : Hp} {σV : L2.St} {σ : Sl} (rb : RB K F I ρ S H σV σ) : RB K (fr1 F H σV σ) I ρ S H [] [] := by
  refine ⟨fun a o h => ?_, rb.sub, fun a o h => ?_, fun r o h => ?_, rb.nd, rb.rl, rfl, fun i s h => by simp at h, fun i j c c' v h => by simp at h⟩
  · unfold fr1 at h
    split at h
    · exact h
    · exact rb.fr a o h
  · unfold fr1 at h
    split at h
    · rename_i q
      obtain ⟨i, c, h1, h2⟩ := q
      obtain ⟨b, hb, _, hib, _⟩ := rb.slot i _ h1
      rw [h2] at hb
      cases hb
      exact fun _ => hib
    · exact rb.dis a o h
  · obtain ⟨a, ha, hf, hi, hc⟩ := rb.store r o h
    have e : fr1 F H σV σ a = F a := by
      unfold fr1
      split
      · rename_i q
        obtain ⟨i, c, h1, h2⟩ := q
        obtain ⟨b, hb, _, _, nb, _⟩ := rb.slot i _ h1
        rw [h2] at hb
        cases hb
        exact absurd (List.mem_of_getElem? ha) nb
      · rfl
    exact ⟨a, ha, hf.mono (fun z => e.trans z) fun ob u z => e.trans z, hi, hc⟩
theorem RB.back {K : PySem.W.Frag} {F I I' : Hp} {ρ ρ' : List Addr} {S S' : Sto} {H H' : Hp} {σV : L2.St} {σ : Sl} (rb : RB K F I ρ S H σV σ) (g : Gr ρ I ρ' I') (rb' : RB K (fr1 F H σV σ) I' ρ' S' H' [] []) : RB K F I' ρ' S' H' σV σ := by
  have own1 : ∀ {i : Nat} {c : D} {a : Addr}, σ[i]? = some (.own c) → σV[i]? = some (some (.ref a)) → fr1 F H σV σ a = H a := fun {i c a} h1 h2 => by
    unfold fr1
    rw [if_pos ⟨i, c, h1, h2⟩]
  have oth : ∀ {a : Addr} {o : HO}, F a = some o → fr1 F H σV σ a = some o := fun {a o} h => by
    unfold fr1
    split
    · exact rb.fr a o h
    · exact h
  have Fn : ∀ {a : Addr}, fr1 F H σV σ a = none → F a = none := fun {a} h => by
    cases e : F a with
    | none => rfl
    | some o =>
      rw [oth e] at h
      cases h
  refine ⟨fun a o h => rb'.fr a o (oth h), rb'.sub, fun a o h => rb'.dis a o (oth h), fun r o h => ?_, rb'.nd, rb'.rl, rb.len, fun i s h => ?_, rb.inj⟩
  · obtain ⟨a, ha, hf, hi, hc⟩ := rb'.store r o h
    refine ⟨a, ha, hf.mono Fn fun ob u z => ?_, hi, hc⟩
    unfold fr1 at z
    split at z
    · rename_i q
      obtain ⟨i, c, h1, h2⟩ := q
      obtain ⟨b, hb, _, _, _, ho⟩ := rb.slot i _ h1
      rw [h2] at hb
      cases hb
      exact absurd z ho.nofrz
    · exact z
  · have q := rb.slot i s h
    cases s with
    | emp => trivial
    | exn b => first | exact q | exact (List.getElem?_set_ne e).trans q | exact e.trans q
    | exx b d n => first | exact q | exact ⟨(List.getElem?_set_ne e).trans q.1, q.2⟩ | exact ⟨e.trans q.1, q.2⟩ | exact ⟨q.1, g.ex _ _ q.2⟩ | exact ⟨(List.getElem?_set_ne e).trans q.1, g.ex _ _ q.2⟩ | exact ⟨e.trans q.1, g.ex _ _ q.2⟩
    | val w => obtain ⟨v, hv, r⟩ := q; exact ⟨v, hv, r.gr g⟩
    | own c =>
      obtain ⟨a, ha, hf, hi, hr, ho⟩ := q
      obtain ⟨o, hao⟩ := ho.there
      have fa : fr1 F H σV σ a = some o := (own1 h ha).trans hao
      have keep : H' a = some o := rb'.fr a o fa
      refine ⟨a, ha, hf, ?_, ?_, ho.gr g fun u hu => ?_⟩
      · exact rb'.dis a o fa (ho.notTup hao)
      · intro hm
        obtain ⟨r, hr'⟩ := List.getElem?_of_mem hm
        have lt : r < S'.length := by rw [← rb'.rl]; exact (List.getElem?_eq_some_iff.mp hr').1
        obtain ⟨b, hb, hfb, _⟩ := rb'.store r _ (List.getElem?_eq_getElem lt)
        rw [hr'] at hb
        cases hb
        obtain ⟨ob, u, e⟩ := hfb.not fa
        exact ho.nofrz (e ▸ hao)
      · rw [hao] at hu
        cases hu
        exact keep
end
end MR
set_option Elab.async false
set_option linter.all false
set_option maxRecDepth 100000
namespace MR
open PySem PySem.Spec PyProof.Rows L2
section
variable {K : PySem.W.Frag} {F I : Hp} {ρ : List Addr} {S : Sto} {H : Hp} {σV : L2.St} {σ : Sl}
def NoOwn (σV : L2.St) (σ : Sl) (a : Addr) : Prop := ∀ (i : Nat) (c : D), σ[i]? = some (.own c) → σV[i]? ≠ some (some (.ref a))
structure Fresh (K : PySem.W.Frag) (F I : Hp) (ρ : List Addr) (H : Hp) (σV : L2.St) (σ : Sl) (a : Addr) (c : D) : Prop where
  nf : F a = none
  ni : I a = none
  nr : a ∉ ρ
  no : NoOwn σV σ a
  own : OwnAt K ρ I H a c
theorem RB.frzA (rb : RB K F I ρ S H σV σ) {a : Addr} {c : D} (f : Fresh K F I ρ H σV σ a c) : ∃ I', Gr ρ I ρ I' ∧ RB K F I' ρ S H σV σ ∧ Rep K ρ I' (.ref a) c := by
  obtain ⟨hf, hi, hr, no, ho⟩ := f
  obtain ⟨o, hao⟩ := ho.there
  have g : Gr ρ I ρ (upd I a o) := ⟨fun b u h => by rw [upd_ne (ne_of_none h hi)]; exact h, fun _ _ h => h⟩
  have rep : Rep K ρ (upd I a o) (.ref a) c := by
    cases c with
    | lst ws =>
      obtain ⟨vs, h, r⟩ := ho
      rw [hao] at h; cases h
      exact .lst upd_same (r.gr g)
    | dK kws =>
      obtain ⟨kvs, h, e, r⟩ := ho
      rw [hao] at h; cases h
      exact .dK upd_same e (r.gr g)
    | dT kws =>
      obtain ⟨kvs, h, e, r⟩ := ho
      rw [hao] at h; cases h
      exact .dT upd_same e (r.gr g)
    | _ => exact ho.elim
  refine ⟨upd I a o, g, ⟨rb.fr, fun b u h => ?_, fun b u h => ?_, fun r ob h => ?_, rb.nd, rb.rl, rb.len, fun j s h => ?_, rb.inj⟩, rep⟩
  · by_cases e : b = a
    · subst e
      rw [upd_same] at h
      exact .inl (hao.trans h)
    · rw [upd_ne e] at h
      exact rb.sub b u h
  · rw [upd_ne (ne_of_none h hf)]
    exact rb.dis b u h
  · obtain ⟨b, hb, hfb, hib, hcb⟩ := rb.store r ob h
    have n : b ≠ a := fun e => hr (e ▸ List.mem_of_getElem? hb)
    exact ⟨b, hb, hfb, by rw [upd_ne n]; exact hib, hcb.gr g fun _ z => z⟩
  · have q := rb.slot j s h
    cases s with
    | emp => trivial
    | exn b => first | exact q | exact (List.getElem?_set_ne e).trans q | exact e.trans q
    | exx b d n => first | exact q | exact ⟨(List.getElem?_set_ne e).trans q.1, q.2⟩ | exact ⟨e.trans q.1, q.2⟩ | exact ⟨q.1, g.ex _ _ q.2⟩ | exact ⟨(List.getElem?_set_ne e).trans q.1, g.ex _ _ q.2⟩ | exact ⟨e.trans q.1, g.ex _ _ q.2⟩
    | val w => obtain ⟨v, hv, r⟩ := q; exact ⟨v, hv, r.gr g⟩
    | own c' =>
      obtain ⟨b, hb, hfb, hib, hrb, hob⟩ := q
      have n : b ≠ a := fun z => no j c' h (z ▸ hb)
      exact ⟨b, hb, hfb, by rw [upd_ne n]; exact hib, hrb, hob.gr g fun _ z => z⟩
theorem RB.setO (rb : RB K F I ρ S H σV σ) {i : Nat} {a : Addr} {c : D} (f : Fresh K F I ρ H σV σ a c) : RB K F I ρ S H (σV.set i (some (.ref a))) (σ.set i (.own c)) := by
  refine ⟨rb.fr, rb.sub, rb.dis, rb.store, rb.nd, rb.rl, by rw [List.length_set, List.length_set]; exact rb.len, fun j s h => ?_, fun j k c1 c2 u h1 h2 h3 h4 => ?_⟩
  · by_cases e : i = j
    · subst e
      have lt : i < (σ.set i (.own c)).length := (List.getElem?_eq_some_iff.mp h).1
      rw [List.length_set] at lt
      rw [List.getElem?_set_self lt] at h
      cases h
      exact ⟨a, List.getElem?_set_self (by rw [← rb.len]; exact lt), f.nf, f.ni, f.nr, f.own⟩
    · rw [List.getElem?_set_ne e] at h
      have q := rb.slot j s h
      cases s with
      | emp => trivial
      | exn b => first | exact q | exact (List.getElem?_set_ne e).trans q | exact e.trans q
      | exx b d n => first | exact q | exact ⟨(List.getElem?_set_ne e).trans q.1, q.2⟩ | exact ⟨e.trans q.1, q.2⟩ | exact ⟨q.1, g.ex _ _ q.2⟩ | exact ⟨(List.getElem?_set_ne e).trans q.1, g.ex _ _ q.2⟩ | exact ⟨e.trans q.1, g.ex _ _ q.2⟩
      | val w => obtain ⟨v, hv, r⟩ := q; exact ⟨v, by rw [List.getElem?_set_ne e]; exact hv, r⟩
      | own c => obtain ⟨a, ha, q⟩ := q; exact ⟨a, by rw [List.getElem?_set_ne e]; exact ha, q⟩
  · have at_i : ∀ {c1 : D} {u : V}, (σV.set i (some (.ref a)))[i]? = some (some u) → u = .ref a := fun {c1 u} h => by
      have lt : i < (σV.set i (some (.ref a))).length := (List.getElem?_eq_some_iff.mp h).1
      rw [List.length_set] at lt
      rw [List.getElem?_set_self lt] at h
      cases h
      rfl
    by_cases e1 : i = j
    · by_cases e2 : i = k
      · exact e1.symm.trans e2
      · subst e1
        have := at_i (c1 := c1) h3
        subst this
        rw [List.getElem?_set_ne e2] at h2 h4
        exact absurd h4 (f.no k c2 h2)
    · rw [List.getElem?_set_ne e1] at h1 h3
      by_cases e2 : i = k
      · subst e2
        have := at_i (c1 := c1) h4
        subst this
        exact absurd h3 (f.no j c1 h1)
      · rw [List.getElem?_set_ne e2] at h2 h4
        exact rb.inj j k c1 c2 u h1 h2 h3 h4
theorem RB.newO (rb : RB K F I ρ S H σV σ) {p : Addr} {o : HO} (hp : H p = none) : RB K F I ρ S (upd H p o) σV σ ∧ F p = none ∧ I p = none ∧ p ∉ ρ ∧ NoOwn σV σ p := by
  have ip := rb.sub.none_of hp
  have k : ∀ b u, H b = some u → upd H p o b = some u := fun b u h => by rw [upd_ne (ne_of_none h hp)]; exact h
  refine ⟨⟨fun a u h => k a u (rb.fr a u h), fun a u h => ?_, rb.dis, fun r c h => ?_, rb.nd, rb.rl, rb.len, fun i s h => ?_, rb.inj⟩, ?_, ip, rb.nρ hp, fun i c h1 h2 => ?_⟩
  · rcases rb.sub a u h with q | ⟨d, ob, q⟩
    · exact .inl (k _ _ q)
    · exact .inr ⟨d, ob, k _ _ q⟩
  · obtain ⟨a, ha, hf, hi, hc⟩ := rb.store r c h
    exact ⟨a, ha, hf, hi, hc.gr Gr.refl (k a)⟩
  · have q := rb.slot i s h
    cases s with
    | emp => trivial
    | exn b => first | exact q | exact (List.getElem?_set_ne e).trans q | exact e.trans q
    | exx b d n => first | exact q | exact ⟨(List.getElem?_set_ne e).trans q.1, q.2⟩ | exact ⟨e.trans q.1, q.2⟩ | exact ⟨q.1, g.ex _ _ q.2⟩ | exact ⟨(List.getElem?_set_ne e).trans q.1, g.ex _ _ q.2⟩ | exact ⟨e.trans q.1, g.ex _ _ q.2⟩
    | val w => exact q
    | own c => obtain ⟨a, ha, hf, hi, hr, ho⟩ := q; exact ⟨a, ha, hf, hi, hr, ho.gr Gr.refl (k a)⟩
  · cases e : F p with
    | none => rfl
    | some u =>
      have := rb.fr p u e
      rw [hp] at this
      cases this
  · obtain ⟨a, ha, _, _, _, ho⟩ := rb.slot i _ h1
    rw [h2] at ha
    cases ha
    obtain ⟨u, hu⟩ := ho.there
    rw [hp] at hu
    cases hu
end
def postF (K : PySem.W.Frag) (Wx : WX) (F I : Hp) (ρ : List Addr) (σV : L2.St) (r : Res D) (Q : VK) : Prop := match r with
  | .ok w σ' S' => ∀ I' ρ' H' v, Gr ρ I ρ' I' → RB K F I' ρ' S' H' σV σ' → ((∃ a, v = .ref a ∧ Fresh K F I' ρ' H' σV σ' a w) ∨ (scalar w = true ∧ Rep K ρ' I' v w)) → Q v H'
  | .exc e σ' S' => ∀ I' ρ' H' d, Gr ρ I ρ' I' → RB K F I' ρ' S' H' σV σ' → ExcAt e d I' → Wx (.ref (ca K e.c)) d σV H'
  | .fail => False
def semF (K : PySem.W.Frag) (Wx : WX) (f : DE) : TE := fun σV H Q => ∃ F I ρ σ S, RB K F I ρ S H σV σ ∧ postF K Wx F I ρ σV (f σ S) Q
abbrev SF (X : Cx) (Wx : WX) (e : Expr) (f : DE) : Prop := PE X e (semF X.K Wx f)
section
variable {fr : Bool} {X : Cx} {Wx : WX}
theorem postF_gr {K : PySem.W.Frag} {F I : Hp} {ρ : List Addr} {σV : L2.St} {r : Res D} {Q : VK} {I1 : Hp} {ρ1 : List Addr} (g : Gr ρ I ρ1 I1) (h : postF K Wx F I ρ σV r Q) : postF K Wx F I1 ρ1 σV r Q := by
  cases r with
  | ok a σ S => exact fun I' ρ' H' b g' => h I' ρ' H' b (g.trans g')
  | exc e σ S => exact fun I' ρ' H' d g' => h I' ρ' H' d (g.trans g')
  | fail => exact h
theorem postF_bind {K : PySem.W.Frag} {F I : Hp} {ρ : List Addr} {σV : L2.St} {α β : Type} {T : List Addr → Hp → L2.St → β → α → Prop} {r : Res α} {k : α → Sl → Sto → Res D} {Q : VK} {Q1 : β → Hp → Prop}
    (h : postF K Wx F I ρ σV (r.bind k) Q)
    (q : ∀ I1 ρ1 σ1 S1 H1 a b, r = .ok a σ1 S1 → Gr ρ I ρ1 I1 → RB K F I1 ρ1 S1 H1 σV σ1 → T ρ1 I1 σV b a → postF K Wx F I1 ρ1 σV (k a σ1 S1) Q → Q1 b H1) : postR K Wx T F I ρ σV r Q1 := by
  cases r with
  | ok a σ S => exact fun I' ρ' H' b g rb t => q I' ρ' σ S H' a b rfl g rb t (postF_gr g h)
  | exc e σ S => exact h
  | fail => exact h
theorem c_f {e : Expr} {f : DE} (h : SF X Wx e f) : SE X Wx e f := by
  refine PE.imp h fun σV H Q h => ?_
  obtain ⟨F, I, ρ, σ, S, rb, h⟩ := h
  refine ⟨F, I, ρ, σ, S, rb, ?_⟩
  cases e : f σ S with
  | ok a σ' S' =>
    rw [e] at h
    intro I' ρ' H' v g rb' t
    rcases t with ⟨b, rfl, fr⟩ | ⟨_, r⟩
    · obtain ⟨I2, g2, rb2, r2⟩ := rb'.frzA fr
      exact h I2 ρ' H' _ (g.trans g2) rb2 (.inr r2)
    · exact h I' ρ' H' v g rb' (.inr r)
  | exc a σ' S' => rw [e] at h; exact h
  | fail => rw [e] at h; exact h
def sSetO (i : Nat) (f : DE) : DS := fun σ S => (f σ S).bind fun w σ S => .ok .next (σ.set i (if scalar w then .val w else .own w)) S
theorem sem_setO {fr : Bool} {i : Nat} {f : DE} {D : Ends} {σV : L2.St} {H : Hp} (h : semS fr X.K Wx (sSetO i f) D σV H) : semF X.K Wx f σV H fun v H' => D.nx (σV.set i (some v)) H' := by
  obtain ⟨F, I, ρ, σ, S, rb, h⟩ := h
  refine ⟨F, I, ρ, σ, S, rb, ?_⟩
  unfold sSetO at h
  cases e : f σ S with
  | ok a σ' S' =>
    rw [e] at h
    intro I' ρ' H' v g rb' t
    have h2 : postS fr X.K Wx F I ρ (.ok .next (σ'.set i (if scalar a then .val a else .own a)) S') D := h
    rcases t with ⟨b, rfl, fr⟩ | ⟨hs, r⟩
    · have ns : scalar a = false := by
        have := fr.own
        cases a <;> first | rfl | exact this.elim
      rw [ns] at h2
      exact h2 I' ρ' H' _ g (rb'.setO fr)
    · rw [hs] at h2
      exact h2 I' ρ' H' _ g (rb'.setV r)
  | exc a σ' S' => rw [e] at h; exact fun I' ρ' H' d => h I' ρ' H' d σV
  | fail => rw [e] at h; exact h
theorem cs_setO {i : Nat} {x : Str} {e : Expr} {f : DE} {pos pos' : Pos} (hN : X.N.Nodup) (h : SF X Wx e f) (hi : X.N[i]? = some x := by rfl) (hx : Loc X.env.scope x := by first | exact Or.inl rfl | exact Or.inr rfl)
    (hs : swapsWith e (some (.Name x pos')) pos.line X.env = pure false := by rfl) (hf : X.fn x = true ∨ X.env.scope.names.lookup x = some .local := by first | exact .inl rfl | exact .inr rfl | assumption) : SS fr X Wx (.Assign [.Name x pos'] e pos) (sSetO i f) :=
  PS.imp (ps_set hN hi hx h hs hf) fun D σV H h => sem_setO h
def sRetF (f : DE) : DS := fun σ S => (f σ S).bind fun w σ S => .ok (.ret w) σ S
theorem cs_retF {e : Expr} {pos : Pos} {f : DE} (h : SF X Wx e f) : SS true X Wx (.Return (some e) pos) (sRetF f) := by
  refine PS.imp (ps_ret h) fun D σV H h => ?_
  obtain ⟨F, I, ρ, σ, S, rb, h⟩ := h
  refine ⟨F, I, ρ, σ, S, rb, ?_⟩
  unfold sRetF at h
  cases e : f σ S with
  | ok a σ' S' =>
    rw [e] at h
    intro I' ρ' H' v g rb' t
    rcases t with ⟨b, rfl, fr⟩ | t
    · exact h I' ρ' H' _ g rb'.drop (.inl ⟨b, rfl, fr.nf, fr.ni, fr.nr, fr.own⟩)
    · exact h I' ρ' H' _ g rb'.drop (.inr t)
  | exc a σ' S' => rw [e] at h; exact fun I' ρ' H' d => h I' ρ' H' d σV
  | fail => rw [e] at h; exact h
def sRetO (i : Nat) : DS := fun σ S => match σ[i]? with
  | some (.own c) => .ok (.ret c) σ S
  | some (.val w) => if scalar w then .ok (.ret w) σ S else .fail
  | _ => .fail
theorem cs_retO (i : Nat) {x : Str} {pos pos' : Pos} (hN : X.N[i]? = some x := by rfl) (hv : Vis X.env.scope x := by first | exact Or.inl rfl | exact Or.inr (Or.inl rfl) | exact Or.inr (Or.inr rfl)) (hd : (x == ("__debug__" : Str)) = false := by decide)
    (hcd : (x == ("__classdict__" : Str)) = false := by decide) : SS true X Wx (.Return (some (.Name x pos')) pos) (sRetO i) := by
  refine PS.imp (ps_ret (pe_var hN hv hd hcd)) fun D σV H h => ?_
  obtain ⟨F, I, ρ, σ, S, rb, h⟩ := h
  unfold sRetO at h
  split at h
  · rename_i c hc
    obtain ⟨a, ha, hf, hi, hr, ho⟩ := rb.slot i _ hc
    exact ⟨_, ha, h I ρ H _ Gr.refl rb.drop (.inl ⟨a, rfl, hf, hi, hr, ho⟩)⟩
  · rename_i w hw
    split at h
    · rename_i hs
      obtain ⟨v, hv, r⟩ := rb.slot i _ hw
      exact ⟨v, hv, h I ρ H _ Gr.refl rb.drop (.inr ⟨hs, r⟩)⟩
    · exact h.elim
  · exact h.elim
def sRetS (f : DE) : DS := fun σ S => (f σ S).bind fun w σ S => if scalar w then .ok (.ret w) σ S else .fail
theorem cf_lst {es : List Expr} {pos : Pos} {r : DA} (h : SA X Wx es r) : SF X Wx (.List es pos) (dLst r) := by
  refine PE.imp (pe_lst h) fun σV H Q h => ?_
  obtain ⟨F, I, ρ, σ, S, rb, h⟩ := h
  refine ⟨F, I, ρ, σ, S, rb, postF_bind h fun I1 ρ1 σ1 S1 H1 x v1 _ g1 rb1 t1 h1 => ?_⟩
  split at h1
  · rename_i hl
    refine ⟨by rw [t1.length, ← most_eq]; exact hl, fun p hp => ?_⟩
    obtain ⟨rb2, nf, ni, nr, no⟩ := rb1.newO (o := .lst v1) hp
    exact h1 _ ρ1 _ _ Gr.refl rb2 (.inl ⟨p, rfl, nf, ni, nr, no, v1, upd_same, t1⟩)
  · exact h1.elim
theorem post_call {K : PySem.W.Frag} {F I : Hp} {ρ : List Addr} {S : Sto} {H : Hp} {σV : L2.St} {σ : Sl} {vs : List V} {ws : List D} {d : Den} {n : Nat} {Q : VK} (rb : RB K F I ρ S H σV σ) (r : Reps K ρ I vs ws) (hn : vs.length = n)
    (h : postR K Wx (fun ρ I _ v w => Rep K ρ I v w) F I ρ σV (match d ws S with
      | .ok w S' => .ok w σ S'
      | .exc e S' => .exc e σ S'
      | .fail => .fail) Q) : spD false K n d vs H Q (WE Wx σV) := by
  refine ⟨hn, fr1 F H σV σ, I, ρ, S, ws, rb.callee, r, ?_⟩
  cases e : d ws S with
  | ok w S' =>
    rw [e] at h
    exact fun I' ρ' H' v g rb' t => h I' ρ' H' v g (rb.back g rb') t
  | exc x S' =>
    rw [e] at h
    exact fun I' ρ' H' v g rb' t => h I' ρ' H' v g (rb.back g rb') t
  | fail => rw [e] at h; exact h
theorem post_callF {K : PySem.W.Frag} {F I : Hp} {ρ : List Addr} {S : Sto} {H : Hp} {σV : L2.St} {σ : Sl} {vs : List V} {ws : List D} {d : Den} {n : Nat} {Q : VK} (rb : RB K F I ρ S H σV σ) (r : Reps K ρ I vs ws) (hn : vs.length = n)
    (h : postF K Wx F I ρ σV (match d ws S with
      | .ok w S' => .ok w σ S'
      | .exc e S' => .exc e σ S'
      | .fail => .fail) Q) : spD true K n d vs H Q (WE Wx σV) := by
  refine ⟨hn, fr1 F H σV σ, I, ρ, S, ws, rb.callee, r, ?_⟩
  cases e : d ws S with
  | ok w S' =>
    rw [e] at h
    intro I' ρ' H' v g rb' t
    rcases t with ⟨a, rfl, nf, ni, nr, ho⟩ | t
    · have rb2 := rb.back g rb'
      have no : F a = none ∧ NoOwn σV σ a := by
        have no1 : NoOwn σV σ a := fun i c h1 h2 => by
          obtain ⟨b, hb, _, _, _, hob⟩ := rb.slot i _ h1
          obtain ⟨u, hu⟩ := hob.there
          rw [h2] at hb
          cases hb
          unfold fr1 at nf
          rw [if_pos ⟨i, c, h1, h2⟩, hu] at nf
          cases nf
        refine ⟨?_, no1⟩
        unfold fr1 at nf
        rw [if_neg (fun ⟨i, c, h1, h2⟩ => no1 i c h1 h2)] at nf
        exact nf
      exact h I' ρ' H' _ g rb2 (.inl ⟨a, rfl, no.1, ni, nr, no.2, ho⟩)
    · exact h I' ρ' H' v g (rb.back g rb') (.inr t)
  | exc x S' =>
    rw [e] at h
    exact fun I' ρ' H' v g rb' t => h I' ρ' H' v g (rb.back g rb') t
  | fail => rw [e] at h; exact h
variable {kc kb : Bool} {k n m : Nat} {x : Str} {d : Den} {p pos : Pos} {e : Expr} {es : List Expr} {r : DA}
theorem c_call (C : Fn kb false X.prog X.w X.K X.mg X.base x k n d) (tk : Tk kc X Wx) (hr : Room m X.A) (hkm : k ≤ m) (ha : SA X Wx (e :: es) r) (hn : (e :: es).length = n := by rfl) (hg : Gl X x := by rfl) (hdb : (x == ("__debug__" : Str)) = false := by decide)
    (he : starEach (e :: es) X.env = (false, eval e X.env) :: starEach es X.env := by rfl) (hpl : (backTo pos (starEach es X.env)).any (·.1) = false := by rfl) (hlen : ∀ σ S ws σ' S', r σ S = .ok ws σ' S' → ws.length = n) (hkk : (!kc || kb) = true := by rfl) : SV X Wx (.Call (.Name x p) (e :: es) [] pos) (dCall d r) := by
  obtain ⟨f, fd, ps, hm, hk, hb, hp, ok⟩ := C.ex
  refine PE.imp (pe_callSD (E := WE Wx) ok (hr.mono hkm) hg hm hk hb .nil (passK tk hkk) ha hdb he hpl) fun σV H Q h => ?_
  obtain ⟨F, I, ρ, σ, S, rb, h⟩ := h
  refine ⟨F, I, ρ, σ, S, rb, post_bind h fun I1 ρ1 σ1 S1 H1 ws vs er g1 rb1 t1 h1 => ?_⟩
  rw [List.append_nil]
  exact post_call rb1 t1 (by rw [t1.length]; exact hlen _ _ _ _ _ er) h1
theorem cf_call (C : Fn kb true X.prog X.w X.K X.mg X.base x k n d) (tk : Tk kc X Wx) (hr : Room m X.A) (hkm : k ≤ m) (ha : SA X Wx (e :: es) r) (hn : (e :: es).length = n := by rfl) (hg : Gl X x := by rfl) (hdb : (x == ("__debug__" : Str)) = false := by decide)
    (he : starEach (e :: es) X.env = (false, eval e X.env) :: starEach es X.env := by rfl) (hpl : (backTo pos (starEach es X.env)).any (·.1) = false := by rfl) (hlen : ∀ σ S ws σ' S', r σ S = .ok ws σ' S' → ws.length = n) (hkk : (!kc || kb) = true := by rfl) : SF X Wx (.Call (.Name x p) (e :: es) [] pos) (dCall d r) := by
  obtain ⟨f, fd, ps, hm, hk, hb, hp, ok⟩ := C.ex
  refine PE.imp (pe_callSD (E := WE Wx) ok (hr.mono hkm) hg hm hk hb .nil (passK tk hkk) ha hdb he hpl) fun σV H Q h => ?_
  obtain ⟨F, I, ρ, σ, S, rb, h⟩ := h
  refine ⟨F, I, ρ, σ, S, rb, postF_bind h fun I1 ρ1 σ1 S1 H1 ws vs er g1 rb1 t1 h1 => ?_⟩
  rw [List.append_nil]
  exact post_callF rb1 t1 (by rw [t1.length]; exact hlen _ _ _ _ _ er) h1
end
def chg (σ : Sl) (S : Sto) (x c' : D) : Option (Sl × Sto) := match x with
  | .loc i => (match σ[i]? with
    | some (.own _) => some (σ.set i (.own c'), S)
    | _ => none)
  | .obj r => (match S[r]? with
    | some (.con false _) => some (σ, S.set r (.con false c'))
    | _ => none)
  | _ => none
def ofMut {α : Type} (a : α) (o : Option (Sl × Sto)) : Res α := match o with
  | some (σ, S) => .ok a σ S
  | none => .fail
section
variable {K : PySem.W.Frag} {F I : Hp} {ρ : List Addr} {S : Sto} {H : Hp} {σV : L2.St} {σ : Sl}
theorem RB.chg (rb : RB K F I ρ S H σV σ) {v : V} {x c c' : D} {σ' : Sl} {S' : Sto} (t : TRep K ρ I σV v x) (e : deref σ S x = some c) (em : chg σ S x c' = some (σ', S')) : ∃ a, v = .ref a ∧ OwnAt K ρ I H a c ∧ ∀ o, OwnAt K ρ I (upd H a o) a c' → RB K F I ρ S' (upd H a o) σV σ' := by
  rcases t with ⟨i, rfl, hv⟩ | t
  · unfold MR.chg at em
    dsimp only at em
    split at em
    · rename_i c0 hc
      cases em
      unfold deref at e
      dsimp only at e
      rw [hc] at e
      cases e
      obtain ⟨a, ha, hf, hi, hr, ho⟩ := rb.slot i _ hc
      rw [hv] at ha
      cases ha
      have lt : i < σ.length := (List.getElem?_eq_some_iff.mp hc).1
      refine ⟨a, rfl, ho, fun o new => ?_⟩
      have k : ∀ b u, b ≠ a → H b = some u → upd H a o b = some u := fun b u n h => by rw [upd_ne n]; exact h
      refine ⟨fun b u h => k b u (ne_of_none h hf) (rb.fr b u h), fun b u h => ?_, rb.dis, fun r ob h => ?_, rb.nd, rb.rl, by rw [List.length_set]; exact rb.len, fun j s h => ?_, fun j q c1 c2 u h1 h2 h3 h4 => ?_⟩
      · have n := ne_of_none h hi
        rcases rb.sub b u h with z | ⟨d, ob, z⟩
        · exact .inl (k _ _ n z)
        · exact .inr ⟨d, ob, k _ _ n z⟩
      · obtain ⟨b, hb, hfb, hib, hcb⟩ := rb.store r ob h
        have n : b ≠ a := fun z => hr (z ▸ List.mem_of_getElem? hb)
        exact ⟨b, hb, hfb, hib, hcb.gr Gr.refl fun u => k b u n⟩
      · by_cases ij : i = j
        · subst ij
          rw [List.getElem?_set_self lt] at h
          cases h
          exact ⟨a, hv, hf, hi, hr, new⟩
        · rw [List.getElem?_set_ne ij] at h
          have q := rb.slot j s h
          cases s with
          | emp => trivial
          | exn b => first | exact q | exact (List.getElem?_set_ne e).trans q | exact e.trans q
          | exx b d n => first | exact q | exact ⟨(List.getElem?_set_ne e).trans q.1, q.2⟩ | exact ⟨e.trans q.1, q.2⟩ | exact ⟨q.1, g.ex _ _ q.2⟩ | exact ⟨(List.getElem?_set_ne e).trans q.1, g.ex _ _ q.2⟩ | exact ⟨e.trans q.1, g.ex _ _ q.2⟩
          | val w => exact q
          | own c2 =>
            obtain ⟨b, hb, hfb, hib, hrb, hob⟩ := q
            have n : b ≠ a := fun z => ij (rb.inj i j _ c2 _ hc h hv (z ▸ hb))
            exact ⟨b, hb, hfb, hib, hrb, hob.gr Gr.refl fun u => k b u n⟩
      · have own_of : ∀ {j : Nat} {c1 : D}, (σ.set i (.own c'))[j]? = some (.own c1) → ∃ c3, σ[j]? = some (.own c3) := fun {j c1} h => by
          by_cases ij : i = j
          · subst ij; exact ⟨_, hc⟩
          · rw [List.getElem?_set_ne ij] at h; exact ⟨_, h⟩
        obtain ⟨c3, h1⟩ := own_of h1
        obtain ⟨c4, h2⟩ := own_of h2
        exact rb.inj j q c3 c4 u h1 h2 h3 h4
    · cases em
  · cases t with
    | @obj r a hra =>
      unfold MR.chg at em
      dsimp only at em
      split at em
      · rename_i _ c0 hc
        cases em
        unfold deref at e
        dsimp only at e
        rw [hc] at e
        have e := conD_false e
        subst e
        obtain ⟨b, hb, hf, hi, ho⟩ := rb.store _ _ hc
        rw [hra] at hb
        cases hb
        have lt : r < S.length := (List.getElem?_eq_some_iff.mp hc).1
        refine ⟨a, rfl, ho, fun o new => ?_⟩
        have k : ∀ b u, b ≠ a → H b = some u → upd H a o b = some u := fun b u n h => by rw [upd_ne n]; exact h
        refine ⟨fun b u h => k b u (ne_of_none h hf) (rb.fr b u h), fun b u h => ?_, rb.dis, fun r2 ob h => ?_, rb.nd, by rw [List.length_set]; exact rb.rl, rb.len, fun j s h => ?_, rb.inj⟩
        · have n := ne_of_none h hi
          rcases rb.sub b u h with z | ⟨d, ob, z⟩
          · exact .inl (k _ _ n z)
          · exact .inr ⟨d, ob, k _ _ n z⟩
        · by_cases er : r = r2
          · subst er
            rw [List.getElem?_set_self lt] at h
            cases h
            exact ⟨a, hra, hf, hi, new⟩
          · rw [List.getElem?_set_ne er] at h
            obtain ⟨b, hb, hfb, hib, hcb⟩ := rb.store r2 ob h
            have n : b ≠ a := fun z => er (rb.nd r r2 a hra (z ▸ hb))
            exact ⟨b, hb, hfb, hib, hcb.gr Gr.refl fun u => k b u n⟩
        · have q := rb.slot j s h
          cases s with
          | emp => trivial
          | exn b => first | exact q | exact (List.getElem?_set_ne e).trans q | exact e.trans q
          | exx b d n => first | exact q | exact ⟨(List.getElem?_set_ne e).trans q.1, q.2⟩ | exact ⟨e.trans q.1, q.2⟩ | exact ⟨q.1, g.ex _ _ q.2⟩ | exact ⟨(List.getElem?_set_ne e).trans q.1, g.ex _ _ q.2⟩ | exact ⟨e.trans q.1, g.ex _ _ q.2⟩
          | val w => exact q
          | own c2 =>
            obtain ⟨b, hb, hfb, hib, hrb, hob⟩ := q
            have n : b ≠ a := fun z => hrb (z ▸ List.mem_of_getElem? hra)
            exact ⟨b, hb, hfb, hib, hrb, hob.gr Gr.refl fun u => k b u n⟩
      · cases em
    | _ => cases em
end
def isLst : D → Bool
  | .lst _ => true
  | _ => false
def dMeth (is : D → Bool) (k : D → D → List D → Sl → Sto → Res D) (fo : DE) (fa : DA) : DE := fun σ S => (fo σ S).bind fun x σ S => if ((deref σ S x).map is) = some true then (fa σ S).bind fun ws σ S => (match deref σ S x with
  | some c => k x c ws σ S
  | none => .fail) else .fail
def kApp : D → D → List D → Sl → Sto → Res D := fun x c ws σ S => match c, ws with
  | .lst xs, [w] => if xs.length < most then ofMut .non (chg σ S x (.lst (xs ++ [w]))) else .fail
  | _, _ => .fail
section
variable {X : Cx} {Wx : WX}
theorem SqL_at {K : PySem.W.Frag} {H : Hp} {a : Addr} {xs : List V} (h : H a = some (.lst xs)) : SqL K H a xs := .inl (.inl h)
def MtS (K : PySem.W.Frag) (r : V → List V → Hp → VK → Prop) (k : D → D → List D → Sl → Sto → Res D) : Prop := ∀ (Wx : WX) (F I : Hp) (ρ : List Addr) (S : Sto) (H : Hp) (σV : L2.St) (σ : Sl) (v : V) (vs : List V) (x c : D) (ws : List D) (Q : VK), RB K F I ρ S H σV σ → TRep K ρ I σV v x → deref σ S x = some c →
  Reps K ρ I vs ws → postR K Wx (TRep K) F I ρ σV (k x c ws σ S) Q → r v vs H Q
def TyS (K : PySem.W.Frag) (T : String) (is : D → Bool) : Prop := ∀ (ρ : List Addr) (I H : Hp) (v : V) (c : D), At K ρ I H v c → is c = true → tyV K T v H
theorem ty_list {K : PySem.W.Frag} : TyS K "list" isLst := fun ρ I H v c h e => by
  cases c with
  | lst ws => obtain ⟨a, vs, rfl, h, _⟩ := h; exact .inl ⟨rfl, vs, SqL_at h⟩
  | _ => cases e
theorem sem_meth {T : String} {is : D → Bool} {r : V → List V → Hp → VK → Prop} {k : D → D → List D → Sl → Sto → Res D} {fo : DE} {fa : DA} (ht : TyS X.K T is) (hs : MtS X.K r k) {σV : L2.St} {H : Hp} {Q : VK} (h : semE X.K Wx (dMeth is k fo fa) σV H Q) :
    tBM X.K T r (semE X.K Wx fo) (semA X.K Wx fa) σV H Q := by
  obtain ⟨F, I, ρ, σ, S, rb, h⟩ := h
  refine ⟨F, I, ρ, σ, S, rb, post_bind h fun I1 ρ1 σ1 S1 H1 x v1 _ g1 rb1 t1 h1 => ?_⟩
  split at h1
  · rename_i hi
    obtain ⟨c, hc, hic⟩ := Option.map_eq_some_iff.mp hi
    refine ⟨ht ρ1 I1 H1 v1 c (rb1.at t1 hc) hic, F, I1, ρ1, σ1, S1, rb1, post_bind h1 fun I2 ρ2 σ2 S2 H2 ws vs _ g2 rb2 t2 h2 => ?_⟩
    split at h2
    · rename_i c2 hc2
      exact hs Wx F I2 ρ2 S2 H2 σV σ2 v1 vs x c2 ws Q rb2 (t1.gr g2) hc2 t2 h2
    · exact h2.elim
  · exact h1.elim
theorem post_mut {K : PySem.W.Frag} {F I : Hp} {ρ : List Addr} {S : Sto} {H : Hp} {σV : L2.St} {σ : Sl} {v y : V} {x c c' z : D} {Q : VK} (rb : RB K F I ρ S H σV σ) (t : TRep K ρ I σV v x) (e : deref σ S x = some c) (ry : Rep K ρ I y z)
    (h : postR K Wx (TRep K) F I ρ σV (ofMut z (chg σ S x c')) Q) : ∃ a, v = .ref a ∧ OwnAt K ρ I H a c ∧ ∀ o, OwnAt K ρ I (upd H a o) a c' → Q y (upd H a o) := by
  cases em : chg σ S x c' with
  | none => rw [em] at h; exact h.elim
  | some q =>
    obtain ⟨σ', S'⟩ := q
    rw [em] at h
    obtain ⟨a, rfl, ho, k⟩ := rb.chg t e em
    exact ⟨a, rfl, ho, fun o new => h I ρ _ y Gr.refl (k o new) (.inr ry)⟩
theorem ms_app {K : PySem.W.Frag} : MtS K rAppend kApp := by
  intro Wx F I ρ S H σV σ v vs x c ws Q rb t e r h
  unfold kApp at h
  split at h
  · rename_i xs w
    split at h
    · rename_i hl
      obtain ⟨a, rfl, ⟨vs0, hv, rv⟩, k⟩ := post_mut rb t e .non h
      cases r with
      | cons r1 r2 =>
        cases r2
        refine ⟨a, vs0, _, rfl, rfl, hv, by rw [rv.length, ← most_eq]; exact hl, k _ ⟨_, upd_same, rv.append (.cons r1 .nil)⟩⟩
    · exact h.elim
  · exact h.elim
theorem c_app {o e : Expr} {apos cpos : Pos} {fo fe : DE} (ho : SE X Wx o fo) (he : SE X Wx e fe) (hbase : attributeBase o "append" X.env (eval o X.env) = eval o X.env := by rfl)
    (hfew : ((backTo cpos (starEach [e] X.env)).all (fun x => !x.1) && (backToKw cpos (keywordEach [] X.env)).all (fun x => x.1.isSome) && decide ([e].length + ([] : List Keyword).length + (if ([] : List Keyword).isEmpty then 0 else 1) < 30)) = true := by rfl)
    (hline : (apos.endLine == cpos.line) = true := by rfl) (hs : starEach [e] X.env = (false, eval e X.env) :: starEach [] X.env := by rfl) : SE X Wx (.Call (.Attribute o "append" apos) [e] [] cpos) (dMeth isLst kApp fo (aCons fe aNil)) :=
  PE.imp (pe_bm PySem.F.plainAttrs_list PySem.F.slot_list_append PySem.F.type_list_append mt_append ho (ca_cons he ca_nil hs) hbase hfew hline hs) fun _ _ _ h => sem_meth ty_list ms_app h
end
end MR
set_option Elab.async false
set_option linter.all false
set_option maxRecDepth 100000
namespace MR
open PySem PySem.Spec PyProof.Rows L2
section
variable {X : Cx} {Wx : WX}
def B1 (K : PySem.W.Frag) (r : List V → Hp → VK → Prop) (op : D → Option D) : Prop := ∀ (F I : Hp) (ρ : List Addr) (S : Sto) (H : Hp) (σV : L2.St) (σ : Sl) (v : V) (a z : D) (Q : VK), RB K F I ρ S H σV σ → At K ρ I H v a → op a = some z →
  (∀ I' H' v, Gr ρ I ρ I' → RB K F I' ρ S H' σV σ → Rep K ρ I' v z → Q v H') → r [v] H Q
def B2 (K : PySem.W.Frag) (r : List V → Hp → VK → Prop) (op : D → D → Option D) : Prop := OpS K (fun x y => r [x, y]) op
theorem sem_b1 {r : List V → Hp → VK → Prop} {op : D → Option D} {f : DE} (ho : B1 X.K r op) {σV : L2.St} {H : Hp} {Q : VK} (h : semE X.K Wx (d1 op f) σV H Q) : tCB r (tCons (semE X.K Wx f) tNil) σV H Q := by
  obtain ⟨F, I, ρ, σ, S, rb, h⟩ := h
  refine ⟨F, I, ρ, σ, S, rb, post_bind h fun I1 ρ1 σ1 S1 H1 x v1 _ g1 rb1 t1 h1 => ?_⟩
  obtain ⟨z, ez, h3⟩ := post_opt h1
  obtain ⟨a, ea, ez⟩ := Option.bind_eq_some_iff.mp ez
  exact ho F I1 ρ1 S1 H1 σV σ1 v1 a z Q rb1 (rb1.at t1 ea) ez fun I' H' v g' rb' r' => h3 I' ρ1 H' v g' rb' (.inr r')
theorem c_b1 {x : Str} {id : String} {e : Expr} {p pos : Pos} {f : DE} {r : List V → Hp → VK → Prop} {op : D → Option D} (hc : CallR X (.builtin id) r) (hs : B1 X.K r op) (hm : X.mg x = none) (h : SE X Wx e f) (hv : bootBuiltins x = some (.builtin id) := by decide +kernel) (hg : Gl X x := by rfl) (hn : x ≠ "__name__" := by decide) (hdb : (x == ("__debug__" : Str)) = false := by decide)
    (he : starEach [e] X.env = (false, eval e X.env) :: starEach [] X.env := by rfl) : SE X Wx (.Call (.Name x p) [e] [] pos) (d1 op f) :=
  PE.imp (pe_callB hc hg hm hv (pa_cons h pa_nil he) hn hdb he rfl) fun _ _ _ h => sem_b1 hs h
theorem c_t1 {x : Str} {id : String} {e : Expr} {p pos : Pos} {f : DE} {r : List V → Hp → VK → Prop} {op : D → Option D} (hc : CallR X (.type id) r) (hs : B1 X.K r op) (hm : X.mg x = none) (h : SE X Wx e f) (hv : bootBuiltins x = some (.type id) := by decide +kernel) (hg : Gl X x := by rfl) (hn : x ≠ "__name__" := by decide) (hdb : (x == ("__debug__" : Str)) = false := by decide)
    (he : starEach [e] X.env = (false, eval e X.env) :: starEach [] X.env := by rfl) : SE X Wx (.Call (.Name x p) [e] [] pos) (d1 op f) :=
  PE.imp (pe_callTy hc hg hm hv (pa_cons h pa_nil he) hn hdb he rfl) fun _ _ _ h => sem_b1 hs h
theorem c_b2 {x : Str} {id : String} {e e2 : Expr} {p pos : Pos} {f g : DE} {r : List V → Hp → VK → Prop} {op : D → D → Option D} (hc : CallR X (.builtin id) r) (hs : B2 X.K r op) (hm : X.mg x = none) (h : SE X Wx e f) (k : SE X Wx e2 g) (hv : bootBuiltins x = some (.builtin id) := by decide +kernel) (hg : Gl X x := by rfl) (hn : x ≠ "__name__" := by decide) (hdb : (x == ("__debug__" : Str)) = false := by decide)
    (he : starEach [e, e2] X.env = (false, eval e X.env) :: starEach [e2] X.env := by rfl) (he2 : starEach [e2] X.env = (false, eval e2 X.env) :: starEach [] X.env := by rfl) (hpl : (backTo pos (starEach [e2] X.env)).any (·.1) = false := by rfl) : SE X Wx (.Call (.Name x p) [e, e2] [] pos) (d2 op f g) :=
  PE.imp (pe_callB hc hg hm hv (pa_cons h (pa_cons k pa_nil he2) he) hn hdb he hpl) fun σ H Q h => (sem_op (r := fun x y => r [x, y]) hs h : tOp (fun x y => r [x, y]) _ _ σ H Q)
end
def toData : D → Option PyData
  | .non => some .none
  | .bl b => some (.bool b)
  | .int i => some (.int i)
  | .str x => some (.str x)
  | .tup l => (toDatas l).map .tuple
  | .lst l => (toDatas l).map .list
  | _ => none
where toDatas : List D → Option (List PyData)
  | [] => some []
  | d :: ds => (toData d).bind fun x => (toDatas ds).map fun xs => x :: xs
def deepEq (a b : D) : Option Bool := (toData a).bind fun d => (toData b).bind fun e => if SeqAt.shaped d && SeqAt.shaped e then some (PyData.eqv d e) else none
def eqD : D → D → Option Bool
  | .int i, .int j => some (decide (i = j))
  | .str i, .str j => some (decide (i = j))
  | .bl i, .bl j => some (decide (i = j))
  | .non, .non => some true
  | .non, .int _ => some false | .int _, .non => some false | .non, .str _ => some false | .str _, .non => some false | .non, .bl _ => some false | .bl _, .non => some false
  | .int _, .str _ => some false | .str _, .int _ => some false | .bl _, .str _ => some false | .str _, .bl _ => some false
  | a, b => deepEq a b
def opEq' (a b : D) : Option D := (eqD a b).map D.bl
def opNe' (a b : D) : Option D := (eqD a b).map fun x => D.bl (!x)
section
variable {K : PySem.W.Frag}
mutual
theorem Rep.dp {ρ : List Addr} {I H : Hp} (s : Sub I H) : ∀ {v : V} {w : D} {d : PyData}, Rep K ρ I v w → toData w = some d → Dp K H v d
  | _, _, _, .non, e => by cases e; exact .non
  | _, _, _, .bl, e => by cases e; exact .bl _
  | _, _, _, .int, e => by cases e; exact .int _
  | _, _, _, .str, e => by cases e; exact .str _
  | _, _, _, .tup h r, e => by
    obtain ⟨ds, e1, e2⟩ := Option.map_eq_some_iff.mp (show (toData.toDatas _).map PyData.tuple = some _ from e)
    subst e2
    exact .tup (s.sqT h.sq) (Reps.dp s r e1)
  | _, _, _, .lst h r, e => by
    obtain ⟨ds, e1, e2⟩ := Option.map_eq_some_iff.mp (show (toData.toDatas _).map PyData.list = some _ from e)
    subst e2
    exact .lst (s.sqL (.inl (.inl h))) (Reps.dp s r e1)
  | _, _, _, .dK _ _ _, e => by cases e
  | _, _, _, .dT _ _ _, e => by cases e
  | _, _, _, .obj _, e => by cases e
  | _, _, _, .scr _, e => by cases e
  | _, _, _, .fK _ _ _, e => by cases e
  | _, _, _, .fT _ _ _, e => by cases e
  | _, _, _, .cst _ _, e => by cases e
theorem Reps.dp {ρ : List Addr} {I H : Hp} (s : Sub I H) : ∀ {vs : List V} {ws : List D} {ds : List PyData}, Reps K ρ I vs ws → toData.toDatas ws = some ds → DpAll K H vs ds
  | _, _, _, .nil, e => by cases e; exact .nil
  | _, _, _, .cons h r, e => by
    obtain ⟨x, e1, e2⟩ := Option.bind_eq_some_iff.mp (show (toData _).bind _ = some _ from e)
    obtain ⟨xs, e3, e4⟩ := Option.map_eq_some_iff.mp e2
    subst e4
    exact .cons (Rep.dp s h e1) (Reps.dp s r e3)
end
theorem At.dp {ρ : List Addr} {I H : Hp} (s : Sub I H) {v : V} {a : D} {d : PyData} (h : At K ρ I H v a) (e : toData a = some d) : Dp K H v d := by
  cases a with
  | non => cases h; cases e; exact .non
  | bl b => cases h; cases e; exact .bl _
  | int i => cases h; cases e; exact .int _
  | str x => cases h; cases e; exact .str _
  | tup ws =>
    obtain ⟨a, vs, rfl, h, r⟩ := h
    obtain ⟨ds, e1, e2⟩ := Option.map_eq_some_iff.mp (show (toData.toDatas _).map PyData.tuple = some _ from e)
    subst e2
    exact .tup h.sq (Reps.dp s r e1)
  | lst ws =>
    obtain ⟨a, vs, rfl, h, r⟩ := h
    obtain ⟨ds, e1, e2⟩ := Option.map_eq_some_iff.mp (show (toData.toDatas _).map PyData.list = some _ from e)
    subst e2
    exact .lst (.inl (.inl h)) (Reps.dp s r e1)
  | _ => cases e
def rEqA (K : PySem.W.Frag) : R2 := fun x y H Q => rEq x y H Q ∨ rEqD K x y H Q
def rNeA (K : PySem.W.Frag) : R2 := fun x y H Q => rNe x y H Q ∨ rNeD K x y H Q
theorem eqD_cases {ρ : List Addr} {I H : Hp} {v1 v2 : V} {a b : D} {x : Bool} (h1 : At K ρ I H v1 a) (h2 : At K ρ I H v2 b) (e : eqD a b = some x) : (scal v1 v2 = true ∧ decide (v1 = v2) = x) ∨ deepEq a b = some x := by
  unfold eqD at e
  split at e
  all_goals first
    | (cases h1; cases h2; cases e; refine .inl ⟨rfl, ?_⟩; first | rfl | (simp))
    | exact .inr e
theorem os_eq : OpS K (rEqA K) opEq' := by
  intro F I ρ S H σV σ v1 v2 a b z Q rb h1 h2 ez q
  obtain ⟨x, e, rfl⟩ := Option.map_eq_some_iff.mp ez
  rcases eqD_cases h1 h2 e with ⟨hs, hx⟩ | hd
  · refine .inl ⟨hs, ?_⟩
    rw [hx]
    exact q I H _ Gr.refl rb .bl
  · obtain ⟨d, ed, hd⟩ := Option.bind_eq_some_iff.mp hd
    obtain ⟨d', ed', hd⟩ := Option.bind_eq_some_iff.mp hd
    split at hd
    · rename_i hsh
      obtain ⟨s1, s2⟩ := Bool.and_eq_true_iff.mp hsh
      cases hd
      exact .inr ⟨d, d', h1.dp rb.sub ed, h2.dp rb.sub ed', s1, s2, q I H _ Gr.refl rb .bl⟩
    · cases hd
theorem os_ne : OpS K (rNeA K) opNe' := by
  intro F I ρ S H σV σ v1 v2 a b z Q rb h1 h2 ez q
  obtain ⟨x, e, rfl⟩ := Option.map_eq_some_iff.mp ez
  rcases eqD_cases h1 h2 e with ⟨hs, hx⟩ | hd
  · refine .inl ⟨hs, ?_⟩
    rw [hx]
    exact q I H _ Gr.refl rb .bl
  · obtain ⟨d, ed, hd⟩ := Option.bind_eq_some_iff.mp hd
    obtain ⟨d', ed', hd⟩ := Option.bind_eq_some_iff.mp hd
    split at hd
    · rename_i hsh
      obtain ⟨s1, s2⟩ := Bool.and_eq_true_iff.mp hsh
      cases hd
      exact .inr ⟨d, d', h1.dp rb.sub ed, h2.dp rb.sub ed', s1, s2, q I H _ Gr.refl rb .bl⟩
    · cases hd
def rAddA (K : PySem.W.Frag) : R2 := fun x y H Q => rI0 (fun i j => .int (i + j)) x y H Q ∨ ((∃ i j, x = .str i ∧ y = .str j ∧ i.length + j.length ≤ sizeLine ∧ Q (.str (i ++ j)) H) ∨ (rCat x y H Q ∨ rCatT K x y H Q))
theorem op_addA {X : Cx} : OpR X (binaryOp .Add) (rAddA X.K) := op_add.or (op_add_str.or (op_cat.or op_catT))
theorem os_add : OpS K (rAddA K) opAdd := by
  intro F I ρ S H σV σ v1 v2 a b z Q rb h1 h2 ez q
  unfold opAdd at ez
  split at ez
  · cases h1; cases h2; cases ez
    exact .inl ⟨_, _, rfl, rfl, q I H _ Gr.refl rb .int⟩
  · cases h1; cases h2
    split at ez
    · rename_i hl
      cases ez
      exact .inr (.inl ⟨_, _, rfl, rfl, by rw [← most_eq]; exact hl, q I H _ Gr.refl rb .str⟩)
    · cases ez
  · obtain ⟨a, vs, rfl, ha, ra⟩ := h1
    obtain ⟨b, ws, rfl, hb, rb'⟩ := h2
    split at ez
    · rename_i hl
      cases ez
      refine .inr (.inr (.inl ⟨a, b, vs, ws, rfl, rfl, ha, hb, by rw [ra.length, rb'.length, ← most_eq]; exact hl, fun p hp => ?_⟩))
      obtain ⟨g, rb2⟩ := rb.new (o := .lst (vs ++ ws)) hp
      exact q _ _ _ g rb2 (.lst upd_same ((ra.append rb').gr g))
    · cases ez
  · obtain ⟨a, vs, rfl, ha, ra⟩ := h1
    obtain ⟨b, ws, rfl, hb, rb'⟩ := h2
    split at ez
    · rename_i hl
      cases ez
      refine .inr (.inr (.inr ⟨a, b, vs, ws, rfl, rfl, ha, hb, fun z => hl.1 (by rw [← ra.length, z]; rfl), by rw [ra.length, rb'.length, ← most_eq]; exact hl.2.2, fun z => absurd (by rw [← rb'.length, z]; rfl) hl.2.1, fun _ p hp => ?_⟩))
      obtain ⟨g, rb2⟩ := rb.new (o := .tup (vs ++ ws)) hp
      exact q _ _ _ g rb2 (.tup (.inl upd_same) ((ra.append rb').gr g))
    · cases ez
  · cases ez
def opPow : D → D → Option D
  | .int i, .int j => if 0 ≤ j ∧ j ≤ 1000000 ∧ i.natAbs < 2 ^ 64 then some (.int (i ^ j.toNat)) else none
  | _, _ => none
theorem os_pow : OpS K (rI CPow fun i j => .int (i ^ j.toNat)) opPow := ops_int fun a b z e => by
  unfold opPow at e; split at e
  · split at e
    · cases e; exact ⟨_, _, rfl, rfl, by assumption, fun _ _ => .int⟩
    · cases e
  · cases e
def opIx : D → D → Option D
  | .lst xs, .int i => atI xs i
  | .tup xs, .int i => atI xs i
  | .str z, .int i => if z.length ≤ most then (atI z.cps.toList i).map fun c => .str ⟨#[c]⟩ else none
  | .cst xs, .int i => atI xs i
  | _, _ => none
theorem Reps.atI {ρ : List Addr} {I : Hp} {vs : List V} {ws : List D} {i : Int} {w : D} (r : Reps K ρ I vs ws) (e : L2.atI ws i = some w) : ∃ v, L2.atI vs i = some v ∧ Rep K ρ I v w := by
  unfold L2.atI at e ⊢
  rw [r.length]
  obtain ⟨j, e1, e2⟩ := Option.bind_eq_some_iff.mp e
  obtain ⟨v, e3, rv⟩ := r.get e2
  exact ⟨v, by rw [e1]; exact e3, rv⟩
theorem os_ix : OpS K (rIx K) opIx := by
  intro F I ρ S H σV σ v1 v2 a b z Q rb h1 h2 ez q
  unfold opIx at ez
  split at ez
  · obtain ⟨a, vs, rfl, ha, ra⟩ := h1
    cases h2
    obtain ⟨v, ev, rv⟩ := ra.atI ez
    exact .inl ⟨a, vs, _, v, rfl, rfl, SqL_at ha, ev, q I H v Gr.refl rb rv⟩
  · obtain ⟨a, vs, rfl, ha, ra⟩ := h1
    cases h2
    obtain ⟨v, ev, rv⟩ := ra.atI ez
    exact .inr (.inl ⟨a, vs, _, v, rfl, rfl, ha, ev, q I H v Gr.refl rb rv⟩)
  · cases h1; cases h2
    split at ez
    · rename_i hl
      obtain ⟨c, ec, rfl⟩ := Option.map_eq_some_iff.mp ez
      exact .inr (.inr ⟨_, _, c, rfl, rfl, by rw [← most_eq]; exact hl, ec, q I H _ Gr.refl rb .str⟩)
    · cases ez
  · obtain ⟨a, vs, rfl, ha, ra⟩ := h1
    cases h2
    obtain ⟨v, ev, rv⟩ := ra.atI ez
    exact .inr (.inl ⟨a, vs, _, v, rfl, rfl, ha, ev, q I H v Gr.refl rb rv⟩)
  · cases ez
theorem c_ix {X : Cx} {Wx : WX} {a b : Expr} {pos : Pos} {f g : DE} (ha : SE X Wx a f) (hb : SE X Wx b g) (hs : PlainIx b := by intro _ _; rfl) : SE X Wx (.Subscript a b pos) (d2 opIx f g) :=
  PE.imp (pe_ix ix_seq ha hb hs) fun _ _ _ h => sem_op os_ix h
def opLen0 : D → Option D
  | .lst xs => some (.int xs.length)
  | .tup xs => some (.int xs.length)
  | .str z => if z.length ≤ most then some (.int z.length) else none
  | _ => none
theorem b_len0 : B1 K (fun xs H Q => ∃ x n, xs = [x] ∧ LenV K x H n ∧ Q (.int n) H) opLen0 := by
  intro F I ρ S H σV σ v a z Q rb h ez q
  unfold opLen0 at ez
  split at ez
  · obtain ⟨a, vs, rfl, ha, ra⟩ := h
    cases ez
    exact ⟨_, _, rfl, .inl ⟨vs, SqL_at ha, rfl⟩, q I H _ Gr.refl rb (by rw [ra.length]; exact .int)⟩
  · obtain ⟨a, vs, rfl, ha, ra⟩ := h
    cases ez
    exact ⟨_, _, rfl, .inr ⟨vs, ha, rfl⟩, q I H _ Gr.refl rb (by rw [ra.length]; exact .int)⟩
  · cases h
    split at ez
    · rename_i hl
      cases ez
      exact ⟨_, _, rfl, ⟨by rw [← most_eq]; exact hl, rfl⟩, q I H _ Gr.refl rb .int⟩
    · cases ez
  · cases ez
def opLen : D → Option D
  | .lst xs => some (.int xs.length)
  | .tup xs => some (.int xs.length)
  | .str z => if z.length ≤ most then some (.int z.length) else none
  | .dK l => some (.int l.length)
  | _ => none
theorem call_lenA {X : Cx} : CallR X (.builtin "len") (fun xs H Q => (∃ x n, xs = [x] ∧ LenV X.K x H n ∧ Q (.int n) H) ∨ ∃ a kvs, xs = [V.ref a] ∧ Rd H a (.dK kvs) ∧ Q (.int kvs.length) H) := by
  intro pins s σ H xs us Q I r h
  rcases h with h | ⟨a, kvs, rfl, ha, q⟩
  · exact call_len pins s σ H xs us Q I r h
  · obtain ⟨u, rfl, ru⟩ := vals1 r
    cases ru
    exact d_len I ha fun t s' I' => ⟨.int kvs.length, H, I', ⟨t, rfl⟩, q⟩
theorem b_len : B1 K (fun xs H Q => (∃ x n, xs = [x] ∧ LenV K x H n ∧ Q (.int n) H) ∨ ∃ a kvs, xs = [V.ref a] ∧ Rd H a (.dK kvs) ∧ Q (.int kvs.length) H) opLen := by
  intro F I ρ S H σV σ v a z Q rb h ez q
  cases a with
  | dK l =>
    cases ez
    obtain ⟨b, kvs, rfl, ha, e, r⟩ := h
    have el : kvs.length = l.length := by
      have := congrArg List.length e
      rwa [List.length_map, List.length_map] at this
    exact .inr ⟨b, kvs, rfl, ha, by rw [el]; exact q I H _ Gr.refl rb .int⟩
  | _ =>
    refine .inl ?_
    exact b_len0 F I ρ S H σV σ v _ z Q rb h ez q
def opAbs : D → Option D
  | .int i => some (.int (if i < 0 then -i else i))
  | _ => none
def opMin : D → D → Option D
  | .int i, .int j => some (.int (if j < i then j else i))
  | _, _ => none
def opMax : D → D → Option D
  | .int i, .int j => some (.int (if j > i then j else i))
  | _, _ => none
theorem b_max : B2 K (fun xs H Q => ∃ i j, xs = [.int i, .int j] ∧ Q (.int (if j > i then j else i)) H) opMax := by
  intro F I ρ S H σV σ v1 v2 a b z Q rb h1 h2 ez q
  unfold opMax at ez
  split at ez
  · cases h1; cases h2; cases ez
    exact ⟨_, _, rfl, q I H _ Gr.refl rb .int⟩
  · cases ez
def bools : List D → Option (List Bool)
  | [] => some []
  | .bl b :: r => (bools r).map fun bs => b :: bs
  | _ => none
theorem Reps.bools {ρ : List Addr} {I : Hp} : ∀ {vs : List V} {ws : List D} {bs : List Bool}, Reps K ρ I vs ws → MR.bools ws = some bs → vs = bs.map V.bl
  | _, _, _, .nil, e => by cases e; rfl
  | _, _, _, .cons h r, e => by
    unfold MR.bools at e
    split at e
    · rename_i h1; cases h1
    · rename_i b rest h1
      cases h1
      obtain ⟨bs, e1, rfl⟩ := Option.map_eq_some_iff.mp e
      cases h
      rw [Reps.bools r e1]
      rfl
    · cases e
def opAll : D → Option D
  | .lst xs => (bools xs).map fun bs => .bl (bs.all id)
  | _ => none
theorem b_all : B1 K (rAll K) opAll := by
  intro F I ρ S H σV σ v a z Q rb h ez q
  unfold opAll at ez
  split at ez
  · obtain ⟨a, vs, rfl, ha, ra⟩ := h
    obtain ⟨bs, e, rfl⟩ := Option.map_eq_some_iff.mp ez
    have := ra.bools e
    subst this
    exact ⟨a, bs, rfl, SqL_at ha, q I H _ Gr.refl rb .bl⟩
  · cases ez
def opIntS : D → Option D
  | .str a => if a.length ≤ 640 then (PySem.intText? a).map D.int else none
  | .int i => some (.int i)
  | .bl k => some (.int (if k then 1 else 0))
  | _ => none
def rIntA : List V → Hp → VK → Prop := fun xs H Q => (∃ a n, xs = [.str a] ∧ PySem.intText? a = some n ∧ a.length ≤ 640 ∧ Q (.int n) H) ∨ ((∃ i, xs = [.int i] ∧ Q (.int i) H) ∨ ∃ k, xs = [.bl k] ∧ Q (.int (if k then 1 else 0)) H)
theorem call_intA {X : Cx} : CallR X (.type "int") rIntA := by
  intro pins s σ H xs us Q I r h
  rcases h with h | h
  · exact call_int_str pins s σ H xs us Q I r h
  · exact call_int1 pins s σ H xs us Q I r h
theorem b_int : B1 K rIntA opIntS := by
  intro F I ρ S H σV σ v a z Q rb h ez q
  unfold opIntS at ez
  split at ez
  · cases h
    split at ez
    · rename_i hl
      obtain ⟨n, e, rfl⟩ := Option.map_eq_some_iff.mp ez
      exact .inl ⟨_, n, rfl, e, hl, q I H _ Gr.refl rb .int⟩
    · cases ez
  · cases h; cases ez
    exact .inr (.inl ⟨_, rfl, q I H _ Gr.refl rb .int⟩)
  · cases h; cases ez
    exact .inr (.inr ⟨_, rfl, q I H _ Gr.refl rb .int⟩)
  · cases ez
end
end MR
set_option Elab.async false
set_option linter.all false
set_option maxRecDepth 100000
namespace MR
open PySem PySem.Spec PyProof.Rows L2
section
variable {X : Cx} {Wx : WX}
def isN : D → Bool
  | .non => true
  | _ => false
def dIsN (f : DE) : DE := fun σ S => (f σ S).bind fun x σ S => .ok (.bl (isN x)) σ S
def dNotN (f : DE) : DE := fun σ S => (f σ S).bind fun x σ S => .ok (.bl (!isN x)) σ S
theorem sem_isN {f : DE} {σV : L2.St} {H : Hp} {Q : VK} (h : semE X.K Wx (dIsN (dV f)) σV H Q) : tIsN (semV X.K Wx (dV f)) σV H Q := by
  obtain ⟨F, I, ρ, σ, S, rb, h⟩ := h
  refine ⟨F, I, ρ, σ, S, rb, post_bind h fun I1 ρ1 σ1 S1 H1 x v1 _ g1 rb1 t1 h1 => ?_⟩
  have e : decide (v1 = V.non) = MR.isN x := by cases t1 <;> rfl
  rw [e]
  exact h1 I1 ρ1 H1 _ Gr.refl rb1 (.inr .bl)
theorem sem_notN {f : DE} {σV : L2.St} {H : Hp} {Q : VK} (h : semE X.K Wx (dNotN (dV f)) σV H Q) : tNotN (semV X.K Wx (dV f)) σV H Q := by
  obtain ⟨F, I, ρ, σ, S, rb, h⟩ := h
  refine ⟨F, I, ρ, σ, S, rb, post_bind h fun I1 ρ1 σ1 S1 H1 x v1 _ g1 rb1 t1 h1 => ?_⟩
  have e : decide (v1 = V.non) = MR.isN x := by cases t1 <;> rfl
  rw [e]
  exact h1 I1 ρ1 H1 _ Gr.refl rb1 (.inr .bl)
theorem c_isN {a : Expr} {j : Nat} {pos pos' : Pos} {f : DE} (h : SE X Wx a f) : SE X Wx (.Compare a [.Is] [.Constant .none j pos'] pos) (dIsN (dV f)) := PE.imp (pe_cmp (pc_isN (c_v h))) fun _ _ _ h => sem_isN h
theorem ct_isN {a : Expr} {j : Nat} {pos pos' : Pos} {f : DE} (h : SE X Wx a f) : ST X Wx (.Compare a [.Is] [.Constant .none j pos'] pos) (tVal (dIsN (dV f))) := PT.imp (pt_cmp (pc_isN (c_v h))) fun _ _ _ h => sem_isN (sem_tval h)
theorem ct_notN {a : Expr} {j : Nat} {pos pos' : Pos} {f : DE} (h : SE X Wx a f) : ST X Wx (.Compare a [.IsNot] [.Constant .none j pos'] pos) (tVal (dNotN (dV f))) := PT.imp (pt_cmp (pc_notN (c_v h))) fun _ _ _ h => sem_notN (sem_tval h)
inductive Kd where
  | int | bool | str | tuple | list | dict
def Kd.nm : Kd → String
  | .int => "int" | .bool => "bool" | .str => "str" | .tuple => "tuple" | .list => "list" | .dict => "dict"
def isiD : Kd → D → Option Bool
  | .int, .int _ => some true | .int, .bl _ => some true
  | .bool, .bl _ => some true
  | .str, .str _ => some true
  | .tuple, .tup _ => some true
  | .list, .lst _ => some true
  | .dict, .dK _ => some true
  | _, .non => some false | _, .bl _ => some false | _, .int _ => some false | _, .str _ => some false | _, .tup _ => some false | _, .lst _ => some false | _, .dK _ => some false
  | _, _ => none
def opIsi (k : Kd) (a : D) : Option D := (isiD k a).map D.bl
theorem SqT_ty {K : PySem.W.Frag} {H : Hp} {a : Addr} {vs : List V} (h : SqT K H a vs) : TyX K H (.ref a) (.type "tuple") := by
  rcases h with (h | ⟨o, h⟩) | h
  · exact .base (.tup h)
  · exact .fTuple h
  · obtain ⟨o, its, n, h1, h2, _⟩ := h
    exact .kTuple h1 h2
theorem os_isi {K : PySem.W.Frag} (k : Kd) {F I : Hp} {ρ : List Addr} {S : Sto} {H : Hp} {σV : L2.St} {σ : Sl} {v : V} {a z : D} {Q : VK} (rb : RB K F I ρ S H σV σ) (h : At K ρ I H v a) (ez : opIsi k a = some z) (q : ∀ v, Rep K ρ I v z → Q v H) : rIsi K [v, .ty k.nm] H Q := by
  obtain ⟨b, eb, rfl⟩ := Option.map_eq_some_iff.mp ez
  cases a with
  | non => cases h; cases k <;> cases eb <;> exact ⟨_, _, _, _, _, rfl, .ty _, .base .non, kit_ty (by decide +kernel), q _ .bl⟩
  | bl b => cases h; cases k <;> cases eb <;> exact ⟨_, _, _, _, _, rfl, .ty _, .base (.bl _), kit_ty (by decide +kernel), q _ .bl⟩
  | int i => cases h; cases k <;> cases eb <;> exact ⟨_, _, _, _, _, rfl, .ty _, .base (.int _), kit_ty (by decide +kernel), q _ .bl⟩
  | str x => cases h; cases k <;> cases eb <;> exact ⟨_, _, _, _, _, rfl, .ty _, .base (.str _), kit_ty (by decide +kernel), q _ .bl⟩
  | tup ws => obtain ⟨a, vs, rfl, h, _⟩ := h; cases k <;> cases eb <;> exact ⟨_, _, _, _, _, rfl, .ty _, SqT_ty h.sq, kit_ty (by decide +kernel), q _ .bl⟩
  | lst ws => obtain ⟨a, vs, rfl, h, _⟩ := h; cases k <;> cases eb <;> exact ⟨_, _, _, _, _, rfl, .ty _, .base (.lst h), kit_ty (by decide +kernel), q _ .bl⟩
  | dK ws =>
    obtain ⟨a, kvs, rfl, h, _⟩ := h
    have ty : TyX K H (.ref a) (.type "dict") := by
      rcases h with h | ⟨o, h⟩
      · exact .base (.dK h)
      · exact .fDict h
    cases k <;> cases eb <;> exact ⟨_, _, _, _, _, rfl, .ty _, ty, kit_ty (by decide +kernel), q _ .bl⟩
  | _ => cases k <;> cases eb
theorem sem_isi {k : Kd} {f : DE} {σV : L2.St} {H : Hp} {Q : VK} (h : semE X.K Wx (d1 (opIsi k) f) σV H Q) : tCB (rIsi X.K) (tCons (semE X.K Wx f) (tCons (tC (.ty k.nm)) tNil)) σV H Q := by
  obtain ⟨F, I, ρ, σ, S, rb, h⟩ := h
  refine ⟨F, I, ρ, σ, S, rb, post_bind h fun I1 ρ1 σ1 S1 H1 x v1 _ g1 rb1 t1 h1 => ?_⟩
  obtain ⟨z, ez, h3⟩ := post_opt h1
  obtain ⟨a, ea, ez⟩ := Option.bind_eq_some_iff.mp ez
  exact os_isi k rb1 (rb1.at t1 ea) ez fun v r => h3 I1 ρ1 H1 v Gr.refl rb1 (.inr r)
theorem c_isi (k : Kd) {e : Expr} {p q pos : Pos} {f : DE} (hm : X.mg "isinstance" = none) (hk : X.mg (Str.ofString k.nm) = none) (h : SE X Wx e f) (hv : bootBuiltins (Str.ofString k.nm) = some (.type k.nm) := by decide +kernel) (hg : Gl X "isinstance" := by rfl) (hg2 : Gl X (Str.ofString k.nm) := by rfl) (hn : (Str.ofString k.nm) ≠ "__name__" := by decide) (hdb : (Str.ofString k.nm == ("__debug__" : Str)) = false := by decide)
    (he : starEach [e, .Name (Str.ofString k.nm) q] X.env = (false, eval e X.env) :: starEach [.Name (Str.ofString k.nm) q] X.env := by rfl) (hpl : (backTo pos (starEach [.Name (Str.ofString k.nm) q] X.env)).any (·.1) = false := by rfl) :
    SE X Wx (.Call (.Name "isinstance" p) [e, .Name (Str.ofString k.nm) q] [] pos) (d1 (opIsi k) f) :=
  PE.imp (pe_callB call_isi hg hm (by decide +kernel) (pa_cons h (pa_cons (pe_bltn (v := .ty k.nm) hg2 hk hv rfl hn hdb) pa_nil) he) (by decide) (by decide) he hpl) fun _ _ _ h => sem_isi h
def cutL {α : Type} (xs : List α) (lo hi : Option Int) : List α := (xs.drop (HT.sIx xs.length 0 lo)).take (HT.sIx xs.length xs.length hi - HT.sIx xs.length 0 lo)
def opSl : D → Option Int → Option Int → Option D
  | .lst xs, lo, hi => some (.lst (cutL xs lo hi))
  | .scr ns, lo, hi => some (.lst ((cutL ns lo hi).map D.int))
  | .tup xs, lo, hi => if HT.sIx xs.length 0 lo = 0 ∧ HT.sIx xs.length xs.length hi = xs.length then none else some (.tup (cutL xs lo hi))
  | .str z, lo, hi => if z.length ≤ most then some (.str (cutS z lo hi)) else none
  | _, _, _ => none
abbrev DO := Sl → Sto → Res (Option Int)
def oNone : DO := fun σ S => .ok none σ S
def oSome (f : DE) : DO := fun σ S => (f σ S).bind fun x σ S => match x with
  | .int i => .ok (some i) σ S
  | _ => .fail
abbrev semO (K : PySem.W.Frag) (Wx : WX) (f : DO) : TO := semR K Wx (fun _ _ _ b a => b = a) f
abbrev SO (X : Cx) (Wx : WX) (e : Option Expr) (f : DO) : Prop := PO X e (semO X.K Wx f)
theorem _root_.L2.PO.imp {X : Cx} {e : Option Expr} {t t' : TO} (h : PO X e t) (i : ∀ σ H Q, t' σ H Q → t σ H Q) : PO X e t' := ⟨fun pins s σ H Q I q => h.run pins s σ H Q I (i _ _ _ q)⟩
theorem co_none : SO X Wx none oNone := PO.imp po_none fun σV H Q h => by
  obtain ⟨F, I, ρ, σ, S, rb, h⟩ := h
  exact h I ρ H none Gr.refl rb rfl
theorem co_some {e : Expr} {f : DE} (h : SE X Wx e f) : SO X Wx (some e) (oSome f) := PO.imp (po_some h) fun σV H Q h => by
  obtain ⟨F, I, ρ, σ, S, rb, h⟩ := h
  refine ⟨F, I, ρ, σ, S, rb, post_bind h fun I1 ρ1 σ1 S1 H1 x v1 _ g1 rb1 t1 h1 => ?_⟩
  rcases t1 with ⟨i, rfl, _⟩ | t1
  · exact h1.elim
  · cases t1 with
    | int => exact ⟨_, rfl, h1 I1 ρ1 H1 _ Gr.refl rb1 rfl⟩
    | _ => exact h1.elim
def dSl (f : DE) (lo hi : DO) : DE := fun σ S => (f σ S).bind fun x σ S => (lo σ S).bind fun l σ S => (hi σ S).bind fun u σ S => ofOpt ((deref σ S x).bind fun a => opSl a l u) σ S
def rSlA (K : PySem.W.Frag) : V → Option Int → Option Int → Hp → VK → Prop := fun x lo hi H Q => rSlL K x lo hi H Q ∨ (rSlT K x lo hi H Q ∨ (∃ z, x = .str z ∧ z.length ≤ sizeLine ∧ Q (.str (cutS z lo hi)) H))
theorem Reps.cut {K : PySem.W.Frag} {ρ : List Addr} {I : Hp} {vs : List V} {ws : List D} (r : Reps K ρ I vs ws) (lo hi : Option Int) : Reps K ρ I (cutV vs lo hi) (cutL ws lo hi) := by
  unfold cutV cutL
  rw [r.length]
  exact (r.drop _).take _
theorem cutV_map (ns : List Int) (lo hi : Option Int) : cutV (ns.map V.int) lo hi = (cutL ns lo hi).map V.int := by
  unfold cutV cutL
  rw [List.length_map, List.map_take, List.map_drop]
theorem Reps.ints {K : PySem.W.Frag} {ρ : List Addr} {I : Hp} : ∀ ns : List Int, Reps K ρ I (ns.map V.int) (ns.map D.int)
  | [] => .nil
  | _ :: r => .cons .int (Reps.ints r)
theorem sl_all : SlR X (rSlA X.K) := sl_list.or (sl_tup.or sl_str)
theorem cf_sl {e : Expr} {lo hi : Option Expr} {p2 pos : Pos} {f : DE} {l u : DO} (h : SE X Wx e f) (hl : SO X Wx lo l) (hu : SO X Wx hi u) : SF X Wx (.Subscript e (.Slice lo hi none p2) pos) (dSl f l u) := by
  refine PE.imp (pe_slice sl_all h hl hu) fun σV H Q h => ?_
  obtain ⟨F, I, ρ, σ, S, rb, h⟩ := h
  refine ⟨F, I, ρ, σ, S, rb, postF_bind h fun I1 ρ1 σ1 S1 H1 x v1 _ g1 rb1 t1 h1 => ?_⟩
  refine ⟨F, I1, ρ1, σ1, S1, rb1, postF_bind h1 fun I2 ρ2 σ2 S2 H2 a2 b2 _ g2 rb2 t2 h2 => ?_⟩
  subst t2
  refine ⟨F, I2, ρ2, σ2, S2, rb2, postF_bind h2 fun I3 ρ3 σ3 S3 H3 a3 b3 _ g3 rb3 t3 h3 => ?_⟩
  subst t3
  cases ez : (deref σ3 S3 x).bind fun a => opSl a b2 b3 with
  | none => rw [ez] at h3; exact h3.elim
  | some z =>
    rw [ez] at h3
    obtain ⟨a, ea, ez⟩ := Option.bind_eq_some_iff.mp ez
    have hat := rb3.at ((t1.gr g2).gr g3) ea
    unfold opSl at ez
    split at ez
    · cases ez
      obtain ⟨a, vs, rfl, ha, ra⟩ := hat
      refine .inl ⟨a, vs, rfl, SqL_at ha, fun p hp => ?_⟩
      obtain ⟨rb4, nf, ni, nr, no⟩ := rb3.newO (o := .lst (cutV vs b2 b3)) hp
      exact h3 _ ρ3 _ _ Gr.refl rb4 (.inl ⟨p, rfl, nf, ni, nr, no, _, upd_same, ra.cut _ _⟩)
    · cases ez
      obtain ⟨a, rfl, ha⟩ := hat
      refine .inl ⟨a, _, rfl, ha, fun p hp => ?_⟩
      obtain ⟨rb4, nf, ni, nr, no⟩ := rb3.newO (o := .lst (cutV _ b2 b3)) hp
      exact h3 _ ρ3 _ _ Gr.refl rb4 (.inl ⟨p, rfl, nf, ni, nr, no, _, upd_same, by rw [cutV_map]; exact Reps.ints _⟩)
    · split at ez
      · cases ez
      · rename_i hw
        cases ez
        obtain ⟨a, vs, rfl, ha, ra⟩ := hat
        refine .inr (.inl ⟨a, vs, rfl, ha, by rw [ra.length]; exact hw, fun p hp => ?_⟩)
        obtain ⟨g4, rb4⟩ := rb3.new (o := .tup (cutV vs b2 b3)) hp
        exact h3 _ ρ3 _ _ g4 rb4 (.inr ⟨rfl, .tup (.inl upd_same) ((ra.cut _ _).gr g4)⟩)
    · cases hat
      split at ez
      · rename_i hl
        cases ez
        exact .inr (.inr ⟨_, rfl, by rw [← most_eq]; exact hl, h3 I3 ρ3 H3 _ Gr.refl rb3 (.inr ⟨rfl, .str⟩)⟩)
      · cases ez
    · cases ez
abbrev DG := D → Sl → Option Sl
abbrev DGs := List D → Sl → Option Sl
def gN (i : Nat) : DG := fun d σ => some (σ.set i (.val d))
def gsNil : DGs := fun ds σ => match ds with
  | [] => some σ
  | _ => none
def gsCons (g : DG) (gs : DGs) : DGs := fun ds σ => match ds with
  | d :: r => (g d σ).bind fun σ' => gs r σ'
  | [] => none
def gT (n : Nat) (gs : DGs) : DG := fun d σ => match d with
  | .tup ws => if ws.length = n then gs ws σ else none
  | _ => none
end
end MR
set_option Elab.async false
set_option linter.all false
set_option maxRecDepth 100000
namespace MR
open PySem PySem.Spec PyProof.Rows L2
theorem _root_.L2.PG.imp {X : Cx} {e : Expr} {t t' : TG} (h : PG X e t) (i : ∀ v σ H Q, t' v σ H Q → t v σ H Q) : PG X e t' := ⟨fun pins s σ H v u Q I r q => h.run pins s σ H v u Q I r (i _ _ _ _ q)⟩
theorem _root_.L2.PGs.imp {X : Cx} {e : List Expr} {t t' : TGs} (h : PGs X e t) (i : ∀ v σ H Q, t' v σ H Q → t v σ H Q) : PGs X e t' := ⟨fun pins s σ H v u Q I r q => h.run pins s σ H v u Q I r (i _ _ _ _ q)⟩
theorem _root_.L2.PI.imp {X : Cx} {tg e : Expr} {t t' : TI} (h : PI X tg e t) (i : ∀ σ H Q, t' σ H Q → t σ H Q) : PI X tg e t' := ⟨fun pins s σ H Q I q => h.run pins s σ H Q I (i _ _ _ q)⟩
theorem _root_.L2.PTs.imp {X : Cx} {e : List Expr} {t t' : TT} (h : PTs X e t) (i : ∀ σ H Q, t' σ H Q → t σ H Q) : PTs X e t' := ⟨fun pins s σ H Q I q => h.run pins s σ H Q I (i _ _ _ q)⟩
section
variable {X : Cx} {Wx : WX}
theorem wipe_get (σ : L2.St) : ∀ (vs : List Nat) (j : Nat), (wipe σ vs)[j]? = if j ∈ vs then (σ[j]?).map (fun _ => none) else σ[j]?
  | [], j => by simp [wipe]
  | v :: vs, j => by
    unfold wipe
    by_cases e : v = j
    · subst e
      rw [if_pos (List.mem_cons_self ..)]
      by_cases lt : v < (wipe σ vs).length
      · rw [List.getElem?_set_self lt]
        rw [wipe_length] at lt
        rw [List.getElem?_eq_getElem lt]
        rfl
      · rw [List.getElem?_eq_none (by rw [List.length_set]; omega)]
        rw [wipe_length] at lt
        rw [List.getElem?_eq_none (by omega)]
        rfl
    · rw [List.getElem?_set_ne e, wipe_get σ vs j]
      have : (j ∈ v :: vs) ↔ j ∈ vs := by
        rw [List.mem_cons]
        exact ⟨fun h => h.elim (fun z => absurd z.symm e) id, .inr⟩
      by_cases h : j ∈ vs
      · rw [if_pos h, if_pos (this.mpr h)]
      · rw [if_neg h, if_neg (fun z => h (this.mp z))]
theorem wipe_set {σ : L2.St} {vs : List Nat} {i : Nat} {x : Option V} (h : i ∈ vs) : wipe (σ.set i x) vs = wipe σ vs := by
  apply List.ext_getElem?
  intro j
  rw [wipe_get, wipe_get]
  by_cases hj : j ∈ vs
  · rw [if_pos hj, if_pos hj]
    by_cases e : i = j
    · subst e
      by_cases lt : i < σ.length
      · rw [List.getElem?_set_self lt, List.getElem?_eq_getElem lt]
        rfl
      · rw [List.getElem?_eq_none (by rw [List.length_set]; omega), List.getElem?_eq_none (by omega)]
    · rw [List.getElem?_set_ne e]
  · have ne : i ≠ j := fun e => by subst e; exact hj h
    rw [if_neg hj, if_neg hj, List.getElem?_set_ne ne]
def semG (K : PySem.W.Frag) (vs : List Nat) (g : DG) : TG := fun v σV H Q => ∃ F I ρ σ S d σ', RB K F I ρ S H σV σ ∧ Rep K ρ I v d ∧ g d σ = some σ' ∧ ∀ σV', wipe σV' vs = wipe σV vs → RB K F I ρ S H σV' σ' → Q σV' H
def semGs (K : PySem.W.Frag) (vs : List Nat) (g : DGs) : TGs := fun us σV H Q => ∃ F I ρ σ S ds σ', RB K F I ρ S H σV σ ∧ Reps K ρ I us ds ∧ g ds σ = some σ' ∧ ∀ σV', wipe σV' vs = wipe σV vs → RB K F I ρ S H σV' σ' → Q σV' H
abbrev SG (X : Cx) (vs : List Nat) (e : Expr) (g : DG) : Prop := PG X e (semG X.K vs g)
abbrev SGs (X : Cx) (vs : List Nat) (e : List Expr) (g : DGs) : Prop := PGs X e (semGs X.K vs g)
variable {tvs : List Nat}
theorem cg_name (i : Nat) {x : Str} {pos : Pos} (hN : X.N.Nodup) (hi : X.N[i]? = some x := by rfl) (hx : Loc X.env.scope x := by first | exact Or.inl rfl | exact Or.inr rfl) (hf : X.fn x = true ∨ X.env.scope.names.lookup x = some .local := by first | exact .inl rfl | exact .inr rfl | assumption) (hv : i ∈ tvs := by decide) : SG X tvs (.Name x pos) (gN i) := by
  refine PG.imp (pg_name hN hi hx hf) fun v σV H Q h => ?_
  obtain ⟨F, I, ρ, σ, S, d, σ', rb, r, e, q⟩ := h
  cases e
  exact q _ (wipe_set hv) (rb.setV r)
theorem cgs_nil : SGs X tvs [] gsNil := by
  refine PGs.imp pgs_nil fun vs σV H Q h => ?_
  obtain ⟨F, I, ρ, σ, S, ds, σ', rb, r, e, q⟩ := h
  cases r with
  | nil => cases e; exact ⟨rfl, q _ rfl rb⟩
  | cons _ _ => cases e
theorem cgs_cons {e : Expr} {es : List Expr} {g : DG} {gs : DGs} (h : SG X tvs e g) (k : SGs X tvs es gs) (hs : (assignEach (e :: es) X.env).map (·.2) = assign e X.env :: (assignEach es X.env).map (·.2) := by rfl) : SGs X tvs (e :: es) (gsCons g gs) := by
  refine PGs.imp (pgs_cons h k hs) fun vs σV H Q h => ?_
  obtain ⟨F, I, ρ, σ, S, ds, σ', rb, r, e, q⟩ := h
  cases r with
  | nil => cases e
  | cons h1 h2 =>
    obtain ⟨σ1, e1, e2⟩ := Option.bind_eq_some_iff.mp e
    exact ⟨_, _, rfl, F, I, ρ, σ, S, _, σ1, rb, h1, e1, fun σV' ew rb' => ⟨F, I, ρ, σ1, S, _, σ', rb', h2, e2, fun σV2 ew2 => q σV2 (ew2.trans ew)⟩⟩
theorem cg_tup {es : List Expr} {k n : Nat} {pos : Pos} {gs : DGs} (h : SGs X tvs es gs) (hc : X.calm = true := by rfl) (hn : (assignEach es X.env).length = n := by rfl) (hst : (assignEach es X.env).findIdx? (·.1) = none := by rfl) : SG X tvs (.Tuple es k pos) (gT n gs) := by
  refine PG.imp (pg_tup hc h hn hst) fun v σV H Q h => ?_
  obtain ⟨F, I, ρ, σ, S, d, σ', rb, r, e, q⟩ := h
  unfold gT at e
  split at e
  · rename_i ws
    split at e
    · rename_i hl
      cases r with
      | tup ht hr => exact ⟨_, _, rfl, rb.sub.sqT ht, by rw [hr.length]; exact hl, F, I, ρ, σ, S, ws, σ', rb, hr, e, q⟩
    · cases e
  · cases e
def sAsg (g : DG) (f : DE) : DS := fun σ S => (dV f σ S).bind fun w σ S => (match g w σ with
  | some σ' => .ok .next σ' S
  | none => .fail)
theorem cs_asg {fr : Bool} {tg e : Expr} {pos : Pos} {f : DE} {g : DG} (hg : SG X tvs tg g) (h : SE X Wx e f) (hs : swapsWithSole [tg] e pos.line X.env = pure false := by rfl) (hw : swappedStores [tg] e X.env = pure none := by rfl) (h1 : (assignEach [tg] X.env).map (·.2) = [assign tg X.env] := by rfl) : SS fr X Wx (.Assign [tg] e pos) (sAsg g f) := by
  refine PS.imp (ps_asg (c_v h) hg hs hw h1) fun D σV H h => ?_
  obtain ⟨F, I, ρ, σ, S, rb, h⟩ := h
  refine ⟨F, I, ρ, σ, S, rb, postS_bind h fun I1 ρ1 σ1 S1 H1 x v1 _ g1 rb1 t1 h1 => ?_⟩
  split at h1
  · rename_i σ' e
    exact ⟨F, I1, ρ1, σ1, S1, x, σ', rb1, t1, e, fun σV' _ rb' => h1 I1 ρ1 H1 σV' Gr.refl rb'⟩
  · exact h1.elim
def Walks (K : PySem.W.Frag) (F I : Hp) (ρ : List Addr) (J : It) (items : List D) : Prop := ∀ (I2 : Hp) (ρ2 : List Addr) (S2 : Sto) (H2 : Hp) (σV2 : L2.St) (σ2 : Sl), Gr ρ I ρ2 I2 → RB K F I2 ρ2 S2 H2 σV2 σ2 →
  (∀ (i : Nat) (d : D), items[i]? = some d → J.go i H2 ∧ ∀ x H3, J.yld i H2 x H3 → ∃ I3, Gr ρ2 I2 ρ2 I3 ∧ RB K F I3 ρ2 S2 H3 σV2 σ2 ∧ Rep K ρ2 I3 x d) ∧ J.stop items.length H2
abbrev DI := Sl → Sto → Res (List D)
def postI (K : PySem.W.Frag) (Wx : WX) (F I : Hp) (ρ : List Addr) (σV : L2.St) (r : Res (List D)) (R : It → Hp → Prop) : Prop := match r with
  | .ok items σ' S' => ∀ I' ρ' H' J, Gr ρ I ρ' I' → RB K F I' ρ' S' H' σV σ' → (∀ F', (∀ a o, F a = some o → F' a = some o) → Walks K F' I' ρ' J items) → R J H'
  | .exc e σ' S' => ∀ I' ρ' H' d, Gr ρ I ρ' I' → RB K F I' ρ' S' H' σV σ' → ExcAt e d I' → Wx (.ref (ca K e.c)) d σV H'
  | .fail => False
def semI (K : PySem.W.Frag) (Wx : WX) (f : DI) : TI := fun σV H R => ∃ F I ρ σ S, RB K F I ρ S H σV σ ∧ postI K Wx F I ρ σV (f σ S) R
abbrev SI (X : Cx) (Wx : WX) (tg iter : Expr) (f : DI) : Prop := PI X tg iter (semI X.K Wx f)
theorem postI_gr {K : PySem.W.Frag} {F I : Hp} {ρ : List Addr} {σV : L2.St} {r : Res (List D)} {R : It → Hp → Prop} {I1 : Hp} {ρ1 : List Addr} (g : Gr ρ I ρ1 I1) (h : postI K Wx F I ρ σV r R) : postI K Wx F I1 ρ1 σV r R := by
  cases r with
  | ok a σ S => exact fun I' ρ' H' b g' => h I' ρ' H' b (g.trans g')
  | exc e σ S => exact fun I' ρ' H' d g' => h I' ρ' H' d (g.trans g')
  | fail => exact h
theorem postI_bind {K : PySem.W.Frag} {F I : Hp} {ρ : List Addr} {σV : L2.St} {α β : Type} {T : List Addr → Hp → L2.St → β → α → Prop} {r : Res α} {k : α → Sl → Sto → Res (List D)} {R : It → Hp → Prop} {Q1 : β → Hp → Prop}
    (h : postI K Wx F I ρ σV (r.bind k) R)
    (q : ∀ I1 ρ1 σ1 S1 H1 a b, r = .ok a σ1 S1 → Gr ρ I ρ1 I1 → RB K F I1 ρ1 S1 H1 σV σ1 → T ρ1 I1 σV b a → postI K Wx F I1 ρ1 σV (k a σ1 S1) R → Q1 b H1) : postR K Wx T F I ρ σV r Q1 := by
  cases r with
  | ok a σ S => exact fun I' ρ' H' b g rb t => q I' ρ' σ S H' a b rfl g rb t (postI_gr g h)
  | exc e σ S => exact h
  | fail => exact h
def iLst (f : DE) : DI := fun σ S => (dV f σ S).bind fun x σ S => match x with
  | .lst ws => .ok ws σ S
  | _ => .fail
theorem walks_list {K : PySem.W.Frag} {I : Hp} {ρ : List Addr} {a : Addr} {vs : List V} {ws : List D} (h : I a = some (.lst vs)) (r : Reps K ρ I vs ws) : ∀ F, Walks K F I ρ (Itl K a) ws := fun F I2 ρ2 S2 H2 σV2 σ2 g rb => by
  have ha : SqL K H2 a vs := rb.sub.sqL (.inl (.inl (g.ex _ _ h)))
  refine ⟨fun i d hd => ?_, vs, ha, by rw [r.length]; exact Nat.le_refl _⟩
  obtain ⟨v, hv, rv⟩ := r.get hd
  refine ⟨⟨vs, v, ha, hv⟩, fun x H3 y => ?_⟩
  obtain ⟨rfl, y⟩ := y
  have := y vs ha
  rw [hv] at this
  cases this
  exact ⟨I2, Gr.refl, rb, rv.gr g⟩
def iTup (f : DE) : DI := fun σ S => (dV f σ S).bind fun x σ S => match x with
  | .tup ws => .ok ws σ S
  | _ => .fail
theorem walks_tup {K : PySem.W.Frag} {I : Hp} {ρ : List Addr} {a : Addr} {vs : List V} {ws : List D} (h : SqT K I a vs) (r : Reps K ρ I vs ws) : ∀ F, Walks K F I ρ (Itt K a) ws := fun F I2 ρ2 S2 H2 σV2 σ2 g rb => by
  have ha : SqT K H2 a vs := rb.sub.sqT (SqT.gr g h)
  refine ⟨fun i d hd => ?_, vs, ha, by rw [r.length]; exact Nat.le_refl _⟩
  obtain ⟨v, hv, rv⟩ := r.get hd
  refine ⟨⟨vs, v, ha, hv⟩, fun x H3 y => ?_⟩
  obtain ⟨rfl, y⟩ := y
  have := y vs ha
  rw [hv] at this
  cases this
  exact ⟨I2, Gr.refl, rb, rv.gr g⟩
theorem ci_list {tg e : Expr} {f : DE} (h : SE X Wx e f) : SI X Wx tg e (iLst f) := by
  refine PI.imp (pi_list (c_v h)) fun σV H R h => ?_
  obtain ⟨F, I, ρ, σ, S, rb, h⟩ := h
  refine ⟨F, I, ρ, σ, S, rb, postI_bind h fun I1 ρ1 σ1 S1 H1 x v1 _ g1 rb1 t1 h1 => ?_⟩
  cases t1 with
  | lst hl hr => exact ⟨_, rfl, ⟨_, rb1.sub.sqL (.inl (.inl hl))⟩, h1 I1 ρ1 H1 _ Gr.refl rb1 fun F' _ => walks_list hl hr F'⟩
  | _ => exact h1.elim
theorem ci_tup {tg e : Expr} {f : DE} (h : SE X Wx e f) : SI X Wx tg e (iTup f) := by
  refine PI.imp (pi_tup (c_v h)) fun σV H R h => ?_
  obtain ⟨F, I, ρ, σ, S, rb, h⟩ := h
  refine ⟨F, I, ρ, σ, S, rb, postI_bind h fun I1 ρ1 σ1 S1 H1 x v1 _ g1 rb1 t1 h1 => ?_⟩
  cases t1 with
  | tup hl hr => exact ⟨_, rfl, ⟨_, rb1.sub.sqT hl.sq⟩, h1 I1 ρ1 H1 _ Gr.refl rb1 fun F' _ => walks_tup hl.sq hr F'⟩
  | _ => exact h1.elim
def signs (x : Str) : List D := x.cps.toList.map fun c => .str ⟨#[c]⟩
def iStr (f : DE) : DI := fun σ S => (dV f σ S).bind fun x σ S => match x with
  | .str z => .ok (signs z) σ S
  | _ => .fail
theorem ci_str {tg e : Expr} {f : DE} (h : SE X Wx e f) : SI X Wx tg e (iStr f) := by
  refine PI.imp (pi_str (c_v h)) fun σV H R h => ?_
  obtain ⟨F, I, ρ, σ, S, rb, h⟩ := h
  refine ⟨F, I, ρ, σ, S, rb, postI_bind h fun I1 ρ1 σ1 S1 H1 x v1 _ g1 rb1 t1 h1 => ?_⟩
  cases t1 with
  | @str z =>
    refine ⟨z, rfl, h1 I1 ρ1 H1 _ Gr.refl rb1 fun F' _ I2 ρ2 S2 H2 σV2 σ2 g rb => ⟨fun i d hd => ?_, by unfold signs; rw [List.length_map, Array.length_toList]; exact Nat.le_refl _⟩⟩
    unfold signs at hd
    rw [List.getElem?_map] at hd
    obtain ⟨c, hc, rfl⟩ := Option.map_eq_some_iff.mp hd
    rw [Array.getElem?_toList] at hc
    refine ⟨(Array.getElem?_eq_some_iff.mp hc).1, fun x H3 y => ?_⟩
    obtain ⟨rfl, c', hc', rfl⟩ := y
    rw [hc] at hc'
    cases hc'
    exact ⟨I2, Gr.refl, rb, .str⟩
  | _ => exact h1.elim
def ran (lo hi : Int) : List D := (List.range (hi - lo).toNat).map fun k => .int (lo + (k : Nat))
def small (i : Int) : Prop := -(2 ^ 62) ≤ i ∧ i < 2 ^ 62
instance (i : Int) : Decidable (small i) := by unfold small; infer_instance
def iRan1 (f : DE) : DI := fun σ S => (f σ S).bind fun x σ S => match x with
  | .int j => if small j then .ok (ran 0 j) σ S else .fail
  | _ => .fail
theorem walks_ran {K : PySem.W.Frag} {F I : Hp} {ρ : List Addr} (lo hi : Int) : Walks K F I ρ (Itr lo (hi - lo).toNat) (ran lo hi) := fun I2 ρ2 S2 H2 σV2 σ2 g rb => by
  refine ⟨fun i d hd => ?_, by unfold ran; rw [List.length_map, List.length_range]; exact Nat.le_refl _⟩
  unfold ran at hd
  rw [List.getElem?_map] at hd
  obtain ⟨k, hk, rfl⟩ := Option.map_eq_some_iff.mp hd
  have hlt : i < (hi - lo).toNat := by
    have := (List.getElem?_eq_some_iff.mp hk).1
    rw [List.length_range] at this
    exact this
  rw [List.getElem?_range hlt] at hk
  cases hk
  refine ⟨hlt, fun x H3 y => ?_⟩
  obtain ⟨rfl, rfl⟩ := y
  exact ⟨I2, Gr.refl, rb, .int⟩
theorem ci_ran1 {tg a : Expr} {p pos : Pos} {f : DE} (hm : X.mg "range" = none) (h : SE X Wx a f) (hg : Gl X "range" := by rfl) (hs : starEach [a] X.env = [(false, eval a X.env)] := by rfl) : SI X Wx tg (.Call (.Name "range" p) [a] [] pos) (iRan1 f) := by
  refine PI.imp (pi_range1 hg hm (pa_cons h pa_nil hs) hs) fun σV H R h => ?_
  obtain ⟨F, I, ρ, σ, S, rb, h⟩ := h
  refine ⟨F, I, ρ, σ, S, rb, postI_bind h fun I1 ρ1 σ1 S1 H1 x v1 er1 g1 rb1 t1 h1 => ?_⟩
  split at h1
  · rename_i j
    split at h1
    · rename_i hj
      rcases t1 with ⟨i, q, _⟩ | t1
      · cases q
      · cases t1
        refine ⟨j, rfl, hj.1, hj.2, ?_⟩
        have w : ∀ F', Walks X.K F' I1 ρ1 (Itr 0 j.toNat) (ran 0 j) := fun F' => by
          have := walks_ran (K := X.K) (F := F') (I := I1) (ρ := ρ1) 0 j
          rw [Int.sub_zero] at this
          exact this
        exact h1 I1 ρ1 H1 _ Gr.refl rb1 fun F' _ => w F'
    · exact h1.elim
  · exact h1.elim
def pairs : List D → List D → List D
  | x :: xs, y :: ys => .tup [x, y] :: pairs xs ys
  | _, _ => []
def iZip (f g : DE) : DI := fun σ S => (dV f σ S).bind fun x σ S => (dV g σ S).bind fun y σ S => match x, y with
  | .lst xs, .lst ys => .ok (pairs xs ys) σ S
  | .tup xs, .tup ys => .ok (pairs xs ys) σ S
  | _, _ => .fail
theorem pairs_get : ∀ {xs ys : List D} {i : Nat} {d : D}, (pairs xs ys)[i]? = some d → ∃ x y, xs[i]? = some x ∧ ys[i]? = some y ∧ d = .tup [x, y]
  | x :: xs, y :: ys, 0, d, h => by cases h; exact ⟨x, y, rfl, rfl, rfl⟩
  | x :: xs, y :: ys, i + 1, d, h => pairs_get (xs := xs) (ys := ys) (i := i) h
  | [], _, i, d, h => by simp [pairs] at h
  | _ :: _, [], i, d, h => by simp [pairs] at h
theorem pairs_len : ∀ (xs ys : List D), xs.length ≤ (pairs xs ys).length ∨ ys.length ≤ (pairs xs ys).length
  | x :: xs, y :: ys => by
    rcases pairs_len xs ys with h | h
    · exact .inl (Nat.succ_le_succ h)
    · exact .inr (Nat.succ_le_succ h)
  | [], _ => .inl (Nat.zero_le _)
  | _ :: _, [] => .inr (Nat.zero_le _)
theorem walks_zip {K : PySem.W.Frag} {I : Hp} {ρ : List Addr} {a b : Addr} {vs us : List V} {ws zs : List D} (h : I a = some (.lst vs)) (r : Reps K ρ I vs ws) (h' : I b = some (.lst us)) (r' : Reps K ρ I us zs) : ∀ F, Walks K F I ρ (Itz K a b) (pairs ws zs) := fun F I2 ρ2 S2 H2 σV2 σ2 g rb => by
  have ha : SqL K H2 a vs := rb.sub.sqL (.inl (.inl (g.ex _ _ h)))
  have hb : SqL K H2 b us := rb.sub.sqL (.inl (.inl (g.ex _ _ h')))
  refine ⟨fun i d hd => ?_, vs, us, ha, hb, by rw [r.length, r'.length]; exact pairs_len ws zs⟩
  obtain ⟨x, y, hx, hy, rfl⟩ := pairs_get hd
  obtain ⟨v, hv, rv⟩ := r.get hx
  obtain ⟨u, hu, ru⟩ := r'.get hy
  refine ⟨⟨vs, us, v, u, ha, hb, hv, hu⟩, fun z H3 q => ?_⟩
  obtain ⟨T, x', y', rfl, hT, rfl, q1, q2⟩ := q
  have e1 := q1 vs ha
  have e2 := q2 us hb
  rw [hv] at e1
  rw [hu] at e2
  cases e1; cases e2
  obtain ⟨g3, rb3⟩ := rb.new (o := .tup [v, u]) hT
  exact ⟨_, g3, rb3, .tup (.inl upd_same) (.cons ((rv.gr g).gr g3) (.cons ((ru.gr g).gr g3) .nil))⟩
theorem walks_zipT {K : PySem.W.Frag} {I : Hp} {ρ : List Addr} {a b : Addr} {vs us : List V} {ws zs : List D} (h : SqT K I a vs) (r : Reps K ρ I vs ws) (h' : SqT K I b us) (r' : Reps K ρ I us zs) : ∀ F, Walks K F I ρ (RZ.ItzT K a b) (pairs ws zs) := fun F I2 ρ2 S2 H2 σV2 σ2 g rb => by
  have ha : SqT K H2 a vs := rb.sub.sqT (SqT.gr g h)
  have hb : SqT K H2 b us := rb.sub.sqT (SqT.gr g h')
  refine ⟨fun i d hd => ?_, vs, us, ha, hb, by rw [r.length, r'.length]; exact pairs_len ws zs⟩
  obtain ⟨x, y, hx, hy, rfl⟩ := pairs_get hd
  obtain ⟨v, hv, rv⟩ := r.get hx
  obtain ⟨u, hu, ru⟩ := r'.get hy
  refine ⟨⟨vs, us, v, u, ha, hb, hv, hu⟩, fun z H3 q => ?_⟩
  obtain ⟨T, x', y', rfl, hT, rfl, q1, q2⟩ := q
  have e1 := q1 vs ha
  have e2 := q2 us hb
  rw [hv] at e1
  rw [hu] at e2
  cases e1; cases e2
  obtain ⟨g3, rb3⟩ := rb.new (o := .tup [v, u]) hT
  exact ⟨_, g3, rb3, .tup (.inl upd_same) (.cons ((rv.gr g).gr g3) (.cons ((ru.gr g).gr g3) .nil))⟩
theorem ci_zip {elts : List Expr} {kk : Nat} {tpos : Pos} {a b : Expr} {p pos : Pos} {f g : DE} (hm : X.mg "zip" = none) (h : SE X Wx a f) (k : SE X Wx b g) (hg : Gl X "zip" := by rfl) (hs : starEach [a, b] X.env = (false, eval a X.env) :: starEach [b] X.env := by rfl) (hs2 : starEach [b] X.env = (false, eval b X.env) :: starEach [] X.env := by rfl) (hpl : (backTo pos (starEach [b] X.env)).any (·.1) = false := by rfl) :
    SI X Wx (.Tuple elts kk tpos) (.Call (.Name "zip" p) [a, b] [] pos) (iZip f g) := by
  refine PI.imp (RZ.pi_zipA hg hm (pa_cons (c_v h) (pa_cons (c_v k) pa_nil hs2) hs) hs hpl) fun σV H R h => ?_
  obtain ⟨F, I, ρ, σ, S, rb, h⟩ := h
  refine ⟨F, I, ρ, σ, S, rb, postI_bind h fun I1 ρ1 σ1 S1 H1 x v1 _ g1 rb1 t1 h1 => ?_⟩
  refine ⟨F, I1, ρ1, σ1, S1, rb1, postI_bind h1 fun I2 ρ2 σ2 S2 H2 y v2 _ g2 rb2 t2 h2 => ?_⟩
  have t1 := t1.gr g2
  split at h2
  · cases t1 with
    | lst q1 r1 => cases t2 with
      | lst q2 r2 => exact ⟨_, _, _, _, rfl, .inl ⟨rb2.sub.sqL (.inl (.inl q1)), rb2.sub.sqL (.inl (.inl q2)), h2 I2 ρ2 H2 _ Gr.refl rb2 fun F' _ => walks_zip q1 r1 q2 r2 F'⟩⟩
  · cases t1 with
    | tup q1 r1 => cases t2 with
      | tup q2 r2 => exact ⟨_, _, _, _, rfl, .inr ⟨rb2.sub.sqT q1.sq, rb2.sub.sqT q2.sq, h2 I2 ρ2 H2 _ Gr.refl rb2 fun F' _ => walks_zipT q1.sq r1 q2.sq r2 F'⟩⟩
  · exact h2.elim
def enum (lo : Int) : List D → List D
  | [] => []
  | d :: ds => .tup [.int lo, d] :: enum (lo + 1) ds
def iEnum (f : DE) : DI := fun σ S => (dV f σ S).bind fun x σ S => match x with
  | .lst xs => .ok (enum 0 xs) σ S
  | _ => .fail
theorem enum_get : ∀ {xs : List D} {lo : Int} {i : Nat} {d : D}, (enum lo xs)[i]? = some d → ∃ x, xs[i]? = some x ∧ d = .tup [.int (lo + (i : Nat)), x]
  | x :: xs, lo, 0, d, h => by cases h; exact ⟨x, rfl, by simp⟩
  | x :: xs, lo, i + 1, d, h => by
    obtain ⟨y, hy, rfl⟩ := enum_get (xs := xs) (lo := lo + 1) (i := i) h
    exact ⟨y, hy, by congr 3; omega⟩
  | [], lo, i, d, h => by simp [enum] at h
theorem enum_len : ∀ (xs : List D) (lo : Int), (enum lo xs).length = xs.length
  | [], _ => rfl
  | _ :: xs, lo => congrArg (· + 1) (enum_len xs (lo + 1))
def forL (g : DG) (f : DS) : List D → DS
  | [] => fun σ S => .ok .next σ S
  | d :: ds => fun σ S => match g d σ with
    | none => .fail
    | some σ => (f σ S).bind fun x σ S => (match x with
      | .next => forL g f ds σ S
      | .cnt => forL g f ds σ S
      | .brk => .ok .next σ S
      | .ret w => .ok (.ret w) σ S)
def sFor (it : DI) (g : DG) (f : DS) : DS := fun σ S => (it σ S).bind fun ds σ S => forL g f ds σ S
theorem cs_for {fr : Bool} {tg iter : Expr} {body : List Stmt} {pos : Pos} {it : DI} {g : DG} {f : DS} (hp : PassesOwn (model X.prog X.w) X.A X.env X.xe) (hi : SI X Wx tg iter it) (hg : SG X tvs tg g) (hb : SSs fr X Wx body f) (hc : X.calm = true := by rfl) (hs : ∀ x, foldedSetIterable iter X.env x = pure x := by intro _; rfl) : SS fr X Wx (.For tg iter body [] pos) (sFor it g f) := by
  refine PS.imp (ps_for hp hc hi hg hb hs) fun D σV H h => ?_
  obtain ⟨F, I, ρ, σ, S, rb, h⟩ := h
  refine ⟨F, I, ρ, σ, S, rb, ?_⟩
  unfold sFor at h
  cases e : it σ S with
  | exc a σ' S' => rw [e] at h; exact fun I' ρ' H' d => h I' ρ' H' d σV
  | fail => rw [e] at h; exact h
  | ok items σ' S' =>
    rw [e] at h
    intro I' ρ' H' J g' rb' wk
    have wk := wk F fun _ _ z => z
    have h : postS fr X.K Wx F I' ρ' (forL g f items σ' S') D := postS_gr g' h
    refine ⟨fun i m σV H => i + m = items.length ∧ ∃ I2 ρ2 σ2 S2, Gr ρ' I' ρ2 I2 ∧ RB X.K F I2 ρ2 S2 H σV σ2 ∧ postS fr X.K Wx F I2 ρ2 (forL g f (items.drop i) σ2 S2) D, ⟨items.length, Nat.zero_add _, I', ρ', σ', S', Gr.refl, rb', h⟩, ?_⟩
    intro i m σV2 H2 ⟨hm, I2, ρ2, σ2, S2, g2, rb2, h2⟩
    obtain ⟨w1, w2⟩ := wk I2 ρ2 S2 H2 σV2 σ2 g2 rb2
    cases m with
    | zero =>
      have hi : i = items.length := hm
      subst hi
      rw [List.drop_length] at h2
      exact .inl ⟨w2, h2 I2 ρ2 H2 σV2 Gr.refl rb2⟩
    | succ m =>
      have lt : i < items.length := by omega
      rw [List.drop_eq_getElem_cons lt] at h2
      obtain ⟨go, yl⟩ := w1 i items[i] (List.getElem?_eq_getElem lt)
      refine .inr ⟨go, fun σV3 H3 => i + 1 + m = items.length ∧ ∃ I2 ρ2 σ2 S2, Gr ρ' I' ρ2 I2 ∧ RB X.K F I2 ρ2 S2 H3 σV3 σ2 ∧ postS fr X.K Wx F I2 ρ2 (forL g f (items.drop (i + 1)) σ2 S2) D, fun σ' H' q => ⟨m, Nat.lt_succ_self m, q⟩, fun x H3 y => ?_⟩
      obtain ⟨I3, g3, rb3, r3⟩ := yl x H3 y
      unfold forL at h2
      split at h2
      · exact h2.elim
      · rename_i σ3 e3
        refine ⟨F, I3, ρ2, σ2, S2, items[i], σ3, rb3, r3, e3, fun σV4 _ rb4 => ⟨F, I3, ρ2, σ3, S2, rb4, ?_⟩⟩
        have h3 := postS_gr g3 h2
        cases e4 : f σ3 S2 with
        | ok a σ5 S5 =>
          rw [e4] at h3
          cases a with
          | next => exact fun I6 ρ6 H6 σV6 g6 rb6 => ⟨by omega, I6, ρ6, σ5, S5, ((g2.trans g3).trans g6), rb6, postS_gr g6 h3⟩
          | cnt => exact fun I6 ρ6 H6 σV6 g6 rb6 => ⟨by omega, I6, ρ6, σ5, S5, ((g2.trans g3).trans g6), rb6, postS_gr g6 h3⟩
          | brk => exact h3
          | ret w => exact h3
        | exc a σ5 S5 => rw [e4] at h3; exact h3
        | fail => rw [e4] at h3; exact h3
end
end MR
set_option Elab.async false
set_option linter.all false
set_option maxRecDepth 100000
namespace MR
open PySem PySem.Spec PyProof.Rows L2
def wipeD (σ : Sl) : List Nat → Sl
  | [] => σ
  | v :: vs => (wipeD σ vs).set v .emp
def restD (σ0 σ : Sl) : List Nat → Sl
  | [] => σ
  | v :: vs => (restD σ0 σ vs).set v ((σ0[v]?).getD .emp)
def noOwn (σ : Sl) (vs : List Nat) : Bool := vs.all fun i => match σ[i]? with
  | some (.own _) => false
  | _ => true
theorem wipeD_len (σ : Sl) : ∀ vs : List Nat, (wipeD σ vs).length = σ.length
  | [] => rfl
  | v :: vs => by unfold wipeD; rw [List.length_set, wipeD_len σ vs]
theorem restD_len (σ0 σ : Sl) : ∀ vs : List Nat, (restD σ0 σ vs).length = σ.length
  | [] => rfl
  | v :: vs => by unfold restD; rw [List.length_set, restD_len σ0 σ vs]
theorem setAt {α : Type} (l : List α) (v j : Nat) (f : Nat → α) : (l.set v (f v))[j]? = if j = v then (l[j]?).map (fun _ => f j) else l[j]? := by
  by_cases e : j = v
  · subst e
    rw [if_pos rfl]
    by_cases lt : j < l.length
    · rw [List.getElem?_set_self lt, List.getElem?_eq_getElem lt]; rfl
    · rw [List.getElem?_eq_none (by rw [List.length_set]; omega), List.getElem?_eq_none (by omega)]; rfl
  · rw [if_neg e, List.getElem?_set_ne (Ne.symm e)]
theorem wipeD_get (σ : Sl) : ∀ (vs : List Nat) (j : Nat), (wipeD σ vs)[j]? = if j ∈ vs then (σ[j]?).map (fun _ => Slot.emp) else σ[j]?
  | [], j => by simp [wipeD]
  | v :: vs, j => by
    unfold wipeD
    rw [setAt (wipeD σ vs) v j (fun _ => Slot.emp), wipeD_get σ vs j]
    by_cases e : j = v
    · subst e
      rw [if_pos rfl, if_pos (List.mem_cons_self ..)]
      split
      · rw [Option.map_map]; rfl
      · rfl
    · rw [if_neg e]
      by_cases h : j ∈ vs
      · rw [if_pos h, if_pos (List.mem_cons_of_mem _ h)]
      · rw [if_neg h, if_neg (fun z => (List.mem_cons.mp z).elim e h)]
theorem restD_get (σ0 σ : Sl) : ∀ (vs : List Nat) (j : Nat), (restD σ0 σ vs)[j]? = if j ∈ vs then (σ[j]?).map (fun _ => (σ0[j]?).getD .emp) else σ[j]?
  | [], j => by simp [restD]
  | v :: vs, j => by
    unfold restD
    rw [setAt (restD σ0 σ vs) v j (fun v => (σ0[v]?).getD .emp), restD_get σ0 σ vs j]
    by_cases e : j = v
    · subst e
      rw [if_pos rfl, if_pos (List.mem_cons_self ..)]
      split
      · rw [Option.map_map]; rfl
      · rfl
    · rw [if_neg e]
      by_cases h : j ∈ vs
      · rw [if_pos h, if_pos (List.mem_cons_of_mem _ h)]
      · rw [if_neg h, if_neg (fun z => (List.mem_cons.mp z).elim e h)]
section
variable {K : PySem.W.Frag} {F I : Hp} {ρ : List Addr} {S : Sto} {H : Hp} {σV : L2.St} {σ : Sl}
theorem RB.wipe (rb : RB K F I ρ S H σV σ) (vs : List Nat) : RB K F I ρ S H (L2.wipe σV vs) (wipeD σ vs) := by
  have own : ∀ {i : Nat} {c : D}, (wipeD σ vs)[i]? = some (.own c) → i ∉ vs ∧ σ[i]? = some (.own c) := fun {i c} h => by
    rw [wipeD_get] at h
    split at h
    · obtain ⟨_, _, e⟩ := Option.map_eq_some_iff.mp h
      cases e
    · rename_i hi; exact ⟨hi, h⟩
  refine ⟨rb.fr, rb.sub, rb.dis, rb.store, rb.nd, rb.rl, by rw [wipeD_len, wipe_length]; exact rb.len, fun i s h => ?_, fun i j c c' v h1 h2 h3 h4 => ?_⟩
  · rw [wipeD_get] at h
    split at h
    · obtain ⟨_, _, e⟩ := Option.map_eq_some_iff.mp h
      subst e
      trivial
    · rename_i hi
      have e : (L2.wipe σV vs)[i]? = σV[i]? := by rw [wipe_get, if_neg hi]
      have q := rb.slot i s h
      cases s with
      | emp => trivial
      | exn b => first | exact q | exact (List.getElem?_set_ne e).trans q | exact e.trans q
      | exx b d n => first | exact q | exact ⟨(List.getElem?_set_ne e).trans q.1, q.2⟩ | exact ⟨e.trans q.1, q.2⟩ | exact ⟨q.1, g.ex _ _ q.2⟩ | exact ⟨(List.getElem?_set_ne e).trans q.1, g.ex _ _ q.2⟩ | exact ⟨e.trans q.1, g.ex _ _ q.2⟩
      | val w => obtain ⟨v, hv, r⟩ := q; exact ⟨v, e.trans hv, r⟩
      | own c => obtain ⟨a, ha, q⟩ := q; exact ⟨a, e.trans ha, q⟩
  · obtain ⟨n1, h1⟩ := own h1
    obtain ⟨n2, h2⟩ := own h2
    rw [wipe_get, if_neg n1] at h3
    rw [wipe_get, if_neg n2] at h4
    exact rb.inj i j c c' v h1 h2 h3 h4
theorem RB.unwipe {I' : Hp} {ρ' : List Addr} {S' : Sto} {H' : Hp} {σ' : Sl} {vs : List Nat} (rb : RB K F I ρ S H σV σ) (g : Gr ρ I ρ' I') (no : noOwn σ vs = true) (rb' : RB K F I' ρ' S' H' (L2.wipe σV vs) σ') : RB K F I' ρ' S' H' σV (restD σ σ' vs) := by
  have own : ∀ {i : Nat} {c : D}, (restD σ σ' vs)[i]? = some (.own c) → i ∉ vs ∧ σ'[i]? = some (.own c) := fun {i c} h => by
    rw [restD_get] at h
    split at h
    · rename_i hi
      obtain ⟨_, _, e⟩ := Option.map_eq_some_iff.mp h
      have q := List.all_eq_true.mp no i hi
      cases z : σ[i]? with
      | none => rw [z] at e; cases e
      | some s =>
        rw [z] at e q
        have e2 : s = .own c := e
        subst e2
        cases q
    · rename_i hi; exact ⟨hi, h⟩
  refine ⟨rb'.fr, rb'.sub, rb'.dis, rb'.store, rb'.nd, rb'.rl, by rw [restD_len]; exact rb'.len.trans (wipe_length _ _), fun i s h => ?_, fun i j c c' v h1 h2 h3 h4 => ?_⟩
  · cases s with
    | emp => trivial
    | exn b =>
      rw [restD_get] at h
      split at h
      · rename_i hi
        obtain ⟨_, _, e⟩ := Option.map_eq_some_iff.mp h
        cases z : σ[i]? with
        | none => rw [z] at e; cases e
        | some s =>
          rw [z] at e
          have e2 : s = .exn b := e
          subst e2
          exact rb.slot i _ z
      · rename_i hi
        have hv : (L2.wipe σV vs)[i]? = some (some (.ref b)) := rb'.slot i _ h
        rw [wipe_get, if_neg hi] at hv
        exact hv
    | exx b dd nn =>
      rw [restD_get] at h
      split at h
      · rename_i hi
        obtain ⟨_, _, e⟩ := Option.map_eq_some_iff.mp h
        cases z : σ[i]? with
        | none => rw [z] at e; cases e
        | some s =>
          rw [z] at e
          have e2 : s = .exx b dd nn := e
          subst e2
          obtain ⟨q1, q2⟩ := rb.slot i _ z
          exact ⟨q1, g.ex _ _ q2⟩
      · rename_i hi
        obtain ⟨hv, q2⟩ := rb'.slot i _ h
        rw [wipe_get, if_neg hi] at hv
        exact ⟨hv, q2⟩
    | own c =>
      obtain ⟨hi, h⟩ := own h
      obtain ⟨a, ha, q⟩ := rb'.slot i _ h
      rw [wipe_get, if_neg hi] at ha
      exact ⟨a, ha, q⟩
    | val w =>
      rw [restD_get] at h
      split at h
      · rename_i hi
        obtain ⟨_, _, e⟩ := Option.map_eq_some_iff.mp h
        cases z : σ[i]? with
        | none => rw [z] at e; cases e
        | some s =>
          rw [z] at e
          have e2 : s = .val w := e
          subst e2
          obtain ⟨v, hv, r⟩ := rb.slot i _ z
          exact ⟨v, hv, r.gr g⟩
      · rename_i hi
        obtain ⟨v, hv, r⟩ := rb'.slot i _ h
        rw [wipe_get, if_neg hi] at hv
        exact ⟨v, hv, r⟩
  · obtain ⟨n1, h1⟩ := own h1
    obtain ⟨n2, h2⟩ := own h2
    refine rb'.inj i j c c' v h1 h2 ?_ ?_
    · rw [wipe_get, if_neg n1]; exact h3
    · rw [wipe_get, if_neg n2]; exact h4
theorem RB.addF (rb : RB K F I ρ S H σV σ) {p : Addr} {o : HO} (hp : H p = none) : RB K (upd F p o) I ρ S (upd H p o) σV σ := by
  obtain ⟨rb2, nf, ni, nr, no⟩ := rb.newO (o := o) hp
  refine ⟨fun a u h => ?_, rb2.sub, fun a u h => ?_, fun r ob h => ?_, rb2.nd, rb2.rl, rb2.len, fun i s h => ?_, rb2.inj⟩
  · by_cases e : a = p
    · subst e; rw [upd_same] at h ⊢; exact h
    · rw [upd_ne e] at h; exact rb2.fr a u h
  · by_cases e : a = p
    · subst e; exact fun _ => ni
    · rw [upd_ne e] at h; exact rb2.dis a u h
  · obtain ⟨a, ha, hf, hi, hc⟩ := rb2.store r ob h
    have n : a ≠ p := fun e => nr (e ▸ List.mem_of_getElem? ha)
    exact ⟨a, ha, hf.mono (fun z => by rw [upd_ne n]; exact z) (fun _ _ z => by rw [upd_ne n]; exact z), hi, hc⟩
  · have q := rb2.slot i s h
    cases s with
    | emp => trivial
    | exn b => first | exact q | exact (List.getElem?_set_ne e).trans q | exact e.trans q
    | exx b d n => first | exact q | exact ⟨(List.getElem?_set_ne e).trans q.1, q.2⟩ | exact ⟨e.trans q.1, q.2⟩ | exact ⟨q.1, g.ex _ _ q.2⟩ | exact ⟨(List.getElem?_set_ne e).trans q.1, g.ex _ _ q.2⟩ | exact ⟨e.trans q.1, g.ex _ _ q.2⟩
    | val w => exact q
    | own c =>
      obtain ⟨a, ha, hf, hi, hr, ho⟩ := q
      have n : a ≠ p := fun e => no i c h (e ▸ ha)
      exact ⟨a, ha, by rw [upd_ne n]; exact hf, hi, hr, ho⟩
theorem RB.delF {p : Addr} {o : HO} (rb : RB K (upd F p o) I ρ S H σV σ) (hp : F p = none) (nz : ∀ ob u, o ≠ .frz ob u) (nt : ∀ vs, o ≠ .tup vs) : RB K F I ρ S H σV σ ∧ I p = none ∧ p ∉ ρ ∧ NoOwn σV σ p ∧ H p = some o := by
  have k : ∀ a u, F a = some u → upd F p o a = some u := fun a u h => by rw [upd_ne (ne_of_none h hp)]; exact h
  have kn : ∀ a, upd F p o a = none → F a = none ∧ a ≠ p := fun a h => by
    have n : a ≠ p := fun e => by subst e; rw [upd_same] at h; cases h
    rw [upd_ne n] at h
    exact ⟨h, n⟩
  refine ⟨⟨fun a u h => rb.fr a u (k a u h), rb.sub, fun a u h => rb.dis a u (k a u h), fun r ob h => ?_, rb.nd, rb.rl, rb.len, fun i s h => ?_, rb.inj⟩, rb.dis p o upd_same nt, fun hm => ?_, fun i c h1 h2 => ?_, rb.fr p o upd_same⟩
  · obtain ⟨a, ha, hf, hi, hc⟩ := rb.store r ob h
    refine ⟨a, ha, hf.mono (fun z => (kn a z).1) (fun ob u z => ?_), hi, hc⟩
    by_cases e : a = p
    · subst e; rw [upd_same] at z; cases z; exact absurd rfl (nz _ _)
    · rw [upd_ne e] at z; exact z
  · have q := rb.slot i s h
    cases s with
    | emp => trivial
    | exn b => first | exact q | exact (List.getElem?_set_ne e).trans q | exact e.trans q
    | exx b d n => first | exact q | exact ⟨(List.getElem?_set_ne e).trans q.1, q.2⟩ | exact ⟨e.trans q.1, q.2⟩ | exact ⟨q.1, g.ex _ _ q.2⟩ | exact ⟨(List.getElem?_set_ne e).trans q.1, g.ex _ _ q.2⟩ | exact ⟨e.trans q.1, g.ex _ _ q.2⟩
    | val w => exact q
    | own c =>
      obtain ⟨a, ha, hf, q⟩ := q
      exact ⟨a, ha, (kn a hf).1, q⟩
  · obtain ⟨r, hr⟩ := List.getElem?_of_mem hm
    have lt : r < S.length := by rw [← rb.rl]; exact (List.getElem?_eq_some_iff.mp hr).1
    obtain ⟨a, ha, hf, _⟩ := rb.store r _ (List.getElem?_eq_getElem lt)
    rw [hr] at ha
    cases ha
    obtain ⟨ob, u, e⟩ := hf.not upd_same
    exact nz _ _ e
  · obtain ⟨a, ha, hf, _⟩ := rb.slot i _ h1
    rw [h2] at ha
    cases ha
    exact (kn _ hf).2 rfl
theorem RB.fset {p : Addr} {o o' : HO} (rb : RB K (upd F p o) I ρ S H σV σ) (hp : F p = none) (nz : ∀ ob u, o ≠ .frz ob u) (nt : ∀ vs, o ≠ .tup vs) : RB K (upd F p o') I ρ S (upd H p o') σV σ := by
  obtain ⟨rb2, ni, nr, no, _⟩ := rb.delF hp nz nt
  have k : ∀ b u, b ≠ p → H b = some u → upd H p o' b = some u := fun b u n h => by rw [upd_ne n]; exact h
  refine ⟨fun a u h => ?_, fun a u h => ?_, fun a u h => ?_, fun r ob h => ?_, rb2.nd, rb2.rl, rb2.len, fun i s h => ?_, rb2.inj⟩
  · by_cases e : a = p
    · subst e; rw [upd_same] at h ⊢; exact h
    · rw [upd_ne e] at h; exact k a u e (rb2.fr a u h)
  · have n := ne_of_none h ni
    rcases rb2.sub a u h with q | ⟨d, ob, q⟩
    · exact .inl (k _ _ n q)
    · exact .inr ⟨d, ob, k _ _ n q⟩
  · by_cases e : a = p
    · subst e; exact fun _ => ni
    · rw [upd_ne e] at h; exact rb2.dis a u h
  · obtain ⟨a, ha, hf, hi, hc⟩ := rb2.store r ob h
    have n : a ≠ p := fun e => nr (e ▸ List.mem_of_getElem? ha)
    exact ⟨a, ha, hf.mono (fun z => by rw [upd_ne n]; exact z) (fun _ _ z => by rw [upd_ne n]; exact z), hi, hc.gr Gr.refl fun u => k a u n⟩
  · have q := rb2.slot i s h
    cases s with
    | emp => trivial
    | exn b => first | exact q | exact (List.getElem?_set_ne e).trans q | exact e.trans q
    | exx b d n => first | exact q | exact ⟨(List.getElem?_set_ne e).trans q.1, q.2⟩ | exact ⟨e.trans q.1, q.2⟩ | exact ⟨q.1, g.ex _ _ q.2⟩ | exact ⟨(List.getElem?_set_ne e).trans q.1, g.ex _ _ q.2⟩ | exact ⟨e.trans q.1, g.ex _ _ q.2⟩
    | val w => exact q
    | own c =>
      obtain ⟨a, ha, hf, hi, hr, ho⟩ := q
      have n : a ≠ p := fun e => no i c h (e ▸ ha)
      exact ⟨a, ha, by rw [upd_ne n]; exact hf, hi, hr, ho.gr Gr.refl fun u => k a u n⟩
end
def lcL (g : DG) (c : DT) (e : DE) (vs : List Nat) : List D → List D → Sl → Sto → Res (List D)
  | [], acc, σ, S => .ok acc σ S
  | d :: ds, acc, σ, S => match g d σ with
    | none => .fail
    | some σ1 => (c σ1 S).bind fun b σ2 S2 => if b = true then (dV e σ2 S2).bind fun w σ3 S3 => (if acc.length < most then lcL g c e vs ds (acc ++ [w]) (wipeD σ3 vs) S3 else .fail)
        else lcL g c e vs ds acc (wipeD σ2 vs) S2
def noX {α : Type} : Res α → Res α
  | .exc _ _ _ => .fail
  | r => r
def dLc (it : DI) (g : DG) (c : DT) (e : DE) (vs : List Nat) : DE := fun σ S => (it σ S).bind fun items σ S => if noOwn σ vs = true then (noX (lcL g c e vs items [] (wipeD σ vs) S)).bind fun ws σ' S' => .ok (.lst ws) (restD σ σ' vs) S' else .fail
def tTrue : DT := fun σ S => .ok true σ S
abbrev W0 : WX := fun _ _ _ _ => False
theorem takes0K {X : Cx} : Tk false X W0 := takes0
section
variable {X : Cx} {Wx : WX}
theorem cts_nil : PTs X [] (semT X.K Wx tTrue) := PTs.imp pts_nil fun σV H Q h => by
  obtain ⟨F, I, ρ, σ, S, rb, h⟩ := h
  exact h I ρ H true Gr.refl rb rfl
theorem cts_one {c : Expr} {t : DT} (h : ST X Wx c t) : PTs X [c] (semT X.K Wx t) := pts_one h
theorem sem_lc {own : List (Str × Nat)} {it : DI} {g : DG} {c : DT} {f : DE} {σV : L2.St} {H : Hp} {Q : VK} (h : semF X.K Wx (dLc it g c f (own.map (·.2))) σV H Q) : tLc (semI X.K Wx it) (semG X.K (own.map (·.2)) g) (semT X.K W0 c) (semV X.K W0 (dV f)) (own.map (·.2)) σV H Q := by
  obtain ⟨F, I, ρ, σ, S, rb, h⟩ := h
  refine ⟨F, I, ρ, σ, S, rb, ?_⟩
  unfold dLc at h
  generalize hvs : own.map (·.2) = vs at h ⊢
  cases e : it σ S with
  | exc a σ' S' => rw [e] at h; exact h
  | fail => rw [e] at h; exact h
  | ok items σ' S' =>
    rw [e] at h
    intro I' ρ' H' J g' rb' wk Dl hD
    have h : postF X.K Wx F I' ρ' σV (if noOwn σ' vs = true then (noX (lcL g c f vs items [] (wipeD σ' vs) S')).bind fun ws σ'' S'' => .ok (.lst ws) (restD σ' σ'' vs) S'' else .fail) Q := postF_gr g' h
    split at h
    case isFalse => exact h.elim
    case isTrue hno =>
    have hF : F Dl = none := by
      cases q : F Dl with
      | none => rfl
      | some o => have := rb'.fr _ _ q; rw [hD] at this; cases this
    have rb0 := rb'.wipe vs
    refine ⟨fun i m H => i + m = items.length ∧ ∃ I2 ρ2 σ2 S2 acc accV, Gr ρ' I' ρ2 I2 ∧ RB X.K (upd F Dl (.lst accV)) I2 ρ2 S2 H (L2.wipe σV vs) σ2 ∧ Reps X.K ρ2 I2 accV acc ∧
      postF X.K Wx F I2 ρ2 σV ((noX (lcL g c f vs (items.drop i) acc σ2 S2)).bind fun ws σ'' S'' => .ok (.lst ws) (restD σ' σ'' vs) S'') Q, ⟨items.length, Nat.zero_add _, I', ρ', wipeD σ' vs, S', [], [], Gr.refl, rb0.addF hD, .nil, h⟩, ?_⟩
    intro i m H2 ⟨hm, I2, ρ2, σ2, S2, acc, accV, g2, rb2, racc, h2⟩
    obtain ⟨w1, w2⟩ := wk (upd F Dl (.lst accV)) (fun a o q => by rw [upd_ne (ne_of_none q hF)]; exact q) I2 ρ2 S2 H2 _ σ2 g2 rb2
    cases m with
    | zero =>
      have hi : i = items.length := hm
      subst hi
      rw [List.drop_length] at h2
      have h2 : postF X.K Wx F I2 ρ2 σV (.ok (.lst acc) (restD σ' σ2 vs) S2) Q := h2
      obtain ⟨rb3, ni, nr, no, hH⟩ := rb2.delF hF (fun _ _ z => by cases z) (fun _ z => by cases z)
      have rb4 := rb'.unwipe g2 hno rb3
      refine .inl ⟨w2, h2 I2 ρ2 H2 _ Gr.refl rb4 (.inl ⟨Dl, rfl, hF, ni, nr, fun j cc q1 q2 => ?_, accV, hH, racc⟩)⟩
      obtain ⟨b, hb, hfb, hib, hrb, hob⟩ := rb4.slot j _ q1
      rw [q2] at hb
      cases hb
      rw [restD_get] at q1
      split at q1
      · rename_i hj
        obtain ⟨_, _, ee⟩ := Option.map_eq_some_iff.mp q1
        have qq := List.all_eq_true.mp hno j hj
        cases z : σ'[j]? with
        | none => rw [z] at ee; cases ee
        | some s =>
          rw [z] at ee qq
          have e2 : s = .own cc := ee
          subst e2
          cases qq
      · rename_i hj
        refine no j cc q1 ?_
        rw [wipe_get, if_neg hj]
        exact q2
    | succ m =>
      have lt : i < items.length := by omega
      rw [List.drop_eq_getElem_cons lt] at h2
      obtain ⟨go, yl⟩ := w1 i items[i] (List.getElem?_eq_getElem lt)
      refine .inr ⟨go, fun H3 => i + 1 + m = items.length ∧ ∃ I2 ρ2 σ2 S2 acc accV, Gr ρ' I' ρ2 I2 ∧ RB X.K (upd F Dl (.lst accV)) I2 ρ2 S2 H3 (L2.wipe σV vs) σ2 ∧ Reps X.K ρ2 I2 accV acc ∧
        postF X.K Wx F I2 ρ2 σV ((noX (lcL g c f vs (items.drop (i + 1)) acc σ2 S2)).bind fun ws σ'' S'' => .ok (.lst ws) (restD σ' σ'' vs) S'') Q, fun H' q => ⟨m, Nat.lt_succ_self m, q⟩, fun x H3 y => ?_⟩
      obtain ⟨I3, g3, rb3, r3⟩ := yl x H3 y
      unfold lcL at h2
      cases eg : g items[i] σ2 with
      | none => rw [eg] at h2; exact h2.elim
      | some σ3 =>
        rw [eg] at h2
        subst hvs
        refine ⟨_, I3, ρ2, σ2, S2, items[i], σ3, rb3, r3, eg, fun σV4 ew rb4 => ⟨ew.trans ?_, _, I3, ρ2, σ3, S2, rb4, ?_⟩⟩
        · apply List.ext_getElem?
          intro j
          rw [wipe_get, wipe_get]
          split
          · rw [Option.map_map]; rfl
          · rfl
        have ew2 : L2.wipe σV4 (own.map (·.2)) = L2.wipe σV (own.map (·.2)) := ew.trans (by
          apply List.ext_getElem?
          intro j
          rw [wipe_get, wipe_get]
          split
          · rw [Option.map_map]; rfl
          · rfl)
        have h2 : postF X.K Wx F I3 ρ2 σV ((noX ((c σ3 S2).bind fun b σ2 S2 => if b = true then (dV f σ2 S2).bind fun w σ3 S3 => (if acc.length < most then lcL g c f (own.map (·.2)) (items.drop (i + 1)) (acc ++ [w]) (wipeD σ3 (own.map (·.2))) S3 else .fail) else lcL g c f (own.map (·.2)) (items.drop (i + 1)) acc (wipeD σ2 (own.map (·.2))) S2)).bind fun ws σ'' S'' => .ok (.lst ws) (restD σ' σ'' (own.map (·.2))) S'') Q := postF_gr g3 h2
        cases ec : c σ3 S2 with
        | exc a σ5 S5 => rw [ec] at h2; exact h2.elim
        | fail => rw [ec] at h2; exact h2.elim
        | ok b σ5 S5 =>
          rw [ec] at h2
          intro I5 ρ5 H5 b' g5 rb5 tb
          subst tb
          cases b' with
          | false =>
            rw [if_neg Bool.false_ne_true]
            have h3 : postF X.K Wx F I3 ρ2 σV ((noX (lcL g c f (own.map (·.2)) (items.drop (i + 1)) acc (wipeD σ5 (own.map (·.2))) S5)).bind fun ws σ'' S'' => .ok (.lst ws) (restD σ' σ'' (own.map (·.2))) S'') Q := h2
            have rb6 := rb5.wipe (own.map (·.2))
            rw [ew2] at rb6
            exact ⟨by omega, I5, ρ5, _, S5, acc, accV, (g2.trans g3).trans g5, rb6, racc.gr (g3.trans g5), postF_gr g5 h3⟩
          | true =>
            rw [if_pos rfl]
            have h3 : postF X.K Wx F I5 ρ5 σV ((noX ((dV f σ5 S5).bind fun w σ3 S3 => (if acc.length < most then lcL g c f (own.map (·.2)) (items.drop (i + 1)) (acc ++ [w]) (wipeD σ3 (own.map (·.2))) S3 else .fail))).bind fun ws σ'' S'' => .ok (.lst ws) (restD σ' σ'' (own.map (·.2))) S'') Q := postF_gr g5 h2
            refine ⟨_, I5, ρ5, σ5, S5, rb5, ?_⟩
            cases ev : dV f σ5 S5 with
            | exc a σ7 S7 => rw [ev] at h3; exact h3.elim
            | fail => rw [ev] at h3; exact h3.elim
            | ok w σ7 S7 =>
              rw [ev] at h3
              intro I7 ρ7 H7 v7 g7 rb7 r7
              have h4 : postF X.K Wx F I5 ρ5 σV ((noX (if acc.length < most then lcL g c f (own.map (·.2)) (items.drop (i + 1)) (acc ++ [w]) (wipeD σ7 (own.map (·.2))) S7 else .fail)).bind fun ws σ'' S'' => .ok (.lst ws) (restD σ' σ'' (own.map (·.2))) S'') Q := h3
              split at h4
              · rename_i hl
                obtain ⟨_, _, _, _, hH⟩ := rb7.delF hF (fun _ _ z => by cases z) (fun _ z => by cases z)
                refine ⟨accV, hH, by rw [racc.length, ← most_eq]; exact hl, by omega, I7, ρ7, _, S7, acc ++ [w], accV ++ [v7], ((g2.trans g3).trans g5).trans g7, ?_, ((racc.gr ((g3.trans g5).trans g7)).append (.cons r7 .nil)), postF_gr g7 h4⟩
                have rb8 := (rb7.fset (o' := .lst (accV ++ [v7])) hF (fun _ _ z => by cases z) (fun _ z => by cases z)).wipe (own.map (·.2))
                rw [ew2] at rb8
                exact rb8
              · exact h4.elim
theorem cf_lc {elt tg iter : Expr} {ifs : List Expr} {scope : Scope} {own : List (Str × Nat)} {pos : Pos} {it : DI} {g : DG} {c : DT} {f : DE} (hN : X.N.Nodup) (ok : BlkOk X.N X.env.scope scope own) {vs : List Nat} (hvs : own.map (·.2) = vs) (hi : SI X Wx tg iter it)
    (hg : ∀ (s : Shared) (H : Hp) (C : Addr) (cl : List (Str × Addr)) (fp : List Addr), SG (X.blk s H scope (compEnvC scope cl C X.env) fp) vs tg g)
    (ht : ∀ (s : Shared) (H : Hp) (C : Addr) (cl : List (Str × Addr)) (fp : List Addr), PTs (X.blk s H scope (compEnvC scope cl C X.env) fp) ifs (semT X.K W0 c))
    (he : ∀ (s : Shared) (H : Hp) (C : Addr) (cl : List (Str × Addr)) (fp : List Addr), SE (X.blk s H scope (compEnvC scope cl C X.env) fp) W0 elt f) (hc : X.calm = true := by rfl) (hs : ∀ x, foldedSetIterable iter X.env x = pure x := by intro _; rfl) :
    SF X Wx (.ListComp elt [⟨tg, iter, ifs, 0⟩] scope pos) (dLc it g c f vs) := by
  subst hvs
  exact PE.imp (pe_lc (g := semG X.K (own.map (·.2)) g) (tt := semT X.K W0 c) (te := semV X.K W0 (dV f)) hc hN hi ok hg ht (fun s H C cl fp => c_v (he s H C cl fp)) hs) fun _ _ _ h => sem_lc h
end
end MR
set_option Elab.async false
set_option linter.all false
set_option maxRecDepth 100000
namespace MR
open PySem PySem.Spec PyProof.Rows L2
section
variable {K : PySem.W.Frag} {X : Cx} {Wx : WX}
def flatD : D → Bool
  | .non => true | .bl _ => true | .int _ => true | .str _ => true
  | _ => false
def toV : D → V
  | .bl b => .bl b
  | .int i => .int i
  | .str x => .str x
  | _ => .non
def inD (x : D) (xs : List D) : Bool := inV (toV x) (xs.map toV)
theorem Rep.flat {ρ : List Addr} {I : Hp} {v : V} {w : D} (r : Rep K ρ I v w) (h : flatD w = true) : v = toV w ∧ flatV v = true := by
  cases r <;> first | exact ⟨rfl, rfl⟩ | cases h
theorem Reps.flat {ρ : List Addr} {I : Hp} : ∀ {vs : List V} {ws : List D}, Reps K ρ I vs ws → ws.all flatD = true → vs = ws.map toV ∧ vs.all flatV = true
  | _, _, .nil, _ => ⟨rfl, rfl⟩
  | _, _, .cons h r, e => by
    rw [List.all_cons, Bool.and_eq_true] at e
    obtain ⟨e1, e2⟩ := h.flat e.1
    obtain ⟨e3, e4⟩ := r.flat e.2
    exact ⟨by rw [e1, e3]; rfl, by rw [List.all_cons, e2, e4]; rfl⟩
theorem At.flat {ρ : List Addr} {I H : Hp} {v : V} {a : D} (r : At K ρ I H v a) (h : flatD a = true) : v = toV a ∧ flatV v = true := by
  cases a <;> first | (cases h; done) | (have r : v = _ := r; subst r; exact ⟨rfl, rfl⟩)
def inA : D → D → Option Bool
  | .str x, .str z => (match x.cps.toList with
    | [c] => some (decide (c ∈ z.cps.toList))
    | _ => none)
  | x, .lst xs => if flatD x && xs.all flatD then some (inD x xs) else none
  | x, .tup xs => if flatD x && xs.all flatD then some (inD x xs) else none
  | _, _ => none
def opIn (a b : D) : Option D := (inA a b).map D.bl
def opNotIn (a b : D) : Option D := (inA a b).map fun x => D.bl (!x)
def rInA (K : PySem.W.Frag) : R2 := fun x y H Q => (∃ (c : Nat) (z : Str), x = .str ⟨#[c]⟩ ∧ y = .str z ∧ Q (.bl (decide (c ∈ z.cps.toList))) H) ∨ rIn K false x y H Q
theorem op_inA : OpR X (compareOp .In) (rInA X.K) := op_in_sign.or op_in_seq
theorem inA_cases {ρ : List Addr} {I H : Hp} {v1 v2 : V} {a b : D} {x : Bool} (h1 : At K ρ I H v1 a) (h2 : At K ρ I H v2 b) (e : inA a b = some x) :
    (∃ (c : Nat) (z : Str), v1 = .str ⟨#[c]⟩ ∧ v2 = .str z ∧ decide (c ∈ z.cps.toList) = x) ∨ ∃ p xs, v2 = .ref p ∧ (SqL K H p xs ∨ SqT K H p xs) ∧ flatV v1 = true ∧ xs.all flatV = true ∧ inV v1 xs = x := by
  unfold inA at e
  split at e
  · rename_i x0 z0
    cases h1; cases h2
    cases hx : x0.cps.toList with
    | nil => rw [hx] at e; cases e
    | cons c r =>
      rw [hx] at e
      cases r with
      | cons _ _ => cases e
      | nil =>
        cases e
        have : x0 = ⟨#[c]⟩ := by
          obtain ⟨⟨l⟩⟩ := x0
          have : l = [c] := hx
          subst this
          rfl
        subst this
        exact .inl ⟨c, z0, rfl, rfl, rfl⟩
  · obtain ⟨p, vs, rfl, hp, r⟩ := h2
    split at e
    · rename_i hf
      obtain ⟨f1, f2⟩ := Bool.and_eq_true_iff.mp hf
      cases e
      obtain ⟨e1, e2⟩ := h1.flat f1
      obtain ⟨e3, e4⟩ := r.flat f2
      exact .inr ⟨p, vs, rfl, .inl (SqL_at hp), e2, e4, by rw [e1, e3]; rfl⟩
    · cases e
  · obtain ⟨p, vs, rfl, hp, r⟩ := h2
    split at e
    · rename_i hf
      obtain ⟨f1, f2⟩ := Bool.and_eq_true_iff.mp hf
      cases e
      obtain ⟨e1, e2⟩ := h1.flat f1
      obtain ⟨e3, e4⟩ := r.flat f2
      exact .inr ⟨p, vs, rfl, .inr hp, e2, e4, by rw [e1, e3]; rfl⟩
    · cases e
  · cases e
theorem os_in : OpS K (rInA K) opIn := by
  intro F I ρ S H σV σ v1 v2 a b z Q rb h1 h2 ez q
  obtain ⟨x, e, rfl⟩ := Option.map_eq_some_iff.mp ez
  rcases inA_cases h1 h2 e with ⟨c, z, rfl, rfl, hx⟩ | ⟨p, xs, rfl, hp, f1, f2, hx⟩
  · exact .inl ⟨c, z, rfl, rfl, by rw [hx]; exact q I H _ Gr.refl rb .bl⟩
  · exact .inr ⟨p, xs, rfl, hp, f1, f2, by rw [hx]; exact q I H _ Gr.refl rb .bl⟩
theorem c_in {a b : Expr} {pos : Pos} {f g : DE} (ha : SE X Wx a f) (hb : SE X Wx b g) (hm : behindInMarks .In b = false := by rfl) : SE X Wx (.Compare a [.In] [b] pos) (d2 opIn f g) := c_cmp op_inA os_in ha hb hm
theorem ct_in {a b : Expr} {pos : Pos} {f g : DE} (ha : SE X Wx a f) (hb : SE X Wx b g) (hm : behindInMarks .In b = false := by rfl) : ST X Wx (.Compare a [.In] [b] pos) (tVal (d2 opIn f g)) := ct_cmp op_inA os_in ha hb hm
def dChain (op op' : D → D → Option D) (f g h : DE) : DE := fun σ S => (f σ S).bind fun x σ S => (g σ S).bind fun y σ S => match (deref σ S x).bind fun a => (deref σ S y).bind fun b => op a b with
  | some (.bl true) => (h σ S).bind fun z σ S => ofOpt ((deref σ S y).bind fun a => (deref σ S z).bind fun b => op' a b) σ S
  | some (.bl false) => .ok (.bl false) σ S
  | _ => .fail
theorem sem_chain {r r' : R2} {op op' : D → D → Option D} {f g h : DE} (ho : OpS X.K r op) (ho' : OpS X.K r' op') {σV : L2.St} {H : Hp} {Q : VK} (hh : semE X.K Wx (dChain op op' f g h) σV H Q) : tChain r r' (semE X.K Wx f) (semE X.K Wx g) (semE X.K Wx h) σV H Q := by
  obtain ⟨F, I, ρ, σ, S, rb, hh⟩ := hh
  refine ⟨F, I, ρ, σ, S, rb, post_bind hh fun I1 ρ1 σ1 S1 H1 x v1 _ g1 rb1 t1 h1 => ?_⟩
  refine ⟨F, I1, ρ1, σ1, S1, rb1, post_bind h1 fun I2 ρ2 σ2 S2 H2 y v2 _ g2 rb2 t2 h2 => ?_⟩
  cases ez : (deref σ2 S2 x).bind fun a => (deref σ2 S2 y).bind fun b => op a b with
  | none => rw [ez] at h2; exact h2.elim
  | some z =>
    rw [ez] at h2
    obtain ⟨a, ea, ez⟩ := Option.bind_eq_some_iff.mp ez
    obtain ⟨b, eb, ez⟩ := Option.bind_eq_some_iff.mp ez
    refine ho F I2 ρ2 S2 H2 σV σ2 v1 v2 a b z _ rb2 (rb2.at (t1.gr g2) ea) (rb2.at t2 eb) ez fun I3 H3 v3 g3 rb3 r3 => ?_
    cases z with
    | bl k =>
      cases r3
      refine ⟨k, rfl, ?_⟩
      cases k with
      | false =>
        rw [if_neg Bool.false_ne_true]
        exact (post_gr g3 h2) I3 ρ2 H3 _ Gr.refl rb3 (.inr .bl)
      | true =>
        rw [if_pos rfl]
        refine ⟨F, I3, ρ2, σ2, S2, rb3, post_bind (post_gr g3 h2) fun I4 ρ4 σ4 S4 H4 w v4 _ g4 rb4 t4 h4 => ?_⟩
        obtain ⟨z4, ez4, h5⟩ := post_opt h4
        obtain ⟨a4, ea4, ez4⟩ := Option.bind_eq_some_iff.mp ez4
        obtain ⟨b4, eb4, ez4⟩ := Option.bind_eq_some_iff.mp ez4
        exact ho' F I4 ρ4 S4 H4 σV σ4 v2 v4 a4 b4 z4 Q rb4 (rb4.at ((t2.gr g3).gr g4) ea4) (rb4.at t4 eb4) ez4 fun I' H' v g' rb' r' => h5 I' ρ4 H' v g' rb' (.inr r')
    | _ => exact h2.elim
theorem c_chain {a b c : Expr} {o o' : CmpOp} {pos : Pos} {r r' : R2} {op op' : D → D → Option D} {f g h : DE} (hr : OpR X (compareOp o) r) (hs : OpS X.K r op) (hr' : OpR X (compareOp o') r') (hs' : OpS X.K r' op') (ha : SE X Wx a f) (hb : SE X Wx b g) (hc : SE X Wx c h) (hm : lastMarks [o, o'] [b, c] = false := by with_unfolding_all rfl) :
    SE X Wx (.Compare a [o, o'] [b, c] pos) (dChain op op' f g h) := PE.imp (pe_chain hr hr' ha hb hc hm) fun _ _ _ q => sem_chain hs hs' q
theorem ct_chain {a b c : Expr} {o o' : CmpOp} {pos : Pos} {r r' : R2} {op op' : D → D → Option D} {f g h : DE} (hr : OpR X (compareOp o) r) (hs : OpS X.K r op) (hr' : OpR X (compareOp o') r') (hs' : OpS X.K r' op') (ha : SE X Wx a f) (hb : SE X Wx b g) (hc : SE X Wx c h) (hm : lastMarks [o, o'] [b, c] = false := by with_unfolding_all rfl) :
    ST X Wx (.Compare a [o, o'] [b, c] pos) (tVal (dChain op op' f g h)) := PT.imp (pt_chain hr hr' ha hb hc hm) fun _ _ _ q => sem_chain hs hs' (sem_tval q)
def repS (z : Str) (n : Nat) : Str := ⟨(List.replicate n z.cps.toList).flatten.toArray⟩
theorem foldl_app (l : List (Array Nat)) : ∀ a : Array Nat, (l.foldl (· ++ ·) a).toList = a.toList ++ (l.map (·.toList)).flatten := by
  induction l with
  | nil => intro a; simp
  | cons x r ih => intro a; rw [List.foldl_cons, ih]; simp
theorem mul_rep (z : Str) (n : Int) (h : 0 ≤ n) : Txt.mul z n = repS z n.toNat := by
  unfold Txt.mul repS
  split
  · rename_i h1
    have : n = 0 := by omega
    subst this
    rfl
  · split
    · rename_i h1 h2
      rcases Bool.or_eq_true_iff.mp h2 with h3 | h3
      · have : n = 1 := eq_of_beq h3
        subst this
        simp
      · have : z.length = 0 := eq_of_beq h3
        obtain ⟨⟨l⟩⟩ := z
        have : l = [] := List.eq_nil_of_length_eq_zero this
        subst this
        simp
    · congr 1
      apply Array.toList_inj.mp
      rw [foldl_app]
      simp
def opMul' : D → D → Option D
  | .int i, .int j => if mulOk i j then some (.int (i * j)) else none
  | .str z, .int j => if 0 ≤ j ∧ j ≤ 1000000 ∧ z.length * j.toNat ≤ most then some (.str (repS z j.toNat)) else none
  | .lst xs, .int j => if 0 ≤ j ∧ j ≤ 1000000 ∧ xs.length * j.toNat ≤ most then some (.lst (List.replicate j.toNat xs).flatten) else none
  | _, _ => none
def rMulA : R2 := fun x y H Q => rI CMulW (fun i j => .int (i * j)) x y H Q ∨ ((∃ z j, x = .str z ∧ y = .int j ∧ MulOk z j ∧ Q (.str (Txt.mul z j)) H) ∨ rRep x y H Q)
theorem op_mul_str : OpR X (binaryOp .Mult) (fun x y H Q => ∃ z j, x = .str z ∧ y = .int j ∧ MulOk z j ∧ Q (.str (Txt.mul z j)) H) := by
  intro pins s σ H x y v u Q I rx ry h
  obtain ⟨z, j, rfl, rfl, hok, q⟩ := h
  obtain ⟨t, rfl⟩ := rx
  obtain ⟨t', rfl⟩ := ry
  exact SB.mul hok fun t' k => ⟨.str _, H, I.tok _, ⟨_, rfl⟩, q⟩
theorem op_mulA : OpR X (binaryOp .Mult) rMulA := op_mulW.or (op_mul_str.or op_rep)
theorem Reps.rep {ρ : List Addr} {I : Hp} {vs : List V} {ws : List D} (r : Reps K ρ I vs ws) : ∀ n : Nat, Reps K ρ I (List.replicate n vs).flatten (List.replicate n ws).flatten
  | 0 => .nil
  | n + 1 => by
    rw [List.replicate_succ, List.replicate_succ, List.flatten_cons, List.flatten_cons]
    exact r.append (Reps.rep r n)
theorem os_mul' : OpS K rMulA opMul' := by
  intro F I ρ S H σV σ v1 v2 a b z Q rb h1 h2 ez q
  unfold opMul' at ez
  split at ez
  · cases h1; cases h2
    split at ez
    · rename_i h
      cases ez
      exact .inl ⟨_, _, rfl, rfl, h, q I H _ Gr.refl rb .int⟩
    · cases ez
  · cases h1; cases h2
    split at ez
    · rename_i z j h
      cases ez
      refine .inr (.inl ⟨z, j, rfl, rfl, ⟨?_, fun h1 h2 => ?_, fun h1 h2 => ?_⟩, ?_⟩)
      · rw [Bool.or_eq_false_iff]
        exact ⟨decide_eq_false (by omega), decide_eq_false (by omega)⟩
      · have e2 : (z.length : Int) * j ≤ 2 ^ 63 - 1 := by
          have e3 : (z.length : Int) * j = ((z.length * j.toNat : Nat) : Int) := by
            rw [Int.natCast_mul, Int.toNat_of_nonneg h.1]
          have := h.2.2
          unfold most at this
          rw [e3]
          omega
        have := Int.le_ediv_of_mul_le (by omega) e2
        omega
      · have := h.2.2
        rw [most_eq] at this
        exact decide_eq_false (by omega)
      · rw [mul_rep z j h.1]
        exact q I H _ Gr.refl rb .str
    · cases ez
  · cases h2
    obtain ⟨a, vs, rfl, ha, ra⟩ := h1
    split at ez
    · rename_i xs j h
      cases ez
      refine .inr (.inr ⟨a, j, vs, rfl, rfl, ha, by omega, by omega, by rw [ra.length, ← most_eq]; exact h.2.2, fun p hp => ?_⟩)
      obtain ⟨g, rb2⟩ := rb.new (o := .lst (List.replicate j.toNat vs).flatten) hp
      exact q _ _ _ g rb2 (.lst upd_same ((ra.rep _).gr g))
    · cases ez
  · cases ez
def strsD : List D → Option (List Str)
  | [] => some []
  | .str x :: r => (strsD r).map fun ys => x :: ys
  | _ => none
theorem Reps.strs {ρ : List Addr} {I : Hp} : ∀ {vs : List V} {ws : List D} {ys : List Str}, Reps K ρ I vs ws → strsD ws = some ys → vs = ys.map V.str
  | _, _, _, .nil, e => by cases e; rfl
  | _, _, _, .cons h r, e => by
    unfold strsD at e
    split at e
    · rename_i h1; cases h1
    · rename_i b rest h1
      cases h1
      obtain ⟨bs, e1, rfl⟩ := Option.map_eq_some_iff.mp e
      cases h
      rw [Reps.strs r e1]
      rfl
    · cases e
def opJoin : D → D → Option D
  | .str a, .lst xs => (strsD xs).bind fun ys => if (ys.map (·.length)).sum + ys.length * a.length ≤ most then some (.str (Txt.join a ys)) else none
  | _, _ => none
def opSplit : D → D → Option D
  | .str a, .str b => if (b.length == 0) = false ∧ a.length + 2 ≤ most then some (.lst ((Txt.split a b).map D.str)) else none
  | _, _ => none
def dS1 (op : D → D → Option D) (f g : DE) : DE := fun σ S => (f σ S).bind fun x σ S => match x with
  | .str a => (g σ S).bind fun y σ S => ofOpt ((deref σ S y).bind fun b => op (.str a) b) σ S
  | _ => .fail
def MS1 (K : PySem.W.Frag) (r : V → List V → Hp → VK → Prop) (op : D → D → Option D) : Prop := ∀ (F I : Hp) (ρ : List Addr) (S : Sto) (H : Hp) (σV : L2.St) (σ : Sl) (x : Str) (v : V) (a z : D) (Q : VK), RB K F I ρ S H σV σ → At K ρ I H v a → op (.str x) a = some z →
  (∀ I' H' v, Gr ρ I ρ I' → RB K F I' ρ S H' σV σ → ((∃ a, v = .ref a ∧ Fresh K F I' ρ H' σV σ a z) ∨ (scalar z = true ∧ Rep K ρ I' v z)) → Q v H') → r (.str x) [v] H Q
theorem cf_s1 {o e : Expr} {id : String} {name : Str} {apos pos : Pos} {f g : DE} {op : D → D → Option D} {r : V → List V → Hp → VK → Prop} (slot : PySem.Slot "str" name id) (ty : typeOf (.builtin id) = pure (.type "method_descriptor")) (rule : MtR X id r) (hs : MS1 X.K r op) (ho : SE X Wx o f) (he : SE X Wx e g)
    (hst : starEach [e] X.env = [(false, eval e X.env)] := by rfl) (hbase : attributeBase o name X.env (eval o X.env) = eval o X.env := by rfl) (hline : (apos.endLine == pos.line) = true := by rfl) : SF X Wx (.Call (.Attribute o name apos) [e] [] pos) (dS1 op f g) := by
  refine PE.imp (pe_m1 slot ty rule ho he hst hbase hline) fun σV H Q h => ?_
  obtain ⟨F, I, ρ, σ, S, rb, h⟩ := h
  refine ⟨F, I, ρ, σ, S, rb, postF_bind h fun I1 ρ1 σ1 S1 H1 x v1 _ g1 rb1 t1 h1 => ?_⟩
  rcases t1 with ⟨i, rfl, _⟩ | t1
  · exact h1.elim
  · cases t1 with
    | @str a =>
      refine ⟨⟨a, rfl⟩, F, I1, ρ1, σ1, S1, rb1, postF_bind h1 fun I2 ρ2 σ2 S2 H2 y v2 _ g2 rb2 t2 h2 => ?_⟩
      cases ez : (deref σ2 S2 y).bind fun b => op (.str a) b with
      | none => rw [ez] at h2; exact h2.elim
      | some z =>
        rw [ez] at h2
        obtain ⟨b, eb, ez⟩ := Option.bind_eq_some_iff.mp ez
        exact hs F I2 ρ2 S2 H2 σV σ2 a v2 b z Q rb2 (rb2.at t2 eb) ez fun I' H' v g' rb' r' => h2 I' ρ2 H' v g' rb' r'
    | _ => exact h1.elim
theorem m_join : MS1 K (fun x xs H Q => ∃ a p, ∃ ys : List Str, x = .str a ∧ xs = [.ref p] ∧ (SqL K H p (ys.map V.str) ∨ SqT K H p (ys.map V.str)) ∧ (ys.map (·.length)).sum + ys.length * a.length ≤ 16777216 ∧ Q (.str (Txt.join a ys)) H) opJoin := by
  intro F I ρ S H σV σ x v a z Q rb h ez q
  unfold opJoin at ez
  split at ez
  · rename_i a0 xs e1
    cases e1
    obtain ⟨p, vs, rfl, hp, r⟩ := h
    obtain ⟨ys, e2, ez⟩ := Option.bind_eq_some_iff.mp ez
    have := r.strs e2
    subst this
    split at ez
    · rename_i hl
      cases ez
      exact ⟨_, p, ys, rfl, rfl, .inl (SqL_at hp), hl, q I H _ Gr.refl rb (.inr ⟨rfl, .str⟩)⟩
    · cases ez
  · cases ez
theorem Reps.ofStrs {ρ : List Addr} {I : Hp} : ∀ ys : List Str, Reps K ρ I (ys.map V.str) (ys.map D.str)
  | [] => .nil
  | _ :: r => .cons .str (Reps.ofStrs r)
theorem m_split : MS1 K (fun x xs H Q => ∃ a b, x = .str a ∧ xs = [.str b] ∧ (b.length == 0) = false ∧ a.length + 2 ≤ sizeLine ∧ rNewStrs (Txt.split a b) H Q) opSplit := by
  intro F I ρ S H σV σ x v a z Q rb h ez q
  unfold opSplit at ez
  split at ez
  · rename_i a0 b e1
    cases e1
    cases h
    split at ez
    · rename_i hl
      cases ez
      refine ⟨_, b, rfl, rfl, hl.1, by rw [← most_eq]; exact hl.2, fun p hp => ?_⟩
      obtain ⟨rb4, nf, ni, nr, no⟩ := rb.newO (o := .lst ((Txt.split x b).map V.str)) hp
      exact q _ _ _ Gr.refl rb4 (.inl ⟨p, rfl, nf, ni, nr, no, _, upd_same, Reps.ofStrs _⟩)
    · cases ez
  · cases ez
theorem cf_join {o e : Expr} {apos pos : Pos} {f g : DE} (ho : SE X Wx o f) (he : SE X Wx e g) (hst : starEach [e] X.env = [(false, eval e X.env)] := by rfl) (hbase : attributeBase o "join" X.env (eval o X.env) = eval o X.env := by rfl) (hline : (apos.endLine == pos.line) = true := by rfl) : SF X Wx (.Call (.Attribute o "join" apos) [e] [] pos) (dS1 opJoin f g) :=
  cf_s1 PySem.F.slot_str_join PySem.F.type_str_join mt_join m_join ho he hst hbase hline
theorem cf_split {o e : Expr} {apos pos : Pos} {f g : DE} (ho : SE X Wx o f) (he : SE X Wx e g) (hst : starEach [e] X.env = [(false, eval e X.env)] := by rfl) (hbase : attributeBase o "split" X.env (eval o X.env) = eval o X.env := by rfl) (hline : (apos.endLine == pos.line) = true := by rfl) : SF X Wx (.Call (.Attribute o "split" apos) [e] [] pos) (dS1 opSplit f g) :=
  cf_s1 PySem.F.slot_str_split PySem.F.type_str_split mt_split m_split ho he hst hbase hline
end
end MR
set_option Elab.async false
set_option linter.all false
set_option maxRecDepth 100000
namespace MR
open PySem PySem.Spec PyProof.Rows L2
section
variable {X : Cx} {Wx : WX}
theorem op_eqA {k : Nat} (hr : Room k X.A) : OpR X (compareOp .Eq) (rEqA X.K) := op_eq.or (op_eqD hr.units)
theorem op_neA {k : Nat} (hr : Room k X.A) : OpR X (compareOp .NotEq) (rNeA X.K) := op_ne.or (op_neD hr.units)
theorem c_gstr {x z : Str} {pos : Pos} (h : ∃ t, X.mg x = some (.str z t)) (hg : Gl X x := by rfl) (hd : (x == ("__debug__" : Str)) = false := by decide) : SE X Wx (.Name x pos) (dC (.str z)) := by
  obtain ⟨t, h⟩ := h
  exact c_glob (v := .str z) h ⟨t, rfl⟩ (fun _ _ => .str) hg hd
theorem c_gint {x : Str} {z : Int} {pos : Pos} (h : ∃ t, X.mg x = some (.int z t)) (hg : Gl X x := by rfl) (hd : (x == ("__debug__" : Str)) = false := by decide) : SE X Wx (.Name x pos) (dC (.int z)) := by
  obtain ⟨t, h⟩ := h
  exact c_glob (v := .int z) h ⟨t, rfl⟩ (fun _ _ => .int) hg hd
def GTup (K : PySem.W.Frag) (mg : Str → Option Value) (x : Str) (ws : List D) : Prop := ∃ a vs, mg x = some (.ref a) ∧ (∀ H, SqT K H a vs) ∧ ∀ ρ I, Reps K ρ I vs ws
def pairD : List D → Bool
  | [.str _, .str _] => true
  | .str _ :: .int _ :: _ => true
  | _ => false
theorem pair_rep {K : PySem.W.Frag} {ρ : List Addr} {I : Hp} {vs : List V} {ws : List D} (r : Reps K ρ I vs ws) : pairV vs = pairD ws := by
  cases r with
  | nil => rfl
  | cons h r =>
    cases r with
    | nil => cases h <;> rfl
    | cons h2 r =>
      cases r with
      | nil => cases h <;> cases h2 <;> rfl
      | cons _ _ => cases h <;> cases h2 <;> rfl
theorem c_gtup {x : Str} {ws : List D} {pos : Pos} (h : GTup X.K X.mg x ws) (np : pairD ws = false := by rfl) (hg : Gl X x := by rfl) (hd : (x == ("__debug__" : Str)) = false := by decide) : SE X Wx (.Name x pos) (dC (.tup ws)) := by
  obtain ⟨a, vs, h, h1, h2⟩ := h
  exact c_glob h (v := .ref a) rfl (fun ρ I => .tup (.inr ⟨h1 I, (pair_rep (h2 ρ I)).trans np⟩) (h2 ρ I)) hg hd
def dNeg (f : DE) : DE := fun σ S => (f σ S).bind fun x σ S => match x with
  | .int i => .ok (.int (-i)) σ S
  | _ => .fail
theorem c_neg {a : Expr} {pos : Pos} {f : DE} (h : SE X Wx a f) : SE X Wx (.UnaryOp .USub a pos) (dNeg f) := by
  refine PE.imp (pe_un un_neg h) fun σV H Q h => ?_
  obtain ⟨F, I, ρ, σ, S, rb, h⟩ := h
  refine ⟨F, I, ρ, σ, S, rb, post_bind h fun I1 ρ1 σ1 S1 H1 x v1 _ g1 rb1 t1 h1 => ?_⟩
  rcases t1 with ⟨i, rfl, _⟩ | t1
  · exact h1.elim
  · cases t1 with
    | int => exact ⟨_, rfl, h1 I1 ρ1 H1 _ Gr.refl rb1 (.inr .int)⟩
    | _ => exact h1.elim
theorem la_nil : ∀ (σ : Sl) (S : Sto) (ws : List D) (σ' : Sl) (S' : Sto), aNil σ S = .ok ws σ' S' → ws.length = 0 := fun σ S ws σ' S' h => by cases h; rfl
theorem la_cons {f : DE} {r : DA} {n : Nat} (k : ∀ (σ : Sl) (S : Sto) (ws : List D) (σ' : Sl) (S' : Sto), r σ S = .ok ws σ' S' → ws.length = n) : ∀ (σ : Sl) (S : Sto) (ws : List D) (σ' : Sl) (S' : Sto), aCons f r σ S = .ok ws σ' S' → ws.length = n + 1 := fun σ S ws σ' S' h => by
  unfold aCons at h
  cases e : dV f σ S with
  | exc a _ _ => rw [e] at h; cases h
  | fail => rw [e] at h; cases h
  | ok w σ1 S1 =>
    rw [e] at h
    dsimp only [Res.bind] at h
    cases e2 : r σ1 S1 with
    | exc a _ _ => rw [e2] at h; cases h
    | fail => rw [e2] at h; cases h
    | ok w2 σ2 S2 =>
      rw [e2] at h
      cases h
      rw [List.length_cons, k _ _ _ _ _ e2]
def sAug (i : Nat) (op : Int → Int → Int) (f : DE) : DS := fun σ S => match σ[i]? with
  | some (.val (.int a)) => (f σ S).bind fun y σ S => (match y with
    | .int b => .ok .next (σ.set i (.val (.int (op a b)))) S
    | _ => .fail)
  | _ => .fail
end
theorem fn_mk {fr : Bool} {P : Program} {w : World} {K : PySem.W.Frag} {mg : Str → Option Value} {base : Heap} {x y : Str} {params : Arguments} {body : List Stmt} {scope : Scope} {f : Addr} {fd : FuncData} {N ps : List Str} {k n m : Nat} {d : DS}
    (FD : FunD K y y params body scope [] [] f fd) (hm : mg x = some (.ref f)) (S : FnScope N ps scope) (hn : N.length = n) (hp : ps.length = m)
    (hbind : ∀ (kV doc pm : Value) (an : Option Addr) (cdv ct : Value) (us : List Value), us.length = ps.length → bindArgs (PySem.W.fnOf y y params body scope .none kV doc pm an cdv ct) ⟨us, []⟩ = pure (ps.zip us))
    (hb : ∀ (cdv : Value) (A : Around) (outer : List Env) (s : Shared) (H : Hp) (E : XK), Room k (A.deeper (envOfC y scope s.heap.objs.size f cdv)) →
      SSs fr (cxOf (CXk kb P w) P w K mg base N y scope f cdv A outer s H E) (fun cls d _ H => E cls d H) body d) : Fn kb fr P w K mg base x (k + 1) m (dDef n d) := by
  subst hp
  exact ⟨f, fd, ps, hm, FD.kp, FD.bindsN hbind, rfl, def_ok FD S hn hb⟩
theorem law_sp {K : PySem.W.Frag} {d : Den} (h : ∀ ns : List Int, ns.length ≤ 63 → ∃ S', d [.scr ns] [] = .ok (.bl true) S') (H : Hp) (a : Addr) (ns : List Int) (hl : ns.length ≤ 63) (hS : SqL K H a (ns.map V.int)) : spD false K 1 d [.ref a] H (fun v _ => v = .bl true) fun _ _ _ => False := by
  obtain ⟨S', e⟩ := h ns hl
  refine ⟨rfl, fun _ => none, H, [], [], [.scr ns], ⟨fun a o h => (nomatch h), fun a o h => .inl h, fun a o h => (nomatch h), fun r o h => (by simp at h), fun r r' a h => (by simp at h), rfl, rfl, fun i s h => (by simp at h), fun i j c c' v h => (by simp at h)⟩, .cons (.scr hS) .nil, ?_⟩
  rw [e]
  intro I' ρ' H' v g rb r
  cases r
  rfl
theorem fnok_w {kb : Bool} {P : Program} {w : World} {K : PySem.W.Frag} {mg : Str → Option Value} {base : Heap} {k : Nat} {f : Addr} {fd : FuncData} {ps : List Str} {sp : Sp} (h : FnOk P w K mg base (CXk kb P w) k f fd ps sp) : FnOk P w K mg base (fun a b c d e f => ∃ kb w, CXk kb P w a b c d e f) k f fd ps sp := by
  refine ⟨h.len, fun A outer s H args us vs Q E hr he hb hv hs => codeAny_mono (h.run A outer s H args us vs Q E hr he hb hv hs) fun r s' q => ?_⟩
  cases r with
  | error e => exact ⟨kb, w, q⟩
  | ok fl => cases fl <;> exact q
theorem fn_zero {fr : Bool} {P : Program} {w : World} {K : PySem.W.Frag} {mg : Str → Option Value} {base : Heap} {x : Str} {params : Arguments} {body : List Stmt} {scope : Scope} {f : Addr} {fd : FuncData} {ps : List Str} {k m : Nat}
    (FD : FunD K x x params body scope [] [] f fd) (hm : mg x = some (.ref f)) (hp : ps.length = m)
    (hbind : ∀ (kV doc pm : Value) (an : Option Addr) (cdv ct : Value) (us : List Value), us.length = ps.length → bindArgs (PySem.W.fnOf x x params body scope .none kV doc pm an cdv ct) ⟨us, []⟩ = pure (ps.zip us)) : Fn kb fr P w K mg base x k m (fun _ _ => .fail) := by
  subst hp
  refine ⟨f, fd, ps, hm, FD.kp, FD.bindsN hbind, rfl, fun vs H Q E h => h.1, fun A outer s H args us vs Q E hr he hb hv hs => ?_⟩
  obtain ⟨_, _, _, _, _, _, _, _, z⟩ := hs
  exact z.elim
def fuel : Nat := 2 ^ 20000
end MR
set_option Elab.async false
set_option linter.all false
set_option maxRecDepth 100000
namespace MR
open PySem PySem.Spec PyProof.Rows L2
section
variable {K : PySem.W.Frag}
def opList : D → Option D
  | .lst xs => some (.lst xs)
  | .tup xs => some (.lst xs)
  | _ => none
def opTuple : D → Option D
  | .lst xs => some (.tup xs)
  | _ => none
theorem b_tuple : B1 K (fun xs H Q => ∃ p ys, xs = [.ref p] ∧ ((SqL K H p ys ∧ ∀ l, H l = none → Q (.ref l) (upd H l (.tup ys))) ∨ (SqT K H p ys ∧ Q (.ref p) H))) opTuple := by
  intro F I ρ S H σV σ v a z Q rb h ez q
  unfold opTuple at ez
  split at ez
  · cases ez
    obtain ⟨a, vs, rfl, ha, r⟩ := h
    refine ⟨a, vs, rfl, .inl ⟨SqL_at ha, fun p hp => ?_⟩⟩
    obtain ⟨g, rb2⟩ := rb.new (o := .tup vs) hp
    exact q _ _ _ g rb2 (.tup (.inl upd_same) (r.gr g))
  · cases ez
def dvOf : D → He.Dv
  | .bl b => .bl b
  | .int i => .int i
  | .str x => .str x
  | _ => .non
theorem reps_dv {ρ : List Addr} {I : Hp} : ∀ ws : List D, ws.all flatD = true → Reps K ρ I ((ws.map dvOf).map (He.Dv.v K)) ws
  | [], _ => .nil
  | w :: ws, h => by
    rw [List.all_cons, Bool.and_eq_true] at h
    refine .cons ?_ (reps_dv ws h.2)
    cases w with
    | non => exact .non
    | bl b => exact .bl
    | int i => exact .int
    | str x => exact .str
    | _ => cases h.1
theorem gtup_mk {mg : Str → Option Value} {x : Str} {ws : List D} (h : mg x = some (.ref (He.ga K x))) (t : He.tupB K x (ws.map dvOf) = true) (hf : ws.all flatD = true) : GTup K mg x ws :=
  ⟨He.ga K x, _, h, fun H => He.tupB_ok t H, fun ρ I => reps_dv ws hf⟩
end
abbrev Tups : Type := List (Str × List D)
def tupsOk (tb : Tups) (K : PySem.W.Frag) : Bool := tb.all fun t => He.tupB K t.1 (t.2.map dvOf)
abbrev AlM : Type := He.AlD × Bool
structure SaysM (fa : List He.Fa) (fn : List He.DefD) (tb : Tups) (K : PySem.W.Frag) : Prop where
  d : He.SaysD fa fn K
  t : tupsOk tb K = true
theorem SaysM.tup {fa : List He.Fa} {fn : List He.DefD} {tb : Tups} {K : PySem.W.Frag} (c : SaysM fa fn tb K) (i : Nat) {t : Str × List D} (h : tb[i]? = some t := by rfl) : He.tupB K t.1 (t.2.map dvOf) = true := List.all_eq_true.mp c.t t (List.mem_of_getElem? h)
end MR
set_option Elab.async false
set_option linter.all false
set_option maxRecDepth 100000
namespace MR
open PySem PySem.Spec PyProof.Rows L2
theorem ofString_inj {a b : String} (h : Str.ofString a = Str.ofString b) : a = b := by
  rw [Str.ofString_eq_toList, Str.ofString_eq_toList] at h
  injection h with h
  have h := congrArg Array.toList h
  simp only at h
  have : a.toList = b.toList := List.map_inj_right (fun x y hxy => Char.ext (UInt32.toNat_inj.mp hxy)) |>.mp h
  rw [← String.ofList_toList (s := a), ← String.ofList_toList (s := b), this]
section
variable {X : Cx} {Wx : WX} {fr : Bool}
theorem _root_.L2.PE.or {e : Expr} {t t1 t2 : TE} (h1 : PE X e t1) (h2 : PE X e t2) (i : ∀ σ H Q, t σ H Q → t1 σ H Q ∨ t2 σ H Q) : PE X e t := ⟨fun pins s σ H Q I q => (i σ H Q q).elim (h1.run pins s σ H Q I) (h2.run pins s σ H Q I)⟩
theorem c_or2 {e : Expr} {f f1 f2 : DE} (h1 : SE X Wx e f1) (h2 : SE X Wx e f2) (i : ∀ σ S, f σ S = f1 σ S ∨ f σ S = f2 σ S) : SE X Wx e f := by
  refine PE.or h1 h2 fun σV H Q ⟨F, I, ρ, σ, S, rb, h⟩ => ?_
  rcases i σ S with e | e
  · exact .inl ⟨F, I, ρ, σ, S, rb, e ▸ h⟩
  · exact .inr ⟨F, I, ρ, σ, S, rb, e ▸ h⟩
theorem d2_or {op op1 op2 : D → D → Option D} (h : ∀ a b, op a b = op1 a b ∨ op a b = op2 a b) (f g : DE) (σ : Sl) (S : Sto) : d2 op f g σ S = d2 op1 f g σ S ∨ d2 op f g σ S = d2 op2 f g σ S := by
  unfold d2
  cases e : f σ S with
  | fail => exact .inl rfl
  | exc a _ _ => exact .inl rfl
  | ok x σ1 S1 =>
    dsimp only [Res.bind]
    cases e : g σ1 S1 with
    | fail => exact .inl rfl
    | exc a _ _ => exact .inl rfl
    | ok y σ2 S2 =>
      dsimp only [Res.bind]
      cases deref σ2 S2 x with
      | none => exact .inl rfl
      | some a =>
        cases deref σ2 S2 y with
        | none => exact .inl rfl
        | some b =>
          dsimp only [Option.bind]
          rcases h a b with q | q <;> rw [q]
          · exact .inl rfl
          · exact .inr rfl
end
section
variable {κ : Type} [DecidableEq κ]
def valD (l : List (κ × D)) (k : κ) : Option D := (l.find? fun kv => decide (kv.1 = k)).map (·.2)
def putD (l : List (κ × D)) (k : κ) (w : D) : List (κ × D) := if (l.any fun kv => decide (kv.1 = k)) = true then l.map (fun kv => if kv.1 = k then (kv.1, w) else kv) else l ++ [(k, w)]
def dropD (l : List (κ × D)) (k : κ) : List (κ × D) := l.filter fun kv => decide (kv.1 ≠ k)
variable {K : PySem.W.Frag} {ρ : List Addr} {I : Hp}
def KRep (K : PySem.W.Frag) (ρ : List Addr) (I : Hp) (kvs : List (κ × V)) (kws : List (κ × D)) : Prop := kvs.map (·.1) = kws.map (·.1) ∧ Reps K ρ I (kvs.map (·.2)) (kws.map (·.2))
theorem KRep.nil : KRep (κ := κ) K ρ I [] [] := ⟨rfl, .nil⟩
theorem KRep.cons {k : κ} {v : V} {w : D} {kvs : List (κ × V)} {kws : List (κ × D)} (h : Rep K ρ I v w) (r : KRep K ρ I kvs kws) : KRep K ρ I ((k, v) :: kvs) ((k, w) :: kws) := ⟨by simp [r.1], .cons h r.2⟩
theorem KRep.ind {P : List (κ × V) → List (κ × D) → Prop} (h0 : P [] []) (h1 : ∀ k v w kvs kws, Rep K ρ I v w → KRep K ρ I kvs kws → P kvs kws → P ((k, v) :: kvs) ((k, w) :: kws)) : ∀ {kvs : List (κ × V)} {kws : List (κ × D)}, KRep K ρ I kvs kws → P kvs kws
  | [], [], _ => h0
  | [], _ :: _, h => by have := h.1; simp at this
  | _ :: _, [], h => by have := h.1; simp at this
  | (k, v) :: kvs, (k', w) :: kws, h => by
    obtain ⟨h2, h3⟩ := h
    simp only [List.map_cons] at h2 h3
    injection h2 with h4 h5
    subst h4
    cases h3 with
    | cons r1 r2 => exact h1 k v w kvs kws r1 ⟨h5, r2⟩ (KRep.ind h0 h1 ⟨h5, r2⟩)
theorem KRep.len {kvs : List (κ × V)} {kws : List (κ × D)} (h : KRep K ρ I kvs kws) : kvs.length = kws.length := by
  have := congrArg List.length h.1
  rwa [List.length_map, List.length_map] at this
theorem KRep.val {kvs : List (κ × V)} {kws : List (κ × D)} (h : KRep K ρ I kvs kws) (k : κ) : (∃ v w, valV kvs k = some v ∧ valD kws k = some w ∧ Rep K ρ I v w) ∨ (valV kvs k = none ∧ valD kws k = none) := by
  refine KRep.ind (P := fun kvs kws => (∃ v w, valV kvs k = some v ∧ valD kws k = some w ∧ Rep K ρ I v w) ∨ (valV kvs k = none ∧ valD kws k = none)) (.inr ⟨rfl, rfl⟩) (fun k' v w kvs kws r _ ih => ?_) h
  by_cases e : k' = k
  · exact .inl ⟨v, w, by simp [valV, e], by simp [valD, e], r⟩
  · rcases ih with ⟨v', w', h1, h2, h3⟩ | ⟨h1, h2⟩
    · exact .inl ⟨v', w', by rw [← h1]; simp [valV, e], by rw [← h2]; simp [valD, e], h3⟩
    · exact .inr ⟨by rw [← h1]; simp [valV, e], by rw [← h2]; simp [valD, e]⟩
theorem KRep.any {kvs : List (κ × V)} {kws : List (κ × D)} (h : KRep K ρ I kvs kws) (k : κ) : (kvs.any fun kv => decide (kv.1 = k)) = kws.any fun kv => decide (kv.1 = k) := by
  refine KRep.ind (P := fun kvs kws => (kvs.any fun kv => decide (kv.1 = k)) = kws.any fun kv => decide (kv.1 = k)) rfl (fun k' v w kvs kws r _ ih => ?_) h
  simp only [List.any_cons, ih]
theorem KRep.mapPut {kvs : List (κ × V)} {kws : List (κ × D)} (h : KRep K ρ I kvs kws) (k : κ) {v : V} {w : D} (r : Rep K ρ I v w) : KRep K ρ I (kvs.map fun kv => if kv.1 = k then (kv.1, v) else kv) (kws.map fun kv => if kv.1 = k then (kv.1, w) else kv) := by
  refine KRep.ind (P := fun kvs kws => KRep K ρ I (kvs.map fun kv => if kv.1 = k then (kv.1, v) else kv) (kws.map fun kv => if kv.1 = k then (kv.1, w) else kv)) KRep.nil (fun k' v' w' kvs kws r' _ ih => ?_) h
  simp only [List.map_cons]
  by_cases e : k' = k
  · simp only [e, if_true]
    exact ih.cons r
  · simp only [e, if_false]
    exact ih.cons r'
theorem KRep.app {kvs : List (κ × V)} {kws : List (κ × D)} (h : KRep K ρ I kvs kws) {k : κ} {v : V} {w : D} (r : Rep K ρ I v w) : KRep K ρ I (kvs ++ [(k, v)]) (kws ++ [(k, w)]) := by
  refine KRep.ind (P := fun kvs kws => KRep K ρ I (kvs ++ [(k, v)]) (kws ++ [(k, w)])) (KRep.nil.cons r) (fun k' v' w' kvs kws r' _ ih => ih.cons r') h
theorem KRep.put {kvs : List (κ × V)} {kws : List (κ × D)} (h : KRep K ρ I kvs kws) (k : κ) {v : V} {w : D} (r : Rep K ρ I v w) : KRep K ρ I (putK kvs k v) (putD kws k w) := by
  unfold putK putD
  rw [h.any k]
  split
  · exact h.mapPut k r
  · exact h.app r
theorem KRep.drop {kvs : List (κ × V)} {kws : List (κ × D)} (h : KRep K ρ I kvs kws) (k : κ) : KRep K ρ I (dropK kvs k) (dropD kws k) := by
  refine KRep.ind (P := fun kvs kws => KRep K ρ I (dropK kvs k) (dropD kws k)) KRep.nil (fun k' v w kvs kws r _ ih => ?_) h
  unfold dropK dropD at ih ⊢
  by_cases e : k' = k
  · simp only [List.filter_cons, e, ne_eq, not_true, decide_false, Bool.false_eq_true, if_false]
    exact ih
  · simp only [List.filter_cons, ne_eq, e, not_false_eq_true, decide_true, if_true]
    exact ih.cons r
theorem KRep.gr {ρ' : List Addr} {I' : Hp} (g : Gr ρ I ρ' I') {kvs : List (κ × V)} {kws : List (κ × D)} (h : KRep K ρ I kvs kws) : KRep K ρ' I' kvs kws := ⟨h.1, h.2.gr g⟩
end
def keyD : D → Option Kk
  | .int i => some (.inl i)
  | .str x => some (.inr x)
  | _ => none
theorem keyD_at {K : PySem.W.Frag} {ρ : List Addr} {I H : Hp} {v : V} {w : D} {k : Kk} (h : At K ρ I H v w) (e : keyD w = some k) : v = kV k := by
  cases w with
  | int i => cases e; cases h; rfl
  | str i => cases e; cases h; rfl
  | _ => cases e
def opDGet : D → D → Option D
  | .dK l, y => (keyD y).bind (valD l)
  | _, _ => none
def opGet : D → D → Option D
  | .dK l, y => opDGet (.dK l) y
  | a, b => opIx a b
theorem opGet_or (a b : D) : opGet a b = opIx a b ∨ opGet a b = opDGet a b := by
  cases a with
  | dK l => exact .inr rfl
  | _ => exact .inl rfl
section
variable {X : Cx} {Wx : WX} {fr : Bool}
theorem rooms {k : Nat} {A : Around} (hr : Room k A) : A.units + 1 < cLine := by have := hr.units; omega
theorem dget_of {K : PySem.W.Frag} {ρ : List Addr} {I H : Hp} {v1 v2 : V} {l : List (Kk × D)} {b : D} {k : Kk} (h1 : At K ρ I H v1 (.dK l)) (h2 : At K ρ I H v2 b) (ek : keyD b = some k) :
    ∃ a, v1 = .ref a ∧ ((∃ v w, DGet H a v2 (some v) ∧ valD l k = some w ∧ Rep K ρ I v w) ∨ (DGet H a v2 none ∧ valD l k = none)) := by
  obtain ⟨a, kvs, rfl, ha, hk⟩ := h1
  have hk : KRep K ρ I kvs l := hk
  cases keyD_at h2 ek
  refine ⟨a, rfl, ?_⟩
  rcases hk.val k with ⟨v, w, e1, e2, r⟩ | ⟨e1, e2⟩
  · exact .inl ⟨v, w, .inl ⟨kvs, k, ha, rfl, e1.symm⟩, e2, r⟩
  · exact .inr ⟨.inl ⟨kvs, k, ha, rfl, e1.symm⟩, e2⟩
theorem c_dget {a b : Expr} {pos : Pos} {f g : DE} {k : Nat} (hr : Room k X.A) (ha : SE X Wx a f) (hb : SE X Wx b g) (hs : NoSl b := by intro _ _; rfl) : SE X Wx (.Subscript a b pos) (d2 opDGet f g) := by
  refine PE.imp (pe_dget (rooms hr) ha hb hs) fun σV H Q h => ?_
  obtain ⟨F, I, ρ, σ, S, rb, h⟩ := h
  refine ⟨F, I, ρ, σ, S, rb, post_bind h fun I1 ρ1 σ1 S1 H1 x v1 _ g1 rb1 t1 h1 => ?_⟩
  refine ⟨F, I1, ρ1, σ1, S1, rb1, post_bind h1 fun I2 ρ2 σ2 S2 H2 y v2 _ g2 rb2 t2 h2 => ?_⟩
  obtain ⟨z, ez, h3⟩ := post_opt h2
  obtain ⟨c, ec, ez⟩ := Option.bind_eq_some_iff.mp ez
  obtain ⟨b, eb, ez⟩ := Option.bind_eq_some_iff.mp ez
  have A1 := rb2.at (t1.gr g2) ec
  have A2 := rb2.at t2 eb
  cases c with
  | dK l =>
    obtain ⟨k, ek, ev⟩ := Option.bind_eq_some_iff.mp (show (keyD b).bind (valD l) = some z from ez)
    obtain ⟨a, rfl, q⟩ := dget_of A1 A2 ek
    rcases q with ⟨v, w, q1, q2, q3⟩ | ⟨_, q2⟩
    · rw [q2] at ev
      cases ev
      exact ⟨a, v, rfl, q1, h3 I2 ρ2 H2 v Gr.refl rb2 (.inr q3)⟩
    · rw [q2] at ev
      cases ev
  | _ => cases ez
theorem c_get {a b : Expr} {pos : Pos} {f g : DE} {k : Nat} (hr : Room k X.A) (ha : SE X Wx a f) (hb : SE X Wx b g) (hs : NoSl b := by intro _ _; rfl) (hs' : PlainIx b := by intro _ _; rfl) : SE X Wx (.Subscript a b pos) (d2 opGet f g) :=
  c_or2 (c_ix ha hb hs') (c_dget hr ha hb hs) fun σ S => d2_or opGet_or f g σ S
def rDIn : R2 := fun y x H Q => ∃ a o, x = .ref a ∧ DGet H a y o ∧ Q (.bl o.isSome) H
theorem op_din {k : Nat} (hr : Room k X.A) : OpR X (compareOp .In) rDIn := by
  intro pins s σ H y x v u Q I ry rx ⟨a, o, e, g, q⟩
  subst e
  obtain rfl : u = Value.ref a := rx
  exact d_in (rooms hr) I g ry fun s3 I3 => ⟨.bl o.isSome, H, I3, rfl, q⟩
def inG : D → D → Option Bool
  | y, .dK l => (keyD y).map fun k => (valD l k).isSome
  | a, b => inA a b
def opInG (a b : D) : Option D := (inG a b).map D.bl
def opNotInG (a b : D) : Option D := (inG a b).map fun x => D.bl (!x)
theorem os_inG {K : PySem.W.Frag} : OpS K (fun x y H Q => rInA K x y H Q ∨ rDIn x y H Q) opInG := by
  intro F I ρ S H σV σ v1 v2 a b z Q rb h1 h2 ez q
  obtain ⟨x, e, rfl⟩ := Option.map_eq_some_iff.mp ez
  cases b with
  | dK l =>
    obtain ⟨k, ek, ex⟩ := Option.map_eq_some_iff.mp (show (keyD a).map _ = some x from e)
    obtain ⟨p, rfl, w⟩ := dget_of h2 h1 ek
    refine .inr ?_
    rcases w with ⟨v, w, q1, q2, q3⟩ | ⟨q1, q2⟩
    · rw [q2] at ex
      exact ⟨p, _, rfl, q1, by have ex : true = x := ex; rw [← ex] at q; exact q I H _ Gr.refl rb .bl⟩
    · rw [q2] at ex
      exact ⟨p, _, rfl, q1, by have ex : false = x := ex; rw [← ex] at q; exact q I H _ Gr.refl rb .bl⟩
  | _ => exact .inl (os_in F I ρ S H σV σ v1 v2 a _ _ Q rb h1 h2 (by unfold opIn; rw [show inA a _ = some x from e]; rfl) q)
theorem op_inG {k : Nat} (hr : Room k X.A) : OpR X (compareOp .In) (fun x y H Q => rInA X.K x y H Q ∨ rDIn x y H Q) := op_inA.or (op_din hr)
end
end MR
set_option Elab.async false
set_option linter.all false
set_option maxRecDepth 100000
namespace MR
open PySem PySem.Spec PyProof.Rows L2
section
variable {X : Cx} {Wx : WX} {fr : Bool}
def ofMutS (o : Option (Sl × Sto)) : Res Fl := match o with
  | some (σ, S) => .ok .next σ S
  | none => .fail
def sDPutD (fd fy fv : DE) : DS := fun σ S => (dV fv σ S).bind fun w σ S => (fd σ S).bind fun x σ S => (fy σ S).bind fun y σ S => match deref σ S x, keyD y with
  | some (.dK l), some k => if l.length < most then ofMutS (chg σ S x (.dK (putD l k w))) else .fail
  | _, _ => .fail
theorem TRep.key {K : PySem.W.Frag} {ρ : List Addr} {I : Hp} {σV : L2.St} {v : V} {y : D} {k : Kk} (t : TRep K ρ I σV v y) (e : keyD y = some k) : v = kV k := by
  rcases t with ⟨i, rfl, _⟩ | r
  · cases e
  · cases r with
    | int => cases e; rfl
    | str => cases e; rfl
    | _ => cases e
theorem dK_own {K : PySem.W.Frag} {ρ : List Addr} {I H : Hp} {a : Addr} {kvs : List (Key × V)} {l : List (Kk × D)} (h1 : H a = some (.dK kvs)) (h2 : KRep K ρ I kvs l) : OwnAt K ρ I H a (.dK l) := ⟨kvs, h1, h2.1, h2.2⟩
abbrev DP := Sl → Sto → Res (List (Kk × D))
def pNil : DP := fun σ S => .ok [] σ S
def pCons (f g : DE) (r : DP) : DP := fun σ S => (f σ S).bind fun x σ S => match keyD x with
  | some k => (dV g σ S).bind fun w σ S => (r σ S).bind fun ps σ S => .ok ((k, w) :: ps) σ S
  | none => .fail
def mergeD (l more : List (Kk × D)) : List (Kk × D) := more.foldl (fun acc kv => putD acc kv.1 kv.2) l
def dDisp (r : DP) : DE := fun σ S => (r σ S).bind fun ps σ S => .ok (.dK (mergeD [] ps)) σ S
theorem KRep.merge {K : PySem.W.Frag} {ρ : List Addr} {I : Hp} {ms : List (Key × V)} {mw : List (Kk × D)} (h : KRep K ρ I ms mw) : ∀ {kvs : List (Key × V)} {kws : List (Kk × D)}, KRep K ρ I kvs kws → KRep K ρ I (mergeK kvs ms) (mergeD kws mw) := by
  refine KRep.ind (P := fun ms mw => ∀ {kvs : List (Key × V)} {kws : List (Kk × D)}, KRep K ρ I kvs kws → KRep K ρ I (mergeK kvs ms) (mergeD kws mw)) (fun h => h) (fun k v w ms mw r _ ih kvs kws h => ?_) h
  exact ih (h.put k r)
structure SP (X : Cx) (Wx : WX) (pos : Pos) (keys : List (Option Expr)) (values : List Expr) (r : DP) : Prop where
  ex : ∃ trs, PPs X pos keys values trs ∧ ∀ (σV : L2.St) (H : Hp) (Q : List (V × V) → Hp → Prop), semR X.K Wx (fun ρ I _ vs ws => ∃ kvs : List (Key × V), vs = kvs.map (fun kv => (kV kv.1, kv.2)) ∧ kvs.length = keys.length ∧ KRep X.K ρ I kvs ws) r σV H Q → tPairs trs σV H Q
theorem sp_nil {pos : Pos} : SP X Wx pos [] [] pNil := ⟨[], pps_nil, fun σV H Q h => by
  obtain ⟨F, I, ρ, σ, S, rb, h⟩ := h
  exact h I ρ H [] Gr.refl rb ⟨[], rfl, rfl, KRep.nil⟩⟩
theorem sp_cons {pos : Pos} {k v : Expr} {ks : List (Option Expr)} {vs : List Expr} {f g : DE} {r : DP} (hk : SE X Wx k f) (hv : SE X Wx v g) (hr : SP X Wx pos ks vs r) : SP X Wx pos (some k :: ks) (v :: vs) (pCons f g r) := by
  obtain ⟨trs, hp, ht⟩ := hr.ex
  refine ⟨_, pps_cons hk (c_v hv) hp, fun σV H Q h => ?_⟩
  obtain ⟨F, I, ρ, σ, S, rb, h⟩ := h
  refine ⟨F, I, ρ, σ, S, rb, post_bind h fun I1 ρ1 σ1 S1 H1 x v1 _ g1 rb1 t1 h1 => ?_⟩
  split at h1
  · rename_i kk ek
    cases t1.key ek
    refine ⟨F, I1, ρ1, σ1, S1, rb1, post_bind h1 fun I2 ρ2 σ2 S2 H2 w v2 _ g2 rb2 t2 h2 => ?_⟩
    refine ht σV H2 _ ⟨F, I2, ρ2, σ2, S2, rb2, post_bind h2 fun I3 ρ3 σ3 S3 H3 ps vs3 _ g3 rb3 t3 h3 => ?_⟩
    obtain ⟨kvs, rfl, hl, rk⟩ := t3
    exact h3 I3 ρ3 H3 _ Gr.refl rb3 ⟨(kk, v2) :: kvs, rfl, by rw [List.length_cons, List.length_cons, hl], rk.cons (t2.gr g3)⟩
  · exact h1.elim
theorem RB.less {K : PySem.W.Frag} {F F' I : Hp} {ρ : List Addr} {S : Sto} {H : Hp} {σV : L2.St} {σ : Sl} (rb : RB K F' I ρ S H σV σ) (s : ∀ a o, F a = some o → F' a = some o) (sz : ∀ a ob u, F' a = some (.frz ob u) → F a = some (.frz ob u)) : RB K F I ρ S H σV σ := by
  have n : ∀ {a : Addr}, F' a = none → F a = none := fun {a} h => by
    cases e : F a with
    | none => rfl
    | some o => rw [s a o e] at h; cases h
  refine ⟨fun a o h => rb.fr a o (s a o h), rb.sub, fun a o h => rb.dis a o (s a o h), fun r o h => ?_, rb.nd, rb.rl, rb.len, fun i sl h => ?_, rb.inj⟩
  · obtain ⟨a, ha, hf, hi, hc⟩ := rb.store r o h
    exact ⟨a, ha, hf.mono n (sz a), hi, hc⟩
  · have q := rb.slot i sl h
    cases sl with
    | emp => trivial
    | exn b => first | exact q | exact (List.getElem?_set_ne e).trans q | exact e.trans q
    | exx b d n => first | exact q | exact ⟨(List.getElem?_set_ne e).trans q.1, q.2⟩ | exact ⟨e.trans q.1, q.2⟩ | exact ⟨q.1, g.ex _ _ q.2⟩ | exact ⟨(List.getElem?_set_ne e).trans q.1, g.ex _ _ q.2⟩ | exact ⟨e.trans q.1, g.ex _ _ q.2⟩
    | val w => exact q
    | own c => obtain ⟨a, ha, hf, hi, hr, ho⟩ := q; exact ⟨a, ha, n hf, hi, hr, ho⟩
theorem RB.hold {K : PySem.W.Frag} {F I : Hp} {ρ : List Addr} {S : Sto} {H : Hp} {σV : L2.St} {σ : Sl} (rb : RB K F I ρ S H σV σ) {p : Addr} {o : HO} (hp : H p = none) : RB K (upd F p o) I ρ S (upd H p o) σV σ := by
  obtain ⟨rb2, nf, ni, nr, no⟩ := rb.newO (o := o) hp
  refine ⟨fun a u h => ?_, rb2.sub, fun a u h => ?_, fun r c h => ?_, rb2.nd, rb2.rl, rb2.len, fun i s h => ?_, rb2.inj⟩
  · by_cases e : a = p
    · subst e; rw [upd_same] at h ⊢; exact h
    · rw [upd_ne e] at h; exact rb2.fr a u h
  · by_cases e : a = p
    · subst e; exact fun _ => ni
    · rw [upd_ne e] at h; exact rb2.dis a u h
  · obtain ⟨a, ha, hf, hi, hc⟩ := rb2.store r c h
    have ne : a ≠ p := fun e => nr (e ▸ List.mem_of_getElem? ha)
    exact ⟨a, ha, hf.mono (fun z => by rw [upd_ne ne]; exact z) (fun _ _ z => by rw [upd_ne ne]; exact z), hi, hc⟩
  · have q := rb2.slot i s h
    cases s with
    | emp => trivial
    | exn b => first | exact q | exact (List.getElem?_set_ne e).trans q | exact e.trans q
    | exx b d n => first | exact q | exact ⟨(List.getElem?_set_ne e).trans q.1, q.2⟩ | exact ⟨e.trans q.1, q.2⟩ | exact ⟨q.1, g.ex _ _ q.2⟩ | exact ⟨(List.getElem?_set_ne e).trans q.1, g.ex _ _ q.2⟩ | exact ⟨e.trans q.1, g.ex _ _ q.2⟩
    | val w => exact q
    | own c =>
      obtain ⟨a, ha, hf, hi, hr, ho⟩ := q
      have ne : a ≠ p := fun e => no i c h (e ▸ ha)
      exact ⟨a, ha, by rw [upd_ne ne]; exact hf, hi, hr, ho⟩
theorem cf_disp {pos : Pos} {keys : List (Option Expr)} {values : List Expr} {r : DP} (h : SP X Wx pos keys values r) (hall : keys.all (·.isSome) = true := by rfl) (hl : keys.length = values.length := by rfl) (h0 : keys ≠ [] := by simp) (h15 : keys.length ≤ 15 := by decide) : SF X Wx (.Dict keys values pos) (dDisp r) := by
  obtain ⟨trs, hp, ht⟩ := h.ex
  refine PE.imp (pe_disp hp hall hl h0 h15) fun σV H Q h => ?_
  obtain ⟨F, I, ρ, σ, S, rb, h⟩ := h
  intro p hp0
  have hb := rb.hold (o := .dK []) hp0
  have nF : F p = none := by
    cases e : F p with
    | none => rfl
    | some u => rw [rb.fr p u e] at hp0; cases hp0
  have sb : ∀ a o, F a = some o → upd F p (.dK []) a = some o := fun a o e => by rw [upd_ne (ne_of_none e nF)]; exact e
  have sz : ∀ a ob u, upd F p (.dK []) a = some (.frz ob u) → F a = some (.frz ob u) := fun a ob u e => by
    by_cases z : a = p
    · subst z; rw [upd_same] at e; cases e
    · rw [upd_ne z] at e; exact e
  refine ht σV _ _ ⟨upd F p (.dK []), I, ρ, σ, S, hb, ?_⟩
  unfold dDisp at h
  cases e : r σ S with
  | fail => rw [e] at h; exact h
  | exc a σ1 S1 => rw [e] at h; exact fun I' ρ' H' d g rb' => h I' ρ' H' d g (rb'.less sb sz)
  | ok ps σ1 S1 =>
    rw [e] at h
    intro I' ρ' H' vs g rb' ⟨kvs, ev, hlen, rk⟩
    have hHp : H' p = some (.dK []) := rb'.fr p _ upd_same
    refine ⟨hHp, kvs, ev, by omega, ?_⟩
    have rb2 := rb'.less sb sz
    have ni : I' p = none := rb'.dis p _ upd_same (fun _ z => by cases z)
    have nr : p ∉ ρ' := fun hm => by
      obtain ⟨j, hj⟩ := List.getElem?_of_mem hm
      have lt : j < S1.length := by rw [← rb'.rl]; exact (List.getElem?_eq_some_iff.mp hj).1
      obtain ⟨b, hb, hfb, _⟩ := rb'.store j _ (List.getElem?_eq_getElem lt)
      rw [hj] at hb
      cases hb
      obtain ⟨ob, u, e⟩ := hfb.not upd_same
      cases e
    have no : NoOwn σV σ1 p := fun i c h1 h2 => by
      obtain ⟨b, hb, hfb, _⟩ := rb'.slot i _ h1
      rw [h2] at hb
      cases hb
      rw [upd_same] at hfb
      cases hfb
    have k : ∀ b u, b ≠ p → H' b = some u → upd H' p (.dK (mergeK [] kvs)) b = some u := fun b u n h => by rw [upd_ne n]; exact h
    have rb3 : RB X.K F I' ρ' S1 (upd H' p (.dK (mergeK [] kvs))) σV σ1 := by
      refine ⟨fun a u h => k a u (ne_of_none h nF) (rb2.fr a u h), fun a u h => ?_, rb2.dis, fun j c h => ?_, rb2.nd, rb2.rl, rb2.len, fun i s h => ?_, rb2.inj⟩
      · have n := ne_of_none h ni
        rcases rb2.sub a u h with q | ⟨d, ob, q⟩
        · exact .inl (k _ _ n q)
        · exact .inr ⟨d, ob, k _ _ n q⟩
      · obtain ⟨a, ha, hf, hi, hc⟩ := rb2.store j c h
        have n : a ≠ p := fun z => nr (z ▸ List.mem_of_getElem? ha)
        exact ⟨a, ha, hf, hi, hc.gr Gr.refl fun u => k a u n⟩
      · have q := rb2.slot i s h
        cases s with
        | emp => trivial
        | exn b => first | exact q | exact (List.getElem?_set_ne e).trans q | exact e.trans q
        | exx b d n => first | exact q | exact ⟨(List.getElem?_set_ne e).trans q.1, q.2⟩ | exact ⟨e.trans q.1, q.2⟩ | exact ⟨q.1, g.ex _ _ q.2⟩ | exact ⟨(List.getElem?_set_ne e).trans q.1, g.ex _ _ q.2⟩ | exact ⟨e.trans q.1, g.ex _ _ q.2⟩
        | val w => exact q
        | own c =>
          obtain ⟨a, ha, hf, hi, hr, ho⟩ := q
          have n : a ≠ p := fun z => no i c h (z ▸ ha)
          exact ⟨a, ha, hf, hi, hr, ho.gr Gr.refl fun u => k a u n⟩
    exact h I' ρ' _ _ g rb3 (.inl ⟨p, rfl, nF, ni, nr, no, dK_own upd_same (rk.merge KRep.nil)⟩)
def dAlloc (f : DE) : DE := fun σ S => (f σ S).bind fun w σ S => if scalar w then .ok w σ S else .ok (.obj S.length) σ (S ++ [.con false w])
end
def fget (fs : List (String × D)) (f : String) : Option D := (fs.find? fun p => p.1 == f).map (·.2)
def fput (f : String) (w : D) : List (String × D) → List (String × D)
  | [] => [(f, w)]
  | (g, x) :: r => if g = f then (g, w) :: r else (g, x) :: fput f w r
section
variable {K : PySem.W.Frag} {ρ : List Addr} {I : Hp}
def FRep (K : PySem.W.Frag) (ρ : List Addr) (I : Hp) (fsV : List (Str × V)) (fs : List (String × D)) : Prop := fsV.map (·.1) = fs.map (fun p => Str.ofString p.1) ∧ Reps K ρ I (fsV.map (·.2)) (fs.map (·.2))
theorem FRep.ind {P : List (Str × V) → List (String × D) → Prop} (h0 : P [] []) (h1 : ∀ k v w kvs kws, Rep K ρ I v w → FRep K ρ I kvs kws → P kvs kws → P ((Str.ofString k, v) :: kvs) ((k, w) :: kws)) : ∀ {kvs : List (Str × V)} {kws : List (String × D)}, FRep K ρ I kvs kws → P kvs kws
  | [], [], _ => h0
  | [], _ :: _, h => by have := h.1; simp at this
  | _ :: _, [], h => by have := h.1; simp at this
  | (k, v) :: kvs, (k', w) :: kws, h => by
    obtain ⟨h2, h3⟩ := h
    simp only [List.map_cons] at h2 h3
    injection h2 with h4 h5
    subst h4
    cases h3 with
    | cons r1 r2 => exact h1 k' v w kvs kws r1 ⟨h5, r2⟩ (FRep.ind h0 h1 ⟨h5, r2⟩)
theorem FRep.nil : FRep K ρ I [] [] := ⟨rfl, .nil⟩
theorem FRep.cons {k : String} {v : V} {w : D} {kvs : List (Str × V)} {kws : List (String × D)} (h : Rep K ρ I v w) (r : FRep K ρ I kvs kws) : FRep K ρ I ((Str.ofString k, v) :: kvs) ((k, w) :: kws) := ⟨by simp [r.1], .cons h r.2⟩
theorem FRep.len {fsV : List (Str × V)} {fs : List (String × D)} (h : FRep K ρ I fsV fs) : fsV.length = fs.length := by
  have := congrArg List.length h.1
  rwa [List.length_map, List.length_map] at this
end
def objAt (cs : List String) (S : Sto) (x : D) : Option (Nat × String × List (String × D)) := match x with
  | .obj r => (match S[r]? with
    | some (.ins c fs) => if c ∈ cs then some (r, c, fs) else none
    | _ => none)
  | _ => none
section
variable {X : Cx} {Wx : WX} {fr : Bool}
def dFld (cs : List String) (f : String) (fo : DE) : DE := fun σ S => (fo σ S).bind fun x σ S => ofOpt ((objAt cs S x).bind fun p => fget p.2.2 f) σ S
def sFldD (cs : List String) (f : String) (fo fv : DE) : DS := fun σ S => (dV fv σ S).bind fun w σ S => (fo σ S).bind fun x σ S => match objAt cs S x with
  | some (r, c, fs) => if fs.length < 1000 then .ok .next σ (S.set r (.ins c (fput f w fs))) else .fail
  | none => .fail
end
end MR
set_option Elab.async false
set_option linter.all false
set_option maxRecDepth 100000
namespace MR
open PySem PySem.Spec PyProof.Rows L2
section
variable {X : Cx} {CX : CXT} {k : Nat} {f C : Addr} {fd : FuncData} {ps : List Str} {sp : Sp} {E : L2.St → XK} {x m : Str} {p pos apos : Pos} {e o : Expr} {es : List Expr} {ta : TE} {t : TA} {pl : Sem Bool}
end
structure Mt (kb fr : Bool) (P : Program) (w : World) (K : PySem.W.Frag) (mg : Str → Option Value) (base : Heap) (c m : String) (k n : Nat) (d : Den) : Prop where
  ex : ∃ (f : Addr) (fd : FuncData) (ps : List Str), Cls K (ca K c) ∧ Meth K (ca K c) (Str.ofString m) f ∧ Binds K fd ps [] ∧ ps.length = n ∧ FnOk P w K mg base (CXk kb P w) k f fd ps (spD fr K n d)
theorem Mt.mono {fr : Bool} {P : Program} {w : World} {K : PySem.W.Frag} {mg : Str → Option Value} {base : Heap} {c m : String} {k k' n : Nat} {d : Den} (M : Mt kb fr P w K mg base c m k n d) (h : k ≤ k') : Mt kb fr P w K mg base c m k' n d := by
  obtain ⟨f, fd, ps, h1, h2, h3, h4, h5⟩ := M.ex
  exact ⟨f, fd, ps, h1, h2, h3, h4, h5.mono h⟩
structure MkD (kb : Bool) (P : Program) (w : World) (K : PySem.W.Frag) (mg : Str → Option Value) (base : Heap) (c : String) (k n : Nat) (d : Den) : Prop where
  ex : ∃ (f : Addr) (fd : FuncData) (ps : List Str), mg (Str.ofString c) = some (.ref (ca K c)) ∧ Mk K (ca K c) f ∧ Binds K fd ps [] ∧ ps.length = n ∧ FnOk P w K mg base (CXk kb P w) k f fd ps (spD false K n d)
def outR (o : Out) (σ : Sl) : Res D := match o with
  | .ok w S' => .ok w σ S'
  | .exc e S' => .exc e σ S'
  | .fail => .fail
def dMet (m : String) (tbl : List (String × Den)) (fo : DE) (fa : DA) : DE := fun σ S => (fo σ S).bind fun x σ S => match objAt (tbl.map (·.1)) S x with
  | some (_, c, fs) => (match fget fs m with
    | some _ => .fail
    | none => (fa σ S).bind fun ws σ S => match tbl.find? (fun p => p.1 == c) with
      | some p => outR (p.2 (x :: ws) S) σ
      | none => .fail)
  | none => .fail
def dMake (c : String) (d : Den) (fa : DA) : DE := fun σ S => (fa σ S).bind fun ws σ S => match d (.obj S.length :: ws) (S ++ [.ins c []]) with
  | .ok .non S' => .ok (.obj S.length) σ S'
  | .ok _ _ => .fail
  | .exc e S' => .exc e σ S'
  | .fail => .fail
section
variable {X : Cx} {Wx : WX}
variable {k n : Nat} {m : String} {tbl : List (String × Den)} {pos apos : Pos} {o e : Expr} {es : List Expr} {fo : DE} {r : DA} {pl : Sem Bool}
variable {c : String} {d : Den} {p : Pos} {j : Nat}
end
end MR
set_option Elab.async false
set_option linter.all false
set_option maxRecDepth 100000
namespace MR
open PySem PySem.Spec PyProof.Rows L2
def isDct : D → Bool
  | .dK _ => true
  | _ => false
section
variable {X : Cx} {Wx : WX} {fr : Bool} {o e f : Expr} {apos cpos : Pos} {fo fe ff : DE} {k : Nat}
theorem isD_of {K : PySem.W.Frag} {ρ : List Addr} {I H : Hp} {v : V} {c : D} (h : At K ρ I H v c) (e : isDct c = true) : ∃ a, v = .ref a ∧ IsD H a := by
  cases c with
  | dK l => obtain ⟨a, kvs, rfl, hk, _⟩ := h; exact ⟨a, rfl, .inl ⟨kvs, hk⟩⟩
  | _ => cases e
def kGet : D → D → List D → Sl → Sto → Res D := fun _ c ws σ S => match c, ws with
  | .dK l, [y] => (match keyD y with
    | some k => .ok ((valD l k).getD .non) σ S
    | none => .fail)
  | .dK l, [y, z] => (match keyD y with
    | some k => .ok ((valD l k).getD z) σ S
    | none => .fail)
  | _, _ => .fail
theorem c_dget2 (hr : Room k X.A) (ho : SE X Wx o fo) (he : SE X Wx e fe) (hf : SE X Wx f ff) (m : M2 X o "get" apos e f cpos) : SE X Wx (.Call (.Attribute o "get" apos) [e, f] [] cpos) (dMeth isDct kGet fo (aCons fe (aCons ff aNil))) := by
  refine PE.imp (pe_dget2 (rooms hr) ho (c_v he) (c_v hf) m) fun σV H Q h => ?_
  obtain ⟨F, I, ρ, σ, S, rb, h⟩ := h
  refine ⟨F, I, ρ, σ, S, rb, post_bind h fun I1 ρ1 σ1 S1 H1 x v1 _ g1 rb1 t1 h1 => ?_⟩
  split at h1
  · rename_i hi
    obtain ⟨c, hc, hic⟩ := Option.map_eq_some_iff.mp hi
    obtain ⟨a, rfl, hd⟩ := isD_of (rb1.at t1 hc) hic
    unfold aCons at h1
    have h1' : postR X.K Wx (TRep X.K) F I1 ρ1 σV ((dV fe σ1 S1).bind fun y σ S => (dV ff σ S).bind fun z σ S => match deref σ S x with
      | some c => kGet x c [y, z] σ S
      | none => .fail) Q := by
      cases e : dV fe σ1 S1 with
      | exc a _ _ => rw [e] at h1; exact h1
      | fail => rw [e] at h1; exact h1
      | ok y σ2 S2 =>
        rw [e] at h1
        dsimp only [Res.bind] at h1 ⊢
        cases e2 : dV ff σ2 S2 with
        | exc a _ _ => rw [e2] at h1; exact h1
        | fail => rw [e2] at h1; exact h1
        | ok z σ3 S3 => rw [e2] at h1; exact h1
    refine ⟨a, rfl, hd, F, I1, ρ1, σ1, S1, rb1, post_bind h1' fun I2 ρ2 σ2 S2 H2 y vy _ g2 rb2 t2 h2 => ?_⟩
    refine ⟨F, I2, ρ2, σ2, S2, rb2, post_bind h2 fun I3 ρ3 σ3 S3 H3 z vz _ g3 rb3 t3 h3 => ?_⟩
    split at h3
    · rename_i c2 hc2
      unfold kGet at h3
      split at h3
      · rename_i heq; cases heq
      · rename_i l y0 z0 heq
        cases heq
        split at h3
        · rename_i k hk
          obtain ⟨a', ea, q⟩ := dget_of (rb3.at ((t1.gr g2).gr g3) hc2) (Rep.at rb3.sub (t2.gr g3)) hk
          cases ea
          rcases q with ⟨v, w, q1, q2, q3⟩ | ⟨q1, q2⟩
          · exact ⟨_, q1, by rw [q2] at h3; exact h3 I3 ρ3 H3 v Gr.refl rb3 (.inr q3)⟩
          · exact ⟨_, q1, by rw [q2] at h3; exact h3 I3 ρ3 H3 _ Gr.refl rb3 (.inr t3)⟩
        · exact h3.elim
      · exact h3.elim
    · exact h3.elim
  · exact h1.elim
def kPop : D → D → List D → Sl → Sto → Res D := fun x c ws σ S => match c, ws with
  | .dK l, [y] => (match keyD y with
    | some k => (match valD l k with
      | some w => ofMut w (chg σ S x (.dK (dropD l k)))
      | none => .fail)
    | none => .fail)
  | _, _ => .fail
end
section
variable {P : Program} {w : World} {K : PySem.W.Frag} {mg : Str → Option Value} {base : Heap} {x qual : Str} {params : Arguments} {body : List Stmt} {scope : Scope} {f : Addr} {fd : FuncData} {N ps : List Str} {k n j : Nat} {d : DS}
end
end MR
set_option Elab.async false
set_option linter.all false
set_option maxRecDepth 100000
namespace MR
open PySem PySem.Spec PyProof.Rows L2
section
variable {K : PySem.W.Frag} {F I : Hp} {ρ : List Addr} {S : Sto} {H : Hp} {σV : L2.St} {σ : Sl}
end
def pick (fe : DE) (σ : Sl) (S : Sto) : Option (Nat × List (Kk × D)) := match fe σ S with
  | .ok (.obj r) _ _ => (match S[r]? with
    | some (.con false (.dK l)) => some (r, l)
    | _ => none)
  | _ => none
def openAt (r : Nat) (S : Sto) : Option Sto := match S[r]? with
  | some (.con true (.dK l)) => some (S.set r (.con false (.dK l)))
  | _ => none
def unlk {α : Type} (r : Nat) : Res α → Res α
  | .ok a σ S => (match openAt r S with
    | some S' => .ok a σ S'
    | none => .fail)
  | _ => .fail
def relk (fe : DE) (σ : Sl) (S : Sto) : Bool := match fe σ S with
  | .ok (.obj r) _ _ => (match S[r]? with
    | some (.con true (.dK _)) => true
    | _ => false)
  | _ => false
def dLock (fe : DE) (f : DE) : DE := fun σ S => match pick fe σ S with
  | some (r, l) => unlk r (f σ (S.set r (.con true (.dK l))))
  | none => if relk fe σ S = true then f σ S else .fail
section
variable {X : Cx} {Wx : WX} {fr : Bool}
def kD : Kk → D
  | .inl i => .int i
  | .inr x => .str x
def lockd (σ : Sl) (S : Sto) (x : D) : Option (List (Kk × D)) := match x with
  | .obj r => (match S[r]? with
    | some (.con true (.dK l)) => some l
    | _ => none)
  | _ => none
def iWalk (sel : List (Kk × D) → List D) (f : DE) : DI := fun σ S => (f σ S).bind fun x σ S => match lockd σ S x with
  | some l => .ok (sel l) σ S
  | none => .fail
abbrev iKeysD (f : DE) : DI := iWalk (fun l => l.map fun p => kD p.1) f
end
end MR
set_option Elab.async false
set_option linter.all false
set_option maxRecDepth 100000
namespace MR
open PySem PySem.Spec PyProof.Rows L2
section
variable {X : Cx} {Wx : WX} {fr : Bool}
def sDAugD (op : Int → Int → Int) (fd fy fv : DE) : DS := fun σ S => (fd σ S).bind fun x σ S => (fy σ S).bind fun y σ S => match deref σ S x, keyD y with
  | some (.dK l), some k => (match valD l k with
    | some (.int i) => (fv σ S).bind fun z σ S => (match z, deref σ S x with
      | .int j, some (.dK l') => if l'.length < most then ofMutS (chg σ S x (.dK (putD l' k (.int (op i j))))) else .fail
      | _, _ => .fail)
    | _ => .fail)
  | _, _ => .fail
def kLPop : D → D → List D → Sl → Sto → Res D := fun x c ws σ S => match c, ws with
  | .lst xs, [] => (match xs[xs.length - 1]? with
    | some y => ofMut y (chg σ S x (.lst xs.dropLast))
    | none => .fail)
  | _, _ => .fail
theorem Reps.dropLast {K : PySem.W.Frag} {ρ : List Addr} {I : Hp} {vs : List V} {ws : List D} (r : Reps K ρ I vs ws) : Reps K ρ I vs.dropLast ws.dropLast := by
  rw [List.dropLast_eq_take, List.dropLast_eq_take, r.length]
  exact r.take _
structure MA (X : Cx) (o : Expr) (m : Str) (apos : Pos) (e : Expr) (es : List Expr) (cpos : Pos) : Prop where
  base : attributeBase o m X.env (eval o X.env) = eval o X.env
  few : ((backTo cpos (starEach (e :: es) X.env)).all (fun x => !x.1) && (backToKw cpos (keywordEach [] X.env)).all (fun x => x.1.isSome) && decide ((e :: es).length + ([] : List Keyword).length + (if ([] : List Keyword).isEmpty then 0 else 1) < 30)) = true
  line : (apos.endLine == cpos.line) = true
  star : starEach (e :: es) X.env = (false, eval e X.env) :: starEach es X.env
def kExt : D → D → List D → Sl → Sto → Res D := fun x c ws σ S => match c, ws with
  | .lst xs, [.lst ys] => if xs.length + ys.length ≤ most then ofMut .non (chg σ S x (.lst (xs ++ ys))) else .fail
  | _, _ => .fail
def opListD : D → Option D
  | .dK l => some (.lst (l.map fun p => kD p.1))
  | _ => none
end
end MR
set_option Elab.async false
set_option linter.all false
set_option maxRecDepth 100000
namespace MR
open PySem PySem.Spec PyProof.Rows L2
abbrev sLt (x y : Str) : Bool := decide (x.cps.toList < y.cps.toList)
def insS (x : Str) : List Str → List Str
  | [] => [x]
  | y :: l => if sLt y x then y :: insS x l else x :: y :: l
def srtS : List Str → List Str
  | [] => []
  | x :: l => insS x (srtS l)
theorem insS_perm (x : Str) (l : List Str) : (insS x l).Perm (x :: l) := by
  induction l with
  | nil => exact List.Perm.refl _
  | cons y l ih =>
    unfold insS
    split
    · exact (List.Perm.cons y ih).trans (List.Perm.swap ..)
    · exact List.Perm.refl _
theorem srtS_perm (l : List Str) : (srtS l).Perm l := by
  induction l with
  | nil => exact List.Perm.refl _
  | cons x l ih => exact (insS_perm x _).trans (List.Perm.cons x ih)
section
variable {X : Cx} {Wx : WX} {fr : Bool} {K : PySem.W.Frag}
def opSortS : D → Option D
  | .lst ws => (strsD ws).bind fun ys => if ys.length < 64 then some (.lst ((srtS ys).map D.str)) else none
  | _ => none
end
end MR
set_option Elab.async false
set_option linter.all false
set_option maxRecDepth 100000
namespace MR
open PySem PySem.Spec PyProof.Rows L2
structure ExF (K : PySem.W.Frag) (mg : Str → Option Value) (c : String) : Prop where
  g : mg (Str.ofString c) = some (.ref (ca K c))
  x : PySem.W.excIn K (ca K c) He.veBase "ValueError.__new__" = true ∧ PySem.W.keepIn K (.ref (ca K c)) = true ∧ PySem.W.subIn K (.ref (ca K c)) (.type "BaseException") = some true ∧ PySem.W.typeIn K (.ref (ca K c)) = some (.type "type")
section
variable {X : Cx} {Wx : WX} {fr : Bool}
def sRaise (c : String) : DS := fun σ S => .exc ⟨c, none⟩ σ S
theorem cs_raise {kc : Bool} {c : String} {m : Str} {j : Nat} {p p2 pos pos' : Pos} (f : ExF X.K X.mg c) (tk : Tk kc X Wx) (hc : X.calm = true := by rfl) (hg : Gl X (Str.ofString c) := by rfl) (hdb : (Str.ofString c == ("__debug__" : Str)) = false := by decide) :
    SS fr X Wx (.Raise (some (.Call (.Name (Str.ofString c) p) [.Constant (.str m) j p2] [] pos)) none pos') (sRaise c) := by
  obtain ⟨x1, x2, x3, x4⟩ := f.x
  have key : PS X (.Raise (some (.Call (.Name (Str.ofString c) p) [.Constant (.str m) j p2] [] pos)) none pos') (fun _ σ H => Wx (.ref (ca X.K c)) none σ H) := by
    cases kc with
    | true => exact L2N.ps_raise hc tk (L2N.pmk_own PySem.F.excBase_ValueError x1 f.g x2 (raises_own x3 x4) hg hdb)
    | false => exact L2.ps_raise hc tk (L2.pmk_own PySem.F.excBase_ValueError x1 f.g x2 (raises_own x3 x4) hg hdb)
  refine PS.imp key fun D σV H h => ?_
  obtain ⟨F, I, ρ, σ, S, rb, h⟩ := h
  exact h I ρ H none σV Gr.refl rb rfl
end
end MR
set_option Elab.async false
set_option linter.all false
set_option maxRecDepth 100000
set_option maxHeartbeats 3200000
namespace MR
open PySem PySem.Spec PyProof.Rows L2
section
variable {P : Program} {w : World} {A : Around} {E : Value → Shared → Prop} {s : Shared}
end
end MR
set_option Elab.async false
set_option linter.all false
set_option maxRecDepth 100000
set_option maxHeartbeats 3200000
namespace MR
open PySem PySem.Spec PyProof.Rows L2
section
variable {P : Program} {w : World} {A : Around} {E : Value → Shared → Prop} {s : Shared} {a : Addr}
structure TxS (P : Program) (w : World) (h : Heap) (a : Addr) (L : List Str) (o : Obj) (es : Array (Int × Value)) (ep : Nat) (t : SetTable) : Prop where
  ob : h.get? a = some o
  ex : o.ExactSet
  da : o.data = .set es ep t
  el : ElemsOf (PySem.strKind P w) es.toList
  ls : es.toList.map (fun e => strOf e.2) = L
  nd : L.Nodup
  fw : es.size < scanBound
  fi : t.fits es.size = true
  ri : Ris t.place.toList
  le : w.params.followText "set-order" = true ∨ t.led = true
def TxR (P : Program) (w : World) (h : Heap) (a : Addr) (L : List Str) : Prop := ∃ o es ep t, TxS P w h a L o es ep t
theorem TxR.keep {h h' : Heap} {L : List Str} (R : TxR P w h a L) (k : ∀ o, h.get? a = some o → h'.get? a = some o) : TxR P w h' a L := by
  obtain ⟨o, es, ep, t, R⟩ := R
  exact ⟨o, es, ep, t, k o R.ob, R.ex, R.da, R.el, R.ls, R.nd, R.fw, R.fi, R.ri, R.le⟩
end
end MR
set_option Elab.async false
set_option linter.all false
set_option maxRecDepth 100000
set_option maxHeartbeats 3200000
namespace MR
open PySem PySem.Spec PyProof.Rows L2
section
variable {X : Cx} {Wx : WX}
end
end MR
set_option Elab.async false
set_option linter.all false
set_option maxRecDepth 100000
set_option maxHeartbeats 3200000
namespace MR
open PySem PySem.Spec PyProof.Rows L2
section
variable {X : Cx} {Wx : WX}
def opVals : D → Option D
  | .dK l => some (.lst (l.map (·.2)))
  | _ => none
end
end MR
set_option Elab.async false
set_option linter.all false
set_option maxRecDepth 100000
namespace MR
open PySem PySem.Spec PyProof.Rows L2
section
variable {X : Cx} {Wx : WX} {K : PySem.W.Frag}
def opListA : D → Option D
  | .dK l => opListD (.dK l)
  | a => opList a
abbrev opSorted : D → Option D := opSortS
end
end MR
set_option Elab.async false
set_option linter.all false
set_option maxRecDepth 100000
namespace MR
open PySem PySem.Spec PyProof.Rows L2
def excSub (a b : String) : Bool := a == b || (b == "LandError" || b == "ValueError")
open Classical in
section
variable {X : Cx} {Wx : WX} {fr : Bool}
theorem RB.setX {K : PySem.W.Frag} {F I : Hp} {ρ : List Addr} {S : Sto} {H : Hp} {σV : L2.St} {σ : Sl} (rb : RB K F I ρ S H σV σ) {i : Nat} {x : Option V} {sl : Slot} (hs : sl = .emp ∨ ∃ a, sl = .exn a ∧ x = some (.ref a)) : RB K F I ρ S H (σV.set i x) (σ.set i sl) := by
  have no : ∀ {j : Nat} {c : D}, (σ.set i sl)[j]? = some (.own c) → i ≠ j := fun {j c} h e => by
    subst e
    have lt : i < (σ.set i sl).length := (List.getElem?_eq_some_iff.mp h).1
    rw [List.length_set] at lt
    rw [List.getElem?_set_self lt] at h
    cases h
    rcases hs with z | ⟨a, z, _⟩ <;> cases z
  refine ⟨rb.fr, rb.sub, rb.dis, rb.store, rb.nd, rb.rl, by rw [List.length_set, List.length_set]; exact rb.len, fun j s h => ?_, fun j k c c' u h1 h2 h3 h4 => ?_⟩
  · by_cases e : i = j
    · subst e
      have lt : i < (σ.set i sl).length := (List.getElem?_eq_some_iff.mp h).1
      rw [List.length_set] at lt
      rw [List.getElem?_set_self lt] at h
      cases h
      rcases hs with rfl | ⟨a, rfl, rfl⟩
      · trivial
      · exact List.getElem?_set_self (by rw [← rb.len]; exact lt)
    · rw [List.getElem?_set_ne e] at h
      have q := rb.slot j s h
      cases s with
      | emp => trivial
      | exn b => exact (List.getElem?_set_ne e).trans q
      | exx b d n => exact ⟨(List.getElem?_set_ne e).trans q.1, q.2⟩
      | val w => obtain ⟨v, hv, r⟩ := q; exact ⟨v, by rw [List.getElem?_set_ne e]; exact hv, r⟩
      | own c => obtain ⟨a, ha, q⟩ := q; exact ⟨a, by rw [List.getElem?_set_ne e]; exact ha, q⟩
  · have n1 := no h1
    have n2 := no h2
    rw [List.getElem?_set_ne n1] at h1 h3
    rw [List.getElem?_set_ne n2] at h2 h4
    exact rb.inj j k c c' u h1 h2 h3 h4
end
end MR
set_option Elab.async false
set_option linter.all false
set_option maxRecDepth 100000
namespace MR
open PySem PySem.Spec PyProof.Rows L2
def dIsE (a : Addr) (i : Nat) (r c : String) : DE := fun σ S => match σ[i]? with
  | some (.exn b) => if b = a then .ok (.bl (excSub r c)) σ S else .fail
  | _ => .fail
section
variable {X : Cx} {Wx : WX}
end
end MR
set_option Elab.async false
set_option linter.all false
set_option maxRecDepth 100000
namespace MR
open PySem PySem.Spec PyProof.Rows L2
theorem al_nil (P : String → Prop) : ∀ y ∈ ([] : List String), P y := fun y h => by cases h
theorem al_cons (P : String → Prop) {x : String} {l : List String} (h : P x) (t : ∀ y ∈ l, P y) : ∀ y ∈ x :: l, P y := fun y hy => by
  rcases List.mem_cons.mp hy with e | hy
  · rw [e]; exact h
  · exact t y hy
theorem ex_b {α : Type} {o : Option α} {b b' : α} (h : b' = b) (e : o = some b) : o = some b' := by rw [h, e]
inductive Xf where
  | exq (r : String)
  | kit (r c : String) (b : Bool)
  | kitb (r c : String) (b : Bool)
  | tdn (x : Str)
  | oex (c : String)
def oexB (K : PySem.W.Frag) (C : Addr) : Bool := match K.lookup C with
  | some ⟨.type "type", _, .cls cd, sl⟩ => (match cd.mro, sl.toList with
    | .ref C' :: bm, [_, _, _, _, some (.builtin n), _] => C' == C && n == "ValueError.__new__" && !cd.hasDel && cd.hasDict && PySem.HandSPX.refsVE bm
    | _, _ => false)
  | _ => false
def Xf.ok (K : PySem.W.Frag) : Xf → Bool
  | .exq r => He.eqO (PySem.W.findIn K (.ref (ca K r)) "__getattribute__") (some (some (.builtin "BaseException.__getattribute__"))) && (He.eqO (PySem.W.findIn K (.ref (ca K r)) "__getattr__") (some none) &&
      (decide (PySem.W.subIn K (.ref (ca K r)) (.type "BaseException") = some true) && (PySem.W.hasDictIn K (ca K r) && (He.eqO (PySem.W.findIn K (.ref (ca K r)) "__class__") (some (some (.builtin "object.__class__"))) &&
      (He.eqO (PySem.W.specialIn K (.builtin "object.__class__") "__get__") (some (some (.builtin "getset_descriptor.__get__"))) && (decide (PySem.W.takesIn K (.builtin "object.__class__") = some true) && decide (PySem.W.mroIn K (ca K r) (.type "object") = some true)))))))
  | .kit r c b => decide (PySem.W.kitOne K (.ref (ca K r)) (.ref (ca K c)) = some b)
  | .kitb r c b => decide (PySem.W.kitOne K (.ref (ca K r)) (.type c) = some b)
  | .tdn x => (match K.lookup (He.ga K x) with
    | some ⟨.type c, none, _, _⟩ => decide (c = "tuple")
    | _ => false)
  | .oex c => oexB K (ca K c) && (He.eqO (PySem.W.findIn K (.ref (ca K c)) "__setattr__") (some (some (.builtin "object.__setattr__"))) && (decide (PySem.W.subIn K (.ref (ca K c)) (.type "BaseException") = some true) && (decide (PySem.W.typeIn K (.ref (ca K c)) = some (.type "type")) && PySem.W.keepIn K (.ref (ca K c)))))
theorem oex_ok {K : PySem.W.Frag} {c : String} (h : (Xf.oex c).ok K = true) : OexC K (ca K c) := by
  obtain ⟨h1, h⟩ := He.ba h
  obtain ⟨h2, h⟩ := He.ba h
  obtain ⟨h3, h⟩ := He.ba h
  obtain ⟨h4, h5⟩ := He.ba h
  refine ⟨?_, He.eqO_ok h2, of_decide_eq_true h3, of_decide_eq_true h4, h5⟩
  unfold oexB at h1
  split at h1
  · rename_i dd cd sl ho
    split at h1
    · rename_i C' bm k0 k1 k2 k3 n k5 hm hs
      simp only [Bool.and_eq_true, beq_iff_eq, Bool.not_eq_true'] at h1
      obtain ⟨⟨⟨⟨rfl, rfl⟩, hdel⟩, hdi⟩, hv⟩ := h1
      obtain ⟨nm, bs, mro, ns, qn, hd, sn, sub, ab, col, del⟩ := cd
      dsimp only at hm hdel hdi
      subst hm hdel hdi
      have hsl : sl = #[k0, k1, k2, k3, some (.builtin "ValueError.__new__"), k5] := by
        obtain ⟨l⟩ := sl
        simp only at hs
        rw [hs]
      subst hsl
      exact ⟨nm, qn, ns, bs, bm, sn, sub, ab, col, dd, k0, k1, k2, k3, k5, ho, hv⟩
    · cases h1
  · cases h1
theorem exq_ok {K : PySem.W.Frag} {r : String} (h : (Xf.exq r).ok K = true) : ExcC K (ca K r) := by
  obtain ⟨h1, h⟩ := He.ba h
  obtain ⟨h2, h⟩ := He.ba h
  obtain ⟨h3, h⟩ := He.ba h
  obtain ⟨h4, h⟩ := He.ba h
  obtain ⟨h5, h⟩ := He.ba h
  obtain ⟨h6, h⟩ := He.ba h
  obtain ⟨h7, h8⟩ := He.ba h
  exact ⟨He.eqO_ok h1, He.eqO_ok h2, of_decide_eq_true h3, h4, He.eqO_ok h5, He.eqO_ok h6, of_decide_eq_true h7, of_decide_eq_true h8⟩
theorem kit_ok {K : PySem.W.Frag} {r c : String} {b : Bool} (h : (Xf.kit r c b).ok K = true) : PySem.W.kitOne K (.ref (ca K r)) (.ref (ca K c)) = some b := of_decide_eq_true h
theorem kitb_ok {K : PySem.W.Frag} {r c : String} {b : Bool} (h : (Xf.kitb r c b).ok K = true) : PySem.W.kitOne K (.ref (ca K r)) (.type c) = some b := of_decide_eq_true h
structure SaysX (fa : List He.Fa) (fn : List He.DefD) (tb : Tups) (xs : List Xf) (K : PySem.W.Frag) : Prop where
  d : He.SaysD fa fn K
  t : (tupsOk tb K && xs.all (Xf.ok K)) = true
section
variable {fa : List He.Fa} {fn : List He.DefD} {tb : Tups} {xs : List Xf} {K : PySem.W.Frag}
theorem SaysX.m (c : SaysX fa fn tb xs K) : SaysM fa fn tb K := ⟨c.d, (He.ba c.t).1⟩
theorem SaysX.x (c : SaysX fa fn tb xs K) (i : Nat) {f : Xf} (h : xs[i]? = some f := by rfl) : f.ok K = true := List.all_eq_true.mp (He.ba c.t).2 f (List.mem_of_getElem? h)
end
end MR
set_option Elab.async false
set_option linter.all false
set_option maxRecDepth 100000
namespace MR
open PySem PySem.Spec PyProof.Rows L2
mutual
theorem reads_t {h h' : Heap} (k : ∀ b o, h.get? b = some o → o.cls = .type "tuple" → ∃ o', h'.get? b = some o' ∧ o'.cls = o.cls ∧ o'.data = o.data) : ∀ {v : Value} {d : PyData} {as : List Addr}, Reads h v d as → as = [] → Reads h' v d []
  | _, _, _, .none, _ => .none
  | _, _, _, .bool b, _ => .bool b
  | _, _, _, .int i t, _ => .int i t
  | _, _, _, .str x t, _ => .str x t
  | _, _, _, .list _ _ _ _, e => by cases e
  | _, _, _, .tuple ho hc hd hr, e => by
    obtain ⟨o', h1, h2, h3⟩ := k _ _ ho hc
    exact .tuple h1 (h2.trans hc) (h3.trans hd) (readsAll_t k hr e)
  | _, _, _, .dict _ _ _ _ _, e => by cases e
theorem readsAll_t {h h' : Heap} (k : ∀ b o, h.get? b = some o → o.cls = .type "tuple" → ∃ o', h'.get? b = some o' ∧ o'.cls = o.cls ∧ o'.data = o.data) : ∀ {vs : List Value} {ds : List PyData} {as : List Addr}, ReadsAll h vs ds as → as = [] → ReadsAll h' vs ds []
  | _, _, _, .nil, _ => .nil
  | _, _, _, .cons (as := as) (bs := bs) h r, e => by
    have q := List.append_eq_nil_iff.mp e
    exact .cons (as := []) (bs := []) (reads_t k h q.1) (readsAll_t k r q.2)
end
structure Kq (fs : List Addr) (h h' : Heap) : Prop where
  keep : ∀ b o, h.get? b = some o → b ∉ fs → h'.get? b = some o
  slot : ∀ b o, h.get? b = some o → b ∈ fs → ∃ sl, h'.get? b = some { o with slots := sl }
section
variable {fs : List Addr} {h h1 h2 : Heap}
theorem Kq.of (k : ∀ b o, h.get? b = some o → h1.get? b = some o) : Kq fs h h1 := ⟨fun b o e _ => k b o e, fun b o e _ => ⟨o.slots, k b o e⟩⟩
theorem Kq.trans (a : Kq fs h h1) (b : Kq fs h1 h2) : Kq fs h h2 := ⟨fun c o e n => b.keep c o (a.keep c o e n) n, fun c o e n => by
  obtain ⟨sl, e1⟩ := a.slot c o e n
  obtain ⟨sl2, e2⟩ := b.slot c _ e1 n
  exact ⟨sl2, e2⟩⟩
theorem Kq.any (a : Kq fs h h1) {b : Addr} {o : Obj} (e : h.get? b = some o) : ∃ sl, h1.get? b = some { o with slots := sl } := by
  by_cases hb : b ∈ fs
  · exact a.slot b o e hb
  · exact ⟨o.slots, a.keep b o e hb⟩
end
section
variable {prog : Program} {w : World} {A : Around} {E : Value → Shared → Prop} {s : Shared} {a kS : Addr} {b : Bool} {vs : List Value} {e1 : Nat} {P : PySem.Fin → Shared → Prop} {kz : List PyData} {fs : List Addr} {hb : Heap} {f : Value}
end
end MR
set_option Elab.async false
set_option linter.all false
set_option maxRecDepth 100000
namespace MR
open PySem PySem.Spec PyProof.Rows L2
def fl : Nat → D → Bool
  | _, .non => true
  | _, .bl _ => true
  | _, .int _ => true
  | _, .str _ => true
  | n + 1, .tup l => l.all (fl n)
  | _, _ => false
def flC : Nat → D → Bool
  | _, .non => true
  | _, .bl _ => true
  | _, .int _ => true
  | _, .str _ => true
  | n + 1, .tup l => l.all (flC n)
  | n + 1, .cst l => l.all (flC n)
  | _, _ => false
def toDataC : D → Option PyData
  | .non => some .none
  | .bl b => some (.bool b)
  | .int i => some (.int i)
  | .str x => some (.str x)
  | .tup l => (toDatasC l).map .tuple
  | .cst l => (toDatasC l).map .tuple
  | _ => none
where toDatasC : List D → Option (List PyData)
  | [] => some []
  | d :: ds => (toDataC d).bind fun x => (toDatasC ds).map fun xs => x :: xs
section
variable {K : PySem.W.Frag} {P : Program} {w : World} {H I : Hp} {h : Heap} {ρ : List Addr}
end
section
variable {K : PySem.W.Frag} {P : Program} {w : World} {H I : Hp} {h h1 : Heap} {ρ : List Addr}
end
def flat : D → Bool
  | .non => true
  | .bl _ => true
  | .int _ => true
  | .str _ => true
  | _ => false
def keyOf (d : Den) (x : D) : Option PyData := match x with
  | .tup l => (match d [.cst l] [] with
    | .ok kw [] => if l.all flat && flC 8 kw then toDataC kw else none
    | _ => none)
  | _ => none
section
variable {X : Cx} {pins : List (Addr × Obj)} {σ : L2.St} {H : Hp} {s : Shared} {k : Nat} {f : Addr} {fd : FuncData} {ps : List Str} {d : Den}
end
end MR
set_option Elab.async false
set_option linter.all false
set_option maxRecDepth 100000
namespace MR
open PySem PySem.Spec PyProof.Rows L2
theorem sort_map {α β : Type} (f : α → β) (le : β → β → Bool) (l : List α) : (l.mergeSort fun x y => le (f x) (f y)).map f = (l.map f).mergeSort le := by
  have h := List.map_mergeSort (r := fun x y => le (f x) (f y)) (s := le) (f := f) (l := l) (fun a _ b _ => rfl)
  exact h
section
variable {X : Cx} {Wx : WX}
end
end MR
set_option Elab.async false
set_option linter.all false
set_option maxRecDepth 100000
namespace MR
open PySem PySem.Spec PyProof.Rows L2
section
variable {X : Cx} {Wx : WX}
end
end MR
set_option Elab.async false
set_option linter.all false
set_option maxRecDepth 100000
namespace MR
open PySem PySem.Spec PyProof.Rows L2
def inDD (a b : D) : Option Bool := match b with
  | .lst ws => (toData a).bind fun d => (toData.toDatas ws).bind fun ds => if SeqAt.shaped d && SeqAt.shaped (.list ds) then some (ds.any fun z => PyData.eqv z d) else none
  | _ => none
def opNotInD (a b : D) : Option D := (inDD a b).map fun x => D.bl (!x)
section
variable {K : PySem.W.Frag}
end
section
variable {X : Cx}
end
end MR
set_option Elab.async false
set_option linter.all false
set_option maxRecDepth 100000
namespace MR
open PySem PySem.Spec PyProof.Rows L2
section
variable {K : PySem.W.Frag} {F I : Hp} {ρ : List Addr} {S : Sto} {H : Hp} {σV : L2.St} {σ : Sl}
theorem RB.lockL (rb : RB K F I ρ S H σV σ) {r : Nat} {a : Addr} {l : List D} {kvs : List V} (od : Obj) (hs : S[r]? = some (.con false (.lst l))) (ha : ρ[r]? = some a) (hk : H a = some (.lst kvs)) (rk : Reps K ρ I kvs l) :
    RB K (upd F a (.frz od (.lst kvs))) I ρ (S.set r (.con true (.lst l))) (upd H a (.frz od (.lst kvs))) σV σ := by
  obtain ⟨b, hb, hf, hi, _⟩ := rb.store _ _ hs
  rw [ha] at hb
  cases hb
  have lt : r < S.length := (List.getElem?_eq_some_iff.mp hs).1
  have k : ∀ b u, b ≠ a → H b = some u → upd H a (.frz od (.lst kvs)) b = some u := fun b u n h => by rw [upd_ne n]; exact h
  refine ⟨fun b u h => ?_, fun b u h => ?_, fun b u h => ?_, fun r2 ob h => ?_, rb.nd, by rw [List.length_set]; exact rb.rl, rb.len, fun j s h => ?_, rb.inj⟩
  · by_cases e : b = a
    · subst e; rw [upd_same] at h ⊢; exact h
    · rw [upd_ne e] at h; exact k b u e (rb.fr b u h)
  · have n := ne_of_none h hi
    rcases rb.sub b u h with z | ⟨d, ob, z⟩
    · exact .inl (k _ _ n z)
    · exact .inr ⟨d, ob, k _ _ n z⟩
  · by_cases e : b = a
    · subst e; exact fun _ => hi
    · rw [upd_ne e] at h; exact rb.dis b u h
  · by_cases er : r = r2
    · subst er
      rw [List.getElem?_set_self lt] at h
      cases h
      exact ⟨a, ha, ⟨od, _, upd_same⟩, hi, od, kvs, upd_same, rk⟩
    · rw [List.getElem?_set_ne er] at h
      obtain ⟨b, hb, hfb, hib, hcb⟩ := rb.store r2 ob h
      have n : b ≠ a := fun z => er (rb.nd r r2 a ha (z ▸ hb))
      exact ⟨b, hb, hfb.mono (fun z => by rw [upd_ne n]; exact z) (fun _ _ z => by rw [upd_ne n]; exact z), hib, hcb.gr Gr.refl fun u => k b u n⟩
  · have q := rb.slot j s h
    cases s with
    | emp => trivial
    | exn b => first | exact q | exact (List.getElem?_set_ne e).trans q | exact e.trans q
    | exx b d n => first | exact q | exact ⟨(List.getElem?_set_ne e).trans q.1, q.2⟩ | exact ⟨e.trans q.1, q.2⟩ | exact ⟨q.1, g.ex _ _ q.2⟩ | exact ⟨(List.getElem?_set_ne e).trans q.1, g.ex _ _ q.2⟩ | exact ⟨e.trans q.1, g.ex _ _ q.2⟩
    | val w => exact q
    | own c2 =>
      obtain ⟨b, hb, hfb, hib, hrb, hob⟩ := q
      have n : b ≠ a := fun z => hrb (z ▸ List.mem_of_getElem? ha)
      exact ⟨b, hb, by rw [upd_ne n]; exact hfb, hib, hrb, hob.gr Gr.refl fun u => k b u n⟩
end
def pickO (fe : DE) (σ : Sl) (S : Sto) : Option (Nat × List D) := match fe σ S with
  | .ok (.obj r) _ _ => (match S[r]? with
    | some (.con false (.lst l)) => some (r, l)
    | _ => none)
  | _ => none
def openL (r : Nat) (S : Sto) : Option Sto := match S[r]? with
  | some (.con true (.lst l)) => some (S.set r (.con false (.lst l)))
  | _ => none
def unlkL {α : Type} (r : Nat) : Res α → Res α
  | .ok a σ S => (match openL r S with
    | some S' => .ok a σ S'
    | none => .fail)
  | _ => .fail
def sLockL (fe : DE) (f : DS) : DS := fun σ S => match pickO fe σ S with
  | some (r, l) => unlkL r (f σ (S.set r (.con true (.lst l))))
  | none => .fail
section
variable {X : Cx} {Wx : WX} {fr : Bool}
end
def lockdL (σ : Sl) (S : Sto) (x : D) : Option (List D) := match x with
  | .obj r => (match S[r]? with
    | some (.con true (.lst l)) => some l
    | _ => none)
  | _ => none
def iLstL (f : DE) : DI := fun σ S => (f σ S).bind fun x σ S => match lockdL σ S x with
  | some l => .ok l σ S
  | none => .fail
section
variable {X : Cx} {Wx : WX}
def dCall0 (d : Den) : DE := fun σ S => match d [] S with
  | .ok w S' => .ok w σ S'
  | _ => .fail
theorem pass_no {kb : Bool} {P : Program} {w : World} (hP : X.prog = P) (hw : X.w = w) : Passes (CXk kb X.prog X.w) X (fun _ _ _ => False) := fun _ _ _ _ _ _ _ h => (cxk_no h).elim
variable {kb : Bool} {k m : Nat} {x : Str} {d : Den} {p pos : Pos}
theorem cf_call0 (C : Fn kb true X.prog X.w X.K X.mg X.base x k 0 d) (hr : Room m X.A) (hkm : k ≤ m) (hg : Gl X x := by rfl) (hdb : (x == ("__debug__" : Str)) = false := by decide) : SF X Wx (.Call (.Name x p) [] [] pos) (dCall0 d) := by
  obtain ⟨f, fd, ps, hm, hk, hb, hp, ok⟩ := C.ex
  refine PE.imp (pe_call0 ok (hr.mono hkm) hg hm hk hb .nil (pass_no rfl rfl) hdb) fun σV H Q h => ?_
  obtain ⟨F, I, ρ, σ, S, rb, h⟩ := h
  unfold dCall0 at h
  cases e : d [] S with
  | ok w S' =>
    rw [e] at h
    refine ⟨rfl, fr1 F H σV σ, I, ρ, S, [], rb.callee, .nil, ?_⟩
    rw [e]
    intro I' ρ' H' v g rb' t
    rcases t with ⟨a, rfl, nf, ni, nr, ho⟩ | t
    · have no1 : NoOwn σV σ a := fun i c h1 h2 => by
        obtain ⟨b, hb, _, _, _, hob⟩ := rb.slot i _ h1
        obtain ⟨u, hu⟩ := hob.there
        rw [h2] at hb
        cases hb
        unfold fr1 at nf
        rw [if_pos ⟨i, c, h1, h2⟩, hu] at nf
        cases nf
      have nF : F a = none := by
        unfold fr1 at nf
        rw [if_neg (fun ⟨i, c, h1, h2⟩ => no1 i c h1 h2)] at nf
        exact nf
      exact h I' ρ' H' _ g (rb.back g rb') (.inl ⟨a, rfl, nF, ni, nr, no1, ho⟩)
    · exact h I' ρ' H' v g (rb.back g rb') (.inr t)
  | exc x S' => rw [e] at h; exact h.elim
  | fail => rw [e] at h; exact h.elim
end
end MR
set_option Elab.async false
set_option linter.all false
set_option maxRecDepth 100000
namespace MR
open PySem PySem.Spec PyProof.Rows L2
section
variable {K : PySem.W.Frag} {F I : Hp} {ρ : List Addr} {S : Sto} {H H' : Hp} {σV : L2.St} {σ : Sl}
end
def pureD : Nat → D → Bool
  | _, .non => true
  | _, .bl _ => true
  | _, .int _ => true
  | _, .str _ => true
  | n + 1, .tup l => l.all (pureD n)
  | n + 1, .lst l => l.all (pureD n)
  | _, _ => false
def noDict (I : Hp) : Hp := fun b => match I b with
  | some (.dK _) => none
  | some (.dT _) => none
  | x => x
theorem noDict_of {I : Hp} {b : Addr} {o : HO} (h : I b = some o) (n : ¬ isDc o) : noDict I b = some o := by
  unfold noDict
  rw [h]
  cases o with
  | dK l => exact absurd trivial n
  | dT l => exact absurd trivial n
  | _ => rfl
mutual
theorem rep_nd {K : PySem.W.Frag} {ρ : List Addr} {I I0 : Hp} (k : ∀ b o, noDict I b = some o → I0 b = some o) : ∀ {v : V} {d : D}, Rep K ρ I v d → (∃ n, pureD n d = true) → Rep K [] I0 v d
  | _, _, .non, _ => .non
  | _, _, .bl, _ => .bl
  | _, _, .int, _ => .int
  | _, _, .str, _ => .str
  | _, _, .tup q r, e => .tup (by
    rcases q with q | ⟨(q | ⟨ob, q⟩) | q, np⟩
    · exact .inl (k _ _ (noDict_of q (fun z => z)))
    · exact .inl (k _ _ (noDict_of q (fun z => z)))
    · exact .inr ⟨.inl (.inr ⟨ob, k _ _ (noDict_of q (fun z => z))⟩), np⟩
    · exact .inr ⟨.inr q, np⟩) (reps_nd k r (by
    obtain ⟨n, e⟩ := e
    cases n with
    | zero => cases e
    | succ n => exact ⟨n, e⟩))
  | _, _, .lst q r, e => .lst (k _ _ (noDict_of q (fun z => z))) (reps_nd k r (by
    obtain ⟨n, e⟩ := e
    cases n with
    | zero => cases e
    | succ n => exact ⟨n, e⟩))
  | _, _, .dK _ _ _, e => by obtain ⟨n, e⟩ := e; cases n <;> cases e
  | _, _, .dT _ _ _, e => by obtain ⟨n, e⟩ := e; cases n <;> cases e
  | _, _, .obj _, e => by obtain ⟨n, e⟩ := e; cases n <;> cases e
  | _, _, .scr _, e => by obtain ⟨n, e⟩ := e; cases n <;> cases e
  | _, _, .fK _ _ _, e => by obtain ⟨n, e⟩ := e; cases n <;> cases e
  | _, _, .fT _ _ _, e => by obtain ⟨n, e⟩ := e; cases n <;> cases e
  | _, _, .cst _ _, e => by obtain ⟨n, e⟩ := e; cases n <;> cases e
theorem reps_nd {K : PySem.W.Frag} {ρ : List Addr} {I I0 : Hp} (k : ∀ b o, noDict I b = some o → I0 b = some o) : ∀ {vs : List V} {ds : List D}, Reps K ρ I vs ds → (∃ n, ds.all (pureD n) = true) → Reps K [] I0 vs ds
  | _, _, .nil, _ => .nil
  | _, _, .cons r rs, e => by
    obtain ⟨n, e⟩ := e
    rw [List.all_cons, Bool.and_eq_true] at e
    exact .cons (rep_nd k r ⟨n, e.1⟩) (reps_nd k rs ⟨n, e.2⟩)
end
section
variable {X : Cx} {Wx : WX} {fr : Bool} {k m : Nat} {x y z : Str} {d : Den} {p pos q q2 : Pos}
end
end MR
set_option Elab.async false
set_option linter.all false
set_option maxRecDepth 100000
namespace MR
open PySem PySem.Spec PyProof.Rows L2
section
variable {prog : Program} {w : World} {A : Around} {E : Value → Shared → Prop} {s : Shared}
theorem setItem_listU {l : Addr} {items : Array Value} {n : Nat} {k : Int} {t : Tok} {v : Value} {Q : Unit → Shared → Prop} (ho : s.heap.get? l = some { cls := .type "list", data := .seq items n })
    (h0 : 0 ≤ k) (hfit : k < 2 ^ 63) (hn : k < items.size)
    (hQ : Q () { s with heap := s.heap.update l (Obj.mapSeq (·.setIfInBounds k.toNat v)) }) :
    wpAny (model prog w) A (setItem (.ref l) (.int k t) v) Q E s := by
  have hl : s.heap.IsList l items := ⟨_, ho, rfl, n, rfl⟩
  unfold setItem
  try with_reducible refine wpAny_holding ?_
  first | refine wpAny_bind (wpAny_pure ?_) | skip
  refine wpAny_bind (wpAny_sequenceKey hl.typeIs (by decide) ?_)
  refine wpAny_bind (wpAny_callSpecial?_slot (name := Str.ofString "__setitem__") hl.typeIs PySem.F.slot_list_setitem
    (wpAny_call_entry PySem.F.slot_list_setitem hl.typeIs PySem.F.entry_list_setitem ?_ (PySem.F.args_list_setitem_3 _ _ _)))
  show wpAny _ _ (Builtin.List.listSubscript? (.int k t) >>= _) _ _ s
  refine wpAny_bind (wpAny_listSubscript_int (fitsIndex_of h0 hfit) ?_)
  clear hfit
  obtain ⟨j, rfl⟩ := Int.eq_ofNat_of_zero_le h0
  have hj : j < items.size := by omega
  have hx' : items[j]? = some items[j] := Array.getElem?_eq_getElem hj
  show wpAny _ _ ((seqItemAt l j >>= fun r => pure (r.map (j, ·))) >>= _) _ _ s
  refine wpAny_bind (wpAny_bind (wpAny_seqItemAt ho rfl (wpAny_pure ?_)))
  rw [hx']
  show wpAny _ _ (setSeqItemAt l j v >>= _) _ _ s
  refine wpAny_bind (wpAny_setSeqItemAt ho rfl ?_)
  first
    | exact wpAny_bind (wpAny_pure (wpAny_pure ⟨.none, rfl, wpAny_pure hQ⟩))
    | exact wpAny_pure ⟨.none, rfl, wpAny_pure hQ⟩
end
theorem Vals.put {x : V} {u : Value} (r : RelV x u) : ∀ {xs : List V} {us : List Value}, Vals xs us → ∀ k : Nat, Vals (xs.set k x) (us.set k u)
  | _, _, .nil, _ => .nil
  | _, _, .cons _ t, 0 => .cons r t
  | _, _, .cons q t, k + 1 => .cons q (Vals.put r t k)
section
variable {X : Cx} {Wx : WX} {fr : Bool}
def sLPutT (td ty tv : TE) : TS := fun D σ H => tv σ H fun v H1 => td σ H1 fun x H2 => ty σ H2 fun y H3 => ∃ a xs, ∃ k : Nat, x = .ref a ∧ y = .int (k : Int) ∧ H3 a = some (.lst xs) ∧ k < xs.length ∧ D.nx σ (upd H3 a (.lst (xs.set k v)))
theorem ps_lput {o i value : Expr} {pos pos' : Pos} {td ty tv : TE} (ho : PE X o td) (hi : PE X i ty) (hv : PE X value tv) (hs : swapsWith value (some (.Subscript o i pos')) pos.line X.env = pure false) :
    PS X (.Assign [.Subscript o i pos'] value pos) (sLPutT td ty tv) := by
  refine ⟨fun pins s σ H D I h => ?_⟩
  refine wpAny_Assign_Subscript (thn (hv.run pins s σ H _ I h) fun rr s1 ⟨v, H1, I1, rv, q1⟩ => thn (ho.run pins s1 σ H1 _ I1 q1) fun u s2 ⟨x, H2, I2, rx, q2⟩ => thn (hi.run pins s2 σ H2 _ I2 q2) fun iv s3 ⟨y, H3, I3, ry, a, xs, k, ex, ey, g, lt, q3⟩ => ?_) hs
  subst ex ey
  obtain rfl : u = Value.ref a := rx
  obtain ⟨t, rfl⟩ := ry
  obtain ⟨z, its, n, r, hl, e⟩ := I3.lstM g
  have sl : sizeLine < 2 ^ 62 := by decide
  have lk : k < its.length := by omega
  have I4 := I3.lset (t' := s3.toks) (its' := its.set k rr) (f := (·.setIfInBounds k rr)) g e (by simp) (Vals.put rv r k) (by rw [List.length_set]; exact z)
  exact setItem_listU (k := (k : Int)) e (by omega) (by omega) (by rw [List.size_toArray]; omega) ⟨σ, _, I4, q3⟩
def sLPut (fd fy fv : DE) : DS := fun σ S => (dV fv σ S).bind fun w σ S => (fd σ S).bind fun x σ S => (fy σ S).bind fun y σ S => match deref σ S x, y with
  | some (.lst l), .int k => if 0 ≤ k ∧ k < l.length then ofMutS (chg σ S x (.lst (l.set k.toNat w))) else .fail
  | _, _ => .fail
theorem reps_set {K : PySem.W.Frag} {ρ : List Addr} {I : Hp} {v : V} {w : D} (r : Rep K ρ I v w) : ∀ {vs : List V} {ws : List D}, Reps K ρ I vs ws → ∀ k : Nat, Reps K ρ I (vs.set k v) (ws.set k w)
  | _, _, .nil, _ => .nil
  | _, _, .cons _ t, 0 => .cons r t
  | _, _, .cons q t, k + 1 => .cons q (reps_set r t k)
theorem cs_lput {o i value : Expr} {pos pos' : Pos} {fd fy fv : DE} (ho : SE X Wx o fd) (hi : SE X Wx i fy) (hv : SE X Wx value fv) (hs : swapsWith value (some (.Subscript o i pos')) pos.line X.env = pure false := by rfl) :
    SS fr X Wx (.Assign [.Subscript o i pos'] value pos) (sLPut fd fy fv) := by
  refine PS.imp (ps_lput ho hi (c_v hv) hs) fun D σV H h => ?_
  obtain ⟨F, I, ρ, σ, S, rb, h⟩ := h
  refine ⟨F, I, ρ, σ, S, rb, postS_bind h fun I1 ρ1 σ1 S1 H1 w v _ g1 rb1 t1 h1 => ?_⟩
  refine ⟨F, I1, ρ1, σ1, S1, rb1, postS_bind h1 fun I2 ρ2 σ2 S2 H2 x vx _ g2 rb2 t2 h2 => ?_⟩
  refine ⟨F, I2, ρ2, σ2, S2, rb2, postS_bind h2 fun I3 ρ3 σ3 S3 H3 y vy _ g3 rb3 t3 h3 => ?_⟩
  split at h3
  · rename_i l k e1 e2
    split at h3
    · rename_i hl
      cases em : chg σ3 S3 x (.lst (l.set k.toNat w)) with
      | none => rw [em] at h3; exact h3.elim
      | some q =>
        obtain ⟨σ', S'⟩ := q
        rw [em] at h3
        obtain ⟨a, rfl, ho, kk⟩ := rb3.chg (t2.gr g3) e1 em
        obtain ⟨vs, hk, rk⟩ := ho
        have hy : vy = .int k := by
          rcases t3 with ⟨i, z, _⟩ | r
          · cases z
          · cases r; rfl
        subst hy
        refine ⟨a, vs, k.toNat, rfl, by rw [Int.toNat_of_nonneg hl.1], hk, by rw [rk.length]; omega, ?_⟩
        exact h3 I3 ρ3 _ _ Gr.refl (kk _ ⟨_, upd_same, reps_set (t1.gr (g2.trans g3)) rk k.toNat⟩)
    · exact h3.elim
  · exact h3.elim
def ItS (x : Str) : It :=
  ⟨fun i _ => i < x.cps.size, fun i H v H' => ∃ T c, v = .ref T ∧ H T = none ∧ H' = upd H T (.tup [.int (i : Nat), .str ⟨#[c]⟩]) ∧ x.cps[i]? = some c, fun i _ => x.cps.size ≤ i⟩
theorem turn_enumS {P : Program} {w : World} {K : PySem.W.Frag} {elts : List Expr} {kk : Nat} {tpos : Pos} (x : Str) (t : Tok) (e it : Addr) :
    Turn P w K (.Tuple elts kk tpos) (ItS x) [e, it] e (fun i h => i ≤ x.cps.size ∧ (∃ old, IsEnum h e it ((i : Nat) : Int) old) ∧ h.IsStrIter it (strIterType x) x t i ∧ e ≠ it) where
  mem := by simp
  obj := fun i h st b hb => by
    obtain ⟨_, ⟨old, he⟩, ⟨o, ho, hc, hd⟩, _⟩ := st
    have e' : b = e ∨ b = it := by simpa using hb
    rcases e' with z | z
    · rw [z]; exact ⟨_, he, fun v q => nomatch q⟩
    · rw [z]; exact ⟨o, ho, fun v q => by rw [hd] at q; cases q⟩
  keep := fun i h h' st k => let ⟨hi, ⟨old, he⟩, ⟨o, ho, hc, hd⟩, hne⟩ := st; ⟨hi, ⟨old, k e (by simp) _ he⟩, ⟨o, k it (by simp) o ho, hc, hd⟩, hne⟩
  item := by
    intro X hP hw hK hc i pins s σ H E I hf st hg
    subst hP hw hK
    obtain ⟨hi, ⟨old, he⟩, hit, hne⟩ := st
    have hel : e < s.heap.objs.size := Heap.lt_size he
    have hil : it < s.heap.objs.size := by obtain ⟨_, q, _⟩ := hit; exact Heap.lt_size q
    have Dw : Draws X.prog X.w X.A.in1 it [it] x.cps.size (fun i v => ∃ c u, x.cps[i]? = some c ∧ v = .str ⟨#[c]⟩ u) (fun i h => h.IsStrIter it (strIterType x) x t i) := Draws.text (A := X.A.in1) (show X.A.in1.handled = none from I.ok.hd hc) it x t
    refine wpAny_pyNext_enum_itemD Dw he hit hg hne (by simpa using hne) fun y h' tk hy ho hit' hT hsz hk => ?_
    obtain ⟨c, u, hcx, rfl⟩ := hy
    refine ⟨_, rfl, wpAny_letOwnedTupleGo_enum (s := { s with heap := h', toks := tk + 1 }) ho fun h'' he' sb => ?_⟩
    have hT2 : h''.get? s.heap.objs.size = some { cls := .type "tuple", data := .seq #[.int i tk, .str ⟨#[c]⟩ u] } := (sb.2 _ (Nat.ne_of_gt hel)).trans hT
    have new : ObjOk X.prog X.w (upd H s.heap.objs.size (.tup [.int (i : Nat), .str ⟨#[c]⟩])) h'' s.heap.objs.size (.tup [.int (i : Nat), .str ⟨#[c]⟩]) :=
      ⟨by show 2 ≤ sizeLine; decide, [.int i tk, .str ⟨#[c]⟩ u], .cons ⟨_, rfl⟩ (.cons ⟨_, rfl⟩ .nil), ⟨_, hT2, rfl, _, rfl⟩⟩
    have I1 : Inv X pins σ (upd H s.heap.objs.size (.tup [.int (i : Nat), .str ⟨#[c]⟩])) { s with heap := h'', toks := tk + 1 } :=
      I.turnedNew (ch := [e, it]) (fun b ob hb q => (sb.2 b (fun z => hb (by simp [z]))).trans (hk b ob (fun z => hb (by simp [z])) (fun z => hb (by simp [z])) q)) hf (Nat.le_refl _) new
    refine ⟨.ref s.heap.objs.size, _, I1, rfl, ⟨_, c, rfl, I.hok.fresh (Nat.le_refl _), rfl, hcx⟩, ⟨hg, ⟨.str ⟨#[c]⟩ u, ?_⟩, ?_, hne⟩, fun b hb => ?_⟩
    · have e1 : ((i + 1 : Nat) : Int) = (i : Int) + 1 := by omega
      rw [e1]; exact he'
    · obtain ⟨o, q1, q2, q3⟩ := hit'
      exact ⟨o, (sb.2 it (Ne.symm hne)).trans q1, q2, q3⟩
    · have hb' : b < s.heap.objs.size := by
        have e' : b = e ∨ b = it := by simpa using hb
        rcases e' with z | z
        · rw [z]; exact hel
        · rw [z]; exact hil
      rw [upd_ne (Nat.ne_of_lt hb')]
      exact (hf b hb).1
  done := by
    intro X hP hw hK hc i pins s σ H E I hf st hg
    subst hP hw hK
    obtain ⟨hi, ⟨old, he⟩, hit, hne⟩ := st
    obtain rfl : i = x.cps.size := Nat.le_antisymm hi hg
    obtain ⟨f0, f1, f2, f3, f4, f5⟩ := hf it (by simp)
    have Dw : Draws X.prog X.w X.A.in1 it [it] x.cps.size (fun i v => ∃ c u, x.cps[i]? = some c ∧ v = .str ⟨#[c]⟩ u) (fun i h => h.IsStrIter it (strIterType x) x t i) := Draws.text (A := X.A.in1) (show X.A.in1.handled = none from I.ok.hd hc) it x t
    exact wpAny_pyNext_enum_endD Dw he hit fun h' eb => ⟨rfl, I.turned (t' := s.toks) (fun b o hb q => eb b o hb q) f0 f1 f3 f4 f5⟩
  self := fun A i s Q E st h => let ⟨_, ⟨_, he⟩, _⟩ := st; wpAny_pyIter_enum he h
def iEnumT (ta : TA) : TI := fun σ H R => ta σ H fun vs H1 => ∃ x, vs = [.str x] ∧ R (ItS x) H1
theorem pi_enumS {e : Expr} {ta : TA} {p pos tpos : Pos} {elts : List Expr} {kk : Nat} (hg : Gl X "enumerate") (hm : X.mg "enumerate" = none) (ha : PA X [e] ta) (hs : starEach [e] X.env = [(false, eval e X.env)] := by rfl) :
    PI X (.Tuple elts kk tpos) (.Call (.Name "enumerate" p) [e] [] pos) (iEnumT ta) := by
  refine ⟨fun pins s σ H R I h => ?_⟩
  refine Call_ (ld_blt I hg hm boot_enumerate (PyProof.Rows.callWith_type1 (thn (ha.run pos pins s σ H _ I h) fun us s1 ⟨vs, H1, I1, r1, q1⟩ => ?_) hs rfl))
  obtain ⟨x, ex, q⟩ := q1
  subst ex
  cases r1 with
  | cons r rr =>
    cases rr
    obtain ⟨t, rfl⟩ := r
    refine call_enumerate_str fun h' he hit hsz hk => wpAny_pyIter_enum he ?_
    have I2 : Inv X pins σ H1 { s1 with heap := h' } := I1.kept (t' := s1.toks) hk
    refine ⟨s1.heap.objs.size + 1, [s1.heap.objs.size + 1, s1.heap.objs.size], _, _, H1, rfl, I2, turn_enumS x t (s1.heap.objs.size + 1) s1.heap.objs.size, ⟨Nat.zero_le _, ⟨.none, he⟩, hit, Nat.succ_ne_self _⟩, fun b hb => ?_, q⟩
    have e' : b = s1.heap.objs.size + 1 ∨ b = s1.heap.objs.size := by simpa using hb
    have hle : s1.heap.objs.size ≤ b := by
      rcases e' with z | z
      · rw [z]; exact Nat.le_add_right _ _
      · rw [z]; exact Nat.le_refl _
    exact I1.fpOk hle (I1.hok.fresh hle)
def iEnumS (f : DE) : DI := fun σ S => (dV f σ S).bind fun x σ S => match x with
  | .str z => .ok (enum 0 (signs z)) σ S
  | _ => .fail
theorem ci_enumS {elts : List Expr} {kk : Nat} {tpos : Pos} {a : Expr} {p pos : Pos} {f : DE} (hm : X.mg "enumerate" = none) (h : SE X Wx a f) (hg : Gl X "enumerate" := by rfl) (hs : starEach [a] X.env = [(false, eval a X.env)] := by rfl) :
    SI X Wx (.Tuple elts kk tpos) (.Call (.Name "enumerate" p) [a] [] pos) (iEnumS f) := by
  refine PI.imp (pi_enumS hg hm (pa_cons (c_v h) pa_nil hs) hs) fun σV H R h => ?_
  obtain ⟨F, I, ρ, σ, S, rb, h⟩ := h
  refine ⟨F, I, ρ, σ, S, rb, postI_bind h fun I1 ρ1 σ1 S1 H1 x v1 _ g1 rb1 t1 h1 => ?_⟩
  cases t1 with
  | @str z =>
    refine ⟨z, rfl, h1 I1 ρ1 H1 _ Gr.refl rb1 fun F' _ I2 ρ2 S2 H2 σV2 σ2 g rb => ⟨fun i d hd => ?_, by rw [enum_len]; unfold signs; rw [List.length_map, Array.length_toList]; exact Nat.le_refl _⟩⟩
    obtain ⟨y, hy, rfl⟩ := enum_get hd
    unfold signs at hy
    rw [List.getElem?_map] at hy
    obtain ⟨c, hc, rfl⟩ := Option.map_eq_some_iff.mp hy
    rw [Array.getElem?_toList] at hc
    refine ⟨(Array.getElem?_eq_some_iff.mp hc).1, fun z' H3 q => ?_⟩
    obtain ⟨T, c', rfl, hT, rfl, q1⟩ := q
    rw [hc] at q1
    cases q1
    obtain ⟨g3, rb3⟩ := rb.new (o := .tup [.int (i : Nat), .str ⟨#[c]⟩]) hT
    exact ⟨_, g3, rb3, .tup (.inl upd_same) (.cons (by rw [Int.zero_add]; exact .int) (.cons .str .nil))⟩
  | _ => exact h1.elim
end
end MR
set_option Elab.async false
set_option linter.all false
set_option maxRecDepth 100000
namespace MR
open PySem PySem.Spec PyProof.Rows L2
inductive KH (K : PySem.W.Frag) (H : Hp) (ls : List (L2.Key × V)) : List (L2.Key × V) → Bool → Prop
  | nil : KH K H ls [] true
  | miss {k : L2.Key} {v : V} {r : List (L2.Key × V)} : valV ls k = none → KH K H ls ((k, v) :: r) false
  | hit {k : L2.Key} {v u : V} {d e : PyData} {r : List (L2.Key × V)} {b : Bool} : valV ls k = some u → Dp K H v d → Dp K H u e → SeqAt.shaped d = true → SeqAt.shaped e = true → KH K H ls r b → KH K H ls ((k, v) :: r) (PyData.eqv d e && b)
section
variable {X : Cx} {Wx : WX} {fr : Bool}
end
section
variable {K : PySem.W.Frag} {ρ : List Addr} {I H : Hp}
end
section
variable {X : Cx}
end
end MR
set_option Elab.async false
set_option linter.all false
set_option maxRecDepth 100000
namespace MR
open PySem PySem.Spec PyProof.Rows L2
section
variable {X : Cx}
end
end MR
set_option Elab.async false
set_option linter.all false
set_option maxRecDepth 100000
set_option maxHeartbeats 3200000
namespace MR
open PySem PySem.Spec PyProof.Rows L2
section
variable {X : Cx} {Wx : WX}
end
end MR
set_option Elab.async false
set_option linter.all false
set_option maxRecDepth 100000
namespace MR
open PySem PySem.Spec PyProof.Rows L2
def kks : List D → Option (List Kk)
  | [] => some []
  | .int i :: l => (kks l).map fun r => .inl i :: r
  | .str x :: l => (kks l).map fun r => .inr x :: r
  | _ => none
def keyP : D → Option (List Kk)
  | .tup [.str x, .str y] => some [.inr x, .inr y]
  | .tup (.str x :: .int i :: l) => (kks l).map fun r => .inr x :: .inl i :: r
  | _ => none
def asT : D → Option (List (List Kk × D))
  | .dT l => some l
  | .fT l => some l
  | _ => none
section
variable {X : Cx} {Wx : WX} {fr : Bool}
def opTGet (c y : D) : Option D := (asT c).bind fun l => (keyP y).bind (valD l)
def inT (y c : D) : Option Bool := (asT c).bind fun l => (keyP y).map fun k => (valD l k).isSome
def opInT (a b : D) : Option D := (inT a b).map D.bl
def opNotInT (a b : D) : Option D := (inT a b).map fun x => D.bl (!x)
def isDT (c : D) : Bool := (asT c).isSome
def kTGet : D → D → List D → Sl → Sto → Res D := fun _ c ws σ S => match asT c, ws with
  | some l, [y, z] => (match keyP y with
    | some k => .ok ((valD l k).getD z) σ S
    | none => .fail)
  | _, _ => .fail
def sTPut (fd fy fv : DE) : DS := fun σ S => (dV fv σ S).bind fun w σ S => (fd σ S).bind fun x σ S => (fy σ S).bind fun y σ S => match deref σ S x, keyP y with
  | some (.dT l), some k => if l.length < most then ofMutS (chg σ S x (.dT (putD l k w))) else .fail
  | _, _ => .fail
def fzD : D → Option D
  | .dK l => some (.fK l)
  | .dT l => some (.fT l)
  | _ => none
def dFz (f : DE) : DE := fun σ S => (f σ S).bind fun x σ S => ofOpt (fzD x) σ S
end
section
variable {X : Cx} {Wx : WX} {fr : Bool}
def keysF : D → Option (List D)
  | .fK l => some (l.map fun p => kD p.1)
  | .fT l => some (l.map fun p => D.tup (p.1.map kD))
  | _ => none
def itemsF : D → Option (List D)
  | .fK l => some (l.map fun p => D.tup [kD p.1, p.2])
  | .fT l => some (l.map fun p => D.tup [.tup (p.1.map kD), p.2])
  | _ => none
def iKeysF (f : DE) : DI := fun σ S => (f σ S).bind fun x σ S => ofOpt (keysF x) σ S
def iItemsF (f : DE) : DI := fun σ S => (f σ S).bind fun x σ S => ofOpt (itemsF x) σ S
end
end MR
set_option Elab.async false
set_option linter.all false
set_option maxRecDepth 100000
namespace MR
open PySem PySem.Spec PyProof.Rows L2
section
variable {X : Cx} {K : PySem.W.Frag}
def opMinS : D → D → Option D
  | .str a, .str b => some (.str (if sLt b a then b else a))
  | _, _ => none
def opMaxS : D → D → Option D
  | .str a, .str b => some (.str (if sLt a b then b else a))
  | _, _ => none
end
section
variable {X : Cx} {tvs : List Nat}
end
end MR
set_option Elab.async false
set_option linter.all false
set_option maxRecDepth 100000
namespace MR
open PySem PySem.Spec PyProof.Rows L2
section
variable {X : Cx} {pins : List (Addr × Obj)} {σ : L2.St} {A : Around} {z TI TO i1 i2 a b S : Addr} {vx vy : List Value} {Q : VK} {R : Result → Shared → Prop} {res : Value}
end
section
variable {X : Cx} {pins : List (Addr × Obj)} {σ : L2.St} {A : Around} {z TI TO i1 i2 a b S : Addr} {vx vy : List Value} {xs ys : List V} {H : Hp} {s : Shared} {Q : VK} {R : Result → Shared → Prop} {res : Value}
end
section
variable {X : Cx} {Wx : WX}
end
end MR
set_option Elab.async false
set_option linter.all false
set_option maxRecDepth 100000
namespace MR
open PySem PySem.Spec PyProof.Rows L2 PySem.SeqAt PySem.MeetsSeq PySem.MeetsSeq2 PySem.MeetsSeq3
open PySem.AutoSeq1 (wpAny_loadPart')
section
variable {prog : Program} {w : World}
end
inductive KPs (K : PySem.W.Frag) (H : Hp) : List V → List V → List Bool → Prop
  | nil : KPs K H [] [] []
  | cons {p q : Addr} {ks ls : List (L2.Key × V)} {r : Bool} {xs ys : List V} {es : List Bool} : p ≠ q → Rd H p (.dK ks) → Rd H q (.dK ls) → (ks.length = ls.length → KH K H ls ks r) → KPs K H xs ys es → KPs K H (.ref p :: xs) (.ref q :: ys) ((ks.length == ls.length && r) :: es)
theorem KPs.len {K : PySem.W.Frag} {H : Hp} {xs ys : List V} {es : List Bool} (h : KPs K H xs ys es) : xs.length = es.length ∧ ys.length = es.length := by
  induction h with
  | nil => exact ⟨rfl, rfl⟩
  | cons _ _ _ _ _ ih => exact ⟨congrArg (· + 1) ih.1, congrArg (· + 1) ih.2⟩
section
variable {X : Cx} {Wx : WX}
end
section
variable {X : Cx} {Wx : WX}
end
end MR
set_option Elab.async false
set_option linter.all false
set_option maxRecDepth 100000
namespace MR
open PySem PySem.Spec PyProof.Rows L2
section
variable {X : Cx} {Wx : WX} {fr : Bool} {k m : Nat} {x y z : Str} {d : Den} {p pos q q2 : Pos}
end
end MR
set_option Elab.async false
set_option linter.all false
set_option maxRecDepth 100000
namespace MR
open PySem PySem.Spec PyProof.Rows L2
section
variable {X : Cx} {Wx : WX}
end
end MR
set_option Elab.async false
set_option linter.all false
set_option maxRecDepth 100000
namespace MR
open PySem PySem.Spec PyProof.Rows L2
section
variable {prog : Program} {w : World} {K : Type} [DecidableEq K] {knd : HeapKind prog w K} {A : Around} {E : Value → Shared → Prop} {s : Shared}
end
end MR
set_option Elab.async false
set_option linter.all false
set_option maxRecDepth 100000
namespace MR
open PySem PySem.Spec PyProof.Rows L2
abbrev Tab := List (Str × List D)
def TabOk (K : PySem.W.Frag) (d : Addr) (tab : Tab) : Prop := ∀ z : Str, (∃ ws u0 a vs, tab.lookup z = some ws ∧ PySem.W.nsIn K d z = some (some u0) ∧ RelV (.ref a) u0 ∧ (∀ H, SqT K H a vs) ∧ ∀ ρ I, Reps K ρ I vs ws) ∨ (tab.lookup z = none ∧ PySem.W.nsIn K d z = some none)
def GTab (K : PySem.W.Frag) (w : World) (mg : Str → Option Value) (x : Str) (tab : Tab) : Prop := ∃ d es n, mg x = some (.ref d) ∧ KDict K w d es n ∧ TabOk K d tab
def opNotInTab (tab : Tab) : D → Option D
  | .str z => some (.bl (!(tab.lookup z).isSome))
  | _ => none
def opTab (tab : Tab) : D → Option D
  | .str z => (tab.lookup z).map D.cst
  | _ => none
section
variable {X : Cx} {Wx : WX} {x : Str} {tab : Tab} {a : Expr} {pos pos' : Pos} {f : DE}
theorem semc_notInTab {d : Addr} {es : Array DictEntry} {n : Nat} (KD : KDict X.K X.w d es n) (T : TabOk X.K d tab) {σV : L2.St} {H : Hp} {Q : VK} (h : semE X.K Wx (d1 (opNotInTab tab) f) σV H Q) :
    semE X.K Wx f σV H fun v H1 => ∃ (z : Str) (r : Option Value), v = .str z ∧ V.ref d = .ref d ∧ PySem.W.nsIn X.K d z = some r ∧ Q (.bl (!r.isSome)) H1 := by
  obtain ⟨F, I, ρ, σ, S, rb, h⟩ := h
  refine ⟨F, I, ρ, σ, S, rb, post_bind h fun I1 ρ1 σ1 S1 H1 x v1 _ g1 rb1 t1 h1 => ?_⟩
  obtain ⟨z, ez, h3⟩ := post_opt h1
  obtain ⟨c, ec, ez⟩ := Option.bind_eq_some_iff.mp ez
  cases c with
  | str y =>
    cases ez
    cases (show v1 = .str y from rb1.at t1 ec)
    rcases T y with ⟨ws, u0, a, vs, e1, e2, _⟩ | ⟨e1, e2⟩
    · rw [e1] at h3
      exact ⟨y, _, rfl, rfl, e2, h3 I1 ρ1 H1 _ Gr.refl rb1 (.inr .bl)⟩
    · rw [e1] at h3
      exact ⟨y, _, rfl, rfl, e2, h3 I1 ρ1 H1 _ Gr.refl rb1 (.inr .bl)⟩
  | _ => cases ez
theorem ct_notInTab (h : GTab X.K X.w X.mg x tab) (ha : SE X Wx a f) (hm : behindInMarks .NotIn (.Name x pos') = false := by rfl) (hg : Gl X x := by rfl) (hd : (x == ("__debug__" : Str)) = false := by decide) : ST X Wx (.Compare a [.NotIn] [.Name x pos'] pos) (tVal (d1 (opNotInTab tab) f)) := by
  obtain ⟨d, es, n, h1, KD, T⟩ := h
  exact PT.imp (pt_cmpR (op_notIn_kd KD) ha (pe_glob hg h1 (v := .ref d) rfl hd) hm) fun _ _ _ h => semc_notInTab KD T (sem_tval h)
theorem c_tab (h : GTab X.K X.w X.mg x tab) (ha : SE X Wx a f) (hs : PlainIx a := by intro _ _; rfl) (hg : Gl X x := by rfl) (hd : (x == ("__debug__" : Str)) = false := by decide) : SE X Wx (.Subscript (.Name x pos') a pos) (d1 (opTab tab) f) := by
  obtain ⟨d, es, n, h1, KD, T⟩ := h
  refine PE.imp (pe_ix ix_kdict (pe_glob hg h1 (v := .ref d) rfl hd) ha hs) fun σV H Q h => ?_
  obtain ⟨F, I, ρ, σ, S, rb, h⟩ := h
  refine ⟨F, I, ρ, σ, S, rb, post_bind h fun I1 ρ1 σ1 S1 H1 x v1 _ g1 rb1 t1 h1 => ?_⟩
  obtain ⟨z, ez, h3⟩ := post_opt h1
  obtain ⟨c, ec, ez⟩ := Option.bind_eq_some_iff.mp ez
  cases c with
  | str y =>
    cases (show v1 = .str y from rb1.at t1 ec)
    obtain ⟨ws, ew, rfl⟩ := Option.map_eq_some_iff.mp (show (tab.lookup y).map D.cst = some z from ez)
    rcases T y with ⟨ws', u0, a, vs, e1, e2, e3, e4, e5⟩ | ⟨e1, _⟩
    · rw [ew] at e1
      cases e1
      exact ⟨d, y, .ref a, rfl, rfl, ⟨es, n, u0, KD.at_, KD.lit, e2, e3⟩, h3 I1 ρ1 H1 _ Gr.refl rb1 (.inr (.cst (e4 I1) (e5 ρ1 I1)))⟩
    · rw [ew] at e1
      cases e1
  | _ => cases ez
def opLenC : D → Option D
  | .cst l => some (.int l.length)
  | _ => none
theorem b_lenC {K : PySem.W.Frag} : B1 K (fun xs H Q => ∃ x n, xs = [x] ∧ LenV K x H n ∧ Q (.int n) H) opLenC := by
  intro F I ρ S H σV σ v a z Q rb h ez q
  cases a with
  | cst l =>
    cases ez
    obtain ⟨a, vs, rfl, ha, ra⟩ := h
    exact ⟨_, _, rfl, .inr ⟨vs, ha, rfl⟩, q I H _ Gr.refl rb (by rw [ra.length]; exact .int)⟩
  | _ => cases ez
def iZipC (f g : DE) : DI := fun σ S => (dV f σ S).bind fun x σ S => (dV g σ S).bind fun y σ S => match x, y with
  | .tup xs, .cst ys => .ok (pairs xs ys) σ S
  | _, _ => .fail
theorem ci_zipC {elts : List Expr} {kk : Nat} {tpos : Pos} {a b : Expr} {p pos : Pos} {f g : DE} (hm : X.mg "zip" = none) (h : SE X Wx a f) (k : SE X Wx b g) (hg : Gl X "zip" := by rfl) (hs : starEach [a, b] X.env = (false, eval a X.env) :: starEach [b] X.env := by rfl) (hs2 : starEach [b] X.env = (false, eval b X.env) :: starEach [] X.env := by rfl) (hpl : (backTo pos (starEach [b] X.env)).any (·.1) = false := by rfl) :
    SI X Wx (.Tuple elts kk tpos) (.Call (.Name "zip" p) [a, b] [] pos) (iZipC f g) := by
  refine PI.imp (RZ.pi_zipA hg hm (pa_cons (c_v h) (pa_cons (c_v k) pa_nil hs2) hs) hs hpl) fun σV H R h => ?_
  obtain ⟨F, I, ρ, σ, S, rb, h⟩ := h
  refine ⟨F, I, ρ, σ, S, rb, postI_bind h fun I1 ρ1 σ1 S1 H1 x v1 _ g1 rb1 t1 h1 => ?_⟩
  refine ⟨F, I1, ρ1, σ1, S1, rb1, postI_bind h1 fun I2 ρ2 σ2 S2 H2 y v2 _ g2 rb2 t2 h2 => ?_⟩
  have t1 := t1.gr g2
  split at h2
  · cases t1 with
    | tup q1 r1 => cases t2 with
      | cst q2 r2 => exact ⟨_, _, _, _, rfl, .inr ⟨rb2.sub.sqT q1.sq, rb2.sub.sqT q2, h2 I2 ρ2 H2 _ Gr.refl rb2 fun F' _ => walks_zipT q1.sq r1 q2 r2 F'⟩⟩
  · exact h2.elim
end
end MR
set_option Elab.async false
set_option linter.all false
set_option maxRecDepth 100000
namespace MR
open PySem PySem.Spec PyProof.Rows L2
end MR
set_option Elab.async false
set_option linter.all false
set_option maxRecDepth 100000
namespace MR
open PySem PySem.Spec PyProof.Rows L2
section
variable {K : PySem.W.Frag}
def tupAtB (K : PySem.W.Frag) (a : Addr) (ws : List D) : Bool := match K.lookup a with
  | some ⟨.type c, _, .seq its _, _⟩ => decide (c = "tuple") && (decide (its.size ≤ sizeLine) && He.relAll ((ws.map dvOf).map (He.Dv.v K)) its.toList)
  | _ => false
theorem tupAtB_ok {a : Addr} {ws : List D} (h : tupAtB K a ws = true) (H : Hp) : SqT K H a ((ws.map dvOf).map (He.Dv.v K)) := by
  unfold tupAtB at h
  cases q : K.lookup a with
  | none =>
    rw [q] at h
    cases h
  | some o =>
    obtain ⟨oc, od, dt, osl⟩ := o
    rw [q] at h
    cases oc with
    | type c =>
      cases dt with
      | seq its n =>
        obtain ⟨h1, h2⟩ := He.ba (show (decide (c = "tuple") && (decide (its.size ≤ sizeLine) && He.relAll ((ws.map dvOf).map (He.Dv.v K)) its.toList)) = true from h)
        obtain ⟨h3, h4⟩ := He.ba h2
        exact .inr ⟨_, its, n, q, congrArg Value.type (of_decide_eq_true h1), rfl, of_decide_eq_true h3, He.relAll_ok h4⟩
      | _ => cases h
    | _ => cases dt <;> cases h
def tabB (K : PySem.W.Frag) (d : Addr) (tab : Tab) : Bool := tab.all fun t => match PySem.W.nsIn K d t.1 with
  | some (some (.ref a)) => tupAtB K a t.2
  | _ => false
theorem lookup_mem : ∀ {tab : Tab} {z : Str} {ws : List D}, tab.lookup z = some ws → (z, ws) ∈ tab
  | [], _, _, h => by cases h
  | (k, v) :: tab, z, ws, h => by
    rw [List.lookup_cons] at h
    split at h
    · rename_i e
      cases h
      rw [eq_of_beq e]
      exact List.mem_cons_self
    · exact List.mem_cons_of_mem _ (lookup_mem h)
theorem lookup_none : ∀ {tab : Tab} {z : Str}, tab.lookup z = none → z ∉ tab.map (·.1)
  | [], _, _ => by simp
  | (k, v) :: tab, z, h => by
    rw [List.lookup_cons] at h
    split at h
    · cases h
    · rename_i e
      intro hm
      rcases List.mem_cons.mp hm with rfl | hm
      · simp at e
      · exact lookup_none h hm
theorem nsIn_miss {P : Params} {d : Addr} {ks : List Str} {z : Str} (h : He.dicW K d = some (He.keysIn P ks)) (hz : z ∉ ks) : PySem.W.nsIn K d z = some none := by
  unfold He.dicW at h
  split at h
  · rename_i c es n sl q
    split at h
    · have hk : es.toList.map He.keyOf = He.keysIn P ks := Option.some.inj h
      have all : ∀ e ∈ es.toList, ∃ x t, e.key = .str x t ∧ x ∈ ks := by
        intro e he
        have hm : He.keyOf e ∈ He.keysIn P ks := by rw [← hk]; exact List.mem_map.mpr ⟨e, he, rfl⟩
        obtain ⟨k, hk2, e2⟩ := List.mem_map.mp hm
        unfold He.keyOf at e2
        split at e2
        · rename_i x t q
          have e3 := (Prod.mk.inj (Option.some.inj e2)).1
          exact ⟨x, t, q, e3 ▸ hk2⟩
        · cases e2
      unfold PySem.W.nsIn
      rw [q]
      dsimp only
      have f : es.toList.find? (fun e => e.key.isStr z) = none := by
        rw [List.find?_eq_none]
        intro e he
        obtain ⟨x, t, ek, hx⟩ := all e he
        rw [ek]
        intro hc
        have : x = z := by simpa [Value.isStr] using hc
        exact hz (this ▸ hx)
      rw [f]
      dsimp only
      rw [if_neg]
      rw [List.any_eq_true]
      rintro ⟨e, he, hr⟩
      obtain ⟨x, t, ek, hx⟩ := all e he
      simp [DictEntry.refKey, ek] at hr
    · cases h
  · cases h
theorem tab_ok {P : Params} {d : Addr} {tab : Tab} (h : He.dicW K d = some (He.keysIn P (tab.map (·.1)))) (hb : tabB K d tab = true) (hf : tab.all (fun t => t.2.all flatD) = true) : TabOk K d tab := by
  intro z
  cases e : tab.lookup z with
  | none => exact .inr ⟨rfl, nsIn_miss h (lookup_none e)⟩
  | some ws =>
    have hm := lookup_mem e
    have h1 := List.all_eq_true.mp hb _ hm
    have h2 := List.all_eq_true.mp hf _ hm
    refine .inl ?_
    split at h1
    · rename_i a q
      exact ⟨ws, .ref a, a, _, rfl, q, rfl, fun H => tupAtB_ok h1 H, fun ρ I => reps_dv ws h2⟩
    · cases h1
end
abbrev Tabs := List (Str × Tab)
abbrev AlB : Type := AlM × List (Option (List (Option (Str × Int))))
def obsBK (fa : List He.Fa) (fn : List He.DefD) (tb : Tups) (xs : List Xf) (ts : Tabs) (K : PySem.W.Frag) : AlB := ((He.obsD fa fn K, (tupsOk tb K && xs.all (Xf.ok K)) && ts.all fun t => tabB K (He.ga K t.1) t.2), ts.map fun t => He.dicW K (He.ga K t.1))
def valB (fn : List He.DefD) (ts : Tabs) (w : World) : AlB := ((He.valD fn, true), ts.map fun t => some (He.keysIn w.params (t.2.map (·.1))))
def SaysB (fa : List He.Fa) (fn : List He.DefD) (tb : Tups) (xs : List Xf) (ts : Tabs) (w : World) (K : PySem.W.Frag) : Prop := obsBK fa fn tb xs ts K = valB fn ts w
def obsB (as : List Addr) (fa : List He.Fa) (fn : List He.DefD) (tb : Tups) (xs : List Xf) (ts : Tabs) (g : Addr → Option Obj) : AlB := obsBK fa fn tb xs ts (He.frG g as)
def hookB (as : List Addr) (fa : List He.Fa) (fn : List He.DefD) (tb : Tups) (xs : List Xf) (ts : Tabs) : PySem.W.Hook where
  α := AlB
  obs := fun s => obsB as fa fn tb xs ts s.heap.get?
  val := fun w => valB fn ts w
  says := fun w h => ∃ K : PySem.W.Frag, K.In h ∧ SaysB fa fn tb xs ts w K
  of := fun _ _ e => ⟨_, He.frG_in, e⟩
  keeps := fun _ _ _ ⟨K, hK, c⟩ k => ⟨K, PySem.W.Frag.In.keeps hK k, c⟩
theorem obsB_eq {as : List Addr} {fa : List He.Fa} {fn : List He.DefD} {tb : Tups} {xs : List Xf} {ts : Tabs} {g : Addr → Option Obj} {s : Shared} (h : ∀ a, g a = s.heap.get? a) : obsB as fa fn tb xs ts g = (hookB as fa fn tb xs ts).obs s := by
  have e : g = s.heap.get? := funext h
  rw [e] <;> rfl
section
variable {fa : List He.Fa} {fn : List He.DefD} {tb : Tups} {xs : List Xf} {ts : Tabs} {w : World} {K : PySem.W.Frag}
theorem SaysB.x (c : SaysB fa fn tb xs ts w K) : SaysX fa fn tb xs K :=
  ⟨congrArg (fun z : AlB => z.1.1) c, (He.ba (congrArg (fun z : AlB => z.1.2) c)).1⟩
theorem gtab_mk (c : SaysB fa fn tb xs ts w K) (i : Nat) {t : Str × Tab} {mg : Str → Option Value} (hm : mg t.1 = some (.ref (He.ga K t.1))) (h : ts[i]? = some t := by rfl) (hf : t.2.all (fun t => t.2.all flatD) = true := by rfl) : GTab K w mg t.1 t.2 := by
  have e : ts.map (fun t => He.dicW K (He.ga K t.1)) = ts.map fun t => some (He.keysIn w.params (t.2.map (·.1))) := congrArg (fun z : AlB => z.2) c
  have e2 : (ts.map fun t => He.dicW K (He.ga K t.1))[i]? = (ts.map fun t => some (He.keysIn w.params (t.2.map (·.1))))[i]? := by rw [e]
  rw [List.getElem?_map, List.getElem?_map, h] at e2
  have e3 : He.dicW K (He.ga K t.1) = some (He.keysIn w.params (t.2.map (·.1))) := Option.some.inj e2
  have b := List.all_eq_true.mp (He.ba (congrArg (fun z : AlB => z.1.2) c)).2 t (List.mem_of_getElem? h)
  obtain ⟨es, n, kd⟩ := He.dicW_ok e3
  exact ⟨He.ga K t.1, es, n, hm, kd, tab_ok e3 b hf⟩
end
end MR
set_option Elab.async false
set_option linter.all false
set_option maxRecDepth 100000
set_option maxHeartbeats 0
namespace MR
open PySem PySem.Spec PyProof.Rows L2
def top (i : Nat) : Stmt := PySem.Challenge.pw_manrent_k51_rows_read_or_refused.main.body.getD i (.Pass ⟨0, 0, 0, 0⟩)
abbrev s__law_feed : Stmt := top 20
abbrev s__law_names : Stmt := top 22
abbrev s__law_kinds : Stmt := top 23
abbrev s__law_shapes : Stmt := top 24
abbrev s__law_any_row : Stmt := top 27
abbrev s__law_word_of : Stmt := top 28
abbrev s__law_text_of : Stmt := top 29
abbrev s__law_sign_of : Stmt := top 32
abbrev s__law_bent_text : Stmt := top 33
abbrev s__law_number : Stmt := top 30
abbrev s__law_named : Stmt := top 25
abbrev s__law_good : Stmt := top 26
abbrev s__law_read : Stmt := top 31
abbrev s_NoText___init__ : Stmt := inClass (top 4) 0
abbrev s_number_of_v2 : Stmt := top 16
abbrev s_thing_of_v2 : Stmt := top 17
abbrev s_is_name : Stmt := top 9
abbrev s_fits : Stmt := top 10
abbrev s_check_row : Stmt := top 11
abbrev s_read_row_v2 : Stmt := top 18
abbrev s__law_same_hot : Stmt := top 21
abbrev s__law_why_text : Stmt := top 34
abbrev s__law_same : Stmt := top 21
abbrev s_law : Stmt := top 35
def fns : List He.DefD := [⟨("_law_feed", none), "_law_feed", "_law_feed", defArgs s__law_feed, defBody s__law_feed, defScope s__law_feed, [], []⟩,
  ⟨("_law_names", none), "_law_names", "_law_names", defArgs s__law_names, defBody s__law_names, defScope s__law_names, [], []⟩,
  ⟨("_law_kinds", none), "_law_kinds", "_law_kinds", defArgs s__law_kinds, defBody s__law_kinds, defScope s__law_kinds, [], []⟩,
  ⟨("_law_shapes", none), "_law_shapes", "_law_shapes", defArgs s__law_shapes, defBody s__law_shapes, defScope s__law_shapes, [], []⟩,
  ⟨("_law_any_row", none), "_law_any_row", "_law_any_row", defArgs s__law_any_row, defBody s__law_any_row, defScope s__law_any_row, [], []⟩,
  ⟨("_law_word_of", none), "_law_word_of", "_law_word_of", defArgs s__law_word_of, defBody s__law_word_of, defScope s__law_word_of, [], []⟩,
  ⟨("_law_text_of", none), "_law_text_of", "_law_text_of", defArgs s__law_text_of, defBody s__law_text_of, defScope s__law_text_of, [], []⟩,
  ⟨("_law_sign_of", none), "_law_sign_of", "_law_sign_of", defArgs s__law_sign_of, defBody s__law_sign_of, defScope s__law_sign_of, [], []⟩,
  ⟨("_law_bent_text", none), "_law_bent_text", "_law_bent_text", defArgs s__law_bent_text, defBody s__law_bent_text, defScope s__law_bent_text, [], []⟩,
  ⟨("_law_number", none), "_law_number", "_law_number", defArgs s__law_number, defBody s__law_number, defScope s__law_number, [], []⟩,
  ⟨("_law_named", none), "_law_named", "_law_named", defArgs s__law_named, defBody s__law_named, defScope s__law_named, [], []⟩,
  ⟨("_law_good", none), "_law_good", "_law_good", defArgs s__law_good, defBody s__law_good, defScope s__law_good, [], []⟩,
  ⟨("_law_read", none), "_law_read", "_law_read", defArgs s__law_read, defBody s__law_read, defScope s__law_read, [], []⟩,
  ⟨("NoText", some "__init__"), "__init__", "NoText.__init__", defArgs s_NoText___init__, defBody s_NoText___init__, defScope s_NoText___init__, [], []⟩,
  ⟨("number_of", none), "number_of", "number_of", defArgs s_number_of_v2, defBody s_number_of_v2, defScope s_number_of_v2, [], []⟩,
  ⟨("thing_of", none), "thing_of", "thing_of", defArgs s_thing_of_v2, defBody s_thing_of_v2, defScope s_thing_of_v2, [], []⟩,
  ⟨("is_name", none), "is_name", "is_name", defArgs s_is_name, defBody s_is_name, defScope s_is_name, [], []⟩,
  ⟨("fits", none), "fits", "fits", defArgs s_fits, defBody s_fits, defScope s_fits, [], []⟩,
  ⟨("check_row", none), "check_row", "check_row", defArgs s_check_row, defBody s_check_row, defScope s_check_row, [], []⟩,
  ⟨("read_row", none), "read_row", "read_row", defArgs s_read_row_v2, defBody s_read_row_v2, defScope s_read_row_v2, [], []⟩,
  ⟨("_law_same", none), "_law_same", "_law_same", defArgs s__law_same_hot, defBody s__law_same_hot, defScope s__law_same_hot, [], []⟩,
  ⟨("_law_why_text", none), "_law_why_text", "_law_why_text", defArgs s__law_why_text, defBody s__law_why_text, defScope s__law_why_text, [], []⟩,
  ⟨("_law_same", none), "_law_same", "_law_same", defArgs s__law_same, defBody s__law_same, defScope s__law_same, [], []⟩,
  ⟨("law", none), "law", "law", defArgs s_law, defBody s_law, defScope s_law, [], []⟩]
def fas : List He.Fa := [.free "ValueError", .free "all", .free "bool", .free "enumerate", .free "int", .free "isinstance", .free "len", .free "list", .free "max", .free "range", .free "str", .free "tuple", .free "zip", .str "FIGURES" "0123456789", .str "LETTERS" "abcdefghijklmnopqrstuvwxyz", .int "MOST" (9999), .int "MOST_FIGURES" (6), .glo "NUMBERED", .glo "NoForm", .exc "NoForm", .glo "LandError", .glo "NoEntry", .glo "NoText", .exm "NoForm" "NoForm" true, .exm "NoForm" "NoText" false, .exm "NoText" "NoText" true, .noat "NoText" "at", .glo "SHAPES", .glo "_law_feed", .glo "_law_names", .glo "_law_kinds", .glo "_law_shapes", .glo "_law_any_row", .glo "_law_word_of", .glo "_law_text_of", .glo "_law_sign_of", .glo "_law_bent_text", .glo "_law_number", .glo "_law_named", .glo "_law_good", .glo "_law_read", .meth "NoText" "__init__", .glo "number_of", .glo "thing_of", .glo "is_name", .glo "fits", .glo "check_row", .glo "read_row", .glo "_law_same", .glo "_law_why_text", .glo "law"]
abbrev R : PySem.W.OpenRow := PySem.W.OpenLaw.row PySem.Challenge.rw_manrent_k51_rows_read_or_refused
def tbs : Tups := [("NUMBERED", [.str "day", .str "acres", .str "service"])]
def xfs : List Xf := [.exq "NoForm", .exq "NoText", .kit "NoForm" "LandError" true, .kit "NoForm" "NoEntry" false, .kit "NoForm" "NoForm" true, .kit "NoText" "LandError" true, .kit "NoText" "NoEntry" false, .kit "NoText" "NoForm" false, .kitb "NoForm" "ValueError" true, .kitb "NoText" "ValueError" true, .oex "NoText"]
def ads : List Addr := [3, 6, 4, 24, 37, 49, 68, 71, 83, 90, 97, 98, 103, 110, 115, 122, 127, 132, 139, 146, 151, 158, 163, 170, 175, 180, 187, 194, 201, 208, 215, 0, 23, 36, 48, 67, 72, 73, 74, 75, 76, 77, 78, 82, 89, 96, 102, 109, 114, 121, 126, 131, 138, 145, 150, 157, 162, 169, 174, 179, 186, 193, 200, 207, 214, 22, 25, 35, 47, 65, 66, 79, 80, 81, 84, 85, 86, 87, 88, 91, 92, 93, 94, 95, 99, 100, 101, 104, 105, 106, 107, 108, 111, 112, 113, 116, 117, 118, 119, 120, 123, 124, 125, 128, 129, 130, 133, 134, 135, 136, 137, 140, 141, 142, 143, 144, 147, 148, 149, 152, 153, 154, 155, 156, 159, 160, 161, 164, 165, 166, 167, 168, 171, 172, 173, 176, 177, 178, 181, 182, 183, 184, 185, 188, 189, 190, 191, 192, 195, 196, 197, 198, 199, 202, 203, 204, 205, 206, 209, 210, 211, 212, 213, 64]
def tss : Tabs := [("SHAPES", [("heir", [.str "day", .str "name", .str "name"]), ("grant", [.str "day", .str "crowned", .str "name", .str "name", .str "acres", .str "service"]), ("part", [.str "day", .str "name", .str "name", .str "name", .str "acres"]), ("convey", [.str "day", .str "name", .str "name"]), ("liege", [.str "day", .str "name", .str "crowned"]), ("surrender", [.str "day", .str "name"]), ("death", [.str "day", .str "name"])])]
abbrev hk : PySem.W.Hook := hookB ads fas fns tbs xfs tss
def ob (s : PySem.W.SharedT) : AlB := obsB ads fas fns tbs xfs tss (HandSHeadRun.getT s)
theorem ob_eq (s : PySem.W.SharedT) : ob s = hk.obs s.abs := obsB_eq (HandSHeadRun.getT_eq s)
def loose : List Str := [("LandError" : Str), ("NoForm" : Str), ("NoEntry" : Str), ("NoText" : Str), ("LETTERS" : Str), ("MOST" : Str), ("SHAPES" : Str), ("is_name" : Str), ("fits" : Str), ("check_row" : Str), ("FIGURES" : Str), ("MOST_FIGURES" : Str), ("NUMBERED" : Str), ("number_of" : Str), ("thing_of" : Str), ("read_row" : Str), ("_law_feed" : Str), ("_law_same" : Str), ("_law_names" : Str), ("_law_kinds" : Str), ("_law_shapes" : Str), ("_law_named" : Str), ("_law_good" : Str), ("_law_any_row" : Str), ("_law_word_of" : Str), ("_law_text_of" : Str), ("_law_number" : Str), ("_law_read" : Str), ("_law_sign_of" : Str), ("_law_bent_text" : Str), ("_law_why_text" : Str)]
theorem run_false (w : World) : HandSHeadRun.RunEq R (PySem.W.view R.prog [35]) hk ob 4000 loose (w.withFollow "special-get-raises" false) := by
  intro os
  kernel_rfl
theorem run_true (w : World) : HandSHeadRun.RunEq R (PySem.W.view R.prog [35]) hk ob 4000 loose (w.withFollow "special-get-raises" true) := by
  intro os
  kernel_rfl
theorem run (w : World) : HandSHeadRun.RunEq R (PySem.W.view R.prog [35]) hk ob 4000 loose w := PySem.W.byRow2 "special-get-raises" (P := fun w => HandSHeadRun.RunEq R (PySem.W.view R.prog [35]) hk ob 4000 loose w) run_false run_true w
end MR
set_option Elab.async false
set_option linter.all false
set_option maxRecDepth 100000
namespace MR
open PySem
def fb__law_feed_1 : DS := (sIf (tVal (d2 opGt (dVar 5) (dC (.int 0)))) (sSeq (sExpr (dMeth isLst kApp (dVar 2) (aCons (d2 opMod (dVar 5) (dC (.int 1009))) aNil))) (sSet 5 (d2 opDiv (dVar 5) (dC (.int 1009))))) sNil)
def fb__law_feed_2 : DS := (sSeq (sSet 3 (d2 opMod (d2 opAdd (d2 opAdd (d2 opMul' (dVar 3) (dC (.int 69621))) (d2 opMod (dVar 4) (dC (.int 2147483629)))) (dC (.int 11))) (dC (.int 2147483647)))) (sSeq (sSet 5 (d2 opSub (dVar 4) (d2 opPow (dC (.int 10)) (dC (.int 18))))) (sSeq (sIf (tVal (d2 opLt (dVar 5) (dC (.int 0)))) (sExpr (dMeth isLst kApp (dVar 2) (aCons (d2 opMod (dVar 4) (dC (.int 1000003))) aNil))) sNil) (sFor (iRan1 (dC (.int 60))) (gN 6) fb__law_feed_1))))
def fb__law_feed_3 : DS := (sSeq (sSet 3 (d2 opMod (d2 opAdd (d2 opAdd (d2 opAdd (d2 opMul' (d2 opMul' (dVar 3) (dVar 3)) (dVar 3)) (d2 opMul' (dC (.int 48271)) (dVar 3))) (d2 opMul' (dC (.int 13)) (dVar 6))) (dC (.int 5))) (dC (.int 2147483629)))) (sExpr (dMeth isLst kApp (dVar 2) (aCons (d2 opMod (d2 opDiv (dVar 3) (dC (.int 1013))) (dC (.int 1009))) aNil))))
def b__law_feed : DS := (sSeq (sSetO 2 (dLst aNil)) (sSeq (sSet 3 (dC (.int 29))) (sSeq (sFor (iLst (dSl (dVar 0) oNone (oSome (dC (.int 63))))) (gN 4) fb__law_feed_2) (sSeq (sFor (iRan1 (d2 opSub (dVar 1) (d1 opLen (dVar 2)))) (gN 6) fb__law_feed_3) (sRetF (dSl (dVar 2) oNone (oSome (dVar 1))))))))
def m__law_feed : Den := dDef 7 b__law_feed
def le__law_same_1 (r : Den) : DE := (dCall r (aCons (dVar 2) (aCons (dVar 3) aNil)))
def le__law_same_2 (r : Den) : DE := (dCall r (aCons (dVar 2) (aCons (dVar 3) aNil)))
def b__law_same (r : Den) : DS := (sSeq (sIf (tVal (dIsN (dV (dVar 1)))) (sRet (dIsN (dV (dVar 0)))) sNil) (sSeq (sIf (tVal (d1 (opIsi .bool) (dVar 1))) (sRet (vAnd (d1 (opIsi .bool) (dVar 0)) (d2 opEq' (dVar 0) (dVar 1)))) sNil) (sSeq (sIf (tVal (d1 (opIsi .tuple) (dVar 1))) (sSeq (sIf (tOr (tNot (tVal (d1 (opIsi .tuple) (dVar 0)))) (tVal (d2 opNe' (d1 opLen (dVar 0)) (d1 opLen (dVar 1))))) (sRet (dC (.bl false))) sNil) (sRet (d1 opAll (dLc (iZip (dVar 0) (dVar 1)) (gT 2 (gsCons (gN 2) (gsCons (gN 3) gsNil))) tTrue (le__law_same_1 r) [2, 3])))) sNil) (sSeq (sIf (tVal (d1 (opIsi .list) (dVar 1))) (sSeq (sIf (tOr (tNot (tVal (d1 (opIsi .list) (dVar 0)))) (tVal (d2 opNe' (d1 opLen (dVar 0)) (d1 opLen (dVar 1))))) (sRet (dC (.bl false))) sNil) (sRet (d1 opAll (dLc (iZip (dVar 0) (dVar 1)) (gT 2 (gsCons (gN 2) (gsCons (gN 3) gsNil))) tTrue (le__law_same_2 r) [2, 3])))) sNil) (sSeq (sIf (tVal (d1 (opIsi .str) (dVar 1))) (sRet (vAnd (d1 (opIsi .str) (dVar 0)) (d2 opEq' (dVar 0) (dVar 1)))) sNil) (sRet (vAnd (d1 (opIsi .int) (dVar 0)) (vAnd (vNot (d1 (opIsi .bool) (dVar 0))) (d2 opEq' (dVar 0) (dVar 1))))))))))
def r__law_same : Nat → Den
  | 0 => fun _ _ => .fail
  | n + 1 => dDef 4 (b__law_same (r__law_same n))
def m__law_same : Den := r__law_same 8
def wc__law_low_1 : DT := (tVal (d2 opNe' (dVar 3) (dC (.int 0))))
def wb__law_low_2 : DS := (sPar 2 3 (aCons (dVar 3) (aCons (d2 opMod (dVar 2) (dVar 3)) aNil)))
def b__law_low : DS := (sSeq (sSet 2 (d1 opAbs (dVar 0))) (sSeq (sSet 3 (d1 opAbs (dVar 1))) (sSeq (sWhile wc__law_low_1 wb__law_low_2 fuel) (sSeq (sIf (tVal (d2 opLt (dVar 1) (dC (.int 0)))) (sSet 2 (d2 opSub (dC (.int 0)) (dVar 2))) sNil) (sRet (dTup (aCons (d2 opDiv (dVar 0) (dVar 2)) (aCons (d2 opDiv (dVar 1) (dVar 2)) aNil))))))))
def m__law_low : Den := dDef 4 b__law_low
end MR
set_option Elab.async false
set_option linter.all false
set_option maxRecDepth 100000
namespace MR
open PySem
def le_is_name_1 : DE := (d2 opIn (dVar 1) (dC (.str "abcdefghijklmnopqrstuvwxyz")))
def b_is_name : DS := (sRet (vAnd (dChain opLe opLe (dC (.int 1)) (d1 opLen (dVar 0)) (dC (.int 8))) (d1 opAll (dLc (iStr (dVar 0)) (gN 1) tTrue le_is_name_1 [1]))))
def m_is_name : Den := dDef 2 b_is_name
end MR
set_option Elab.async false
set_option linter.all false
set_option maxRecDepth 100000
namespace MR
open PySem
end MR
set_option Elab.async false
set_option linter.all false
set_option maxRecDepth 100000
namespace MR
open PySem
def le__law_names_1 : DE := (d2 opIx (dVar 2) (d2 opMod (d2 opAdd (d2 opIx (dVar 0) (dC (.int 0))) (d2 opMul' (d2 opAdd (dVar 6) (dC (.int 1))) (d2 opDiv (d2 opIx (dVar 0) (dC (.int 1))) (dC (.int 8))))) (dC (.int 26))))
def fb__law_names_2 : DS := (sSeq (sSet 7 (d2 opIx (dVar 2) (d2 opMod (d2 opAdd (d2 opIx (dVar 0) (dC (.int 3))) (d2 opMul' (dC (.int 7)) (dVar 6))) (dC (.int 26))))) (sSeq (sSet 8 (d2 opAdd (d2 opAdd (dSl (dVar 3) oNone (oSome (dVar 4))) (dVar 7)) (dSl (dVar 3) (oSome (dVar 4)) oNone))) (sSeq (sIf (tVal (d2 opEq' (d2 opMod (d2 opDiv (d2 opIx (dVar 0) (dC (.int 2))) (dC (.int 8))) (dC (.int 2))) (dC (.int 1)))) (sSet 8 (d2 opMul' (dVar 7) (d2 opAdd (dC (.int 1)) (d2 opMod (d2 opAdd (d2 opIx (dVar 0) (dC (.int 0))) (d2 opMul' (dC (.int 3)) (dVar 6))) (dC (.int 8)))))) sNil) (sExpr (dMeth isLst kApp (dVar 5) (aCons (dVar 8) aNil))))))
def b__law_names : DS := (sSeq (sSet 2 (dC (.str "abcdefghijklmnopqrstuvwxyz"))) (sSeq (sSet 3 (dS1 opJoin (dC (.str "")) (dLc (iRan1 (d2 opMod (d2 opIx (dVar 0) (dC (.int 1))) (dC (.int 8)))) (gN 6) tTrue le__law_names_1 [6]))) (sSeq (sSet 4 (d2 opMod (d2 opIx (dVar 0) (dC (.int 2))) (d2 opAdd (d1 opLen (dVar 3)) (dC (.int 1))))) (sSeq (sSetO 5 (dLst aNil)) (sSeq (sFor (iRan1 (dVar 1)) (gN 6) fb__law_names_2) (sRetO 5))))))
def m__law_names : Den := dDef 9 b__law_names
def wc__law_taker_1 : DT := (tVal (d2 opInG (d2 opIx (dVar 2) (dNeg (dC (.int 1)))) (d2 opGet (dVar 0) (dC (.str "heirs")))))
def wb__law_taker_2 : DS := (sSeq (sSet 3 (d2 opGet (d2 opGet (dVar 0) (dC (.str "heirs"))) (d2 opIx (dVar 2) (dNeg (dC (.int 1)))))) (sSeq (sIf (tVal (d2 opInG (dVar 3) (dVar 2))) (sRet (dC .non)) sNil) (sSeq (sIf (tVal (d2 opNotInG (dVar 3) (d2 opGet (dVar 0) (dC (.str "dead"))))) (sRet (dVar 3)) sNil) (sExpr (dMeth isLst kApp (dVar 2) (aCons (dVar 3) aNil))))))
def b__law_taker : DS := (sSeq (sSetO 2 (dLst (aCons (dVar 1) aNil))) (sSeq (sWhile wc__law_taker_1 wb__law_taker_2 fuel) (sRet (dC .non))))
def m__law_taker : Den := dDef 4 b__law_taker
end MR
set_option Elab.async false
set_option linter.all false
set_option maxRecDepth 100000
namespace MR
open PySem
end MR
set_option Elab.async false
set_option linter.all false
set_option maxRecDepth 100000
namespace MR
open PySem
def b__law_book_v2 : DS := (sRetF (dDisp (pCons (dC (.str "lords")) (dAlloc (dDisp (pCons (dC (.str "")) (dC .non) pNil))) (pCons (dC (.str "holders")) (dAlloc (dDisp (pCons (dC (.str "")) (dC (.str "")) pNil))) (pCons (dC (.str "own")) (dAlloc (dDisp (pCons (dC (.str "")) (dVar 0) pNil))) (pCons (dC (.str "due")) (dAlloc (dDisp (pCons (dC (.str "")) (dTup (aCons (dC (.int 0)) (aCons (dC (.int 1)) aNil))) pNil))) (pCons (dC (.str "known")) (dAlloc (dLst aNil)) (pCons (dC (.str "heirs")) (dAlloc (dC (.dK []))) (pCons (dC (.str "dead")) (dAlloc (dLst aNil)) (pCons (dC (.str "lieges")) (dAlloc (dC (.dK []))) pNil))))))))))
def m__law_book_v2 : Den := dDef 1 b__law_book_v2
def lt__law_under_1 : DT := (tVal (d2 opEq' (d2 opGet (d2 opGet (dVar 0) (dC (.str "lords"))) (dVar 2)) (dVar 1)))
def le__law_under_2 : DE := (dVar 2)
def b__law_under : DS := (sRetF (d1 opSorted (dLock (d2 opGet (dVar 0) (dC (.str "lords"))) (dLc (iKeysD (d2 opGet (dVar 0) (dC (.str "lords")))) (gN 2) lt__law_under_1 le__law_under_2 [2]))))
def m__law_under : Den := dDef 3 b__law_under
def lt__law_held_1 : DT := (tVal (d2 opEq' (d2 opGet (d2 opGet (dVar 0) (dC (.str "holders"))) (dVar 2)) (dVar 1)))
def le__law_held_2 : DE := (dVar 2)
def b__law_held : DS := (sRetF (d1 opSorted (dLock (d2 opGet (dVar 0) (dC (.str "holders"))) (dLc (iKeysD (d2 opGet (dVar 0) (dC (.str "holders")))) (gN 2) lt__law_held_1 le__law_held_2 [2]))))
def m__law_held : Den := dDef 3 b__law_held
def lt__law_bound_to_1 : DT := (tVal (d2 opNe' (dVar 2) (dC (.str ""))))
def le__law_bound_to_2 : DE := (d2 opGet (d2 opGet (dVar 0) (dC (.str "holders"))) (d2 opGet (d2 opGet (dVar 0) (dC (.str "lords"))) (dVar 2)))
def b__law_bound_to : DS := (sRetF (dLc (iLst (dCall m__law_held (aCons (dVar 0) (aCons (dVar 1) aNil)))) (gN 2) lt__law_bound_to_1 le__law_bound_to_2 [2]))
def m__law_bound_to : Den := dDef 3 b__law_bound_to
def b__law_why : DS := (sSeq (sSet 2 (d2 opIx (dVar 1) (dC (.int 0)))) (sSeq (sIf (tAnd (tVal (d2 opInG (dVar 2) (dTup (aCons (dC (.str "grant")) (aCons (dC (.str "part")) (aCons (dC (.str "convey")) (aCons (dC (.str "surrender")) aNil))))))) (tVal (d2 opNotInG (d2 opIx (dVar 1) (dC (.int 2))) (d2 opGet (dVar 0) (dC (.str "lords")))))) (sRet (dC (.str "nowhere"))) sNil) (sSeq (sIf (tAnd (tVal (d2 opInG (dVar 2) (dTup (aCons (dC (.str "grant")) (aCons (dC (.str "part")) aNil))))) (tVal (d2 opInG (d2 opIx (dVar 1) (dC (.int 3))) (d2 opGet (dVar 0) (dC (.str "known")))))) (sRet (dC (.str "taken"))) sNil) (sSeq (sSet 3 (d2 opIx (dVar 1) (dC (.int 2)))) (sSeq (sIf (tVal (d2 opInG (dVar 2) (dTup (aCons (dC (.str "grant")) (aCons (dC (.str "part")) aNil))))) (sSet 3 (d2 opIx (dVar 1) (dC (.int 4)))) sNil) (sSeq (sIf (tVal (d2 opEq' (dVar 2) (dC (.str "convey")))) (sSet 3 (d2 opIx (dVar 1) (dC (.int 3)))) sNil) (sSeq (sIf (tAnd (tVal (d2 opNe' (dVar 2) (dC (.str "surrender")))) (tVal (d2 opInG (dVar 3) (d2 opGet (dVar 0) (dC (.str "dead")))))) (sRet (dC (.str "dead"))) sNil) (sSeq (sIf (tAnd (tVal (d2 opInG (dVar 2) (dTup (aCons (dC (.str "grant")) (aCons (dC (.str "part")) aNil))))) (tVal (d2 opGt (d2 opIx (dVar 1) (dC (.int 5))) (d2 opGet (d2 opGet (dVar 0) (dC (.str "own"))) (d2 opIx (dVar 1) (dC (.int 2))))))) (sRet (dC (.str "acres"))) sNil) (sSeq (sIf (tAnd (tVal (d2 opEq' (dVar 2) (dC (.str "liege")))) (tVal (d2 opNotInG (d2 opIx (dVar 1) (dC (.int 3))) (dCall m__law_bound_to (aCons (dVar 0) (aCons (dVar 3) aNil)))))) (sRet (dC (.str "nobond"))) sNil) (sRet (dC (.str "stands"))))))))))))
def m__law_why : Den := dDef 4 b__law_why
def fb__law_fall_1 : DS := (sDPutD (d2 opGet (dVar 0) (dC (.str "lords"))) (dVar 3) (dVar 2))
def b__law_fall : DS := (sSeq (sSet 2 (dMeth isDct kPop (d2 opGet (dVar 0) (dC (.str "lords"))) (aCons (dVar 1) aNil))) (sSeq (sDAugD (fun i j => i + j) (d2 opGet (dVar 0) (dC (.str "own"))) (dVar 2) (dMeth isDct kPop (d2 opGet (dVar 0) (dC (.str "own"))) (aCons (dVar 1) aNil))) (sSeq (sExpr (dMeth isDct kPop (d2 opGet (dVar 0) (dC (.str "holders"))) (aCons (dVar 1) aNil))) (sSeq (sExpr (dMeth isDct kPop (d2 opGet (dVar 0) (dC (.str "due"))) (aCons (dVar 1) aNil))) (sFor (iLst (dCall m__law_under (aCons (dVar 0) (aCons (dVar 1) aNil)))) (gN 3) fb__law_fall_1)))))
def m__law_fall : Den := dDef 4 b__law_fall
def b__law_new : DS := (sSeq (sDPutD (d2 opGet (dVar 0) (dC (.str "lords"))) (d2 opIx (dVar 1) (dC (.int 3))) (dVar 2)) (sSeq (sDPutD (d2 opGet (dVar 0) (dC (.str "holders"))) (d2 opIx (dVar 1) (dC (.int 3))) (d2 opIx (dVar 1) (dC (.int 4)))) (sSeq (sDPutD (d2 opGet (dVar 0) (dC (.str "own"))) (d2 opIx (dVar 1) (dC (.int 3))) (d2 opIx (dVar 1) (dC (.int 5)))) (sSeq (sDPutD (d2 opGet (dVar 0) (dC (.str "due"))) (d2 opIx (dVar 1) (dC (.int 3))) (dVar 3)) (sSeq (sDAugD (fun i j => i - j) (d2 opGet (dVar 0) (dC (.str "own"))) (d2 opIx (dVar 1) (dC (.int 2))) (d2 opIx (dVar 1) (dC (.int 5)))) (sExpr (dMeth isLst kApp (d2 opGet (dVar 0) (dC (.str "known"))) (aCons (d2 opIx (dVar 1) (dC (.int 3))) aNil))))))))
def m__law_new : Den := dDef 4 b__law_new
def lt__law_lord_for_1 : DT := (tVal (d2 opNe' (dVar 5) (dVar 2)))
def le__law_lord_for_2 : DE := (dVar 5)
def b__law_lord_for : DS := (sSeq (sSet 4 (dLc (iLst (d2 opAdd (d2 opAdd (d2 opMul' (dCall m__law_bound_to (aCons (dVar 0) (aCons (dVar 2) aNil))) (dC (.int 3))) (dVar 1)) (dLst (aCons (dC (.str "")) aNil)))) (gN 5) lt__law_lord_for_1 le__law_lord_for_2 [5])) (sRet (d2 opIx (dVar 4) (d2 opMod (dVar 3) (d1 opLen (dVar 4))))))
def m__law_lord_for : Den := dDef 6 b__law_lord_for
def lt__law_row_1 : DT := (tVal (d2 opNotInG (dVar 15) (d2 opGet (dVar 0) (dC (.str "known")))))
def le__law_row_2 : DE := (dVar 15)
def lt__law_row_3 : DT := (tVal (d2 opNe' (dVar 15) (dVar 8)))
def le__law_row_4 : DE := (dVar 15)
def b__law_row : DS := (sSeq (sSet 4 (d2 opIx (dVar 1) (dC (.int 0)))) (sSeq (sSet 5 (d2 opIx (dVar 1) (dC (.int 1)))) (sSeq (sSet 6 (d1 opSorted (d1 opListA (d2 opGet (dVar 0) (dC (.str "lords")))))) (sSeq (sSet 7 (d2 opIx (dVar 6) (d2 opMod (d2 opIx (dVar 2) (dC (.int 1))) (d1 opLen (dVar 6))))) (sSeq (sSet 8 (d2 opIx (dVar 4) (d2 opMod (d2 opIx (dVar 2) (dC (.int 2))) (d1 opLen (dVar 4))))) (sSeq (sSet 9 (dLc (iLst (dVar 5)) (gN 15) lt__law_row_1 le__law_row_2 [15])) (sSeq (sSet 10 (d2 opIx (d2 opAdd (dVar 9) (dVar 5)) (d2 opMod (d2 opIx (dVar 2) (dC (.int 3))) (d2 opMax (dC (.int 1)) (d1 opLen (dVar 9)))))) (sSeq (sIf (tVal (d2 opGt (d2 opMod (d2 opIx (dVar 2) (dC (.int 7))) (dC (.int 12))) (dC (.int 9)))) (sSeq (sSet 10 (d2 opIx (dVar 5) (d2 opMod (d2 opIx (dVar 2) (dC (.int 3))) (d1 opLen (dVar 5))))) (sSet 7 (d2 opIx (d2 opAdd (dLst (aCons (dC (.str "")) aNil)) (dVar 5)) (d2 opMod (d2 opIx (dVar 2) (dC (.int 1))) (dC (.int 10)))))) sNil) (sSeq (sSet 11 (dMeth isDct kGet (d2 opGet (dVar 0) (dC (.str "own"))) (aCons (dVar 7) (aCons (dC (.int 0)) aNil)))) (sSeq (sSet 12 (d2 opAdd (dC (.int 1)) (d2 opMod (d2 opIx (dVar 2) (dC (.int 4))) (d2 opMax (dC (.int 1)) (dVar 11))))) (sSeq (sIf (tVal (d2 opEq' (d2 opMod (d2 opIx (dVar 2) (dC (.int 7))) (dC (.int 12))) (dC (.int 9)))) (sSet 12 (d2 opMin (dC (.int 9999)) (d2 opAdd (d2 opAdd (dVar 11) (dC (.int 1))) (d2 opMod (d2 opIx (dVar 2) (dC (.int 4))) (dC (.int 2)))))) sNil) (sSeq (sSet 13 (d2 opMod (d2 opIx (dVar 2) (dC (.int 0))) (dC (.int 13)))) (sSeq (sIf (tOr (tVal (d2 opLt (dVar 13) (dC (.int 4)))) (tAnd (tVal (d2 opEq' (dVar 7) (dC (.str "")))) (tVal (d2 opInG (dVar 13) (dTup (aCons (dC (.int 4)) (aCons (dC (.int 5)) (aCons (dC (.int 6)) (aCons (dC (.int 9)) (aCons (dC (.int 12)) aNil)))))))))) (sRet (dTup (aCons (dC (.str "grant")) (aCons (dVar 3) (aCons (dVar 7) (aCons (dVar 10) (aCons (dVar 8) (aCons (dVar 12) (aCons (d2 opIx (dLst (aCons (dC (.int 0)) (aCons (dC (.int 1)) (aCons (d2 opMod (d2 opIx (dVar 2) (dC (.int 5))) (dC (.int 30))) (aCons (d2 opSub (dC (.int 9999)) (d2 opMod (d2 opIx (dVar 2) (dC (.int 5))) (dC (.int 9)))) aNil))))) (d2 opMod (d2 opIx (dVar 2) (dC (.int 6))) (dC (.int 4)))) aNil))))))))) sNil) (sSeq (sIf (tOr (tVal (d2 opEq' (dVar 13) (dC (.int 4)))) (tVal (d2 opEq' (dVar 13) (dC (.int 12))))) (sRet (dTup (aCons (dC (.str "part")) (aCons (dVar 3) (aCons (dVar 7) (aCons (dVar 10) (aCons (dVar 8) (aCons (dVar 12) aNil)))))))) sNil) (sSeq (sIf (tVal (d2 opLt (dVar 13) (dC (.int 7)))) (sRet (dTup (aCons (dC (.str "convey")) (aCons (dVar 3) (aCons (dVar 7) (aCons (dVar 8) aNil)))))) sNil) (sSeq (sIf (tOr (tVal (d2 opEq' (dVar 13) (dC (.int 7)))) (tVal (d2 opEq' (dVar 13) (dC (.int 11))))) (sSeq (sSet 14 (dLc (iLst (dVar 4)) (gN 15) lt__law_row_3 le__law_row_4 [15])) (sRet (dTup (aCons (dC (.str "heir")) (aCons (dVar 3) (aCons (dVar 8) (aCons (d2 opIx (dVar 14) (d2 opMod (d2 opIx (dVar 2) (dC (.int 3))) (d1 opLen (dVar 14)))) aNil))))))) sNil) (sSeq (sIf (tVal (d2 opEq' (dVar 13) (dC (.int 8)))) (sRet (dTup (aCons (dC (.str "liege")) (aCons (dVar 3) (aCons (dVar 8) (aCons (dCall m__law_lord_for (aCons (dVar 0) (aCons (dVar 4) (aCons (dVar 8) (aCons (d2 opIx (dVar 2) (dC (.int 3))) aNil))))) aNil)))))) sNil) (sSeq (sIf (tVal (d2 opEq' (dVar 13) (dC (.int 9)))) (sRet (dTup (aCons (dC (.str "surrender")) (aCons (dVar 3) (aCons (dVar 7) aNil))))) sNil) (sRet (dTup (aCons (dC (.str "death")) (aCons (dVar 3) (aCons (dVar 8) aNil)))))))))))))))))))))))
def m__law_row : Den := dDef 16 b__law_row
end MR
set_option Elab.async false
set_option linter.all false
set_option maxRecDepth 100000
namespace MR
open PySem
def wc__law_breadth_1 : DT := (tVal (d2 opNe' (dVar 3) (dLst aNil)))
def wb__law_breadth_2 : DS := (sSeq (sSet 2 (d2 opAdd (dVar 2) (d2 opGet (d2 opGet (dVar 0) (dC (.str "own"))) (d2 opIx (dVar 3) (dC (.int 0)))))) (sSet 3 (d2 opAdd (dSl (dVar 3) (oSome (dC (.int 1))) oNone) (dCall m__law_under (aCons (dVar 0) (aCons (d2 opIx (dVar 3) (dC (.int 0))) aNil))))))
def b__law_breadth : DS := (sSeq (sSet 2 (d2 opGet (d2 opGet (dVar 0) (dC (.str "own"))) (dVar 1))) (sSeq (sSet 3 (dCall m__law_under (aCons (dVar 0) (aCons (dVar 1) aNil)))) (sSeq (sWhile wc__law_breadth_1 wb__law_breadth_2 fuel) (sRet (dVar 2)))))
def m__law_breadth : Den := dDef 4 b__law_breadth
def fb__law_do_1 : DS := (sIf (tVal (dIsN (dV (dVar 4)))) (sExpr (dCall m__law_fall (aCons (dVar 0) (aCons (dVar 5) aNil)))) (sDPutD (d2 opGet (dVar 0) (dC (.str "holders"))) (dVar 5) (dVar 4)))
def b__law_do : DS := (sSeq (sIf (tVal (d2 opEq' (d2 opIx (dVar 1) (dC (.int 0))) (dC (.str "grant")))) (sExpr (dCall m__law_new (aCons (dVar 0) (aCons (dVar 1) (aCons (d2 opIx (dVar 1) (dC (.int 2))) (aCons (dTup (aCons (d2 opIx (dVar 1) (dC (.int 6))) (aCons (dC (.int 1)) aNil))) aNil)))))) sNil) (sSeq (sIf (tVal (d2 opEq' (d2 opIx (dVar 1) (dC (.int 0))) (dC (.str "part")))) (sSeq (sSet 2 (d2 opGet (d2 opGet (dVar 0) (dC (.str "due"))) (d2 opIx (dVar 1) (dC (.int 2))))) (sSeq (sSet 3 (dCall m__law_breadth (aCons (dVar 0) (aCons (d2 opIx (dVar 1) (dC (.int 2))) aNil)))) (sSeq (sExpr (dCall m__law_new (aCons (dVar 0) (aCons (dVar 1) (aCons (d2 opGet (d2 opGet (dVar 0) (dC (.str "lords"))) (d2 opIx (dVar 1) (dC (.int 2)))) (aCons (dCall m__law_low (aCons (d2 opMul' (d2 opIx (dVar 2) (dC (.int 0))) (d2 opIx (dVar 1) (dC (.int 5)))) (aCons (d2 opMul' (d2 opIx (dVar 2) (dC (.int 1))) (dVar 3)) aNil))) aNil)))))) (sDPutD (d2 opGet (dVar 0) (dC (.str "due"))) (d2 opIx (dVar 1) (dC (.int 2))) (dCall m__law_low (aCons (d2 opMul' (d2 opIx (dVar 2) (dC (.int 0))) (d2 opSub (dVar 3) (d2 opIx (dVar 1) (dC (.int 5))))) (aCons (d2 opMul' (d2 opIx (dVar 2) (dC (.int 1))) (dVar 3)) aNil))))))) sNil) (sSeq (sIf (tVal (d2 opEq' (d2 opIx (dVar 1) (dC (.int 0))) (dC (.str "convey")))) (sDPutD (d2 opGet (dVar 0) (dC (.str "holders"))) (d2 opIx (dVar 1) (dC (.int 2))) (d2 opIx (dVar 1) (dC (.int 3)))) sNil) (sSeq (sIf (tVal (d2 opEq' (d2 opIx (dVar 1) (dC (.int 0))) (dC (.str "surrender")))) (sExpr (dCall m__law_fall (aCons (dVar 0) (aCons (d2 opIx (dVar 1) (dC (.int 2))) aNil)))) sNil) (sSeq (sIf (tVal (d2 opEq' (d2 opIx (dVar 1) (dC (.int 0))) (dC (.str "heir")))) (sDPutD (d2 opGet (dVar 0) (dC (.str "heirs"))) (d2 opIx (dVar 1) (dC (.int 2))) (d2 opIx (dVar 1) (dC (.int 3)))) sNil) (sSeq (sIf (tVal (d2 opEq' (d2 opIx (dVar 1) (dC (.int 0))) (dC (.str "liege")))) (sDPutD (d2 opGet (dVar 0) (dC (.str "lieges"))) (d2 opIx (dVar 1) (dC (.int 2))) (d2 opIx (dVar 1) (dC (.int 3)))) sNil) (sIf (tVal (d2 opEq' (d2 opIx (dVar 1) (dC (.int 0))) (dC (.str "death")))) (sSeq (sExpr (dMeth isLst kApp (d2 opGet (dVar 0) (dC (.str "dead"))) (aCons (d2 opIx (dVar 1) (dC (.int 2))) aNil))) (sSeq (sSet 4 (dCall m__law_taker (aCons (dVar 0) (aCons (d2 opIx (dVar 1) (dC (.int 2))) aNil)))) (sFor (iLst (dCall m__law_held (aCons (dVar 0) (aCons (d2 opIx (dVar 1) (dC (.int 2))) aNil)))) (gN 5) fb__law_do_1))) sNil)))))))
def m__law_do : Den := dDef 6 b__law_do
end MR
set_option Elab.async false
set_option linter.all false
set_option maxRecDepth 100000
namespace MR
open PySem
noncomputable section
def fb_Court_stand_1 : DS := (sIf (tVal (d2 opLe (dFld ["Stand"] "since" (dVar 3)) (dVar 1))) (sSet 2 (dVar 3)) sNil)
def b_Court_stand : DS := (sSeq (sSet 2 (d2 opIx (dFld ["Court"] "stands" (dVar 0)) (dC (.int 0)))) (sSeq (sLockL (dFld ["Court"] "stands" (dVar 0)) (sFor (iLstL (dFld ["Court"] "stands" (dVar 0))) (gN 3) fb_Court_stand_1)) (sRet (dVar 2))))
def m_Court_stand : Den := dDef 4 b_Court_stand
def b__law_word : DS := (sSeq (sSet 2 (dCall m__law_why (aCons (dVar 0) (aCons (dVar 1) aNil)))) (sSeq (sIf (tVal (d2 opEq' (dVar 2) (dC (.str "stands")))) (sExpr (dCall m__law_do (aCons (dVar 0) (aCons (dVar 1) aNil)))) sNil) (sRet (dVar 2))))
def m__law_word : Den := dDef 3 b__law_word
def b__law_kinds : DS := (sRetF (dLst (aCons (dC (.str "heir")) (aCons (dC (.str "grant")) (aCons (dC (.str "part")) (aCons (dC (.str "convey")) (aCons (dC (.str "liege")) (aCons (dC (.str "surrender")) (aCons (dC (.str "death")) aNil)))))))))
def m__law_kinds : Den := dDef 0 b__law_kinds
def fb__law_rows_1 : DS := (sSeq (sSet 9 (dSl (dVar 0) (oSome (d2 opAdd (dVar 1) (d2 opMul' (dC (.int 8)) (dVar 8)))) (oSome (d2 opAdd (d2 opAdd (dVar 1) (d2 opMul' (dC (.int 8)) (dVar 8))) (dC (.int 8)))))) (sSeq (sSet 10 (dCall m__law_row (aCons (dVar 5) (aCons (dVar 3) (aCons (d2 opAdd (dLst (aCons (d2 opIx (dVar 4) (d2 opMod (d2 opIx (dVar 9) (dC (.int 0))) (d1 opLen (dVar 4)))) aNil)) (dSl (dVar 9) (oSome (dC (.int 1))) oNone)) (aCons (dVar 7) aNil)))))) (sSeq (sIf (tVal (d2 opNotInD (dVar 10) (dVar 6))) (sSeq (sExpr (dMeth isLst kApp (dVar 6) (aCons (dVar 10) aNil))) (sExpr (dCall m__law_word (aCons (dVar 5) (aCons (dVar 10) aNil))))) sNil) (sSet 7 (d2 opMin (dC (.int 9999)) (d2 opAdd (dVar 7) (d2 opIx (dLst (aCons (dC (.int 1)) (aCons (dC (.int 1)) (aCons (dC (.int 0)) (aCons (dC (.int 5)) (aCons (dC (.int 300)) aNil)))))) (d2 opMod (d2 opDiv (d2 opIx (dVar 9) (dC (.int 6))) (dC (.int 4))) (dC (.int 5))))))))))
def b__law_rows : DS := (sSeq (sSet 5 (dAlloc (dCall m__law_book_v2 (aCons (d2 opIx (dVar 3) (dC (.int 2))) aNil)))) (sSeq (sSetO 6 (dLst aNil)) (sSeq (sSet 7 (d2 opMod (d2 opIx (dVar 0) (dC (.int 14))) (dC (.int 40)))) (sSeq (sIf (tVal (d2 opEq' (d2 opMod (d2 opDiv (d2 opIx (dVar 0) (dC (.int 14))) (dC (.int 40))) (dC (.int 8))) (dC (.int 7)))) (sSet 7 (d2 opAdd (dC (.int 9985)) (d2 opMod (d2 opIx (dVar 0) (dC (.int 14))) (dC (.int 15))))) sNil) (sSeq (sFor (iRan1 (dVar 2)) (gN 8) fb__law_rows_1) (sRetO 6))))))
def m__law_rows : Den := dDef 11 b__law_rows
end
end MR
set_option Elab.async false
set_option linter.all false
set_option maxRecDepth 100000
namespace MR
open PySem
noncomputable section
def b__law_shapes : DS := (sRetF (dDisp (pCons (dC (.str "heir")) (dC (.str "dnn")) (pCons (dC (.str "grant")) (dC (.str "dcnnas")) (pCons (dC (.str "part")) (dC (.str "dnnna")) (pCons (dC (.str "convey")) (dC (.str "dnn")) (pCons (dC (.str "liege")) (dC (.str "dnc")) (pCons (dC (.str "surrender")) (dC (.str "dn")) (pCons (dC (.str "death")) (dC (.str "dn")) pNil)))))))))
def m__law_shapes : Den := dDef 0 b__law_shapes
def fb__law_any_row_1 : DS := (sSeq (sSet 6 (d2 opIx (dLst (aCons (d2 opMod (d2 opIx (dVar 0) (d2 opAdd (dC (.int 1)) (dVar 4))) (dC (.int 10000))) (aCons (d2 opMod (d2 opIx (dVar 0) (d2 opAdd (dC (.int 1)) (dVar 4))) (dC (.int 10000))) (aCons (dC (.int 9999)) (aCons (dC (.int 1)) (aCons (dC (.int 0)) aNil)))))) (d2 opMod (d2 opIx (dVar 0) (d2 opAdd (dC (.int 8)) (dVar 4))) (dC (.int 5))))) (sIf (tVal (d2 opIn (dVar 5) (dC (.str "das")))) (sExpr (dMeth isLst kApp (dVar 3) (aCons (d2 opMax (dVar 6) (d1 opIntS (d2 opEq' (dVar 5) (dC (.str "a"))))) aNil))) (sIf (tAnd (tVal (d2 opEq' (dVar 5) (dC (.str "c")))) (tVal (d2 opEq' (d2 opMod (d2 opIx (dVar 0) (d2 opAdd (dC (.int 8)) (dVar 4))) (dC (.int 3))) (dC (.int 0))))) (sExpr (dMeth isLst kApp (dVar 3) (aCons (dC (.str "")) aNil))) (sExpr (dMeth isLst kApp (dVar 3) (aCons (d2 opIx (dVar 1) (d2 opMod (d2 opIx (dVar 0) (d2 opAdd (dC (.int 1)) (dVar 4))) (d1 opLen (dVar 1)))) aNil))))))
def lt__law_any_row_2 : DT := (tVal (d2 opNe' (dVar 7) (d2 opIx (dVar 3) (dC (.int 2)))))
def le__law_any_row_3 : DE := (dVar 7)
def b__law_any_row : DS := (sSeq (sSet 2 (d2 opIx (dCall0 m__law_kinds) (d2 opMod (d2 opIx (dVar 0) (dC (.int 0))) (dC (.int 7))))) (sSeq (sSetO 3 (dLst (aCons (dVar 2) aNil))) (sSeq (sFor (iEnumS (d2 opGet (dCall0 m__law_shapes) (dVar 2))) (gT 2 (gsCons (gN 4) (gsCons (gN 5) gsNil))) fb__law_any_row_1) (sSeq (sIf (tAnd (tVal (d2 opInG (dVar 2) (dTup (aCons (dC (.str "heir")) (aCons (dC (.str "liege")) aNil))))) (tVal (d2 opEq' (d2 opIx (dVar 3) (dC (.int 2))) (d2 opIx (dVar 3) (dC (.int 3)))))) (sLPut (dVar 3) (dC (.int 3)) (d2 opIx (dLc (iLst (dVar 1)) (gN 7) lt__law_any_row_2 le__law_any_row_3 [7]) (d2 opMod (d2 opIx (dVar 0) (dC (.int 7))) (d2 opSub (d1 opLen (dVar 1)) (dC (.int 1)))))) sNil) (sRet (d1 opTuple (dVar 3)))))))
def m__law_any_row : Den := dDef 8 b__law_any_row
end
end MR
set_option Elab.async false
set_option linter.all false
set_option maxRecDepth 100000
namespace MR
open PySem PySem.Spec PyProof.Rows L2
inductive Src where
  | tup (a : Addr) (vs : List V)
  | lst (a : Addr) (vs : List V)
  | str (x : Str)
def sgnV (x : Str) : List V := x.cps.toList.map fun c => V.str ⟨#[c]⟩
def Src.vals : Src → List V
  | .tup _ vs => vs
  | .lst _ vs => vs
  | .str x => sgnV x
def Src.val : Src → V
  | .tup a _ => .ref a
  | .lst a _ => .ref a
  | .str x => .str x
def Src.ok (K : PySem.W.Frag) (H : Hp) : Src → Prop
  | .tup a vs => SqT K H a vs
  | .lst a vs => SqL K H a vs
  | .str _ => True
def Src.okI (K : PySem.W.Frag) (I : Hp) : Src → Prop
  | .tup a vs => SqT K I a vs
  | .lst a vs => I a = some (.lst vs)
  | .str _ => True
def Src.St (t : Tok) (it : Addr) (i : Nat) (h : Heap) : Src → Prop
  | .tup a _ => h.IsTupleIter it a i
  | .lst a _ => h.IsListIter it a i
  | .str x => h.IsStrIter it (strIterType x) x t i
def Src.fp (it : Addr) : Src → List Addr
  | .tup a _ => [it, a]
  | .lst a _ => [it, a]
  | .str _ => [it]
def Src.below (n : Nat) : Src → Prop
  | .tup a _ => a < n
  | .lst a _ => a < n
  | .str _ => True
theorem Src.St_obj {t : Tok} {it : Addr} {i : Nat} {h : Heap} : ∀ {q : Src}, q.St t it i h → ∃ o, h.get? it = some o ∧ ∀ v, o.data ≠ .cell v
  | .tup _ _, ⟨o, e, _, d⟩ => ⟨o, e, fun v z => by rw [d] at z; cases z⟩
  | .lst _ _, ⟨o, e, _, d⟩ => ⟨o, e, fun v z => by rw [d] at z; cases z⟩
  | .str _, ⟨o, e, _, d⟩ => ⟨o, e, fun v z => by rw [d] at z; cases z⟩
theorem Src.St_keep {t : Tok} {it : Addr} {i : Nat} {h h' : Heap} (k : ∀ o, h.get? it = some o → h'.get? it = some o) : ∀ {q : Src}, q.St t it i h → q.St t it i h'
  | .tup _ _, ⟨o, e, r⟩ => ⟨o, k o e, r⟩
  | .lst _ _, ⟨o, e, r⟩ => ⟨o, k o e, r⟩
  | .str _, ⟨o, e, r⟩ => ⟨o, k o e, r⟩
theorem ane {a b : Nat} (h : a ≠ b) : @Ne Addr a b := h
theorem paired_back {vs : List V} {its : List Value} (r : Vals vs its) {j : Nat} {v : Value} (h : its[j]? = some v) : ∃ x, vs[j]? = some x ∧ RelV x v := by
  have hj := (List.getElem?_eq_some_iff.mp h).1
  have hl : j < vs.length := by rw [r.length]; exact hj
  have hx : vs[j]? = some vs[j] := List.getElem?_eq_getElem hl
  obtain ⟨u, hu, ru⟩ := r.get hx
  rw [h] at hu
  cases hu
  exact ⟨_, hx, ru⟩
theorem ltn {a : Nat} {n : Nat} {vs : List V} (h : Src.below n (.tup a vs)) : @LT.lt Nat _ a n := h
theorem nm1 {x a : Nat} (h : x ≠ a) : x ∉ [a] := by simpa using h
theorem nm2 {x a b : Nat} (h : x ≠ a) (k : x ≠ b) : x ∉ [a, b] := by simpa using ⟨h, k⟩
theorem src_nm {q : Src} {x it : Nat} (b : q.below it) (h : it < x) : x ∉ q.fp it := by
  cases q with
  | tup a vs => exact nm2 (Nat.ne_of_gt h) (Nat.ne_of_gt (Nat.lt_trans b h))
  | lst a vs => exact nm2 (Nat.ne_of_gt h) (Nat.ne_of_gt (Nat.lt_trans b h))
  | str x => exact nm1 (Nat.ne_of_gt h)
theorem src_nm' {q : Src} {n : Nat} (b : q.below n) {x : Nat} (h : n + 1 < x ∨ x = n) : x ∉ q.fp (n + 1) := by
  have h1 : x ≠ n + 1 := by rcases h with h | h <;> omega
  cases q with
  | tup a vs =>
    have b := ltn (vs := vs) b
    have h2 : @Ne Nat x a := by rcases h with h | h <;> omega
    exact nm2 h1 h2
  | lst a vs =>
    have b := ltn (vs := vs) b
    have h2 : @Ne Nat x a := by rcases h with h | h <;> omega
    exact nm2 h1 h2
  | str x => exact nm1 h1
theorem src_mem {q : Src} {it : Nat} : it ∈ q.fp it := by cases q <;> simp [Src.fp]
theorem src_sep {q1 q2 : Src} {n : Nat} (b1 : q1.below n) (b2 : q2.below n) : ZipSep2 (n + 4) (n + 2) (n + 3) n (n + 1) (q1.fp n) (q2.fp (n + 1)) where
  TIz := Nat.ne_of_lt (by omega : n + 2 < n + 4)
  TOz := Nat.ne_of_lt (by omega : n + 3 < n + 4)
  TITO := Nat.ne_of_lt (by omega : n + 2 < n + 3)
  TIi1 := Nat.ne_of_gt (by omega : n < n + 2)
  mem1 := src_mem
  zf1 := src_nm b1 (by omega)
  Tf1 := src_nm b1 (by omega)
  TIi2 := Nat.ne_of_gt (by omega : n + 1 < n + 2)
  mem2 := src_mem
  zf2 := src_nm' b2 (.inl (by omega))
  Tf2 := src_nm' b2 (.inl (by omega))
  sep1_2 := src_nm' b2 (.inr rfl)
  sep2_1 := src_nm b1 (by omega)
theorem sgnV_get {x : Str} {i : Nat} {c : Nat} (h : x.cps[i]? = some c) : (sgnV x)[i]? = some (V.str ⟨#[c]⟩) := by
  unfold sgnV
  rw [List.getElem?_map, Array.getElem?_toList, h] <;> rfl
theorem sgnV_len (x : Str) : (sgnV x).length = x.cps.size := by
  unfold sgnV
  rw [List.length_map, Array.length_toList]
section
variable {X : Cx} {pins : List (Addr × Obj)} {σ : L2.St} {H : Hp} {s : Shared}
theorem Src.draws (I : Inv X pins σ H s) (hh : X.A.in1.handled = none) {it : Addr} {t : Tok} {i : Nat} : ∀ {q : Src}, q.ok X.K H → q.below it ∨ (∀ a vs, q = .tup a vs ∨ q = .lst a vs → a ≠ it) → q.St t it i s.heap →
    ∃ P St, Draws X.prog X.w X.A.in1 it (q.fp it) q.vals.length P St ∧ St i s.heap ∧ (∀ j h, St j h → q.St t it j h) ∧ ∀ j v, P j v → ∃ x, q.vals[j]? = some x ∧ RelV x v
  | .tup a vs, ok, ne, st => by
    obtain ⟨its, rv, p, _⟩ := I.tuple ok
    have hne : a ≠ it := by
      rcases ne with h | h
      · exact Nat.ne_of_lt h
      · exact h a vs (.inl rfl)
    have el : its.toArray.size = vs.length := by rw [List.size_toArray, rv.length]
    have D := Draws.tuple (prog := X.prog) (w := X.w) hh it a hne its.toArray
    rw [el] at D
    refine ⟨_, _, D, ⟨st, p⟩, fun j h z => z.1, fun j v z => ?_⟩
    have z' : its[j]? = some v := by simpa using z
    exact paired_back rv z'
  | .lst a vs, ok, ne, st => by
    obtain ⟨its, rv, p, _⟩ := I.list ok
    have hne : a ≠ it := by
      rcases ne with h | h
      · exact Nat.ne_of_lt h
      · exact h a vs (.inr rfl)
    have el : its.toArray.size = vs.length := by rw [List.size_toArray, rv.length]
    have D := Draws.list (prog := X.prog) (w := X.w) hh it a hne its.toArray
    rw [el] at D
    refine ⟨_, _, D, ⟨st, p.isList⟩, fun j h z => z.1, fun j v z => ?_⟩
    have z' : its[j]? = some v := by simpa using z
    exact paired_back rv z'
  | .str x, _, _, st => by
    have D := Draws.text (prog := X.prog) (w := X.w) hh it x t
    rw [← sgnV_len x] at D
    refine ⟨_, _, D, st, fun j h z => z, fun j v z => ?_⟩
    obtain ⟨c, u, hc, rfl⟩ := z
    exact ⟨_, sgnV_get hc, ⟨u, rfl⟩⟩
theorem Src.begins (I : Inv X pins σ H s) {u : Value} : ∀ {q : Src}, q.ok X.K H → RelV q.val u → ∃ o Hh t, Begins u o Hh ∧ Hh s.heap ∧ ∀ it h, h.get? it = some o → q.St t it 0 h
  | .tup a vs, ok, r => by
    obtain ⟨its, rv, p, _⟩ := I.tuple ok
    cases r
    exact ⟨_, _, 0, begins_tuple a its.toArray, p, fun it h e => ⟨_, e, rfl, rfl⟩⟩
  | .lst a vs, ok, r => by
    obtain ⟨its, rv, p, _⟩ := I.list ok
    cases r
    exact ⟨_, _, 0, begins_list a its.toArray, p.isList, fun it h e => ⟨_, e, rfl, rfl⟩⟩
  | .str x, ok, r => by
    obtain ⟨t, rfl⟩ := r
    exact ⟨_, _, t, begins_text x t, trivial, fun it h e => ⟨_, e, rfl, rfl⟩⟩
theorem Src.lt (I : Inv X pins σ H s) : ∀ {q : Src}, q.ok X.K H → q.below s.heap.objs.size
  | .tup a vs, ok => by
    obtain ⟨its, rv, ⟨o, e, _⟩, _⟩ := I.tuple ok
    exact Heap.lt_size e
  | .lst a vs, ok => by
    obtain ⟨its, rv, p, _⟩ := I.list ok
    exact p.lt
  | .str x, ok => trivial
end
def ItZ (K : PySem.W.Frag) (q1 q2 : Src) : It :=
  ⟨fun i H => q1.ok K H ∧ q2.ok K H ∧ i < q1.vals.length ∧ i < q2.vals.length,
    fun i H v H' => ∃ T x y, v = .ref T ∧ H T = none ∧ H' = upd H T (.tup [x, y]) ∧ q1.vals[i]? = some x ∧ q2.vals[i]? = some y,
    fun i H => q1.ok K H ∧ q2.ok K H ∧ (q1.vals.length ≤ i ∨ q2.vals.length ≤ i)⟩
theorem turn_zipX {P : Program} {w : World} {K : PySem.W.Frag} {elts : List Expr} {kk : Nat} {tpos : Pos} {q1 q2 : Src} {t1 t2 : Tok} {n : Nat} (b1 : q1.below n) (b2 : q2.below n) :
    Turn P w K (.Tuple elts kk tpos) (ItZ K q1 q2) [n + 4, n + 2, n + 3, n, n + 1] (n + 4) (fun i h => IsZip h (n + 4) (n + 2) (n + 3) .none ∧ IsTupOf2 h (n + 2) (.ref n) (.ref (n + 1)) ∧ (∃ x y, IsTupOf2 h (n + 3) x y) ∧ q1.St t1 n i h ∧ q2.St t2 (n + 1) i h ∧ i ≤ q1.vals.length ∧ i ≤ q2.vals.length) where
  mem := by simp
  obj := fun i h st c hc => by
    obtain ⟨hz, hTI, ⟨x, y, hTO⟩, h1, h2, _⟩ := st
    have e' : c = n + 4 ∨ c = n + 2 ∨ c = n + 3 ∨ c = n ∨ c = n + 1 := by simpa using hc
    rcases e' with q | q | q | q | q
    · rw [q]; exact ⟨_, hz, fun v q => nomatch q⟩
    · rw [q]; exact ⟨_, hTI, fun v q => nomatch q⟩
    · rw [q]; exact ⟨_, hTO, fun v q => nomatch q⟩
    · rw [q]; exact Src.St_obj h1
    · rw [q]; exact Src.St_obj h2
  keep := fun i h h' st k => by
    obtain ⟨hz, hTI, ⟨x, y, hTO⟩, h1, h2, l⟩ := st
    exact ⟨k _ (by simp) _ hz, k _ (by simp) _ hTI, ⟨x, y, k _ (by simp) _ hTO⟩, Src.St_keep (k _ (by simp)) h1, Src.St_keep (k _ (by simp)) h2, l⟩
  item := by
    intro X hP hw hK hc i pins s σ H E I hf st hg
    subst hP hw hK
    obtain ⟨hz, hTI, ⟨x0, y0, hTO⟩, h1, h2, _⟩ := st
    obtain ⟨ok1, ok2, l1, l2⟩ := hg
    obtain ⟨P1, S1, D1, s1, k1, v1⟩ := Src.draws I (show X.A.in1.handled = none from I.ok.hd hc) ok1 (.inl b1) h1
    obtain ⟨P2, S2, D2, s2, k2, v2⟩ := Src.draws I (show X.A.in1.handled = none from I.ok.hd hc) ok2 (.inr fun a vs e => by
      rcases e with rfl | rfl
      · exact Nat.ne_of_lt (Nat.lt_succ_of_lt b2)
      · exact Nat.ne_of_lt (Nat.lt_succ_of_lt b2)) h2
    have S := src_sep b1 b2
    have hzl : n + 4 < s.heap.objs.size := Heap.lt_size hz
    refine wpAny_pyNext_zipD2_item S D1 D2 hz hTI hTO s1 s2 l1 l2 fun u u2 h' tk pu pu2 z' TO' h1' h2' hT hsz hk => ?_
    obtain ⟨x, hx, ru⟩ := v1 i u pu
    obtain ⟨y, hy, ru2⟩ := v2 i u2 pu2
    refine ⟨_, rfl, wpAny_letOwnedTupleGo_zip (s := { s with heap := h', toks := tk }) z' fun h'' z'' sb => ?_⟩
    have hT2 : h''.get? s.heap.objs.size = some { cls := .type "tuple", data := .seq #[u, u2] } := (sb.2 _ (Nat.ne_of_gt hzl)).trans hT
    have new : ObjOk X.prog X.w (upd H s.heap.objs.size (.tup [x, y])) h'' s.heap.objs.size (.tup [x, y]) :=
      ⟨by show 2 ≤ sizeLine; decide, [u, u2], .cons ru (.cons ru2 .nil), ⟨_, hT2, rfl, _, rfl⟩⟩
    have I1 : Inv X pins σ (upd H s.heap.objs.size (.tup [x, y])) { s with heap := h'', toks := tk } :=
      I.turnedNew (t' := tk) (ch := [n + 4, n + 2, n + 3, n, n + 1]) (fun c o hb q => (sb.2 c (fun q' => hb (by simp [q']))).trans (hk c o (fun q' => hb (by simp [q'])) (fun q' => hb (by simp [q'])) (fun q' => hb (by simp [q'])) (fun q' => hb (by simp [q'])) q)) hf (Nat.le_refl _) new
    refine ⟨.ref s.heap.objs.size, _, I1, rfl, ⟨_, x, y, rfl, I.hok.fresh (Nat.le_refl _), rfl, hx, hy⟩, ⟨z'', ?_, ⟨u, u2, ?_⟩, ?_, ?_, l1, l2⟩, fun c hcm => ?_⟩
    · exact (sb.2 _ (ane (by omega))).trans (hk _ _ (ane (by omega)) (ane (by omega)) (ane (by omega)) (ane (by omega)) hTI)
    · exact (sb.2 _ (ane (by omega))).trans TO'
    · exact Src.St_keep (fun o q => (sb.2 _ (ane (by omega))).trans q) (k1 _ _ h1')
    · exact Src.St_keep (fun o q => (sb.2 _ (ane (by omega))).trans q) (k2 _ _ h2')
    · have hlt : c < s.heap.objs.size := by
        have e' : c = n + 4 ∨ c = n + 2 ∨ c = n + 3 ∨ c = n ∨ c = n + 1 := by simpa using hcm
        rcases e' with q | q | q | q | q <;> rw [q] <;> first | exact hzl | exact Nat.lt_of_lt_of_le (by omega : _ < n + 4) (Nat.le_of_lt hzl)
      rw [upd_ne (Nat.ne_of_lt hlt)]
      exact (hf c hcm).1
  done := by
    intro X hP hw hK hc i pins s σ H E I hf st hg
    subst hP hw hK
    obtain ⟨hz, hTI, ⟨x0, y0, hTO⟩, h1, h2, l1, l2⟩ := st
    obtain ⟨ok1, ok2, hend⟩ := hg
    obtain ⟨P1, S1, D1, s1, k1, v1⟩ := Src.draws I (show X.A.in1.handled = none from I.ok.hd hc) ok1 (.inl b1) h1
    obtain ⟨P2, S2, D2, s2, k2, v2⟩ := Src.draws I (show X.A.in1.handled = none from I.ok.hd hc) ok2 (.inr fun a vs e => by
      rcases e with rfl | rfl
      · exact Nat.ne_of_lt (Nat.lt_succ_of_lt b2)
      · exact Nat.ne_of_lt (Nat.lt_succ_of_lt b2)) h2
    have S := src_sep b1 b2
    exact wpAny_pyNext_zipD2_end S D1 D2 hz hTI hTO s1 s2 l1 l2 (by omega) fun h' tk hk => ⟨rfl, I.turnedL (t' := tk) (ch := [n + 4, n + 2, n + 3, n, n + 1]) (fun c o hb q =>
      hk c o (fun q' => hb (by simp [q'])) (fun q' => hb (by simp [q'])) (fun q' => hb (by simp [q'])) (fun q' => hb (by simp [q'])) q) hf⟩
  self := fun A i s Q E st h => wpAny_pyIter_zip st.1 h
section
variable {X : Cx} {Wx : WX}
def iZipXT (K : PySem.W.Frag) (ta : TA) : TI := fun σ H R => ta σ H fun vs H1 => ∃ q1 q2 : Src, vs = [q1.val, q2.val] ∧ q1.ok K H1 ∧ q2.ok K H1 ∧ R (ItZ K q1 q2) H1
theorem pi_zipX {e e2 : Expr} {ta : TA} {p pos tpos : Pos} {elts : List Expr} {kk : Nat} (hg : Gl X "zip") (hm : X.mg "zip" = none) (ha : PA X [e, e2] ta)
    (hs : starEach [e, e2] X.env = (false, eval e X.env) :: starEach [e2] X.env := by rfl) (hpl : (backTo pos (starEach [e2] X.env)).any (·.1) = false := by rfl) :
    PI X (.Tuple elts kk tpos) (.Call (.Name "zip" p) [e, e2] [] pos) (iZipXT X.K ta) := by
  refine ⟨fun pins s σ H R I h => ?_⟩
  refine Call_ (ld_blt I hg hm PyProof.Rows.boot_zip (PyProof.Rows.callWith_type1 (thn (ha.run pos pins s σ H _ I h) fun us s1 ⟨vs, H1, I1, r1, qq⟩ => ?_) hs hpl))
  obtain ⟨q1, q2, ex, ok1, ok2, q⟩ := qq
  subst ex
  cases r1 with
  | cons r rr =>
    cases rr with
    | cons r' rr =>
      cases rr
      obtain ⟨o1, Hh1, t1, B1, hh1, st1⟩ := Src.begins I1 ok1 r
      obtain ⟨o2, Hh2, t2, B2, hh2, st2⟩ := Src.begins I1 ok2 r'
      have fresh5 : ∀ c, c ∈ [s1.heap.objs.size + 4, s1.heap.objs.size + 2, s1.heap.objs.size + 3, s1.heap.objs.size, s1.heap.objs.size + 1] → FpOk X pins H1 c := fun c hcm => by
        have e' : c = s1.heap.objs.size + 4 ∨ c = s1.heap.objs.size + 2 ∨ c = s1.heap.objs.size + 3 ∨ c = s1.heap.objs.size ∨ c = s1.heap.objs.size + 1 := by simpa using hcm
        have hle : s1.heap.objs.size ≤ c := by
          rcases e' with z | z | z | z | z <;> rw [z] <;> first | exact Nat.le_refl _ | exact Nat.le_add_right _ _
        exact I1.fpOk hle (I1.hok.fresh hle)
      refine zip_begins2 B1 B2 hh1 hh2 fun h' hz hTI hTO h1 h2 hsz hk => wpAny_pyIter_zip hz ?_
      have I2 : Inv X pins σ H1 { s1 with heap := h' } := I1.kept (t' := s1.toks) hk
      exact ⟨s1.heap.objs.size + 4, [s1.heap.objs.size + 4, s1.heap.objs.size + 2, s1.heap.objs.size + 3, s1.heap.objs.size, s1.heap.objs.size + 1], _, _, H1, rfl, I2, turn_zipX (t1 := t1) (t2 := t2) (Src.lt I1 ok1) (Src.lt I1 ok2), ⟨hz, hTI, ⟨_, _, hTO⟩, st1 _ _ h1, st2 _ _ h2, Nat.zero_le _, Nat.zero_le _⟩, fresh5, q⟩
def seqD : D → Option (List D)
  | .lst l => some l
  | .tup l => some l
  | .cst l => some l
  | .str z => some (signs z)
  | _ => none
def iZipX (f g : DE) : DI := fun σ S => (dV f σ S).bind fun x σ S => (dV g σ S).bind fun y σ S => match seqD x, seqD y with
  | some xs, some ys => .ok (pairs xs ys) σ S
  | _, _ => .fail
theorem reps_signs {K : PySem.W.Frag} {ρ : List Addr} {I : Hp} (x : Str) : Reps K ρ I (sgnV x) (signs x) := by
  unfold sgnV signs
  induction x.cps.toList with
  | nil => exact .nil
  | cons c cs ih => exact .cons .str ih
theorem rep_src {K : PySem.W.Frag} {ρ : List Addr} {I : Hp} {v : V} {w : D} {l : List D} (t : Rep K ρ I v w) (e : seqD w = some l) : ∃ q : Src, v = q.val ∧ q.okI K I ∧ Reps K ρ I q.vals l := by
  cases t with
  | lst q r => cases e; exact ⟨.lst _ _, rfl, q, r⟩
  | tup q r => cases e; exact ⟨.tup _ _, rfl, q.sq, r⟩
  | cst q r => cases e; exact ⟨.tup _ _, rfl, q, r⟩
  | str => cases e; exact ⟨.str _, rfl, trivial, reps_signs _⟩
  | _ => cases e
theorem Src.okI_gr {K : PySem.W.Frag} {ρ ρ' : List Addr} {I I' : Hp} (g : Gr ρ I ρ' I') : ∀ {q : Src}, q.okI K I → q.okI K I'
  | .tup _ _, h => SqT.gr g h
  | .lst _ _, h => g.ex _ _ h
  | .str _, _ => trivial
theorem Src.okI_ok {K : PySem.W.Frag} {I H : Hp} (sb : Sub I H) : ∀ {q : Src}, q.okI K I → q.ok K H
  | .tup _ _, h => sb.sqT h
  | .lst _ _, h => sb.sqL (.inl (.inl h))
  | .str _, _ => trivial
theorem walks_zipX {K : PySem.W.Frag} {I : Hp} {ρ : List Addr} {q1 q2 : Src} {ws zs : List D} (h : q1.okI K I) (r : Reps K ρ I q1.vals ws) (h' : q2.okI K I) (r' : Reps K ρ I q2.vals zs) : ∀ F, Walks K F I ρ (ItZ K q1 q2) (pairs ws zs) := fun F I2 ρ2 S2 H2 σV2 σ2 g rb => by
  have ha : q1.ok K H2 := Src.okI_ok rb.sub (Src.okI_gr g h)
  have hb : q2.ok K H2 := Src.okI_ok rb.sub (Src.okI_gr g h')
  refine ⟨fun i d hd => ?_, ha, hb, by rw [r.length, r'.length]; exact pairs_len ws zs⟩
  obtain ⟨x, y, hx, hy, rfl⟩ := pairs_get hd
  obtain ⟨v, hv, rv⟩ := r.get hx
  obtain ⟨u, hu, ru⟩ := r'.get hy
  refine ⟨⟨ha, hb, (List.getElem?_eq_some_iff.mp hv).1, (List.getElem?_eq_some_iff.mp hu).1⟩, fun z H3 q => ?_⟩
  obtain ⟨T, x', y', rfl, hT, rfl, e1, e2⟩ := q
  rw [hv] at e1
  rw [hu] at e2
  cases e1; cases e2
  obtain ⟨g3, rb3⟩ := rb.new (o := .tup [v, u]) hT
  exact ⟨_, g3, rb3, .tup (.inl upd_same) (.cons ((rv.gr g).gr g3) (.cons ((ru.gr g).gr g3) .nil))⟩
theorem ci_zipX {elts : List Expr} {kk : Nat} {tpos : Pos} {a b : Expr} {p pos : Pos} {f g : DE} (hm : X.mg "zip" = none) (h : SE X Wx a f) (k : SE X Wx b g) (hg : Gl X "zip" := by rfl) (hs : starEach [a, b] X.env = (false, eval a X.env) :: starEach [b] X.env := by rfl) (hs2 : starEach [b] X.env = (false, eval b X.env) :: starEach [] X.env := by rfl) (hpl : (backTo pos (starEach [b] X.env)).any (·.1) = false := by rfl) :
    SI X Wx (.Tuple elts kk tpos) (.Call (.Name "zip" p) [a, b] [] pos) (iZipX f g) := by
  refine PI.imp (pi_zipX hg hm (pa_cons (c_v h) (pa_cons (c_v k) pa_nil hs2) hs) hs hpl) fun σV H R h => ?_
  obtain ⟨F, I, ρ, σ, S, rb, h⟩ := h
  refine ⟨F, I, ρ, σ, S, rb, postI_bind h fun I1 ρ1 σ1 S1 H1 x v1 _ g1 rb1 t1 h1 => ?_⟩
  refine ⟨F, I1, ρ1, σ1, S1, rb1, postI_bind h1 fun I2 ρ2 σ2 S2 H2 y v2 _ g2 rb2 t2 h2 => ?_⟩
  have t1 := t1.gr g2
  split at h2
  · rename_i xs ys e1 e2
    obtain ⟨q1, rfl, k1, r1⟩ := rep_src t1 e1
    obtain ⟨q2, rfl, k2, r2⟩ := rep_src t2 e2
    exact ⟨q1, q2, rfl, Src.okI_ok rb2.sub k1, Src.okI_ok rb2.sub k2, h2 I2 ρ2 H2 _ Gr.refl rb2 fun F' _ => walks_zipX k1 r1 k2 r2 F'⟩
  · exact h2.elim
end
end MR
set_option Elab.async false
set_option linter.all false
set_option maxRecDepth 100000
namespace MR
open PySem PySem.Spec PyProof.Rows L2
section
variable {X : Cx} {Wx : WX}
end
end MR
set_option Elab.async false
set_option linter.all false
set_option maxRecDepth 100000
namespace MR
open PySem
noncomputable section
def tab_SHAPES : Tab := [("heir", [.str "day", .str "name", .str "name"]), ("grant", [.str "day", .str "crowned", .str "name", .str "name", .str "acres", .str "service"]), ("part", [.str "day", .str "name", .str "name", .str "name", .str "acres"]), ("convey", [.str "day", .str "name", .str "name"]), ("liege", [.str "day", .str "name", .str "crowned"]), ("surrender", [.str "day", .str "name"]), ("death", [.str "day", .str "name"])]
def b_fits : DS := (sSeq (sIf (tVal (d2 opEq' (dVar 1) (dC (.str "acres")))) (sRet (dChain opLe opLe (dC (.int 1)) (dVar 0) (dC (.int 9999)))) sNil) (sSeq (sIf (tVal (d2 opInG (dVar 1) (dTup (aCons (dC (.str "day")) (aCons (dC (.str "service")) aNil))))) (sRet (dChain opLe opLe (dC (.int 0)) (dVar 0) (dC (.int 9999)))) sNil) (sSeq (sIf (tAnd (tVal (d2 opEq' (dVar 1) (dC (.str "crowned")))) (tVal (d2 opEq' (dVar 0) (dC (.str ""))))) (sRet (dC (.bl true))) sNil) (sRet (dCall m_is_name (aCons (dVar 0) aNil))))))
def m_fits : Den := dDef 2 b_fits
def fb_check_row_1 : DS := (sIf (tNot (tVal (dCall m_fits (aCons (dVar 2) (aCons (dVar 3) aNil))))) (sRaise "NoForm") sNil)
def b_check_row : DS := (sSeq (sIf (tVal (d1 (opNotInTab tab_SHAPES) (d2 opIx (dVar 0) (dC (.int 0))))) (sRaise "NoForm") sNil) (sSeq (sSet 1 (d1 (opTab tab_SHAPES) (d2 opIx (dVar 0) (dC (.int 0))))) (sSeq (sIf (tVal (d2 opNe' (d1 opLen (dVar 0)) (d2 opAdd (dC (.int 1)) (d1 opLenC (dVar 1))))) (sRaise "NoForm") sNil) (sSeq (sFor (iZipC (dSl (dVar 0) (oSome (dC (.int 1))) oNone) (dVar 1)) (gT 2 (gsCons (gN 2) (gsCons (gN 3) gsNil))) fb_check_row_1) (sIf (tAnd (tVal (d2 opInG (d2 opIx (dVar 0) (dC (.int 0))) (dTup (aCons (dC (.str "heir")) (aCons (dC (.str "liege")) aNil))))) (tVal (d2 opEq' (d2 opIx (dVar 0) (dC (.int 2))) (d2 opIx (dVar 0) (dC (.int 3)))))) (sRaise "NoForm") sNil)))))
def m_check_row : Den := dDef 4 b_check_row
def le__law_named_1 : DE := (d2 opIn (dVar 1) (dC (.str "abcdefghijklmnopqrstuvwxyz")))
def b__law_named : DS := (sRet (vAnd (dChain opLe opLe (dC (.int 1)) (d1 opLen (dVar 0)) (dC (.int 8))) (d1 opAll (dLc (iStr (dVar 0)) (gN 1) tTrue le__law_named_1 [1]))))
def m__law_named : Den := dDef 2 b__law_named
def fb__law_good_1 : DS := (sIf (tVal (d2 opIn (dVar 3) (dC (.str "das")))) (sIf (tNot (tVal (dChain opLe opLe (d1 opIntS (d2 opEq' (dVar 3) (dC (.str "a")))) (dVar 2) (dC (.int 9999))))) (sRet (dC (.bl false))) sNil) (sIf (tAnd (tNot (tVal (dCall m__law_named (aCons (dVar 2) aNil)))) (tNot (tAnd (tVal (d2 opEq' (dVar 3) (dC (.str "c")))) (tVal (d2 opEq' (dVar 2) (dC (.str ""))))))) (sRet (dC (.bl false))) sNil))
def b__law_good : DS := (sSeq (sSet 1 (dMeth isDct kGet (dCall0 m__law_shapes) (aCons (d2 opIx (dVar 0) (dC (.int 0))) (aCons (dC (.str "?")) aNil)))) (sSeq (sIf (tOr (tVal (d2 opNe' (d1 opLen (dVar 0)) (d2 opAdd (dC (.int 1)) (d1 opLen (dVar 1))))) (tVal (d2 opEq' (dVar 1) (dC (.str "?"))))) (sRet (dC (.bl false))) sNil) (sSeq (sFor (iZipX (dSl (dVar 0) (oSome (dC (.int 1))) oNone) (dVar 1)) (gT 2 (gsCons (gN 2) (gsCons (gN 3) gsNil))) fb__law_good_1) (sRet (vNot (vAnd (d2 opInG (d2 opIx (dVar 0) (dC (.int 0))) (dTup (aCons (dC (.str "heir")) (aCons (dC (.str "liege")) aNil)))) (d2 opEq' (d2 opIx (dVar 0) (dC (.int 2))) (d2 opIx (dVar 0) (dC (.int 3))))))))))
def m__law_good : Den := dDef 4 b__law_good
end
end MR
set_option Elab.async false
set_option linter.all false
set_option maxRecDepth 100000
set_option maxHeartbeats 3200000
namespace MR
open PySem PySem.Spec PyProof.Rows L2
abbrev Rk := List Key
section
variable (P : Program) (w : World)
abbrev rkH (k : Rk) : Int := tupleKeyHash (mixKind P w) k
abbrev RkAt (h : Heap) (k : Rk) (b : Addr) : Prop := IsTupleKey (mixKind P w) h k b
def rkE (q : Addr × Rk) : Int × Value := (rkH P w q.2, .ref q.1)
structure RkS (h : Heap) (a : Addr) (L : List (Addr × Rk)) (o : Obj) (es : Array (Int × Value)) (ep : Nat) (t : SetTable) : Prop where
  ob : h.get? a = some o
  ex : o.ExactSet
  da : o.data = .set es ep t
  ls : es.toList = L.map (rkE P w)
  tb : L2.TabOk t (L.map fun q => rkH P w q.2)
  nd : (L.map (·.2)).Nodup
  mem : ∀ q ∈ L, RkAt P w h q.2 q.1
  rm : L.length * 5 < t.mask * 3
  fw : L.length < 64
def RkR (h : Heap) (a : Addr) (L : List (Addr × Rk)) : Prop := ∃ o es ep t, RkS P w h a L o es ep t
end
section
variable {P : Program} {w : World} {A : Around} {E : Value → Shared → Prop} {s : Shared} {a : Addr} {L : List (Addr × Rk)} {o : Obj} {es : Array (Int × Value)} {ep : Nat} {t : SetTable}
theorem RkR.keep {h h' : Heap} (R : RkR P w h a L) (m : ∀ o, h.get? a = some o → h'.get? a = some o) (mm : ∀ q ∈ L, RkAt P w h' q.2 q.1) : RkR P w h' a L := by
  obtain ⟨o, es, ep, t, R⟩ := R
  exact ⟨o, es, ep, t, m o R.ob, R.ex, R.da, R.ls, R.tb, R.nd, mm, R.rm, R.fw⟩
theorem RkS.cnt (R : RkS P w s.heap a L o es ep t) : es.size = L.length := by
  rw [← Array.length_toList, R.ls, List.length_map]
theorem RkS.fi (R : RkS P w s.heap a L o es ep t) : t.fits es.size = true := by
  have z := R.tb.sz
  have c := R.cnt
  have m := R.rm
  rw [List.length_map] at z
  unfold SetTable.fits SetTable.fill
  rw [R.tb.dm, Bool.and_eq_true, beq_iff_eq, decide_eq_true_eq]
  refine ⟨by rw [z, c], ?_⟩
  show t.place.size + 0 ≤ t.mask
  omega
end
end MR
set_option Elab.async false
set_option linter.all false
set_option maxRecDepth 100000
set_option maxHeartbeats 3200000
namespace MR
open PySem PySem.Spec PyProof.Rows L2
section
variable {P : Program} {w : World} {A : Around} {E : Value → Shared → Prop} {s : Shared} {a : Addr} {L : List (Addr × Rk)} {o : Obj} {es : Array (Int × Value)} {ep : Nat} {t : SetTable}
end
end MR
set_option Elab.async false
set_option linter.all false
set_option maxRecDepth 100000
set_option maxHeartbeats 3200000
namespace MR
open PySem PySem.Spec PyProof.Rows L2
section
variable {X : Cx} {Wx : WX}
structure Gat (ks : List (Addr × Rk)) (i : Nat) (L : List (Addr × Rk)) : Prop where
  sub : ∀ q ∈ L, q ∈ ks
  all : ∀ k, k ∈ L.map (·.2) ↔ k ∈ (ks.take i).map (·.2)
  len : L.length ≤ i
end
end MR
set_option Elab.async false
set_option linter.all false
set_option maxRecDepth 100000
namespace MR
open PySem PySem.Spec PyProof.Rows L2
section
variable {X : Cx} {Wx : WX} {fr : Bool}
set_option maxHeartbeats 2000000 in
end
end MR
set_option Elab.async false
set_option linter.all false
set_option maxRecDepth 100000
namespace MR
open PySem PySem.Spec PyProof.Rows L2
section
variable {prog : Program} {w : World} {A : Around} {E : Value → Shared → Prop} {s : Shared}
end
section
variable {prog : Program} {w : World} {A : Around} {E : Value → Shared → Prop} {s : Shared} {z TI TO T i1 i2 : Addr} {fp1 fp2 : List Addr} {n1 n2 i : Nat} {P1 P2 : Nat → Value → Prop} {St1 St2 : Nat → Heap → Prop} {f : Bool} {oT : Obj}
end
end MR
set_option Elab.async false
set_option linter.all false
set_option maxRecDepth 100000
namespace MR
open PySem PySem.Spec PyProof.Rows L2
section
variable {X : Cx} {pins : List (Addr × Obj)} {σ : L2.St} {A : Around} {z TI TO i1 i2 S : Addr} {fp1 fp2 : List Addr} {n1 n2 : Nat} {P1 P2 : Nat → Value → Prop} {St1 St2 : Nat → Heap → Prop} {xs ys : List V} {Q : VK} {R : Result → Shared → Prop} {res : Value}
end
end MR
set_option Elab.async false
set_option linter.all false
set_option maxRecDepth 100000
namespace MR
open PySem PySem.Spec PyProof.Rows L2
section
variable {X : Cx} {pins : List (Addr × Obj)} {σ : L2.St} {A : Around} {z TI TO i1 i2 S : Addr} {fp1 fp2 : List Addr} {P1 P2 : Nat → Value → Prop} {St1 St2 : Nat → Heap → Prop} {xs ys : List V} {H : Hp} {s : Shared} {Q : VK} {R : Result → Shared → Prop} {res : Value}
end
section
variable {X : Cx} {Wx : WX}
end
end MR
set_option Elab.async false
set_option linter.all false
set_option maxRecDepth 100000
namespace MR
open PySem PySem.Spec PyProof.Rows L2
section
variable {X : Cx} {Wx : WX} {fr : Bool}
end
end MR
set_option Elab.async false
set_option linter.all false
set_option maxRecDepth 100000
namespace MR
open PySem PySem.Spec PyProof.Rows L2
section
variable {prog : Program} {w : World} {K : Type} [DecidableEq K] {knd : HeapKind prog w K} {A : Around} {E : Value → Shared → Prop} {s : Shared}
end
section
variable {X : Cx}
end
end MR
set_option Elab.async false
set_option linter.all false
set_option maxRecDepth 100000
namespace MR
open PySem PySem.Spec PyProof.Rows L2
section
variable {X : Cx} {Wx : WX} {fr : Bool}
def sFail : DS := fun _ _ => .fail
theorem cs_fail {st : Stmt} : SS fr X Wx st sFail := ⟨fun pins s σ H D I h => by
  obtain ⟨F, I', ρ, σ', S, rb, h⟩ := h
  exact h.elim⟩
def opStr : D → Option D
  | .str a => some (.str a)
  | .int i => if i.natAbs.log2 < 1920 then some (.str (Str.ofString (toString i))) else none
  | _ => none
def rStr : List V → Hp → VK → Prop := fun xs H Q => (∃ i, xs = [.int i] ∧ i.natAbs.log2 < 1920 ∧ Q (.str (toString i)) H) ∨ ∃ a, xs = [.str a] ∧ Q (.str a) H
theorem call_strA : CallR X (.type "str") rStr := by
  intro pins s σ H xs us Q I r h
  rcases h with h | h
  · exact call_str_int pins s σ H xs us Q I r h
  · exact SkE.call_str_str pins s σ H xs us Q I r h
theorem b_str {K : PySem.W.Frag} : B1 K rStr opStr := by
  intro F I ρ S H σV σ v a z Q rb h ez q
  cases a with
  | str x =>
    cases h
    cases ez
    exact .inr ⟨_, rfl, q I H _ Gr.refl rb .str⟩
  | int i =>
    cases h
    unfold opStr at ez
    split at ez
    · rename_i e; cases e
    · rename_i j e
      cases e
      split at ez
      · rename_i hz
        cases ez
        exact .inl ⟨_, rfl, hz, q I H _ Gr.refl rb .str⟩
      · cases ez
    · rename_i e1 e2; exact absurd rfl (e2 _)
  | _ => cases ez
def dTabGet (tab : Tab) (f g : DE) : DE := fun σ S => (dV f σ S).bind fun x σ S => (dV g σ S).bind fun y σ S => match x with
  | .str z => (match tab.lookup z with
    | some ws => .ok (.cst ws) σ S
    | none => (match y with
      | .tup [] => .ok (.cst []) σ S
      | y => .ok y σ S))
  | _ => .fail
theorem pe_tabGet {x : Str} {d : Addr} {es : Array DictEntry} {n : Nat} {a b : Expr} {p apos pos : Pos} {ta tb : TE} (KD : KDict X.K X.w d es n) (h1 : X.mg x = some (.ref d)) (ha : PE X a ta) (hb : PE X b tb) (m : M2 X (.Name x p) "get" apos a b pos) (hg : Gl X x) (hd : (x == ("__debug__" : Str)) = false) :
    PE X (.Call (.Attribute (.Name x p) "get" apos) [a, b] [] pos) (fun σ H Q => ta σ H fun y H1 => tb σ H1 fun z H2 => ∃ (q : Str) (r : Option Value), y = .str q ∧ PySem.W.nsIn X.K d q = some r ∧ (∀ u0, r = some u0 → ∃ v0, RelV v0 u0 ∧ Q v0 H2) ∧ (r = none → Q z H2)) := by
  have ho := pe_glob (X := X) (pos := p) hg h1 (v := .ref d) rfl hd
  refine ⟨fun pins s σ H Q I h => ?_⟩
  refine wpAny_Call_method m.base m.few m.line PySem.F.plainAttrs_dict PySem.F.slot_dict_get PySem.F.type_dict_get (thn (ho.run pins s σ H (fun x H' => x = .ref d ∧ ta σ H' fun y H1 => tb σ H1 fun z H2 => ∃ (q : Str) (r : Option Value), y = .str q ∧ PySem.W.nsIn X.K d q = some r ∧ (∀ u0, r = some u0 → ∃ v0, RelV v0 u0 ∧ Q v0 H2) ∧ (r = none → Q z H2)) I ⟨rfl, h⟩) fun u s1 ⟨x, H1, I1, rx, ex, q1⟩ => ?_)
  subst ex
  obtain rfl : u = Value.ref d := rx
  refine ⟨kd_type KD I1, fun b e => ?_, ?_⟩
  · cases e
    exact ⟨_, I1.kIn _ _ KD.at_, rfl⟩
  rw [m.trees]
  refine Calls.callWith_builtin rfl (Calls.evalArgs_plain (Calls.spliced_cons (thn (ha.run pins s1 σ H1 _ I1 q1) fun iv s2 ⟨y, H2, I2, ry, q2⟩ =>
    Calls.spliced_cons (thn (hb.run pins s2 σ H2 _ I2 q2) fun fv s3 ⟨z, H3, I3, rz, q, r, ey, en, k1, k2⟩ => Calls.spliced_nil ?_))))
  subst ey
  obtain ⟨t, rfl⟩ := ry
  refine call_meetsIn PySem.F.slot_dict_get (kd_type KD I3) PySem.F.entry_dict_get (PySem.F.args_dict_get_3 _ _ _) (meets_dict_get_default (strKind X.prog X.w) d (PySem.strKind_is X.prog X.w q t) KD.low fv) ⟨_, PySem.W.mapOf_K (prog := X.prog) (w := X.w) I3.kIn KD.at_ KD.lit, ?_⟩
  rw [PySem.W.find_K KD.at_ en]
  cases r with
  | some u0 =>
    obtain ⟨v0, rv, qq⟩ := k1 u0 rfl
    exact ⟨v0, H3, I3.tok _, rv, qq⟩
  | none => exact ⟨z, H3, I3.tok _, rz, k2 rfl⟩
theorem c_tabGet {x : Str} {tab : Tab} {a b : Expr} {p apos pos : Pos} {f g : DE} (h : GTab X.K X.w X.mg x tab) (ha : SE X Wx a f) (hb : SE X Wx b g) (m : M2 X (.Name x p) "get" apos a b pos) (hg : Gl X x := by rfl) (hd : (x == ("__debug__" : Str)) = false := by decide) :
    SE X Wx (.Call (.Attribute (.Name x p) "get" apos) [a, b] [] pos) (dTabGet tab f g) := by
  obtain ⟨d, es, n, h1, KD, T⟩ := h
  refine PE.imp (pe_tabGet KD h1 (c_v ha) (c_v hb) m hg hd) fun σV H Q h => ?_
  obtain ⟨F, I, ρ, σ, S, rb, h⟩ := h
  refine ⟨F, I, ρ, σ, S, rb, post_bind h fun I1 ρ1 σ1 S1 H1 x v1 _ g1 rb1 t1 h1 => ?_⟩
  refine ⟨F, I1, ρ1, σ1, S1, rb1, post_bind h1 fun I2 ρ2 σ2 S2 H2 y v2 _ g2 rb2 t2 h2 => ?_⟩
  split at h2
  · rename_i z _
    cases t1
    rcases T z with ⟨ws, u0, a, vs, e1, e2, e3, e4, e5⟩ | ⟨e1, e2⟩
    · rw [e1] at h2
      exact ⟨z, _, rfl, e2, fun u hu => by cases hu; exact ⟨_, e3, h2 I2 ρ2 H2 _ Gr.refl rb2 (.inr (.cst (e4 I2) (e5 ρ2 I2)))⟩, fun hu => by cases hu⟩
    · rw [e1] at h2
      refine ⟨z, _, rfl, e2, fun u hu => (by cases hu), fun _ => ?_⟩
      dsimp only at h2
      split at h2
      · cases t2 with
        | tup hq hr => exact h2 I2 ρ2 H2 _ Gr.refl rb2 (.inr (.cst hq.sq hr))
      · exact h2 I2 ρ2 H2 _ Gr.refl rb2 (.inr t2)
  · exact h2.elim
end
end MR
set_option Elab.async false
set_option linter.all false
set_option maxRecDepth 100000
namespace MR
open PySem PySem.Spec PyProof.Rows L2
section
variable {X : Cx} {Wx : WX}
end
end MR
set_option Elab.async false
set_option linter.all false
set_option maxRecDepth 100000
namespace MR
open PySem
noncomputable section
def b__law_word_of : DS := (sSeq (sIf (tVal (d2 opEq' (dVar 0) (dC (.str "")))) (sRet (dC (.str "-"))) sNil) (sRet (d1 opStr (dVar 0))))
def m__law_word_of : Den := dDef 1 b__law_word_of
def le__law_text_of_1 : DE := (dCall m__law_word_of (aCons (dVar 1) aNil))
def b__law_text_of : DS := (sRet (dS1 opJoin (dC (.str " ")) (dLc (iTup (dVar 0)) (gN 1) tTrue le__law_text_of_1 [1])))
def m__law_text_of : Den := dDef 2 b__law_text_of
end
end MR
set_option Elab.async false
set_option linter.all false
set_option maxRecDepth 100000
namespace MR
open PySem PySem.Spec PyProof.Rows L2
section
variable {X : Cx} {Wx : WX} {fr : Bool}
end
end MR
set_option Elab.async false
set_option linter.all false
set_option maxRecDepth 100000
namespace MR
open PySem PySem.Spec PyProof.Rows L2 L2H HotX
def spInit (K : PySem.W.Frag) (C : Addr) : Sp := fun vs H Q _ => ∃ (a : Addr) (n : Int), vs = [.ref a, .int n] ∧ H a = some (exo a C none) ∧ ∀ dx, H dx = none → dx ≠ a → Q .non (upd (upd H dx (exd dx [(Str.ofString "at", .int n)])) a (exo a C (some dx)))
structure ExI (P : Program) (w : World) (K : PySem.W.Frag) (mg : Str → Option Value) (base : Heap) (c : String) (k : Nat) : Prop where
  ex : ∃ (fI : Addr) (fd : FuncData) (ps : List Str), mg (Str.ofString c) = some (.ref (ca K c)) ∧ OexC K (ca K c) ∧ PySem.W.findIn K (.ref (ca K c)) "__init__" = some (some (.ref fI)) ∧ PySem.W.typeIn K (.ref fI) = some (.type "function") ∧ Binds K fd ps [] ∧ FnOk P w K mg base (CXk true P w) k fI fd ps (spInit K (ca K c)) ∧ FnH P w K mg base (CXk true P w) k fI fd ps (spInit K (ca K c))
theorem exi_mk {P : Program} {w : World} {K : PySem.W.Frag} {mg : Str → Option Value} {base : Heap} {c : String} {y : Str} {params : Arguments} {scope : Scope} {f : Addr} {fd : FuncData} {k : Nat} {p1 p2 p3 p4 : Pos}
    (FD : FunD K "__init__" y params [.Assign [.Attribute (.Name "self" p1) "at" p2] (.Name "at" p3) p4] scope [] [] f fd) (S : FnScope ["self", "at"] ["self", "at"] scope) (hm : mg (Str.ofString c) = some (.ref (ca K c))) (T : OexC K (ca K c)) (hno : PySem.W.findIn K (.ref (ca K c)) "at" = some none)
    (hI : Meth K (ca K c) "__init__" f) (v1 : Vis scope "self") (v2 : Vis scope "at")
    (hs : ∀ env : Env, swapsWith (.Name "at" p3) (some (.Attribute (.Name "self" p1) "at" p2)) p4.line env = pure false)
    (hbind : ∀ (kV doc pm : Value) (an : Option Addr) (cdv ct : Value) (us : List Value), us.length = (["self", "at"] : List Str).length → bindArgs (PySem.W.fnOf "__init__" y params [.Assign [.Attribute (.Name "self" p1) "at" p2] (.Name "at" p3) p4] scope .none kV doc pm an cdv ct) ⟨us, []⟩ = pure ((["self", "at"] : List Str).zip us)) : ExI P w K mg base c (k + 1) := by
  have len : ∀ vs H Q E, spInit K (ca K c) vs H Q E → vs.length = (["self", "at"] : List Str).length := fun vs H Q E h => by obtain ⟨a, n, rfl, _⟩ := h; rfl
  refine ⟨f, fd, _, hm, T, hI.at_, beq_iff_eq.mp hI.fn, FD.bindsN hbind, ?_, ?_⟩
  · refine FD.ok S len fun cdv A outer s H vs Q E hr h => ?_
    obtain ⟨a, n, rfl, ha, hq⟩ := h
    refine ⟨_, pss_one (ps_ost (pe_var (i := 0) (x := "self") rfl v1) (pe_var (i := 1) (x := "at") rfl v2) (hs _)), ?_⟩
    exact ⟨V.int n, rfl, V.ref a, rfl, a, ca K c, rfl, T, hno, .inl ⟨ha, fun dx h0 h1 => hq dx h0 h1⟩⟩
  · obtain ⟨oc, od, dV, kV, doc, pm, an, cdv, ct, osl, rfl, lk, hcd, _, _⟩ := FD.ex
    refine fn_ofH lk hcd S len fun A outer s H vs Q E p hot hr h => ?_
    obtain ⟨a, n, rfl, ha, hq⟩ := h
    refine ⟨_, pss_one (ps_ost (pe_var (i := 0) (x := "self") rfl v1) (pe_var (i := 1) (x := "at") rfl v2) (hs _)), ?_⟩
    exact ⟨V.int n, rfl, V.ref a, rfl, a, ca K c, rfl, T, hno, .inl ⟨ha, fun dx h0 h1 => hq dx h0 h1⟩⟩
section
variable {X : Cx} {Wx : WX} {fr kc : Bool}
def sRaiseI (c : String) (f : DE) : DS := fun σ S => (f σ S).bind fun x σ S => match x with
  | .int n => .exc ⟨c, some n⟩ σ S
  | _ => .fail
theorem del_back {H : Hp} {a dx : Addr} {o1 o2 o3 o4 : HO} (ha : H a = none) (ne : dx ≠ a) : upd (del (upd (upd (upd H a o1) dx o2) a o3) a) dx o4 = upd H dx o4 := by
  funext b
  by_cases h1 : b = dx
  · subst h1; rw [upd_same, upd_same]
  · rw [upd_ne h1, upd_ne h1]
    by_cases h2 : b = a
    · subst h2; rw [del_same, ha]
    · rw [del_ne h2, upd_ne h2, upd_ne h1, upd_ne h2]
theorem sem_mkI {D : Ends} {c : String} {f : DE} {σV : L2.St} {H : Hp} (h : semS fr X.K Wx (sRaiseI c f) D σV H) : tMkO (ca X.K c) (spInit X.K (ca X.K c)) [] (tCons (semV X.K Wx (dV f)) tNil) σV H (fun cls d H' => Wx cls d σV H') := by
  obtain ⟨F, I, ρ, σ, S, rb, h⟩ := h
  refine ⟨F, I, ρ, σ, S, rb, ?_⟩
  unfold sRaiseI at h
  cases e : f σ S with
  | fail => rw [e] at h; exact h.elim
  | exc x σ1 S1 =>
    rw [e] at h
    have ed : dV f σ S = .exc x σ1 S1 := by unfold dV; rw [e]; rfl
    rw [ed]
    exact fun I' ρ' H' d g rb' hd => h I' ρ' H' d σV g rb' hd
  | ok x σ1 S1 =>
    rw [e] at h
    dsimp only [Res.bind] at h
    split at h
    · rename_i n
      have ed : dV f σ S = .ok (.int n) σ1 S1 := by unfold dV; rw [e]; rfl
      rw [ed]
      intro I' ρ' H' v g rb' hv
      cases hv
      refine ⟨by simp, fun a ha => ⟨a, n, rfl, upd_same, fun dx h0 hne => ⟨rfl, dx, [(Str.ofString "at", .int n)], upd_same, by rw [upd_ne hne, upd_same], ?_, ?_⟩⟩⟩
      · rw [upd_ne hne] at h0
        exact h0
      · rw [upd_ne hne] at h0
        rw [del_back ha hne]
        obtain ⟨g2, rb2⟩ := rb'.new (o := .xd [(Str.ofString "at", .int n)]) h0
        exact h _ ρ' _ (some dx) σV (g.trans g2) rb2 ⟨dx, rfl, upd_same⟩
    · exact h.elim
theorem cs_raiseI {c : String} {e : Expr} {f : DE} {k m : Nat} {p pos pos' : Pos} (C : ExI X.prog X.w X.K X.mg X.base c k) (tk : Tk false X Wx) (hr : Room m X.A) (hkm : k + 1 ≤ m) (h : SE X Wx e f) (hc : X.calm = true := by rfl) (hg : Gl X (Str.ofString c) := by rfl) (hdb : (Str.ofString c == ("__debug__" : Str)) = false := by decide)
    (hst : starEach [e] X.env = (false, eval e X.env) :: starEach [] X.env := by rfl) : SS fr X Wx (.Raise (some (.Call (.Name (Str.ofString c) p) [e] [] pos)) none pos') (sRaiseI c f) := by
  obtain ⟨fI, fd, ps, hm, T, iC, tI, hb, F1, F2⟩ := C.ex
  have mk := pmk_oex (p := p) (pos := pos) T iC tI F1 (hr.mono hkm) hb .nil (fun _ _ _ _ _ _ _ q => (cxk_no q).elim) hg hm (pa_cons (c_v h) pa_nil hst) hdb hst (by rfl)
  exact PS.imp (L2.ps_raise hc tk mk) fun D σV H h => sem_mkI h
def sTryX (rs : List String) (fb : DS) (c x : String) (fe : DE) : DS := fun σ S => match fb σ S with
  | .ok f σ1 S1 => .ok f σ1 S1
  | .exc e σ1 S1 => if e.c ∈ rs ∧ e.x = none then (if excSub e.c c = true then sRaiseI x fe σ1 S1 else .exc e σ1 S1) else .fail
  | .fail => .fail
theorem cs_tryX {rs : List String} {c x : String} {cv : Value} {body : List Stmt} {e : Expr} {fb : DS} {fe : DE} {k m j : Nat} {p np pos pos' pos2 pos3 cpos : Pos} (hs : X.stack = X.env :: X.outer) (hf : X.env.frame = some X.env.locals) (hc : Names X (Str.ofString c) cv)
    (hpa : ∀ hd : Option Value, PassesOwnAt (model X.prog X.w) (X.A.mark hd) X.A X.env X.xe) (tk : Tk false X Wx) (hx : ∀ r ∈ rs, PySem.W.exmOne X.K (.ref (ca X.K r)) cv = some (excSub r c))
    (hb : ∀ (W : WX) (pn : List (Addr × Obj)) (xe : Value → Shared → Prop), Tk true (X.tr pn xe) W → PassesOwn (model X.prog X.w) X.A X.env xe → SSs fr (X.tr pn xe) W body fb)
    (C : ExI X.prog X.w X.K X.mg X.base x k) (hr : Room m X.A) (hkm : k + 1 ≤ m) (he : ∀ (a : Addr) (pn : List (Addr × Obj)), SE (L2H.suiteX X a pn) Wx e fe)
    (hg : Gl X (Str.ofString x) := by rfl) (hdb : (Str.ofString x == ("__debug__" : Str)) = false := by decide)
    (hst : starEach [e] X.env = (false, eval e X.env) :: starEach [] X.env := by rfl) :
    SS fr X Wx (.Try body [.ExceptHandler (some (.Name (Str.ofString c) np)) none [.Raise (some (.Call (.Name (Str.ofString x) p) [e] [] pos2)) (some (.Constant .none j cpos)) pos3] pos'] [] [] pos) (sTryX rs fb c x fe) := by
  obtain ⟨fI, fd, ps, hm, T, iC, tI, hbi, F1, F2⟩ := C.ex
  have key : PS X (.Try body [.ExceptHandler (some (.Name (Str.ofString c) np)) none [.Raise (some (.Call (.Name (Str.ofString x) p) [e] [] pos2)) (some (.Constant .none j cpos)) pos3] pos'] [] [] pos) (fun D σ H => semS fr X.K (wOnly X.K cv (fun a cls d D σ H => ∃ r, r ∈ rs ∧ cls = .ref (ca X.K r) ∧ d = none ∧ semS fr X.K Wx (sRaiseI x fe) D σ H) Wx D) fb D σ H) := by
    refine L2H.ps_try_onlyX (tb := fun W => semS fr X.K W fb) hs hf hc hpa tk (fun W pn xe t1 t2 t3 => hb W pn xe t1 t3) (fun a oe cls d pn hz hv t hot => ⟨fun pins s σ H D I h => ?_⟩)
    obtain ⟨r, hr', rfl, rfl, h⟩ := h
    have mk := L2H.pmk5_oexH (X := L2H.suiteX X a ((a, oe) :: pn)) (p := p) (pos := pos2) T iC tI F2 (L2H.roomH_mark (hr.mono hkm) _) hot hbi (fun _ _ _ _ _ _ _ q => (cxk_no q).elim) hg hm (pa_cons (c_v (he a ((a, oe) :: pn))) pa_nil hst) hdb hst (by rfl)
    exact (pss_one (L2H.ps_raiseHN (j := j) (cpos := cpos) (pos := pos3) hot t mk)).run pins s σ H D I (sem_mkI (X := X) h)
  refine PS.imp key fun D σV H h => ?_
  obtain ⟨F, I, ρ, σ, S, rb, h⟩ := h
  refine ⟨F, I, ρ, σ, S, rb, ?_⟩
  unfold sTryX at h
  cases hfb : fb σ S with
  | ok f σ1 S1 =>
    rw [hfb] at h
    cases f <;> exact h
  | fail => rw [hfb] at h; exact h
  | exc e σ1 S1 =>
    rw [hfb] at h
    dsimp only at h
    by_cases h1 : e.c ∈ rs ∧ e.x = none
    · rw [if_pos h1] at h
      obtain ⟨hr, hxn⟩ := h1
      obtain ⟨ec, ex⟩ := e
      have hxn : ex = none := hxn
      subst hxn
      have hr : ec ∈ rs := hr
      intro I' ρ' H' d σV' g rb' hd
      have hd : d = none := hd
      subst hd
      refine ⟨excSub ec c, hx ec hr, fun hb1 a na => ?_, fun hb1 => ?_⟩
      · rw [if_pos (show excSub (Exn.mk ec none).c c = true from hb1)] at h
        exact ⟨ec, hr, rfl, rfl, F, I', ρ', σ1, S1, rb', postS_gr g h⟩
      · rw [if_neg (show ¬ excSub (Exn.mk ec none).c c = true by rw [hb1]; decide)] at h
        exact h I' ρ' H' none σV' g rb' rfl
    · rw [if_neg h1] at h
      exact h.elim
end
end MR
set_option Elab.async false
set_option linter.all false
namespace MR
open PySem PySem.Spec PyProof.Rows L2
section
variable {X : Cx} {Wx : WX}
end
end MR
set_option Elab.async false
set_option linter.all false
set_option maxRecDepth 100000
namespace MR
open PySem PySem.Spec PyProof.Rows L2
theorem note_frame {ce env : Env} (h : ce.frame = env.frame) (x : Value) : noteFrame x ce = noteFrame x env := by
  unfold noteFrame PySem.frameOf
  rw [h]
theorem frames_keep {B h1 h2 : Heap} : ∀ {l : List Env}, h1.FunFrames B l → (∀ b ∈ frs l, h2.get? b = h1.get? b) → h2.FunFrames B l
  | [], _, _ => trivial
  | env :: l, ⟨k1, ⟨L, o, f1, n1, o1, d1⟩, r1⟩, k => ⟨k1, ⟨L, o, f1, n1, (k L (List.mem_filterMap.mpr ⟨env, List.mem_cons_self, f1⟩)).trans o1, d1⟩, frames_keep r1 fun b hb => by
      obtain ⟨e, he, q⟩ := List.mem_filterMap.mp hb
      exact k b (List.mem_filterMap.mpr ⟨e, List.mem_cons_of_mem _ he, q⟩)⟩
section
open PySem.HandSPX
variable {M : Model} {A : Around} {E : Value → Shared → Prop} {s : Shared} {Z : Obj → Prop} {base : Heap} {env : Env} {outer : List Env} {L e : Addr}
theorem looks_offZ {fl : Value} {Q : Unit → Shared → Prop} (hZ : Steady Z) (hfr : A.frames = some (env :: outer)) (hf : env.frame = some L) (g1 : base.StaysIn s.heap) (g2 : base.get? e = none) (g3 : s.heap.FunFrames base (env :: outer)) (g4 : TracedZ s.heap base e Z fl) (ne : ¬ (fl == rawInt L) = true)
    (hQ : ∀ h', HeldZ base (env :: outer) e Z L h' → s.heap.UpToSlots h' → Q () { s with heap := h' }) : wpAny M A (noteFrame (.ref e) env) Q E s := by
  obtain ⟨oe, vs, T, oT, ts, he, hz, hd, h1, nT, ne2, hT, dT, h3⟩ := g4
  unfold noteFrame
  simp only [hf]
  refine wpAny_bind (wpAny_field he hd h1 ?_)
  rw [if_pos (show (Value.ref T != Value.none) = true from by simp)]
  refine wpAny_bind (wpAny_field hT dT h3 ?_)
  rw [if_neg ne]
  refine wpAny_bind (wpAny_setField hT dT (Array.getElem?_eq_some_iff.mp h3).1 ?_)
  have oth : ∀ b, b ≠ T → (s.heap.update T (Obj.mapFields (·.setIfInBounds 3 Value.none))).get? b = s.heap.get? b := fun b hb => Heap.get?_update_other _ _ (Ne.symm hb)
  have nrec : ∀ b o, s.heap.get? b = some o → (∀ vs, o.data ≠ .fields vs) → b ≠ T := fun b o hb nf q => by
    rw [q, hT] at hb
    cases hb
    exact nf ts dT
  refine wpAny_entryZ hZ hfr (g3.of_keeps fun b o hb nf => ⟨o, (oth b (nrec b o hb nf)).trans hb, rfl⟩) hf ((oth e (Ne.symm ne2)).trans he)
    (fun b o hbo => (oth b fun q => by rw [q, nT] at hbo; cases hbo).trans (g1 b o hbo)) g2 hd (Array.getElem?_eq_some_iff.mp h1).1 hz fun h' hN => ?_
  obtain ⟨x1, x2, x3, x4⟩ := hN
  exact hQ h' ⟨x1, g2, x2, x3⟩ fun b o hb nf => x4 b o ((oth b (nrec b o hb nf)).trans hb) nf
theorem looks_heldZ {C : Addr} {Q : Unit → Shared → Prop} (hZ : Steady Z) (hfr : A.frames = some (env :: outer)) (hf : env.frame = some L) (hh : HeldZ base (env :: outer) e Z C s.heap)
    (hQ : ∀ h', HeldZ base (env :: outer) e Z L h' → s.heap.UpToSlots h' → Q () { s with heap := h' }) : wpAny M A (noteFrame (.ref e) env) Q E s := by
  by_cases q : C = L
  · subst q
    exact againZ hf hh.2.2.2 (hQ s.heap hh (Heap.UpToSlots.refl _))
  · exact looks_offZ hZ hfr hf hh.1 hh.2.1 hh.2.2.1 hh.2.2.2 (by intro z; exact q (by simp [rawInt] at z; exact Int.ofNat.inj z)) hQ
theorem passOn_ok {α : Type} {what : String} {cenv : Env} {l : List Env} {Q : α → Shared → Prop} (hf : cenv.frame = some L) (hh : HeldZ base l e Z L s.heap) (hE : ∀ h', HeldZ base l e Z L h' → s.heap.UpToSlots h' → E (.ref e) { s with heap := h' }) :
    wpAny M A (PySem.passOn what (.ref e) cenv : Sem α) Q E s := by
  obtain ⟨f1, f2, f3, oe, vs, T, oT, ts, he, hz, hd, h1, nT, ne2, hT, dT, h3⟩ := id hh
  unfold PySem.passOn
  refine wpAny_bind (wpAny_field he hd h1 ?_)
  rw [if_neg (show ¬ ((Value.ref T == Value.none) = true) from by simp)]
  rw [hf]
  exact wpAny_bind (setFlight_onZ hh fun h' hh' up => wpAny_throw (hE h' hh' up))
end
def compEnd (M : Model) (A : Around) (E : Value → Shared → Prop) (Q : Value → Shared → Prop) (acc : Value) (C : Addr) (fr : Option Addr) (r : Result) (s' : Shared) : Prop :=
  match r with
  | .ok _ => ∃ m, s'.heap.Ns C m ∧ ∀ h', Heap.SameBut C s'.heap h' → Q acc { s' with heap := h' }
  | .error x => ∃ m, s'.heap.Ns C m ∧ ∀ h', Heap.SameBut C s'.heap h' → ∀ cenv : Env, cenv.locals = C → cenv.frame = fr → wpAny M A (PySem.passOn "comprehension.variables-let-go" x cenv : Sem Value) (fun _ _ => False) E { s' with heap := h' }
theorem comp_free {M : Model} {A : Around} {E : Value → Shared → Prop} {s : Shared} {env : Env} {e : Expr} {scope : Scope} {pos : Pos} {newAcc first : Sem Value} {g : Comprehension} {gs : List Comprehension} {cl : List (Str × Addr)} {Q : Value → Shared → Prop}
    (hcl : clausesOf e = g :: gs) (hs : ∀ x, foldedSetIterable g.iter env x = pure x) (hclos : closureFor scope env = pure cl) (hk : scope.kind = .function) (hn : ∀ x ∈ scope.names, x.2 = .local → scope.names.lookup x.1 = some .local)
    (h : wpAny M A first (fun x s₁ => wpAny M A (pyIter x) (fun it s₂ => wpAny M A newAcc (fun acc s₃ => wpAny M A (newFunctionEnv scope env.globals cl [] env.qual none .none (some env)) (fun cenv s₄ =>
        codeAny M A (.compStart e 0 it acc { cenv with scope := relabel scope env }) (compEnd M A E Q acc cenv.locals cenv.frame) s₄) E s₃) E s₂) E s₁) E s) :
    wpAny M A (comprehension e scope env pos newAcc false first none) Q E s := by
  unfold comprehension
  rw [hclos, hcl]
  refine wpAny_bind (wpAny_mono h (fun x s₁ h₁ => wpAny_bind (wpAny_standAt (wpAny_bind (wpAny_of_eq (hs x) (wpAny_bind (wpAny_holding (wpAny_mono h₁ (fun it s₂ h₂ =>
    wpAny_standIf (wpAny_bind (wpAny_mono h₂ (fun acc s₃ h₃ => wpAny_bind (wpAny_pure (wpAny_bind (wpAny_mono h₃ (fun cenv s₄ h₄ => ?_) fun _ _ z => z)))) fun _ _ z => z))) fun _ _ z => z))))))) fun _ _ z => z)
  dsimp only
  generalize hvs : (scope.names.filter fun x => (x.2 == .local || x.2 == .cell) && x.1 != (".0" : Str)).reverse = vs
  have hv : ∀ x ∈ vs, x.2 = .local → Env.kindOf { cenv with scope := relabel scope env } x.1 = some .local := fun x hx hl => lookup_relabel_local (hn x (List.mem_filter.mp (List.mem_reverse.mp (hvs ▸ hx))).1 hl)
  have hv' : ∀ x ∈ vs.drop 1 ++ vs.take 1, x.2 = .local → Env.kindOf { cenv with scope := relabel scope env } x.1 = some .local := fun x hx hl => (List.mem_append.mp hx).elim (fun z => hv x (List.mem_of_mem_drop z) hl) fun z => hv x (List.mem_of_mem_take z) hl
  refine wpAny_holding (wpAny_bind (wpAny_attempt (wpAny_holding (wpAny_run (codeAny_mono h₄ fun r s' hr => ?_)))))
  cases r with
  | ok f =>
    obtain ⟨m, q, hr⟩ := hr
    exact wpAny_bind (wpAny_holding (wpAny_comp_letGo (cenv := { cenv with scope := relabel scope env }) hk _ s' m hv q fun h' m' _ hs' => wpAny_pure (hr h' hs')))
  | error x =>
    obtain ⟨m, q, hr⟩ := hr
    exact wpAny_bind (wpAny_holding (wpAny_comp_letGo (cenv := { cenv with scope := relabel scope env }) hk _ s' m hv q fun h' m' _ hs' => wpAny_mono (hr h' hs' _ rfl rfl) (fun _ _ f => f.elim) fun _ _ y => y))
theorem blk_takes {X : Cx} {Wx : WX} {pins : List (Addr × Obj)} {σ : L2.St} {H3 : Hp} {s3 : Shared} {scope : Scope} {ce : Env} {fp : List Addr} {acc : Value} {Q : Value → Shared → Prop} (hs : X.stack = X.env :: X.outer) (hf : X.env.frame = some X.env.locals) (tk : L2.Takes X Wx) (I3 : Inv X pins σ H3 s3)
    (cL : ce.locals = s3.heap.objs.size) (cF : ce.frame = X.env.frame) (f3 : ∀ b ∈ fp, FpOk X pins H3 b) :
    L2.Takes ((X.blk s3 H3 scope ce fp).wish (notedBy (model X.prog X.w) X.A ce fun x s'' => compEnd (model X.prog X.w) X.A X.xe Q acc s3.heap.objs.size X.env.frame (.error x) s'')) (fun cls d _ H => Wx cls d σ H) := by
  intro u s' ⟨a, B, sI, pins', σ', H', cls, d, eu, J, nb, up, sky, na, os, ag, w⟩
  subst eu
  show wpAny _ _ (noteFrame (.ref a) ce) (fun _ s'' => compEnd (model X.prog X.w) X.A X.xe Q acc s3.heap.objs.size X.env.frame (.error (.ref a)) s'') _ s'
  rw [note_frame cF]
  have J := J.unwish
  have hfr : X.A.frames = some (X.env :: X.outer) := by rw [I3.ok.frames, hs]
  have nb : ∀ b o, sI.heap.get? b = some o → b ∉ frs X.stack → B.get? b = some o := nb
  have nC : H' s3.heap.objs.size = none := by
    have z : H' ce.locals = none := J.free
    rw [cL] at z
    exact z
  obtain ⟨m, hn, _⟩ := J.loc
  have hn : sI.heap.Ns ce.locals m := hn
  rw [cL] at hn
  have fpC := I3.fpOk (Nat.le_refl _) nC
  have J1 : Inv X pins σ H' sI := I3.call' (ch := fp) J.os J.base J.hok J.bare fun b hb => ⟨(f3 b hb).2.2.2.1, (f3 b hb).2.1, (f3 b hb).2.2.2.2.1, (f3 b hb).2.2.2.2.2⟩
  obtain ⟨f0, f1, f2, f3', f4, f5⟩ := fpC
  generalize hC : s3.heap.objs.size = C at *
  have cfr : ∀ b ∈ frs X.stack, b ≠ C := fun b hb e => by
    subst e
    rcases List.mem_cons.mp (I3.stkSub b hb) with z | z
    · exact f1 z
    · exact f2 z
  have sky : Sky B (X.env :: X.outer) a (Zc cls d) ce.locals s'.heap := by rw [← hs]; exact sky
  have held : ∀ h1, HandSPX.HeldZ B (X.env :: X.outer) a (Zc cls d) X.env.locals h1 → s'.heap.UpToSlots h1 → compEnd (model X.prog X.w) X.A X.xe Q acc C X.env.frame (.error (.ref a)) { s' with heap := h1 } := by
    intro h1 hh up1
    have hn1 : h1.Ns C m := up1.ns (up.ns hn)
    refine ⟨m, hn1, fun h2 sb cenv el ef => ?_⟩
    obtain ⟨oC, es, ep, hoC, hdC, _⟩ := hn1
    obtain ⟨b1, b2, b3, oe, vs, T, oT, ts, he, hz, hd, e1, nT, ne2, hT, dT, e3⟩ := hh
    have aC : a ≠ C := fun z => by rw [z, hoC] at he; cases he; rw [hdC] at hd; cases hd
    have tC : T ≠ C := fun z => by rw [z, hoC] at hT; cases hT; rw [hdC] at dT; cases dT
    have Bn : ∀ b, B.get? b = none → (PySem.W.hideAll B [C]).get? b = none := fun b z => by
      cases q : (PySem.W.hideAll B [C]).get? b with
      | none => rfl
      | some o =>
        have y := PySem.W.of_hideAll _ q
        rw [z] at y; cases y
    have neC : ∀ {h : Heap} {b o}, (PySem.W.hideAll h [C]).get? b = some o → b ≠ C := fun {h b o} q z => by
      subst z
      rw [PySem.W.hideAll_none [b] (List.mem_singleton.mpr rfl)] at q
      cases q
    have hh2 : HandSPX.HeldZ (PySem.W.hideAll B [C]) (X.env :: X.outer) a (Zc cls d) X.env.locals h2 := by
      refine ⟨fun b o q => (sb.2 b (neC q)).trans (b1 b o (PySem.W.of_hideAll _ q)), Bn a b2, ?_, oe, vs, T, oT, ts, (sb.2 a aC).trans he, hz, hd, e1, Bn T nT, ne2, (sb.2 T tC).trans hT, dT, e3⟩
      exact frames_keep (funFrames_none b3 fun b hb => Bn b (b3.mem hb).1) fun b hb => sb.2 b (cfr b (by rw [hs]; exact hb))
    refine passOn_ok (s := { s' with heap := h2 }) (ef.trans hf) hh2 fun h4 hh4 up4 => ?_
    refine tk _ _ ⟨a, PySem.W.hideAll B [C], { sI with heap := PySem.W.hideAll sI.heap [C] }, pins, σ, H', cls, d, rfl, ?_, fun b o q hb => ?_, fun b o q nf => ?_, ?_, na, os, ag, w⟩
    · exact J1.turned (t' := sI.toks) (it := C) (fun b o hb q => PySem.W.hideAll_get _ q fun z => hb (List.mem_singleton.mp z)) f0 f1 f3' f4 f5
    · exact PySem.W.hideAll_get _ (nb b o (PySem.W.of_hideAll _ q) hb) fun z => neC q (List.mem_singleton.mp z)
    · have n := neC q
      obtain ⟨sl1, q1⟩ := up b o (PySem.W.of_hideAll _ q) nf
      obtain ⟨sl2, q2⟩ := up1 b _ q1 nf
      obtain ⟨sl3, q3⟩ := up4 b _ ((sb.2 b n).trans q2) nf
      exact ⟨sl3, q3⟩
    · rw [hs]
      exact .inr (.inr hh4)
  rcases sky with ⟨k1, k2, k3, oe, vs, he, hz, hd, h1⟩ | fl | hh
  · exact HandSPX.look_newZ Zc.steady hfr k3 hf he k1 k2 hd h1 hz held
  · exact HandSPX.looks_onZ Zc.steady hfr hf fl held
  · exact looks_heldZ Zc.steady hfr hf hh held
section
variable {X : Cx}
theorem pe_lcX {elt tg iter : Expr} {ifs : List Expr} {scope : Scope} {own : List (Str × Nat)} {pos : Pos} {wi : TI} {g : TG} {tt : TT} {te : WX → TE} {Wx : WX} (hst : X.stack = X.env :: X.outer) (hfr : X.env.frame = some X.env.locals) (tk : L2.Takes X Wx) (hc : X.calm = true) (hN : X.N.Nodup) (hi : PI X tg iter wi) (ok : BlkOk X.N X.env.scope scope own)
    (hg : ∀ (s : Shared) (H : Hp) (C : Addr) (cl : List (Str × Addr)) (fp : List Addr), PG (X.blk s H scope (compEnvC scope cl C X.env) fp) tg g) (ht : ∀ (s : Shared) (H : Hp) (C : Addr) (cl : List (Str × Addr)) (fp : List Addr), PTs (X.blk s H scope (compEnvC scope cl C X.env) fp) ifs tt)
    (he : ∀ (s : Shared) (H : Hp) (C : Addr) (cl : List (Str × Addr)) (fp : List Addr) (xe : Value → Shared → Prop) (W : WX), L2.Takes ((X.blk s H scope (compEnvC scope cl C X.env) fp).wish xe) W → PE ((X.blk s H scope (compEnvC scope cl C X.env) fp).wish xe) elt (te W)) (hs : ∀ x, foldedSetIterable iter X.env x = pure x := by intro _; rfl) :
    PE X (.ListComp elt [⟨tg, iter, ifs, 0⟩] scope pos) (fun σ H Q => tLc wi g tt (te fun cls d _ H' => Wx cls d σ H') (own.map (·.2)) σ H Q) := by
  refine ⟨fun pins s σ H Q I h => ?_⟩
  rw [eval_ListComp]
  have hfree : ∀ y ∈ scope.names, y.2 = .free → ∃ c, X.env.cells.lookup y.1 = some c := fun y hy e => (ok.free y hy e).elim (fun k => I.ok.has _ (.inl k)) fun k => I.ok.has _ (.inr k)
  refine comp_free rfl hs (closure_ok hfree) ok.kind (fun y hy e => by rw [ok.uniq y hy, e]) (thn (hi.run pins s σ H _ I h) fun xv s1 hx => thn hx fun itv s2 h2 => ?_)
  obtain ⟨it, fp, tn, J, H2, e, I2, T, st2, f2, q⟩ := h2
  subst e
  refine wpAny_newObj_type (newEnv_comp ?_) (by show 0 ≤ sizeLine; decide)
  generalize hD : s2.heap.objs.size = D
  have Dn : H2 D = none := I2.hok.fresh (Nat.le_of_eq hD)
  obtain ⟨W, ⟨m0, w0⟩, turn⟩ := q D Dn
  generalize hs3 : ({ s2 with heap := s2.heap.push { cls := .type "list", data := .seq ([] : List Value).toArray } } : Shared) = s3
  have I3 : Inv X pins σ (upd H2 D (.lst [])) s3 := by
    subst hs3
    refine I2.laid (t' := s2.toks) (fun b o q => Heap.get?_push_of_some _ q) (Nat.le_of_eq hD) ⟨Nat.zero_le _, [], 0, .nil, ?_⟩
    subst hD
    exact Heap.get?_push_size _ rfl
  have h3 : s3.heap = s2.heap.push { cls := .type "list", data := .seq ([] : List Value).toArray } := by subst hs3; rfl
  have f3 : ∀ b ∈ fp, FpOk X pins (upd H2 D (.lst [])) b ∧ b < s3.heap.objs.size := fun b hb => by
    obtain ⟨o, eo, _⟩ := T.obj _ _ st2 b hb
    have lt := Heap.lt_size eo
    refine ⟨⟨?_, (f2 b hb).2⟩, by rw [h3, Heap.size_push]; exact Nat.lt_succ_of_lt lt⟩
    rw [upd_ne (by subst hD; exact Nat.ne_of_lt lt)]
    exact (f2 b hb).1
  have st3 : tn 0 s3.heap := T.keep _ _ _ st2 fun b _ o q => by rw [h3]; exact Heap.get?_push_of_some _ q
  have I4 := block_start I3 ok hN f3
  generalize hcl : cellsFrom (s3.heap.objs.size + 1) scope.names (cloFrom X.env.cells scope.names []) = cl at I4
  have pg := hg s3 (upd H2 D (.lst [])) s3.heap.objs.size cl fp
  have pt := ht s3 (upd H2 D (.lst [])) s3.heap.objs.size cl fp
  have pe := he s3 (upd H2 D (.lst [])) s3.heap.objs.size cl fp
  show codeAny _ _ (.compStart (.ListComp elt [⟨tg, iter, ifs, 0⟩] scope pos) 0 (.ref it) (.ref D) (compEnvC scope cl s3.heap.objs.size X.env)) (compEnd (model X.prog X.w) X.A X.xe _ (.ref D) s3.heap.objs.size X.env.frame) { s3 with heap := pushCells (s3.heap.push { cls := .type "dict", data := .dict #[] }) scope.names }
  generalize hce : compEnvC scope cl s3.heap.objs.size X.env = ce at I4 pg pt pe ⊢
  have cL : ce.locals = s3.heap.objs.size := by subst hce; rfl
  have cF : ce.frame = X.env.frame := by subst hce; rfl
  have nfp : ∀ b ∈ fp, (upd H2 D (.lst [])) b = none := fun b hb => (f3 b hb).1.1
  generalize hH3 : upd H2 D (.lst []) = H3 at I3 I4 pg pt pe w0 nfp f3
  generalize hs4 : ({ s3 with heap := pushCells (s3.heap.push { cls := .type "dict", data := .dict #[] }) scope.names } : Shared) = s4 at I4 ⊢
  have st4 : tn 0 s4.heap := T.keep _ _ _ st3 fun b _ o q => by subst hs4; exact pushCells_keeps _ _ _ _ (Heap.get?_push_of_some _ q)
  have stat : ∀ {σ' : L2.St} {H' : Hp} {s' : Shared}, Inv (X.blk s3 H3 scope ce fp) [] σ' H' s' → (∀ b ∈ fp, H' b = none) → ∀ b ∈ fp, FpOk (X.blk s3 H3 scope ce fp) [] H' b := fun {σ' H' s'} J n b hb =>
    ⟨n b hb, (J.ok.exf b hb).1, J.ok.exfs b hb, .inl hb, fun x c e => (J.ok.exf b hb).2 x c e, fun p hp => absurd (show p ∈ ([] : List (Addr × Obj)) ++ [] from hp) (by simp)⟩
  refine codeAny_compStart_list ?lp (T.self X.A 0 _ _ _ st4 ?lp)
  refine compLoop_any (fun n s' => ∃ i H', Inv (X.blk s3 H3 scope ce fp) [] (wipe σ (own.map (·.2))) H' s' ∧ tn i s'.heap ∧ (∀ b ∈ fp, H' b = none) ∧ W i n H') ?_ m0 ⟨0, H3, I4, st4, nfp, w0⟩
  rintro n s5 ⟨i, H5, I5, st5, n5, w5⟩
  rcases turn i n H5 w5 with ⟨stop, qq⟩ | ⟨go, Nx, hNx, step⟩
  · refine thnF (T.done (X.blk s3 H3 scope ce fp) rfl rfl rfl hc i [] s5 _ H5 (fun _ _ => False) I5 (stat I5 n5) st5 stop) fun r s6 ⟨er, I6⟩ => ?_
    subst er
    have I7 : Inv X pins σ H5 s6 := I3.call' (ch := fp) I6.os I6.base I6.hok I6.bare fun b hb => ⟨(f3 b hb).1.2.2.2.1, (f3 b hb).1.2.1, (f3 b hb).1.2.2.2.2.1, (f3 b hb).1.2.2.2.2.2⟩
    have nC : H5 s3.heap.objs.size = none := by
      have z : H5 ce.locals = none := I6.free
      rw [cL] at z
      exact z
    obtain ⟨m, hn, _⟩ := I6.loc
    have hn : s6.heap.Ns ce.locals m := hn
    rw [cL] at hn
    refine ⟨m, hn, fun h'' sb => ?_⟩
    obtain ⟨k0, k1, k2, k3, k4, k5⟩ := I3.fpOk (Nat.le_refl _) nC
    exact ⟨.ref D, H5, I7.turned (t' := s6.toks) (fun b o hb e => (sb.2 b hb).trans e) k0 k1 k3 k4 k5, rfl, qq⟩
  · refine thnF (T.item (X.blk s3 H3 scope ce fp) rfl rfl rfl hc i [] s5 _ H5 (fun _ _ => False) I5 (stat I5 n5) st5 go) fun r s6 ⟨u, er, h6⟩ => ?_
    subst er
    refine thnF h6 fun _ s7 ⟨x, H7, I7, r7, y7, st7, n7⟩ => ?_
    have I7p := I7.pinned (stat I7 n7) (T.obj _ _ st7)
    refine thnF (pg.run _ s7 _ H7 x u _ I7p r7 (step x H7 y7)) fun _ s8 ⟨σ8, H8, I8, hw8, q8⟩ => ?_
    refine thnF (pt.run _ s8 σ8 H8 _ I8 q8) fun b s9 ⟨H9, I9, q9⟩ => ?_
    have fin : ∀ {s' : Shared} {H' : Hp}, Inv (X.blk s3 H3 scope ce fp) ([] ++ pinsAt fp s7.heap) σ8 H' s' → Nx H' → ∃ m, m < n ∧ ∃ i H', Inv (X.blk s3 H3 scope ce fp) [] (wipe σ (own.map (·.2))) H' s' ∧ tn i s'.heap ∧ (∀ b ∈ fp, H' b = none) ∧ W i m H' := fun {s' H'} J nx => by
      obtain ⟨m', hm, w'⟩ := hNx H' nx
      have pn : ∀ b ∈ fp, ∀ o, s7.heap.get? b = some o → s'.heap.get? b = some o ∧ H' b = none := fun b hb o e =>
        ⟨(J.pin (b, o) (List.mem_append_right _ (List.mem_append_right _ (mem_pinsAt hb e)))).1, (J.pin (b, o) (List.mem_append_right _ (List.mem_append_right _ (mem_pinsAt hb e)))).2.1⟩
      refine ⟨m', hm, i + 1, H', (J.unpinned (pins := [])).weak (by rw [← hw8, wipe_length]) (fun j v e => ?_), T.keep _ _ _ st7 fun b hb o e => (pn b hb o e).1, fun b hb => ?_, w'⟩
      · rw [← hw8] at e
        exact (wipe_some e).1
      · obtain ⟨o, e, _⟩ := T.obj _ _ st7 b hb
        exact (pn b hb o e).2
    cases b with
    | false =>
      simp only [Bool.false_eq_true, if_false] at q9 ⊢
      exact fin I9 q9
    | true =>
      simp only [if_true] at q9 ⊢
      refine wpAny_mono ((pe _ _ (blk_takes (acc := .ref D) hst hfr tk I3 cL cF fun b hb => (f3 b hb).1)).run _ s9 σ8 H9 _ (I9.wish _) q9) (fun z s10 ⟨yv, H10, I10, r10, acc, hD10, hz10, nx⟩ => ?_) fun _ _ z => z
      exact app_ok (X := X.blk s3 H3 scope ce fp) I10.unwish hD10 hz10 r10 fun s11 I11 => fin I11 nx
end
def lcX (g : DG) (e : DE) (vs : List Nat) : List D → List D → Sl → Sto → Res (List D)
  | [], acc, σ, S => .ok acc σ S
  | d :: ds, acc, σ, S => match g d σ with
    | none => .fail
    | some σ1 => (match dV e σ1 S with
      | .ok w σ3 S3 => if acc.length < most then lcX g e vs ds (acc ++ [w]) (wipeD σ3 vs) S3 else .fail
      | .exc x σ3 S3 => .exc x (wipeD σ3 vs) S3
      | .fail => .fail)
def endX (σ : Sl) (vs : List Nat) : Res (List D) → Res D
  | .ok ws σ' S' => .ok (.lst ws) (restD σ σ' vs) S'
  | .exc x σ' S' => .exc x (restD σ σ' vs) S'
  | .fail => .fail
def dLcX (it : DI) (g : DG) (e : DE) (vs : List Nat) : DE := fun σ S => (it σ S).bind fun items σ S => if noOwn σ vs = true then endX σ vs (lcX g e vs items [] (wipeD σ vs) S) else .fail
section
variable {X : Cx} {Wx : WX}
theorem wipe_twice (σV : L2.St) (vs : List Nat) : L2.wipe (L2.wipe σV vs) vs = L2.wipe σV vs := by
  apply List.ext_getElem?
  intro j
  rw [wipe_get, wipe_get]
  split
  · rw [Option.map_map]; rfl
  · rfl
theorem sem_lcX {own : List (Str × Nat)} {it : DI} {g : DG} {f : DE} {σV : L2.St} {H : Hp} {Q : VK} (h : semF X.K Wx (dLcX it g f (own.map (·.2))) σV H Q) : tLc (semI X.K Wx it) (semG X.K (own.map (·.2)) g) (semT X.K W0 tTrue) (semV X.K (fun cls d _ H' => Wx cls d σV H') (dV f)) (own.map (·.2)) σV H Q := by
  obtain ⟨F, I, ρ, σ, S, rb, h⟩ := h
  refine ⟨F, I, ρ, σ, S, rb, ?_⟩
  unfold dLcX at h
  generalize own.map (·.2) = vs at h ⊢
  cases e : it σ S with
  | exc a σ' S' => rw [e] at h; exact h
  | fail => rw [e] at h; exact h
  | ok items σ' S' =>
    rw [e] at h
    intro I' ρ' H' J g' rb' wk Dl hD
    have h : postF X.K Wx F I' ρ' σV (if noOwn σ' vs = true then endX σ' vs (lcX g f vs items [] (wipeD σ' vs) S') else .fail) Q := postF_gr g' h
    split at h
    case isFalse => exact h.elim
    case isTrue hno =>
    have hF : F Dl = none := by
      cases q : F Dl with
      | none => rfl
      | some o => have := rb'.fr _ _ q; rw [hD] at this; cases this
    refine ⟨fun i m H => i + m = items.length ∧ ∃ I2 ρ2 σ2 S2 acc accV, Gr ρ' I' ρ2 I2 ∧ RB X.K (upd F Dl (.lst accV)) I2 ρ2 S2 H (L2.wipe σV vs) σ2 ∧ Reps X.K ρ2 I2 accV acc ∧
      postF X.K Wx F I2 ρ2 σV (endX σ' vs (lcX g f vs (items.drop i) acc σ2 S2)) Q, ⟨items.length, Nat.zero_add _, I', ρ', wipeD σ' vs, S', [], [], Gr.refl, (rb'.wipe vs).addF hD, .nil, h⟩, ?_⟩
    intro i m H2 ⟨hm, I2, ρ2, σ2, S2, acc, accV, g2, rb2, racc, h2⟩
    obtain ⟨w1, w2⟩ := wk (upd F Dl (.lst accV)) (fun a o q => by rw [upd_ne (ne_of_none q hF)]; exact q) I2 ρ2 S2 H2 _ σ2 g2 rb2
    cases m with
    | zero =>
      have hi : i = items.length := hm
      subst hi
      rw [List.drop_length] at h2
      have h2 : postF X.K Wx F I2 ρ2 σV (.ok (.lst acc) (restD σ' σ2 vs) S2) Q := h2
      obtain ⟨rb3, ni, nr, no, hH⟩ := rb2.delF hF (fun _ _ z => by cases z) (fun _ z => by cases z)
      have rb4 := rb'.unwipe g2 hno rb3
      refine .inl ⟨w2, h2 I2 ρ2 H2 _ Gr.refl rb4 (.inl ⟨Dl, rfl, hF, ni, nr, fun j cc q1 q2 => ?_, accV, hH, racc⟩)⟩
      obtain ⟨b, hb, hfb, hib, hrb, hob⟩ := rb4.slot j _ q1
      rw [q2] at hb
      cases hb
      rw [restD_get] at q1
      split at q1
      · rename_i hj
        obtain ⟨_, _, ee⟩ := Option.map_eq_some_iff.mp q1
        have qq := List.all_eq_true.mp hno j hj
        cases z : σ'[j]? with
        | none => rw [z] at ee; cases ee
        | some s =>
          rw [z] at ee qq
          have e2 : s = .own cc := ee
          subst e2
          cases qq
      · rename_i hj
        refine no j cc q1 ?_
        rw [wipe_get, if_neg hj]
        exact q2
    | succ m =>
      have lt : i < items.length := by omega
      rw [List.drop_eq_getElem_cons lt] at h2
      obtain ⟨go, yl⟩ := w1 i items[i] (List.getElem?_eq_getElem lt)
      refine .inr ⟨go, fun H3 => i + 1 + m = items.length ∧ ∃ I2 ρ2 σ2 S2 acc accV, Gr ρ' I' ρ2 I2 ∧ RB X.K (upd F Dl (.lst accV)) I2 ρ2 S2 H3 (L2.wipe σV vs) σ2 ∧ Reps X.K ρ2 I2 accV acc ∧
        postF X.K Wx F I2 ρ2 σV (endX σ' vs (lcX g f vs (items.drop (i + 1)) acc σ2 S2)) Q, fun H' q => ⟨m, Nat.lt_succ_self m, q⟩, fun x H3 y => ?_⟩
      obtain ⟨I3, g3, rb3, r3⟩ := yl x H3 y
      unfold lcX at h2
      cases eg : g items[i] σ2 with
      | none => rw [eg] at h2; exact h2.elim
      | some σ3 =>
        rw [eg] at h2
        refine ⟨_, I3, ρ2, σ2, S2, items[i], σ3, rb3, r3, eg, fun σV4 ew rb4 => ⟨ew.trans (wipe_twice σV vs), ?_⟩⟩
        have ew2 : L2.wipe σV4 vs = L2.wipe σV vs := ew.trans (wipe_twice σV vs)
        refine ⟨_, I3, ρ2, σ3, S2, rb4, ?_⟩
        intro I5 ρ5 H5 b' g5 rb5 tb
        subst tb
        rw [if_pos rfl]
        have h3 := postF_gr g5 (postF_gr g3 h2)
        dsimp only at h3
        refine ⟨_, I5, ρ5, σ3, S2, rb5, ?_⟩
        cases ev : dV f σ3 S2 with
        | exc x σ7 S7 =>
          rw [ev] at h3
          intro I7 ρ7 H7 d g7 rb7 hd
          obtain ⟨rb8, _⟩ := rb7.delF hF (fun _ _ z => by cases z) (fun _ z => by cases z)
          have rb9 := rb8.wipe vs
          rw [ew2] at rb9
          exact h3 I7 ρ7 H7 d g7 (rb'.unwipe (((g2.trans g3).trans g5).trans g7) hno rb9) hd
        | fail => rw [ev] at h3; exact h3.elim
        | ok w σ7 S7 =>
          rw [ev] at h3
          intro I7 ρ7 H7 v7 g7 rb7 r7
          dsimp only at h3
          split at h3
          · rename_i hl
            obtain ⟨_, _, _, _, hH⟩ := rb7.delF hF (fun _ _ z => by cases z) (fun _ z => by cases z)
            refine ⟨accV, hH, by rw [racc.length, ← most_eq]; exact hl, by omega, I7, ρ7, _, S7, acc ++ [w], accV ++ [v7], ((g2.trans g3).trans g5).trans g7, ?_, ((racc.gr ((g3.trans g5).trans g7)).append (.cons r7 .nil)), postF_gr g7 h3⟩
            have rb8 := (rb7.fset (o' := .lst (accV ++ [v7])) hF (fun _ _ z => by cases z) (fun _ z => by cases z)).wipe vs
            rw [ew2] at rb8
            exact rb8
          · exact h3.elim
theorem cf_lcX {elt tg iter : Expr} {scope : Scope} {own : List (Str × Nat)} {pos : Pos} {it : DI} {g : DG} {f : DE} (hst : X.stack = X.env :: X.outer) (hfr : X.env.frame = some X.env.locals) (tk : Tk false X Wx) (hN : X.N.Nodup) (ok : BlkOk X.N X.env.scope scope own) {vs : List Nat} (hvs : own.map (·.2) = vs) (hi : SI X Wx tg iter it)
    (hg : ∀ (s : Shared) (H : Hp) (C : Addr) (cl : List (Str × Addr)) (fp : List Addr), SG (X.blk s H scope (compEnvC scope cl C X.env) fp) vs tg g)
    (he : ∀ (s : Shared) (H : Hp) (C : Addr) (cl : List (Str × Addr)) (fp : List Addr) (xe : Value → Shared → Prop) (W : WX), Tk false ((X.blk s H scope (compEnvC scope cl C X.env) fp).wish xe) W → SE ((X.blk s H scope (compEnvC scope cl C X.env) fp).wish xe) W elt f) (hc : X.calm = true := by rfl) (hs : ∀ x, foldedSetIterable iter X.env x = pure x := by intro _; rfl) :
    SF X Wx (.ListComp elt [⟨tg, iter, [], 0⟩] scope pos) (dLcX it g f vs) := by
  subst hvs
  exact PE.imp (pe_lcX (g := semG X.K (own.map (·.2)) g) (tt := semT X.K W0 tTrue) (te := fun W => semV X.K W (dV f)) hst hfr tk hc hN hi ok hg (fun _ _ _ _ _ => cts_nil) (fun s H C cl fp xe W t => c_v (he s H C cl fp xe W t)) hs) fun _ _ _ h => sem_lcX h
end
end MR
set_option Elab.async false
set_option linter.all false
set_option maxRecDepth 100000
namespace MR
open PySem PySem.Spec PyProof.Rows L2
def wAll (K : PySem.W.Frag) (Wout : WX) (D : Ends) : List (Value × Nat × (Addr → Value → Option Addr → TS)) → WX
  | [] => Wout
  | (c, i, ts) :: r => fun cls d σ H => ∃ b, PySem.W.exmOne K cls c = some b ∧ (b = true → ∀ a, H a = none → ts a cls d { nx := fun σ' H' => D.nx (σ'.set i none) H', rt := D.rt, bk := fun σ' H' => D.bk (σ'.set i none) H', ct := fun σ' H' => D.ct (σ'.set i none) H' } (σ.set i (some (.ref a))) H) ∧
      (b = false → wAll K Wout D r cls d σ H)
inductive HdsA (X : Cx) : List ExceptHandler → List (Value × Nat × (Addr → Value → Option Addr → TS)) → Prop
  | nil : HdsA X [] []
  | cons {x n : Str} {c : Value} {i : Nat} {ts : Addr → Value → Option Addr → TS} {b₀ : Stmt} {suite : List Stmt} {np pos' : Pos} {hds : List ExceptHandler} {l : List (Value × Nat × (Addr → Value → Option Addr → TS))} (hc : Names X x c) (hi : X.N[i]? = some n) (hln : X.env.kindOf n = some .local)
      (hsu : ∀ (a : Addr) (oe : Obj) (cls : Value) (d : Option Addr) (pn : List (Addr × Obj)), Zc cls d oe → (∃ vs, oe.data = .fields vs) → PSs (X.suite a ((a, oe) :: pn)) (b₀ :: suite) (ts a cls d)) (r : HdsA X hds l) :
      HdsA X (.ExceptHandler (some (.Name x np)) (some n) (b₀ :: suite) pos' :: hds) ((c, i, ts) :: l)
section
variable {X : Cx} {body : List Stmt} {h₀ : ExceptHandler} {hds : List ExceptHandler} {l : List (Value × Nat × (Addr → Value → Option Addr → TS))} {pos : Pos} {tb : WX → TS} {Wout : WX}
theorem ps_tryA (hs : X.stack = X.env :: X.outer) (hf : X.env.frame = some X.env.locals) (hN : X.N.Nodup) (tk : L2.Takes X Wout)
    (hb : ∀ (W : WX) (pn : List (Addr × Obj)) (xe : Value → Shared → Prop), L2.Takes (X.tr pn xe) W → PassesOwn (model X.prog X.w) X.A X.env xe → PSs (X.tr pn xe) body (tb W))
    (hh : HdsA X (h₀ :: hds) l) : PS X (.Try body (h₀ :: hds) [] [] pos) (fun D σ H => tb (wAll X.K Wout D l) D σ H) := by
  refine ⟨fun pins s σ H D I h => ?_⟩
  have ok := I.ok
  have hfr : X.A.frames = some (X.env :: X.outer) := by rw [ok.frames, hs]
  refine wpAny_Try_except ?_
  refine wpAny_mono ((hb (wAll X.K Wout D l) (X.pn ++ pins) (fun e s₁ => wpAny (model X.prog X.w) X.A (noteFrame e X.env) (fun _ s₂ => wpAny (model X.prog X.w) X.A (setFlight e none) (fun _ s₃ =>
    wpAny (model X.prog X.w) X.A (handleBy e X.env (h₀ :: hds)) (L2.SP X pins D) X.xe s₃) X.xe s₂) X.xe s₁) (fun u s' xx => ?_) PassesOwn.looking).run [] s σ H D (I.toTry _) h) (fun f s1 hsp => ?_) (fun e s1 he => he)
  · obtain ⟨a, B, sI, pins', σ', H', cls, d, rfl, J', nb, up, sky, na, os, ag, w⟩ := xx
    have J : Inv X pins σ' H' sI := J'.ofTry ok
    have sky2 : Sky B (X.env :: X.outer) a (Zc cls d) X.env.locals s'.heap := by rw [← hs]; exact sky
    show wpAny (model X.prog X.w) X.A (noteFrame (.ref a) X.env) _ _ _
    refine Sky.land Zc.steady hfr hf sky2 fun h3 fl3 up3 => ?_
    have J3 : Inv X pins σ' H' { s' with heap := h3 } := J.landed nb fl3.1 (up.trans up3) os ag
    obtain ⟨oe3, vs3, he3, hz3, hd3⟩ := fl3.there
    have nfr : a ∉ frs (X.env :: X.outer) := fun hm => by
      obtain ⟨_, o', e', nf⟩ := fl3.2.2.1.mem hm
      rw [he3] at e'
      cases e'
      exact nf _ hd3
    have nL : a ≠ X.env.locals := fun z => nfr (List.mem_filterMap.mpr ⟨X.env, List.mem_cons_self, by rw [hf, z]⟩)
    have nF : a ∉ X.fs := fun hm => by
      obtain ⟨e, he, q⟩ := List.mem_filterMap.mp hm
      exact nfr (List.mem_filterMap.mpr ⟨e, List.mem_cons_of_mem _ he, q⟩)
    have S3 := J3.suite he3 hd3 na nL nF
    have LT : PySem.W.Looks (model X.prog X.w) h3 (typeOf (.ref a)) cls := fun A Q E s k q => wpAny_typeOf_ref (k _ _ he3) (by rw [hz3.1]; exact q)
    have go : ∀ {hds' : List ExceptHandler} {l' : List (Value × Nat × (Addr → Value → Option Addr → TS))}, HdsA X hds' l' → wAll X.K Wout D l' cls d σ' H' → wpAny (model X.prog X.w) X.A (handleBy (.ref a) X.env hds') (L2.SP X pins D) X.xe { s' with heap := h3 } := by
      intro hds' l' hk
      induction hk with
      | nil =>
        intro w
        refine wpAny_handleBy_nil ?_
        have up' : HandSPX.FlyingZ B (X.env :: X.outer) a (Zc cls d) h3 := fl3
        obtain ⟨k1, k2, k3, oe, vs, T, oT, ts', he, hz, hd, h1, hr⟩ := id fl3
        unfold PySem.passOn
        refine wpAny_bind (wpAny_field he hd h1 ?_)
        rw [if_neg (show ¬ ((Value.ref T == Value.none) = true) from by simp)]
        rw [hf]
        refine wpAny_bind (HandSPX.setFlight_upZ (s := { s' with heap := h3 }) up' fun h4 hh4 up4 => wpAny_throw (tk _ _ ?_))
        exact ⟨a, B, sI, pins, σ', H', cls, d, rfl, J, nb, (up.trans up3).trans up4, .inr (.inr (by rw [hs]; exact hh4)), na, os, ag, w⟩
      | @cons x n c i ts b₀ suite np pos' hds2 l2 hc hi hln hsu r ih =>
        intro w
        obtain ⟨b, hb1, hyes, hno⟩ := w
        refine wpAny_handleBy_cons (codeAny_handlers_test ?_) (by intro q; cases q)
        have LM := PySem.W.exm_one (M := model X.prog X.w) (J3.kIn) LT hb1
        have test : ∀ {Q : Value → Shared → Prop} {E : Value → Shared → Prop}, Q c { s' with heap := h3 } → wpAny (model X.prog X.w) (X.A.mark (some (.ref a))) (eval (.Name x np) X.env) Q E { s' with heap := h3 } := fun {Q E} q => by
          obtain ⟨hg, hdbg, hm | ⟨hm, hv, hnn⟩⟩ := hc
          · exact ld_glob (X := X.suite a ((a, oe3) :: (X.pn ++ pins))) S3 hg hm q hdbg
          · exact ld_blt (X := X.suite a ((a, oe3) :: (X.pn ++ pins))) S3 hg hm hv q hnn hdbg
        refine test (LM.here ?_)
        cases b with
        | true =>
          refine codeAny_handlers_suite_as ?_
          refine HandSPX.lands_againZ fl3 fun h4 fl4 up4 => ?_
          have J4 : Inv X pins σ' H' { s' with heap := h4 } := J.landed nb fl4.1 ((up.trans up3).trans up4) os ag
          obtain ⟨oe4, vs4, he4, hz4, hd4⟩ := fl4.there
          have S4 := J4.suite he4 hd4 na nL nF
          refine store_ok (X := X.suite a ((a, oe4) :: (X.pn ++ pins))) (v := .ref a) S4 hN hi (.inl hln) rfl (fun s5 S5 => ?_) (.inr hln)
          refine wpAny_mono ((hsu a oe4 cls d (X.pn ++ pins) hz4 ⟨_, hd4⟩).run [] s5 _ H' _ S5 (hyes rfl a na)) (fun f s6 hsp => ?_) (fun _ _ z => False.elim z)
          have fin : ∀ {σ6 : L2.St} {H6 : Hp} {Q : Shared → Prop}, Inv (X.suite a ((a, oe4) :: (X.pn ++ pins))) [] σ6 H6 s6 → (∀ s7, Inv X pins (σ6.set i none) H6 s7 → Q s7) → wpAny (model X.prog X.w) X.A (do bindName X.env n .none; unbindBehindTheSuite X.env n pos') (fun _ s7 => Q s7) X.xe s6 := fun {σ6 H6 Q} S6 hq => gone_ok (S6.unsuite ok) hN hi hln hq
          cases f with
          | next =>
            obtain ⟨σ6, H6, S6, q6⟩ := hsp
            exact fin S6 fun s7 J7 => ⟨_, _, J7, q6⟩
          | brk =>
            obtain ⟨σ6, H6, S6, q6⟩ := hsp
            exact fin S6 fun s7 J7 => ⟨_, _, J7, q6⟩
          | cont =>
            obtain ⟨σ6, H6, S6, q6⟩ := hsp
            exact fin S6 fun s7 J7 => ⟨_, _, J7, q6⟩
          | ret u =>
            obtain ⟨v6, σ6, H6, S6, r6, q6⟩ := hsp
            exact fin S6 fun s7 J7 => ⟨_, _, _, J7, r6, q6⟩
        | false =>
          show wpAny _ X.A (handleBy (.ref a) X.env hds2) _ _ _
          exact ih (hno rfl)
    exact go hh w
  · cases f with
    | next =>
      obtain ⟨σ', H', J', q⟩ := hsp
      exact wpAny_execs_nil ⟨σ', H', J'.ofTry ok, q⟩
    | brk =>
      obtain ⟨σ', H', J', q⟩ := hsp
      exact ⟨σ', H', J'.ofTry ok, q⟩
    | cont =>
      obtain ⟨σ', H', J', q⟩ := hsp
      exact ⟨σ', H', J'.ofTry ok, q⟩
    | ret u =>
      obtain ⟨v, σ', H', J', r, q⟩ := hsp
      exact ⟨v, σ', H', J'.ofTry ok, r, q⟩
end
def exS (a d : Addr) : Option Int → Slot
  | none => .exn a
  | some n => .exx a d n
def dO (d : Addr) : Option Int → Option Addr
  | none => none
  | some _ => some d
abbrev Hd := String × Nat × (Addr → Addr → Exn → DS)
open Classical in
noncomputable def suiteM (i : Nat) (fs : Addr → Addr → Exn → DS) (e : Exn) (σ1 : Sl) (S1 : Sto) : Res Fl :=
  if ∃ f σ2 S2, ∀ a d, ∃ σ3, fs a d e (σ1.set i (exS a d e.x)) S1 = .ok f σ3 S2 ∧ σ3.set i .emp = σ2 then
    match fs 0 0 e (σ1.set i (exS 0 0 e.x)) S1 with
    | .ok .next σ3 S2 => .ok .next (σ3.set i .emp) S2
    | .ok (.ret w) σ3 S2 => .ok (.ret w) (σ3.set i .emp) S2
    | _ => .fail
  else .fail
noncomputable def catchM : List Hd → Exn → Sl → Sto → Res Fl
  | [], e, σ, S => .exc e σ S
  | (c, i, fs) :: r, e, σ, S => if excSub e.c c = true then suiteM i fs e σ S else catchM r e σ S
noncomputable def sTryM (rs : List String) (fb : DS) (hs : List Hd) : DS := fun σ S => match fb σ S with
  | .ok f σ1 S1 => .ok f σ1 S1
  | .exc e σ1 S1 => if e.c ∈ rs then catchM hs e σ1 S1 else .fail
  | .fail => .fail
theorem suiteM_ok {i : Nat} {fs : Addr → Addr → Exn → DS} {e : Exn} {σ1 σ2 : Sl} {S1 S2 : Sto} {f : Fl} (hf : f = .next ∨ ∃ w, f = .ret w) (h : ∀ a d, ∃ σ3, fs a d e (σ1.set i (exS a d e.x)) S1 = .ok f σ3 S2 ∧ σ3.set i .emp = σ2) : suiteM i fs e σ1 S1 = .ok f σ2 S2 := by
  unfold suiteM
  rw [if_pos ⟨f, σ2, S2, h⟩]
  obtain ⟨σ3, e3, q3⟩ := h 0 0
  rw [e3]
  rcases hf with rfl | ⟨w, rfl⟩
  · dsimp only; rw [q3]
  · dsimp only; rw [q3]
theorem RB.setXX {K : PySem.W.Frag} {F I : Hp} {ρ : List Addr} {S : Sto} {H : Hp} {σV : L2.St} {σ : Sl} (rb : RB K F I ρ S H σV σ) {i : Nat} {a d : Addr} {x : Option Int} (hx : ∀ n, x = some n → I d = some (.xd [(Str.ofString "at", .int n)])) : RB K F I ρ S H (σV.set i (some (.ref a))) (σ.set i (exS a d x)) := by
  cases x with
  | none => exact rb.setX (.inr ⟨a, rfl, rfl⟩)
  | some n =>
    have rb2 := rb.setX (i := i) (x := some (.ref a)) (sl := .exn a) (.inr ⟨a, rfl, rfl⟩)
    have get : ∀ {j : Nat} {s : Slot}, (σ.set i (.exx a d n))[j]? = some s → (j = i ∧ s = .exx a d n ∧ (σ.set i (.exn a))[j]? = some (.exn a)) ∨ (j ≠ i ∧ (σ.set i (.exn a))[j]? = some s) := fun {j s} h => by
      by_cases e : i = j
      · subst e
        have lt : i < (σ.set i (.exx a d n)).length := (List.getElem?_eq_some_iff.mp h).1
        rw [List.length_set] at lt
        rw [List.getElem?_set_self lt] at h
        cases h
        exact .inl ⟨rfl, rfl, List.getElem?_set_self lt⟩
      · rw [List.getElem?_set_ne e] at h
        exact .inr ⟨fun z => e z.symm, by rw [List.getElem?_set_ne e]; exact h⟩
    refine ⟨rb2.fr, rb2.sub, rb2.dis, rb2.store, rb2.nd, rb2.rl, by rw [← rb2.len, List.length_set, List.length_set], fun j s h => ?_, fun j k c c' u h1 h2 h3 h4 => ?_⟩
    · rcases get h with ⟨rfl, rfl, q⟩ | ⟨_, q⟩
      · exact ⟨rb2.slot _ _ q, hx n rfl⟩
      · exact rb2.slot j s q
    · rcases get h1 with ⟨_, z, _⟩ | ⟨_, q1⟩
      · cases z
      · rcases get h2 with ⟨_, z, _⟩ | ⟨_, q2⟩
        · cases z
        · exact rb2.inj j k c c' u q1 q2 h3 h4
section
variable {X : Cx} {Wx : WX} {fr : Bool}
inductive HdM (X : Cx) (fr : Bool) (rs : List String) : List ExceptHandler → List Hd → Prop
  | nil : HdM X fr rs [] []
  | cons {n : Str} {c : String} {cv : Value} {i : Nat} {fs : Addr → Addr → Exn → DS} {b₀ : Stmt} {suite : List Stmt} {np pos' : Pos} {hds : List ExceptHandler} {l : List Hd} (hc : Names X (Str.ofString c) cv) (hi : X.N[i]? = some n) (hln : X.env.kindOf n = some .local)
      (hx : ∀ r ∈ rs, PySem.W.exmOne X.K (.ref (ca X.K r)) cv = some (excSub r c))
      (hsu : ∀ (a d : Addr) (oe : Obj) (e : Exn) (pn : List (Addr × Obj)), e.c ∈ rs → Zc (.ref (ca X.K e.c)) (dO d e.x) oe → (∃ vs, oe.data = .fields vs) → SSs fr (X.suite a ((a, oe) :: pn)) W0 (b₀ :: suite) (fs a d e)) (r : HdM X fr rs hds l) :
      HdM X fr rs (.ExceptHandler (some (.Name (Str.ofString c) np)) (some n) (b₀ :: suite) pos' :: hds) ((c, i, fs) :: l)
def tsM (X : Cx) (fr : Bool) (rs : List String) (fs : Addr → Addr → Exn → DS) : Addr → Value → Option Addr → TS := fun a cls d D σ H => ∃ (e : Exn) (dd : Addr), e.c ∈ rs ∧ cls = .ref (ca X.K e.c) ∧ d = dO dd e.x ∧ semS fr X.K W0 (fs a dd e) D σ H
theorem HdM.a {rs : List String} {hds : List ExceptHandler} {l : List Hd} (h : HdM X fr rs hds l) : ∃ l' : List (Value × Nat × (Addr → Value → Option Addr → TS)), HdsA X hds l' ∧
    ∀ (F : Hp) (ρ : List Addr) (I : Hp) (S : Sto) (H : Hp) (σV : L2.St) (σ : Sl) (D : Ends) (e : Exn) (d : Option Addr), e.c ∈ rs → RB X.K F I ρ S H σV σ → ExcAt e d I → postS fr X.K Wx F I ρ (catchM l e σ S) D → wAll X.K Wx D l' (.ref (ca X.K e.c)) d σV H := by
  induction h with
  | nil => exact ⟨[], .nil, fun F ρ I S H σV σ D e d hr rb hd h => h I ρ H d σV Gr.refl rb hd⟩
  | @cons n c cv i fs b₀ suite np pos' hds l hc hi hln hx hsu r ih =>
    obtain ⟨l', hl, ih⟩ := ih
    refine ⟨(cv, i, tsM X fr rs fs) :: l', .cons hc hi hln (fun a oe cls d pn hz hv => ⟨fun pins s σ H D I h => ?_⟩) hl, fun F ρ I S H σV σ D e d hr rb hd h => ⟨excSub e.c c, hx _ hr, fun hb1 a na => ?_, fun hb1 => ?_⟩⟩
    · obtain ⟨e, dd, hr, rfl, rfl, h⟩ := h
      exact (hsu a dd oe e pn hr hz hv).run pins s σ H D I h
    · unfold catchM at h
      rw [if_pos hb1] at h
      unfold suiteM at h
      split at h
      · rename_i hall
        obtain ⟨f, σ2, S2, hall⟩ := hall
        obtain ⟨dd, ed, hI⟩ : ∃ dd, d = dO dd e.x ∧ ∀ n, e.x = some n → I dd = some (.xd [(Str.ofString "at", .int n)]) := by
          obtain ⟨ec, ex⟩ := e
          cases ex with
          | none => exact ⟨0, hd, fun n z => by cases z⟩
          | some n =>
            obtain ⟨dd, q1, q2⟩ := hd
            exact ⟨dd, q1, fun n z => by cases z; exact q2⟩
        obtain ⟨σ3, e3, q3⟩ := hall 0 0
        obtain ⟨σ4, e4, q4⟩ := hall a dd
        rw [e3] at h
        refine ⟨e, dd, hr, rfl, ed, F, I, ρ, _, S, rb.setXX hI, ?_⟩
        rw [e4]
        cases f with
        | next =>
          intro I2 ρ2 H2 σV2 g2 rb2
          refine h I2 ρ2 H2 (σV2.set i none) g2 ?_
          rw [q3, ← q4]
          exact rb2.setX (.inl rfl)
        | ret w =>
          intro I2 ρ2 H2 v g2 rb2 t
          exact h I2 ρ2 H2 v g2 rb2 t
        | brk => exact h.elim
        | cnt => exact h.elim
      · exact h.elim
    · unfold catchM at h
      rw [if_neg (by rw [hb1]; decide)] at h
      exact ih F ρ I S H σV σ D e d hr rb hd h
theorem cs_tryM {rs : List String} {body : List Stmt} {h₀ : ExceptHandler} {hds : List ExceptHandler} {l : List Hd} {pos : Pos} {fb : DS} (hs : X.stack = X.env :: X.outer) (hf : X.env.frame = some X.env.locals) (hN : X.N.Nodup) (tk : Tk false X Wx)
    (hb : ∀ (W : WX) (pn : List (Addr × Obj)) (xe : Value → Shared → Prop), Tk false (X.tr pn xe) W → PassesOwn (model X.prog X.w) X.A X.env xe → SSs fr (X.tr pn xe) W body fb) (hh : HdM X fr rs (h₀ :: hds) l) :
    SS fr X Wx (.Try body (h₀ :: hds) [] [] pos) (sTryM rs fb l) := by
  obtain ⟨l', hl, key⟩ := hh.a (Wx := Wx)
  refine PS.imp (ps_tryA (tb := fun W => semS fr X.K W fb) hs hf hN tk hb hl) fun D σV H h => ?_
  obtain ⟨F, I, ρ, σ, S, rb, h⟩ := h
  refine ⟨F, I, ρ, σ, S, rb, ?_⟩
  unfold sTryM at h
  cases hfb : fb σ S with
  | ok f σ1 S1 =>
    rw [hfb] at h
    cases f <;> exact h
  | fail => rw [hfb] at h; exact h
  | exc e σ1 S1 =>
    rw [hfb] at h
    dsimp only at h
    split at h
    · rename_i hr
      intro I' ρ' H' d σV' g rb' hd
      exact key F ρ' I' S1 H' σV' σ1 D e d hr rb' hd (postS_gr g h)
    · exact h.elim
end
def dIsX (a d : Addr) (i : Nat) (e : Exn) (c : String) : DE := fun σ S => match σ[i]?, e.x with
  | some (.exn b), none => if b = a then .ok (.bl (excSub e.c c)) σ S else .fail
  | some (.exx b d' n), some _ => if b = a ∧ d' = d then .ok (.bl (excSub e.c c)) σ S else .fail
  | _, _ => .fail
def dEAt (a d : Addr) (i : Nat) (e : Exn) (c : String) : DE := fun σ S => match σ[i]?, e.x with
  | some (.exx b d' n), some _ => if (b = a ∧ d' = d) ∧ e.c = c then .ok (.int n) σ S else .fail
  | _, _ => .fail
@[simp] theorem dIsX_at {a d : Addr} {i : Nat} {e : Exn} {c : String} {σ : Sl} {S : Sto} (h : σ[i]? = some (exS a d e.x)) : dIsX a d i e c σ S = .ok (.bl (excSub e.c c)) σ S := by
  unfold dIsX
  rw [h]
  cases e.x with
  | none => simp [exS]
  | some n => simp [exS]
def rIsX (K : PySem.W.Frag) (D a : Addr) (d : Option Addr) : List V → Hp → VK → Prop := fun xs H Q => ∃ (c : V) (cv : Value) (b : Bool), xs = [.ref a, c] ∧ (∀ u, RelV c u → u = cv) ∧ PySem.W.kitOne K (.ref D) cv = some b ∧ (∀ dd, d = some dd → ∃ fs, H dd = some (.xd fs)) ∧ Q (.bl b) H
theorem call_isX {X : Cx} {a D : Addr} {d : Option Addr} {oe : Obj} {pn : List (Addr × Obj)} (C : ExcC X.K D) (hz : Zc (.ref D) d oe) (hf : ∃ vs, oe.data = .fields vs) : CallR (X.suite a ((a, oe) :: pn)) (.builtin "isinstance") (rIsX X.K D a d) := by
  intro pins s σ H xs us Q I r h
  obtain ⟨c, cv, b, rfl, hcv, e, hdd, q⟩ := h
  cases r with
  | cons rx rr => cases rr with
    | cons rt rr =>
      cases rr
      cases rx
      have ec := hcv _ rt
      subst ec
      obtain ⟨hget, _⟩ := I.pin (a, oe) (List.mem_append.mpr (.inl List.mem_cons_self))
      obtain ⟨vs, hv⟩ := hf
      have cl : (PySem.W.clsIn X.K D).isSome = true := by
        obtain ⟨cd, hc, _⟩ := PySem.W.any_some C.hd
        rw [hc]; rfl
      obtain ⟨od, J⟩ : ∃ od, PySem.W.InstAt s.heap a oe D od := by
        cases d with
        | none => exact ⟨none, hget, hz.1, by unfold PySem.W.notCls; rw [hv] <;> rfl, by rw [hz.2]; trivial⟩
        | some dd =>
          obtain ⟨fs, ea⟩ := hdd dd rfl
          obtain ⟨mA, hns, hr⟩ := (show ObjOk X.prog X.w H s.heap dd (.xd fs) from I.hok dd _ ea)
          obtain ⟨od, ho, _⟩ := lookIn_ns hns
          exact ⟨some od, hget, hz.1, by unfold PySem.W.notCls; rw [hv] <;> rfl, by rw [hz.2]; exact ho⟩
      exact PySem.W.kia_one (PySem.W.kitx_exc cl C.hg C.hk C.hs C.ha C.hn C.ht C.hm) I.kIn J e (fun z => nomatch z) fun tk => ⟨.bl b, H, I.kept (t' := tk) fun _ _ z => z, rfl, q⟩
section
variable {X : Cx} {Wx : WX}
theorem sem_isX {a d : Addr} {i : Nat} {ex : Exn} {c : String} {cl : V} {cv : Value} {σV : L2.St} {H : Hp} {Q : VK} (hcv : ∀ u, RelV cl u → u = cv) (hk : PySem.W.kitOne X.K (.ref (ca X.K ex.c)) cv = some (excSub ex.c c)) (h : semE X.K Wx (dIsX a d i ex c) σV H Q) :
    tCB (rIsX X.K (ca X.K ex.c) a (dO d ex.x)) (tCons (tVar i) (tCons (tC cl) tNil)) σV H Q := by
  obtain ⟨F, I, ρ, σ, S, rb, h⟩ := h
  unfold dIsX at h
  split at h
  · rename_i b hb hx
    split at h
    · rename_i e
      subst e
      have hv : σV[i]? = some (some (.ref b)) := rb.slot i _ hb
      exact ⟨_, hv, cl, cv, _, rfl, hcv, hk, (fun dd z => by rw [hx] at z; cases z), h I ρ H _ Gr.refl rb (.inr .bl)⟩
    · exact h.elim
  · rename_i b d' n n' hb hx
    split at h
    · rename_i e
      obtain ⟨rfl, rfl⟩ := e
      obtain ⟨hv, hI⟩ := rb.slot i _ hb
      refine ⟨_, hv, cl, cv, _, rfl, hcv, hk, fun dd z => ?_, h I ρ H _ Gr.refl rb (.inr .bl)⟩
      rw [hx] at z
      cases z
      rcases rb.sub _ _ hI with q | ⟨q, _⟩
      · exact ⟨_, q⟩
      · exact q.elim
    · exact h.elim
  · exact h.elim
theorem c_isX {a d : Addr} {oe : Obj} {pn : List (Addr × Obj)} {i : Nat} {n : Str} {ex : Exn} {c : String} {p q q2 pos : Pos} (C : ExcC X.K (ca X.K ex.c)) (hz : Zc (.ref (ca X.K ex.c)) (dO d ex.x) oe) (hf : ∃ vs, oe.data = .fields vs) (hk : PySem.W.kitOne X.K (.ref (ca X.K ex.c)) (.ref (ca X.K c)) = some (excSub ex.c c))
    (hm : X.mg "isinstance" = none) (hc : X.mg (Str.ofString c) = some (.ref (ca X.K c))) (hN : X.N[i]? = some n := by rfl) (hv : Vis X.env.scope n := by first | exact Or.inl rfl | exact Or.inr (Or.inl rfl) | exact Or.inr (Or.inr rfl)) (hd : (n == ("__debug__" : Str)) = false := by decide) (hcd : (n == ("__classdict__" : Str)) = false := by decide)
    (hg : Gl X "isinstance" := by rfl) (hg2 : Gl X (Str.ofString c) := by rfl) (hdb : (Str.ofString c == ("__debug__" : Str)) = false := by decide)
    (he : starEach [.Name n q, .Name (Str.ofString c) q2] X.env = (false, eval (.Name n q) X.env) :: starEach [.Name (Str.ofString c) q2] X.env := by rfl) (hpl : (backTo pos (starEach [.Name (Str.ofString c) q2] X.env)).any (·.1) = false := by rfl) :
    SE (X.suite a ((a, oe) :: pn)) Wx (.Call (.Name "isinstance" p) [.Name n q, .Name (Str.ofString c) q2] [] pos) (dIsX a d i ex c) :=
  PE.imp (pe_callB (call_isX C hz hf) hg hm (by decide +kernel) (pa_cons (pe_var hN hv hd hcd) (pa_cons (pe_glob (v := .ref (ca X.K c)) hg2 hc rfl hdb) pa_nil) he) (by decide) (by decide) he hpl) fun _ _ _ h => sem_isX (X := X) (cv := .ref (ca X.K c)) (fun u ru => by cases ru; rfl) hk h
theorem c_isXb {a d : Addr} {oe : Obj} {pn : List (Addr × Obj)} {i : Nat} {n : Str} {ex : Exn} {c : String} {p q q2 pos : Pos} (C : ExcC X.K (ca X.K ex.c)) (hz : Zc (.ref (ca X.K ex.c)) (dO d ex.x) oe) (hf : ∃ vs, oe.data = .fields vs) (hk : PySem.W.kitOne X.K (.ref (ca X.K ex.c)) (.type c) = some (excSub ex.c c))
    (hm : X.mg "isinstance" = none) (hc : X.mg (Str.ofString c) = none) (hb : bootBuiltins (Str.ofString c) = some (.type c) := by decide +kernel) (hN : X.N[i]? = some n := by rfl) (hv : Vis X.env.scope n := by first | exact Or.inl rfl | exact Or.inr (Or.inl rfl) | exact Or.inr (Or.inr rfl)) (hd : (n == ("__debug__" : Str)) = false := by decide) (hcd : (n == ("__classdict__" : Str)) = false := by decide)
    (hg : Gl X "isinstance" := by rfl) (hg2 : Gl X (Str.ofString c) := by rfl) (hn : (Str.ofString c) ≠ "__name__" := by decide) (hdb : (Str.ofString c == ("__debug__" : Str)) = false := by decide)
    (he : starEach [.Name n q, .Name (Str.ofString c) q2] X.env = (false, eval (.Name n q) X.env) :: starEach [.Name (Str.ofString c) q2] X.env := by rfl) (hpl : (backTo pos (starEach [.Name (Str.ofString c) q2] X.env)).any (·.1) = false := by rfl) :
    SE (X.suite a ((a, oe) :: pn)) Wx (.Call (.Name "isinstance" p) [.Name n q, .Name (Str.ofString c) q2] [] pos) (dIsX a d i ex c) :=
  PE.imp (pe_callB (call_isX C hz hf) hg hm (by decide +kernel) (pa_cons (pe_var hN hv hd hcd) (pa_cons (pe_bltn (v := .ty c) hg2 hc hb rfl hn hdb) pa_nil) he) (by decide) (by decide) he hpl) fun _ _ _ h => sem_isX (X := X) (cv := .type c) (fun u ru => by cases ru; rfl) hk h
theorem c_eAt {a d : Addr} {oe : Obj} {pn : List (Addr × Obj)} {i : Nat} {n : Str} {ex : Exn} {c : String} {q pos : Pos} (C : ExcC X.K (ca X.K c)) (hno : NoAttr X.K (ca X.K c) "at") (hz : Zc (.ref (ca X.K ex.c)) (dO d ex.x) oe) (hf : ∃ vs, oe.data = .fields vs)
    (hN : X.N[i]? = some n := by rfl) (hv : Vis X.env.scope n := by first | exact Or.inl rfl | exact Or.inr (Or.inl rfl) | exact Or.inr (Or.inr rfl)) (hd : (n == ("__debug__" : Str)) = false := by decide) (hcd : (n == ("__classdict__" : Str)) = false := by decide) (hb : attributeBase (.Name n q) (Str.ofString "at") X.env (eval (.Name n q) X.env) = eval (.Name n q) X.env := by rfl) :
    SE (X.suite a ((a, oe) :: pn)) Wx (.Attribute (.Name n q) (Str.ofString "at") pos) (dEAt a d i ex c) := by
  refine PE.imp (pe_xf (C := ca X.K c) ⟨C.hg, C.hk, C.hs, C.hd⟩ hno hz hf (pe_var hN hv hd hcd) hb) fun σV H Q h => ?_
  obtain ⟨F, I, ρ, σ, S, rb, h⟩ := h
  unfold dEAt at h
  split at h
  · rename_i b d' n n' hb hx
    split at h
    · rename_i e
      obtain ⟨⟨rfl, rfl⟩, rfl⟩ := e
      obtain ⟨hv, hI⟩ := rb.slot i _ hb
      rcases rb.sub _ _ hI with q | ⟨q, _⟩
      · exact ⟨_, hv, rfl, rfl, d', _, .int n, by rw [hx]; rfl, q, by simp [List.lookup], h I ρ H _ Gr.refl rb (.inr .int)⟩
      · exact q.elim
    · exact h.elim
  · exact h.elim
end
end MR
set_option Elab.async false
set_option linter.all false
set_option maxRecDepth 100000
namespace MR
open PySem PySem.Spec PyProof.Rows L2 L2H HotX
structure FnW (P : Program) (w : World) (K : PySem.W.Frag) (mg : Str → Option Value) (base : Heap) (CX : CXT) (k : Nat) (f : Addr) (fd : FuncData) (ps : List Str) (sp : Sp) : Prop where
  len : ∀ vs H Q E, sp vs H Q E → vs.length = ps.length
  run : ∀ (A : Around) (outer : List Env) (s : Shared) (H : Hp) (args : Args) (us : List Value) (vs : List V) (Q : VK) (E : XK) (p : Addr × Obj), RoomH k A → PinOk outer H s p → Env0 P w K mg base A outer s H → BindsTo s fd args (ps.zip us) → Vals vs us → sp vs H Q E →
    codeAny (model P w) A (.call (.ref f) args) (CR CX outer P w H s Q E) s
theorem fn_ofW {CX : CXT} {P : Program} {w : World} {K : PySem.W.Frag} {mg : Str → Option Value} {base : Heap} {k : Nat} {f : Addr} {name qual : Str} {params : Arguments} {body : List Stmt} {scope : Scope} {dV kV doc pm cdv ct oc : Value} {an od : Option Addr}
    {osl : Array (Option Value)} {N ps : List Str} {sp : Sp} (lk : K.lookup f = some ⟨oc, od, .func (PySem.W.fnOf name qual params body scope dV kV doc pm an cdv ct), osl⟩) (hcd : PySem.W.codeIn K cdv qual = true) (S : FnScope N ps scope) (len : ∀ vs H Q E, sp vs H Q E → vs.length = ps.length)
    (hbody : ∀ (A : Around) (outer : List Env) (s : Shared) (H : Hp) (vs : List V) (Q : VK) (E : XK) (p : Addr × Obj), sp vs H Q E → ∃ t, PSs (cxH CX P w K mg base N qual scope f cdv A outer s H E p) body t ∧ t { nx := fun _ H' => Q .non H', rt := Q } (L2.start N vs) H) :
    FnW P w K mg base CX (k + 1) f (PySem.W.fnOf name qual params body scope dV kV doc pm an cdv ct) ps sp := by
  refine ⟨len, fun A outer s H args us vs Q E p hr hpin e0 hb r hsp => ?_⟩
  have hl := len _ _ _ _ hsp
  have KX : K.In s.heap := e0.mod.kin.keeps fun b o e => (e0.bs b o e).1
  have lim : s.heap.NoLimit := e0.mod.nolimit.keeps fun b o e => (e0.bs b o e).1
  have kd : ∀ y ∈ ps.zip us, scope.names.lookup y.1 = some .local ∨ (scope.names.lookup y.1 = some .cell ∧ ((cellsFrom (s.heap.objs.size + 1) scope.names []).lookup y.1).isSome = true) := fun ⟨n, v⟩ hy =>
    (S.par n (List.of_mem_zip hy).1).elim (fun q => .inl q) fun q => .inr ⟨q, PySem.W.cellsFrom_some _ _ _ (.inl q)⟩
  refine codeAny_call_function hr.depth (KX _ _ lk) rfl S.co S.gen rfl (PySem.W.codeRec_of KX hcd) (hb _ _ _ _ ?_)
  refine wpAny_newFunctionEnv_cells S.kind kd fun env he s1 x => ?_
  subst he
  refine ⟨lim.keeps x.toInCall.keep, codeAny_func ?_⟩
  obtain ⟨t, ht, hq⟩ := hbody A outer s H vs Q E p hsp
  have I := inv_startH (CX := CX) (w := w) (E := E) S hpin e0 hl r x
  refine wpAny_mono (ht.run [] s1 (L2.start N vs) H _ I hq) (fun fl s' hs => ?_) fun e s' hs => hs
  cases fl with
  | ret u =>
    obtain ⟨v, σ', H', J, rv, q⟩ := hs
    exact ⟨v, H', J.os, J.bare, J.base, J.hok, rv, q⟩
  | next =>
    obtain ⟨σ', H', J, q⟩ := hs
    exact ⟨.non, H', J.os, J.bare, J.base, J.hok, rfl, q⟩
  | brk =>
    obtain ⟨_, _, _, q⟩ := hs
    exact False.elim q
  | cont =>
    obtain ⟨_, _, _, q⟩ := hs
    exact False.elim q
structure FnHot (kb : Bool) (P : Program) (w : World) (K : PySem.W.Frag) (mg : Str → Option Value) (base : Heap) (x : Str) (k n : Nat) (d : Den) : Prop where
  ex : ∃ (f : Addr) (fd : FuncData) (ps : List Str), mg x = some (.ref f) ∧ PySem.W.keepIn K (.ref f) = true ∧ Binds K fd ps [] ∧ ps.length = n ∧ FnW P w K mg base (CXk kb P w) k f fd ps (spD false K n d)
theorem hot_mk {kb : Bool} {P : Program} {w : World} {K : PySem.W.Frag} {mg : Str → Option Value} {base : Heap} {x y : Str} {params : Arguments} {body : List Stmt} {scope : Scope} {f : Addr} {fd : FuncData} {N ps : List Str} {k n m : Nat} {d : DS}
    (FD : FunD K y y params body scope [] [] f fd) (hm : mg x = some (.ref f)) (S : FnScope N ps scope) (hn : N.length = n) (hp : ps.length = m)
    (hbind : ∀ (kV doc pm : Value) (an : Option Addr) (cdv ct : Value) (us : List Value), us.length = ps.length → bindArgs (PySem.W.fnOf y y params body scope .none kV doc pm an cdv ct) ⟨us, []⟩ = pure (ps.zip us))
    (hb : ∀ (cdv : Value) (A : Around) (outer : List Env) (s : Shared) (H : Hp) (E : XK) (p : Addr × Obj), SSs false (cxH (CXk kb P w) P w K mg base N y scope f cdv A outer s H E p) (fun cls d _ H => E cls d H) body d) : FnHot kb P w K mg base x (k + 1) m (dDef n d) := by
  subst hp
  refine ⟨f, fd, ps, hm, FD.kp, FD.bindsN hbind, rfl, ?_⟩
  obtain ⟨oc, od, dV, kV, doc, pm, an, cdv, ct, osl, rfl, lk, hcd, _, _⟩ := FD.ex
  refine fn_ofW lk hcd S (fun vs H Q E h => h.1) fun A outer s H vs Q E p h => ?_
  obtain ⟨hl, F0, I, ρ, S0, ws, rb, r, h⟩ := h
  refine ⟨_, hb cdv A outer s H E p, F0, I, ρ, _, S0, rb.start r N, ?_⟩
  unfold dDef at h
  rw [hn]
  cases e : d (ws.map Slot.val ++ List.replicate (n - ws.length) .emp) S0 with
  | ok a σ' S' =>
    rw [e] at h
    cases a with
    | next => exact fun I' ρ' H' σV' g rb' => h I' ρ' H' .non g rb'.drop .non
    | ret w => exact h
    | brk => exact h.elim
    | cnt => exact h.elim
  | exc a σ' S' =>
    rw [e] at h
    exact fun I' ρ' H' d σV' g rb' he => h I' ρ' H' d g rb'.drop he
  | fail => rw [e] at h; exact h
section
variable {X : Cx} {CX : CXT} {k : Nat} {f : Addr} {fd : FuncData} {ps : List Str} {sp : Sp} {E : L2.St → XK} {x : Str} {q pos : Pos} {e : Expr} {es : List Expr} {t : TA}
theorem pe_callW {p : Addr × Obj} (F : FnW X.prog X.w X.K X.mg X.base CX k f fd ps sp) (hr : RoomH k X.A) (hpn : p ∈ X.pn) (hg : Gl X x) (hm : X.mg x = some (.ref f)) (hk : PySem.W.keepIn X.K (.ref f) = true) (hb : Binds X.K fd ps []) (hx : ∀ σ, PassesAt CX X σ (E σ))
    (ha : PA X (e :: es) t) (hdb : (x == ("__debug__" : Str)) = false := by decide) (he : starEach (e :: es) X.env = (false, eval e X.env) :: starEach es X.env := by rfl) (hpl : (backTo pos (starEach es X.env)).any (·.1) = false := by rfl) :
    PE X (.Call (.Name x q) (e :: es) [] pos) (tCallS sp E t) := by
  refine ⟨fun pins s σ H Q I h => ?_⟩
  refine wpAny_Call_Name_kw (ld_glob I hg hm ?_ hdb)
  refine PySem.W.callWith_K (h₀ := X.base) I.ok.mod.kin hk (thn (ha.run pos pins s σ H _ I h) fun us s1 ⟨vs, H1, I1, r, q⟩ => ⟨I1.kIn, ?_⟩) he hpl
  have hl : us.length = ps.length := by rw [← r.length]; exact F.len _ _ _ _ q
  have b := hb s1 us I1.kIn (by rw [List.append_nil]; exact hl)
  rw [List.append_nil] at b
  have P1 := I1.pin p (List.mem_append_left _ hpn)
  have pin : PinOk X.stack H1 s1 p := ⟨P1.1, P1.2.1, fun hm => (List.mem_cons.mp (I1.stkSub p.1 hm)).elim P1.2.2.1 P1.2.2.2.1, P1.2.2.2.2⟩
  refine wpAny_call (codeAny_mono (F.run X.A X.stack s1 H1 ⟨us, []⟩ us vs Q (E σ) p hr pin I1.env0 b r q) fun r s' hq => ?_)
  cases r with
  | error e => exact hx σ pins H1 s1 e s' I1 hq
  | ok fl =>
    cases fl with
    | ret u => exact I1.after hq
    | next => exact False.elim hq
    | brk => exact False.elim hq
    | cont => exact False.elim hq
end
theorem os_eqF {K : PySem.W.Frag} : OpS K rEq opEq := by
  intro F I ρ S H σV σ v1 v2 a b z Q rb h1 h2 ez q
  unfold opEq at ez
  split at ez
  · cases h1; cases h2; cases ez
    exact ⟨rfl, by simpa using q I H _ Gr.refl rb .bl⟩
  · cases h1; cases h2; cases ez
    exact ⟨rfl, by simpa using q I H _ Gr.refl rb .bl⟩
  · cases h1; cases h2; cases ez
    exact ⟨rfl, by simpa using q I H _ Gr.refl rb .bl⟩
  · cases ez
section
variable {X : Cx}
theorem c_callW {kb : Bool} {a : Addr} {oe : Obj} {pn : List (Addr × Obj)} {x : Str} {k m n : Nat} {d : Den} {e : Expr} {es : List Expr} {r : DA} {p pos : Pos} (C : FnHot kb X.prog X.w X.K X.mg X.base x k n d) (hr : Room m X.A) (hkm : k ≤ m) (ha : SA (X.suite a ((a, oe) :: pn)) W0 (e :: es) r) (hn : (e :: es).length = n := by rfl) (hg : Gl X x := by rfl) (hdb : (x == ("__debug__" : Str)) = false := by decide)
    (he : starEach (e :: es) X.env = (false, eval e X.env) :: starEach es X.env := by rfl) (hpl : (backTo pos (starEach es X.env)).any (·.1) = false := by rfl) (hlen : ∀ σ S ws σ' S', r σ S = .ok ws σ' S' → ws.length = n) : SV (X.suite a ((a, oe) :: pn)) W0 (.Call (.Name x p) (e :: es) [] pos) (dCall d r) := by
  obtain ⟨f, fd, ps, hm, hk, hb, hp, ok⟩ := C.ex
  refine PE.imp (pe_callW (X := X.suite a ((a, oe) :: pn)) (p := (a, oe)) (E := WE W0) ok (roomH_mark (hr.mono hkm) _) List.mem_cons_self hg hm hk hb (passK (X := X.suite a ((a, oe) :: pn)) takes0K rfl) ha hdb he hpl) fun σV H Q h => ?_
  obtain ⟨F, I, ρ, σ, S, rb, h⟩ := h
  refine ⟨F, I, ρ, σ, S, rb, post_bind h fun I1 ρ1 σ1 S1 H1 ws vs er g1 rb1 t1 h1 => ?_⟩
  exact post_call rb1 t1 (by rw [t1.length]; exact hlen _ _ _ _ _ er) h1
end
end MR
set_option Elab.async false
set_option linter.all false
set_option maxRecDepth 100000
namespace MR
open PySem
noncomputable section
def le_number_of_v2_1 : DE := (d2 opIn (dVar 1) (dC (.str "0123456789")))
def b_number_of_v2 : DS := (sSeq (sIf (tOr (tNot (tVal (dChain opLe opLe (dC (.int 1)) (d1 opLen (dVar 0)) (dC (.int 6))))) (tNot (tVal (d1 opAll (dLc (iStr (dVar 0)) (gN 1) tTrue le_number_of_v2_1 [1]))))) (sRaiseI "NoText" (dC (.int 1))) sNil) (sSeq (sIf (tAnd (tVal (d2 opGt (d1 opLen (dVar 0)) (dC (.int 1)))) (tVal (d2 opEq' (d2 opIx (dVar 0) (dC (.int 0))) (dC (.str "0"))))) (sRaiseI "NoText" (dC (.int 1))) sNil) (sRet (d1 opIntS (dVar 0)))))
def m_number_of_v2 : Den := dDef 2 b_number_of_v2
def b_thing_of_v2 : DS := (sSeq (sIf (tVal (d2 opIn (dVar 1) (dC (.tup [.str "day", .str "acres", .str "service"])))) (sRet (dCall m_number_of_v2 (aCons (dVar 0) aNil))) sNil) (sSeq (sIf (tAnd (tVal (d2 opEq' (dVar 1) (dC (.str "crowned")))) (tVal (d2 opEq' (dVar 0) (dC (.str "-"))))) (sRet (dC (.str ""))) sNil) (sSeq (sIf (tVal (d2 opEq' (dVar 0) (dC (.str "")))) (sRaiseI "NoText" (dC (.int 1))) sNil) (sRet (dVar 0)))))
def m_thing_of_v2 : Den := dDef 2 b_thing_of_v2
def le_read_row_v2_1 : DE := (dCall m_thing_of_v2 (aCons (dVar 5) (aCons (dVar 4) aNil)))
def tb_read_row_v2_2 : DS := (sExpr (dCall m_check_row (aCons (dVar 3) aNil)))
def b_read_row_v2 : DS := (sSeq (sSet 1 (dS1 opSplit (dVar 0) (dC (.str " ")))) (sSeq (sSet 2 (dTabGet tab_SHAPES (d2 opIx (dVar 1) (dC (.int 0))) (dTup aNil))) (sSeq (sIf (tOr (tVal (d2 opEq' (d1 opLenC (dVar 2)) (dC (.int 0)))) (tVal (d2 opNe' (d1 opLen (dVar 1)) (d2 opAdd (dC (.int 1)) (d1 opLenC (dVar 2)))))) (sRaiseI "NoText" (dC (.int 1))) sNil) (sSeq (sSet 3 (d1 opTuple (d2 opAdd (dLst (aCons (d2 opIx (dVar 1) (dC (.int 0))) aNil)) (dLcX (iZipX (dSl (dVar 1) (oSome (dC (.int 1))) oNone) (dVar 2)) (gT 2 (gsCons (gN 5) (gsCons (gN 4) gsNil))) le_read_row_v2_1 [5, 4])))) (sSeq (sTryX ["NoForm"] tb_read_row_v2_2 "NoForm" "NoText" (dC (.int 1))) (sRet (dVar 3)))))))
def m_read_row_v2 : Den := dDef 6 b_read_row_v2
def b__law_same_hot : DS := (sSeq (sIf (tVal (dIsN (dV (dVar 1)))) sFail sNil) (sSeq (sIf (tVal (d1 (opIsi .bool) (dVar 1))) sFail sNil) (sSeq (sIf (tVal (d1 (opIsi .tuple) (dVar 1))) (sSeq sFail sFail) sNil) (sSeq (sIf (tVal (d1 (opIsi .list) (dVar 1))) (sSeq sFail sFail) sNil) (sSeq (sIf (tVal (d1 (opIsi .str) (dVar 1))) sFail sNil) (sRet (vAnd (d1 (opIsi .int) (dVar 0)) (vAnd (vNot (d1 (opIsi .bool) (dVar 0))) (d2 opEq (dVar 0) (dVar 1))))))))))
def m__law_same_hot : Den := dDef 4 b__law_same_hot
def le__law_number_1 : DE := (d2 opIn (dVar 1) (dC (.str "0123456789")))
def b__law_number : DS := (sSeq (sIf (tOr (tNot (tVal (dChain opLe opLe (dC (.int 1)) (d1 opLen (dVar 0)) (dC (.int 6))))) (tNot (tVal (d1 opAll (dLc (iStr (dVar 0)) (gN 1) tTrue le__law_number_1 [1]))))) (sRet (dNeg (dC (.int 1)))) sNil) (sSeq (sIf (tAnd (tVal (d2 opGt (d1 opLen (dVar 0)) (dC (.int 1)))) (tVal (d2 opEq' (d2 opIx (dVar 0) (dC (.int 0))) (dC (.str "0"))))) (sRet (dNeg (dC (.int 1)))) sNil) (sRet (d1 opIntS (dVar 0)))))
def m__law_number : Den := dDef 2 b__law_number
def fb__law_read_1 : DS := (sIf (tVal (d2 opIn (dVar 5) (dC (.str "das")))) (sExpr (dMeth isLst kApp (dVar 3) (aCons (dCall m__law_number (aCons (dVar 4) aNil)) aNil))) (sIf (tAnd (tVal (d2 opEq' (dVar 5) (dC (.str "c")))) (tVal (d2 opEq' (dVar 4) (dC (.str "-"))))) (sExpr (dMeth isLst kApp (dVar 3) (aCons (dC (.str "")) aNil))) (sIf (tVal (d2 opEq' (dVar 4) (dC (.str "")))) (sRet (dC .non)) (sExpr (dMeth isLst kApp (dVar 3) (aCons (dVar 4) aNil))))))
def b__law_read : DS := (sSeq (sSet 1 (dS1 opSplit (dVar 0) (dC (.str " ")))) (sSeq (sSet 2 (dMeth isDct kGet (dCall0 m__law_shapes) (aCons (d2 opIx (dVar 1) (dC (.int 0))) (aCons (dC (.str "?")) aNil)))) (sSeq (sIf (tOr (tVal (d2 opEq' (dVar 2) (dC (.str "?")))) (tVal (d2 opNe' (d1 opLen (dVar 1)) (d2 opAdd (dC (.int 1)) (d1 opLen (dVar 2)))))) (sRet (dC .non)) sNil) (sSeq (sSetO 3 (dLst (aCons (d2 opIx (dVar 1) (dC (.int 0))) aNil))) (sSeq (sFor (iZipX (dSl (dVar 1) (oSome (dC (.int 1))) oNone) (dVar 2)) (gT 2 (gsCons (gN 4) (gsCons (gN 5) gsNil))) fb__law_read_1) (sSeq (sIf (tNot (tVal (dCall m__law_good (aCons (d1 opTuple (dVar 3)) aNil)))) (sRet (dC .non)) sNil) (sRet (d1 opTuple (dVar 3)))))))))
def m__law_read : Den := dDef 6 b__law_read
def b__law_sign_of : DS := (sSeq (sSet 1 (dC (.str " -0123456789abcdefghijklmnopqrstuvwxyzAZ/.,~\n"))) (sRet (d2 opIx (dVar 1) (d2 opMod (dVar 0) (d1 opLen (dVar 1))))))
def m__law_sign_of : Den := dDef 2 b__law_sign_of
def b__law_bent_text : DS := (sSeq (sSet 2 (d2 opMod (d2 opIx (dVar 1) (dC (.int 1))) (d2 opAdd (d1 opLen (dVar 0)) (dC (.int 1))))) (sSeq (sSet 3 (dS1 opSplit (dVar 0) (dC (.str " ")))) (sSeq (sSet 4 (d2 opMod (d2 opIx (dVar 1) (dC (.int 1))) (d1 opLen (dVar 3)))) (sSeq (sSet 5 (d2 opMod (d2 opIx (dVar 1) (dC (.int 0))) (dC (.int 8)))) (sSeq (sIf (tVal (d2 opEq' (dVar 5) (dC (.int 0)))) (sRet (d2 opAdd (d2 opAdd (dSl (dVar 0) oNone (oSome (dVar 2))) (dCall m__law_sign_of (aCons (d2 opIx (dVar 1) (dC (.int 2))) aNil))) (dSl (dVar 0) (oSome (dVar 2)) oNone))) sNil) (sSeq (sIf (tVal (d2 opEq' (dVar 5) (dC (.int 1)))) (sRet (d2 opAdd (dSl (dVar 0) oNone (oSome (dVar 2))) (dSl (dVar 0) (oSome (d2 opAdd (dVar 2) (dC (.int 1)))) oNone))) sNil) (sSeq (sIf (tVal (d2 opEq' (dVar 5) (dC (.int 2)))) (sRet (d2 opAdd (d2 opAdd (dSl (dVar 0) oNone (oSome (dVar 2))) (dCall m__law_sign_of (aCons (d2 opIx (dVar 1) (dC (.int 2))) aNil))) (dSl (dVar 0) (oSome (d2 opAdd (dVar 2) (dC (.int 1)))) oNone))) sNil) (sSeq (sIf (tVal (d2 opEq' (dVar 5) (dC (.int 3)))) (sSeq (sSet 6 (dLst (aCons (dC (.str "")) (aCons (dC (.str "-")) (aCons (dC (.str "00")) (aCons (dC (.str "10000")) (aCons (dC (.str "0")) (aCons (dC (.str "1000000")) (aCons (dC (.str "Ann")) (aCons (dC (.str "grant")) (aCons (dC (.str "abcdefghi")) (aCons (d2 opIx (dVar 3) (d2 opMod (d2 opIx (dVar 1) (dC (.int 3))) (d1 opLen (dVar 3)))) (aCons (dC (.str "007")) aNil))))))))))))) (sRet (dS1 opJoin (dC (.str " ")) (d2 opAdd (d2 opAdd (dSl (dVar 3) oNone (oSome (dVar 4))) (dLst (aCons (d2 opIx (dVar 6) (d2 opMod (d2 opIx (dVar 1) (dC (.int 2))) (d1 opLen (dVar 6)))) aNil))) (dSl (dVar 3) (oSome (d2 opAdd (dVar 4) (dC (.int 1)))) oNone))))) sNil) (sSeq (sIf (tVal (d2 opEq' (dVar 5) (dC (.int 4)))) (sRet (dS1 opJoin (dC (.str " ")) (d2 opAdd (dSl (dVar 3) oNone (oSome (dVar 4))) (dSl (dVar 3) (oSome (d2 opAdd (dVar 4) (dC (.int 1)))) oNone)))) sNil) (sSeq (sIf (tVal (d2 opEq' (dVar 5) (dC (.int 5)))) (sRet (dS1 opJoin (dC (.str " ")) (d2 opAdd (d2 opAdd (dSl (dVar 3) oNone (oSome (dVar 4))) (dSl (dVar 3) (oSome (dVar 4)) (oSome (d2 opAdd (dVar 4) (dC (.int 1)))))) (dSl (dVar 3) (oSome (dVar 4)) oNone)))) sNil) (sSeq (sIf (tVal (d2 opEq' (dVar 5) (dC (.int 6)))) (sRet (d2 opAdd (dVar 0) (d2 opIx (dLst (aCons (dC (.str "\n")) (aCons (dC (.str " ")) (aCons (dC (.str "  x")) (aCons (dC (.str "")) aNil))))) (d2 opMod (d2 opIx (dVar 1) (dC (.int 2))) (dC (.int 4)))))) sNil) (sRet (dVar 0)))))))))))))
def m__law_bent_text : Den := dDef 7 b__law_bent_text
end
end MR
set_option Elab.async false
set_option linter.all false
set_option maxRecDepth 100000
namespace MR
open PySem
noncomputable section
def tb__law_why_text_1 : DS := (sSet 2 (dCall m_read_row_v2 (aCons (dVar 0) aNil)))
def th__law_why_text_2 : Addr → Addr → Exn → DS := (fun xa xd ex => (sSeq (sSetO 1 (dLst (aCons (dIsX xa xd 3 ex "LandError") (aCons (dIsX xa xd 3 ex "ValueError") (aCons (dIsX xa xd 3 ex "NoForm") (aCons (dIsX xa xd 3 ex "NoEntry") aNil)))))) (sExpr (dMeth isLst kApp (dVar 1) (aCons (dCall m__law_same_hot (aCons (dEAt xa xd 3 ex "NoText") (aCons (dC (.int 1)) aNil))) aNil)))))
def b__law_why_text : DS := (sSeq (sSetO 1 (dLst aNil)) (sSeq (sSet 2 (dC .non)) (sSeq (sTryM ["NoForm", "NoText"] tb__law_why_text_1 [("NoText", 3, th__law_why_text_2)]) (sRet (dTup (aCons (dVar 1) (aCons (dVar 2) aNil)))))))
def m__law_why_text : Den := dDef 4 b__law_why_text
def fb_law_1 : DS := (sSet 4 (dCall m__law_bent_text (aCons (dVar 4) (aCons (dSl (dVar 1) (oSome (d2 opAdd (d2 opAdd (dC (.int 64)) (d2 opMul' (dC (.int 10)) (dVar 3))) (d2 opMul' (dC (.int 5)) (dVar 5)))) oNone) aNil))))
def fb_law_2 : DS := (sSeq (sSet 4 (dCall m__law_text_of (aCons (dCall m__law_any_row (aCons (dSl (dVar 1) (oSome (d2 opAdd (dC (.int 8)) (d2 opMul' (dC (.int 16)) (dVar 3)))) oNone) (aCons (dVar 2) aNil))) aNil))) (sSeq (sFor (iRan1 (d2 opIx (dLst (aCons (dC (.int 0)) (aCons (dC (.int 1)) (aCons (dC (.int 1)) (aCons (dC (.int 1)) (aCons (dC (.int 2)) aNil)))))) (d2 opMod (d2 opIx (dVar 1) (d2 opAdd (dC (.int 60)) (dVar 3))) (dC (.int 5))))) (gN 5) fb_law_1) (sSeq (sSet 6 (dCall m__law_read (aCons (dVar 4) aNil))) (sSeq (sAsg (gT 2 (gsCons (gN 7) (gsCons (gN 8) gsNil))) (dCall m__law_why_text (aCons (dVar 4) aNil))) (sSeq (sIf (tAnd (tVal (dIsN (dV (dVar 6)))) (tVal (d2 opNe' (dVar 7) (dLst (aCons (dC (.bl true)) (aCons (dC (.bl true)) (aCons (dC (.bl false)) (aCons (dC (.bl false)) (aCons (dC (.bl true)) aNil))))))))) (sRet (dC (.bl false))) sNil) (sIf (tAnd (tVal (dNotN (dV (dVar 6)))) (tOr (tVal (d2 opNe' (dVar 7) (dLst aNil))) (tNot (tVal (dCall m__law_same (aCons (dVar 8) (aCons (dVar 6) aNil))))))) (sRet (dC (.bl false))) sNil))))))
def b_law : DS := (sSeq (sSet 1 (dCall m__law_feed (aCons (dVar 0) (aCons (dC (.int 120)) aNil)))) (sSeq (sSet 2 (dCall m__law_names (aCons (dSl (dVar 1) (oSome (dC (.int 1))) oNone) (aCons (dC (.int 7)) aNil)))) (sSeq (sFor (iRan1 (dC (.int 3))) (gN 3) fb_law_2) (sRet (dC (.bl true))))))
def m_law : Den := dDef 9 b_law
end
end MR
set_option Elab.async false
set_option linter.all false
set_option maxRecDepth 100000
namespace MR
open PySem
section
variable {σ : Sl} {S : Sto} {i j : Int} {x y : Str} {a b w : D}
@[simp] theorem dVar_val {n : Nat} (h : σ[n]? = some (.val w)) : dVar n σ S = .ok w σ S := by unfold dVar; rw [h]
@[simp] theorem dVar_own {n : Nat} (h : σ[n]? = some (.own w)) : dVar n σ S = .ok (.loc n) σ S := by unfold dVar; rw [h]
@[simp] theorem dC_ok : dC w σ S = .ok w σ S := rfl
@[simp] theorem deref_non : deref σ S .non = some .non := rfl
@[simp] theorem deref_bl {b : Bool} : deref σ S (.bl b) = some (.bl b) := rfl
@[simp] theorem deref_int : deref σ S (.int i) = some (.int i) := rfl
@[simp] theorem deref_str : deref σ S (.str x) = some (.str x) := rfl
@[simp] theorem deref_tup {l : List D} : deref σ S (.tup l) = some (.tup l) := rfl
@[simp] theorem deref_lst {l : List D} : deref σ S (.lst l) = some (.lst l) := rfl
@[simp] theorem deref_dK {l : List (Kk × D)} : deref σ S (.dK l) = some (.dK l) := rfl
@[simp] theorem deref_dT {l : List (List Kk × D)} : deref σ S (.dT l) = some (.dT l) := rfl
@[simp] theorem deref_scr {l : List Int} : deref σ S (.scr l) = some (.scr l) := rfl
@[simp] theorem deref_loc {n : Nat} (h : σ[n]? = some (.own w)) : deref σ S (.loc n) = some w := by unfold deref; simp only; rw [h]
@[simp] theorem frz_non : frz .non σ S = .ok .non σ S := rfl
@[simp] theorem frz_bl {b : Bool} : frz (.bl b) σ S = .ok (.bl b) σ S := rfl
@[simp] theorem frz_int : frz (.int i) σ S = .ok (.int i) σ S := rfl
@[simp] theorem frz_str : frz (.str x) σ S = .ok (.str x) σ S := rfl
@[simp] theorem frz_tup {l : List D} : frz (.tup l) σ S = .ok (.tup l) σ S := rfl
@[simp] theorem frz_lst {l : List D} : frz (.lst l) σ S = .ok (.lst l) σ S := rfl
@[simp] theorem frz_dK {l : List (Kk × D)} : frz (.dK l) σ S = .ok (.dK l) σ S := rfl
@[simp] theorem frz_dT {l : List (List Kk × D)} : frz (.dT l) σ S = .ok (.dT l) σ S := rfl
@[simp] theorem frz_scr {l : List Int} : frz (.scr l) σ S = .ok (.scr l) σ S := rfl
@[simp] theorem frz_obj {r : Nat} : frz (.obj r) σ S = .ok (.obj r) σ S := rfl
@[simp] theorem frz_loc {n : Nat} (h : σ[n]? = some (.own w)) : frz (.loc n) σ S = .ok w (σ.set n (.val w)) S := by unfold frz; simp only; rw [h]
@[simp] theorem ofOpt_some {α : Type} {c : α} : ofOpt (some c) σ S = .ok c σ S := rfl
@[simp] theorem opAdd_int : opAdd (.int i) (.int j) = some (.int (i + j)) := rfl
@[simp] theorem opAdd_str (h : x.length + y.length ≤ most) : opAdd (.str x) (.str y) = some (.str (x ++ y)) := if_pos h
@[simp] theorem opAdd_lst {l m : List D} (h : l.length + m.length ≤ most) : opAdd (.lst l) (.lst m) = some (.lst (l ++ m)) := if_pos h
@[simp] theorem opAdd_tup {l m : List D} (h : l.length ≠ 0 ∧ m.length ≠ 0 ∧ l.length + m.length ≤ most) : opAdd (.tup l) (.tup m) = some (.tup (l ++ m)) := if_pos h
@[simp] theorem opSub_int : opSub (.int i) (.int j) = some (.int (i - j)) := rfl
@[simp] theorem opMul_int (h : mulOk i j) : opMul' (.int i) (.int j) = some (.int (i * j)) := if_pos h
@[simp] theorem opMod_int (h : 0 < j) : opMod (.int i) (.int j) = some (.int (i % j)) := if_pos h
@[simp] theorem opDiv_int (h : divOk j) : opDiv (.int i) (.int j) = some (.int (i.fdiv j)) := if_pos h
@[simp] theorem opLt_int : opLt (.int i) (.int j) = some (.bl (decide (i < j))) := rfl
@[simp] theorem opLe_int : opLe (.int i) (.int j) = some (.bl (decide (i ≤ j))) := rfl
@[simp] theorem opGt_int : opGt (.int i) (.int j) = some (.bl (decide (j < i))) := rfl
@[simp] theorem opGe_int : opGe (.int i) (.int j) = some (.bl (decide (j ≤ i))) := rfl
@[simp] theorem opEq_int : opEq' (.int i) (.int j) = some (.bl (decide (i = j))) := rfl
@[simp] theorem opEq_str : opEq' (.str x) (.str y) = some (.bl (decide (x = y))) := rfl
@[simp] theorem opEq_bl {b c : Bool} : opEq' (.bl b) (.bl c) = some (.bl (decide (b = c))) := rfl
@[simp] theorem opEq_non_str : opEq' .non (.str y) = some (.bl false) := rfl
@[simp] theorem opEq_str_non : opEq' (.str y) .non = some (.bl false) := rfl
@[simp] theorem opEq_non : opEq' .non .non = some (.bl true) := rfl
@[simp] theorem opNe_int : opNe' (.int i) (.int j) = some (.bl (!decide (i = j))) := rfl
@[simp] theorem opNe_str : opNe' (.str x) (.str y) = some (.bl (!decide (x = y))) := rfl
@[simp] theorem opAbs_int : opAbs (.int i) = some (.int (i.natAbs : Int)) := by
  have e : (if i < 0 then -i else i) = (i.natAbs : Int) := by split <;> omega
  show some (D.int (if i < 0 then -i else i)) = _
  rw [e]
@[simp] theorem opLen_lst {l : List D} : opLen (.lst l) = some (.int l.length) := rfl
@[simp] theorem opLen_tup {l : List D} : opLen (.tup l) = some (.int l.length) := rfl
@[simp] theorem opLen_str (h : x.length ≤ most) : opLen (.str x) = some (.int x.length) := if_pos h
@[simp] theorem opMin_int : opMin (.int i) (.int j) = some (.int (if j < i then j else i)) := rfl
@[simp] theorem opMax_int : opMax (.int i) (.int j) = some (.int (if j > i then j else i)) := rfl
@[simp] theorem opIx_lst {l : List D} : opIx (.lst l) (.int i) = L2.atI l i := rfl
@[simp] theorem opIx_tup {l : List D} : opIx (.tup l) (.int i) = L2.atI l i := rfl
@[simp] theorem d1_def {op : D → Option D} {f : DE} : d1 op f σ S = (f σ S).bind fun x σ S => ofOpt ((deref σ S x).bind op) σ S := rfl
@[simp] theorem d2_def {op : D → D → Option D} {f g : DE} : d2 op f g σ S = (f σ S).bind fun x σ S => (g σ S).bind fun y σ S => ofOpt ((deref σ S x).bind fun a => (deref σ S y).bind fun b => op a b) σ S := rfl
@[simp] theorem dV_def {f : DE} : dV f σ S = (f σ S).bind frz := rfl
@[simp] theorem tVal_def {f : DE} : tVal f σ S = (f σ S).bind fun x σ S => match x with
  | .bl b => .ok b σ S
  | _ => .fail := rfl
@[simp] theorem tAnd_def {f g : DT} : tAnd f g σ S = (f σ S).bind fun b σ S => if b = true then g σ S else .ok false σ S := rfl
@[simp] theorem tOr_def {f g : DT} : tOr f g σ S = (f σ S).bind fun b σ S => if b = true then .ok true σ S else g σ S := rfl
@[simp] theorem tNot_def {f : DT} : tNot f σ S = (f σ S).bind fun b σ S => .ok (!b) σ S := rfl
@[simp] theorem vAnd_def {f g : DE} : vAnd f g σ S = (tVal f σ S).bind fun b σ S => (if b = true then g else dC (.bl false)) σ S := rfl
@[simp] theorem vOr_def {f g : DE} : vOr f g σ S = (tVal f σ S).bind fun b σ S => (if b = true then dC (.bl true) else g) σ S := rfl
@[simp] theorem vNot_def {f : DE} : vNot f σ S = (tVal f σ S).bind fun b σ S => (dC (.bl (!b))) σ S := rfl
@[simp] theorem aNil_def : aNil σ S = .ok [] σ S := rfl
@[simp] theorem aCons_def {f : DE} {r : DA} : aCons f r σ S = (dV f σ S).bind fun x σ S => (r σ S).bind fun xs σ S => .ok (x :: xs) σ S := rfl
@[simp] theorem dTup_def {r : DA} : dTup r σ S = (r σ S).bind fun xs σ S => if xs.length ≤ most then .ok (.tup xs) σ S else .fail := rfl
@[simp] theorem dLst_def {r : DA} : dLst r σ S = (r σ S).bind fun xs σ S => if xs.length ≤ most then .ok (.lst xs) σ S else .fail := rfl
@[simp] theorem dCall_def {d : Den} {r : DA} : dCall d r σ S = (r σ S).bind fun xs σ S => match d xs S with
  | .ok w S' => .ok w σ S'
  | .exc e S' => .exc e σ S'
  | .fail => .fail := rfl
@[simp] theorem sNil_def : sNil σ S = .ok .next σ S := rfl
@[simp] theorem sSeq_def {f g : DS} : sSeq f g σ S = (f σ S).bind fun x σ S => match x with
  | .next => g σ S
  | x => .ok x σ S := rfl
@[simp] theorem sSet_def {n : Nat} {f : DE} : sSet n f σ S = (dV f σ S).bind fun w σ S => .ok .next (σ.set n (.val w)) S := rfl
@[simp] theorem sSetO_def {n : Nat} {f : DE} : sSetO n f σ S = (f σ S).bind fun w σ S => .ok .next (σ.set n (if scalar w then .val w else .own w)) S := rfl
@[simp] theorem sRet_def {f : DE} : sRet f σ S = (dV f σ S).bind fun w σ S => .ok (.ret w) σ S := rfl
@[simp] theorem sRetF_def {f : DE} : sRetF f σ S = (f σ S).bind fun w σ S => .ok (.ret w) σ S := rfl
@[simp] theorem sIf_def {c : DT} {f g : DS} : sIf c f g σ S = (c σ S).bind fun b σ S => if b = true then f σ S else g σ S := rfl
@[simp] theorem sExpr_def {f : DE} : sExpr f σ S = (f σ S).bind fun _ σ S => .ok .next σ S := rfl
@[simp] theorem sPar_def {n m : Nat} {r : DA} : sPar n m r σ S = (r σ S).bind fun xs σ S => match xs with
  | [v, w] => .ok .next ((σ.set n (.val v)).set m (.val w)) S
  | _ => .fail := rfl
@[simp] theorem dIsN_def {f : DE} : dIsN f σ S = (f σ S).bind fun x σ S => .ok (.bl (isN x)) σ S := rfl
@[simp] theorem dNotN_def {f : DE} : dNotN f σ S = (f σ S).bind fun x σ S => .ok (.bl (!isN x)) σ S := rfl
@[simp] theorem dNeg_def {f : DE} : dNeg f σ S = (f σ S).bind fun x σ S => match x with
  | .int i => .ok (.int (-i)) σ S
  | _ => .fail := rfl
@[simp] theorem oNone_def : oNone σ S = .ok none σ S := rfl
@[simp] theorem oSome_def {f : DE} : oSome f σ S = (f σ S).bind fun x σ S => match x with
  | .int i => .ok (some i) σ S
  | _ => .fail := rfl
@[simp] theorem dSl_def {f : DE} {lo hi : DO} : dSl f lo hi σ S = (f σ S).bind fun x σ S => (lo σ S).bind fun l σ S => (hi σ S).bind fun u σ S => ofOpt ((deref σ S x).bind fun a => opSl a l u) σ S := rfl
@[simp] theorem opSl_lst {l : List D} {lo hi : Option Int} : opSl (.lst l) lo hi = some (.lst (cutL l lo hi)) := rfl
@[simp] theorem opSl_scr {l : List Int} {lo hi : Option Int} : opSl (.scr l) lo hi = some (.lst ((cutL l lo hi).map D.int)) := rfl
@[simp] theorem opSl_str {lo hi : Option Int} (h : x.length ≤ most) : opSl (.str x) lo hi = some (.str (L2.cutS x lo hi)) := if_pos h
@[simp] theorem iLst_def {f : DE} : iLst f σ S = (dV f σ S).bind fun x σ S => match x with
  | .lst ws => .ok ws σ S
  | _ => .fail := rfl
@[simp] theorem iTup_def {f : DE} : iTup f σ S = (dV f σ S).bind fun x σ S => match x with
  | .tup ws => .ok ws σ S
  | _ => .fail := rfl
@[simp] theorem iStr_def {f : DE} : iStr f σ S = (dV f σ S).bind fun x σ S => match x with
  | .str z => .ok (signs z) σ S
  | _ => .fail := rfl
@[simp] theorem iRan1_def {f : DE} : iRan1 f σ S = (f σ S).bind fun x σ S => match x with
  | .int j => if small j then .ok (ran 0 j) σ S else .fail
  | _ => .fail := rfl
@[simp] theorem iZip_def {f g : DE} : iZip f g σ S = (dV f σ S).bind fun x σ S => (dV g σ S).bind fun y σ S => match x, y with
  | .lst xs, .lst ys => .ok (pairs xs ys) σ S
  | .tup xs, .tup ys => .ok (pairs xs ys) σ S
  | _, _ => .fail := rfl
@[simp] theorem iEnum_def {f : DE} : iEnum f σ S = (dV f σ S).bind fun x σ S => match x with
  | .lst xs => .ok (enum 0 xs) σ S
  | _ => .fail := rfl
@[simp] theorem sFor_def {it : DI} {g : DG} {f : DS} : sFor it g f σ S = (it σ S).bind fun ds σ S => forL g f ds σ S := rfl
@[simp] theorem gN_def {n : Nat} : gN n w σ = some (σ.set n (.val w)) := rfl
@[simp] theorem tTrue_def : tTrue σ S = .ok true σ S := rfl
@[simp] theorem dMeth_def {is : D → Bool} {k : D → D → List D → Sl → Sto → Res D} {fo : DE} {fa : DA} : dMeth is k fo fa σ S = (fo σ S).bind fun x σ S => if ((deref σ S x).map is) = some true then (fa σ S).bind fun ws σ S => (match deref σ S x with
  | some c => k x c ws σ S
  | none => .fail) else .fail := rfl
@[simp] theorem kApp_lst {l : List D} (h : l.length < most) : kApp a (.lst l) [w] σ S = ofMut .non (chg σ S a (.lst (l ++ [w]))) := if_pos h
@[simp] theorem isLst_lst {l : List D} : isLst (.lst l) = true := rfl
@[simp] theorem chg_loc {n : Nat} {c : D} (h : σ[n]? = some (.own c)) : chg σ S (.loc n) w = some (σ.set n (.own w), S) := by unfold chg; simp only; rw [h]
@[simp] theorem ofMut_some {α : Type} {c : α} : ofMut c (some (σ, S)) = .ok c σ S := rfl
@[simp] theorem scalar_non : scalar .non = true := rfl
@[simp] theorem scalar_int : scalar (.int i) = true := rfl
@[simp] theorem scalar_bl {b : Bool} : scalar (.bl b) = true := rfl
@[simp] theorem scalar_str : scalar (.str x) = true := rfl
@[simp] theorem scalar_tup {l : List D} : scalar (.tup l) = true := rfl
@[simp] theorem scalar_lst {l : List D} : scalar (.lst l) = false := rfl
@[simp] theorem sRetO_own {n : Nat} (h : σ[n]? = some (.own w)) : sRetO n σ S = .ok (.ret w) σ S := by unfold sRetO; rw [h]
@[simp] theorem sRetS_def {f : DE} : sRetS f σ S = (f σ S).bind fun w σ S => if scalar w then .ok (.ret w) σ S else .fail := rfl
@[simp] theorem isN_non : isN .non = true := rfl
@[simp] theorem isN_int : isN (.int i) = false := rfl
@[simp] theorem isN_bl {b : Bool} : isN (.bl b) = false := rfl
@[simp] theorem isN_str : isN (.str x) = false := rfl
@[simp] theorem isN_tup {l : List D} : isN (.tup l) = false := rfl
@[simp] theorem isN_lst {l : List D} : isN (.lst l) = false := rfl
end
theorem dDef_ret {n : Nat} {f : DS} {ws : List D} {S S' : Sto} {w : D} {σ' : Sl} (h : f (ws.map Slot.val ++ List.replicate (n - ws.length) .emp) S = .ok (.ret w) σ' S') : dDef n f ws S = .ok w S' := by
  unfold dDef
  rw [h]
theorem dDef_next {n : Nat} {f : DS} {ws : List D} {S S' : Sto} {σ' : Sl} (h : f (ws.map Slot.val ++ List.replicate (n - ws.length) .emp) S = .ok .next σ' S') : dDef n f ws S = .ok .non S' := by
  unfold dDef
  rw [h]
theorem sSeq_next {f g : DS} {σ σ1 : Sl} {S S1 : Sto} (h : f σ S = .ok .next σ1 S1) : sSeq f g σ S = g σ1 S1 := by
  rw [sSeq_def, h]
  rfl
theorem dDef_ex {n : Nat} {f : DS} {ws : List D} {S S' : Sto} {w : D} (h : ∃ σ', f (ws.map Slot.val ++ List.replicate (n - ws.length) .emp) S = .ok (.ret w) σ' S') : dDef n f ws S = .ok w S' := by
  obtain ⟨σ', h⟩ := h
  exact dDef_ret h
@[simp] theorem forL_nil {g : DG} {f : DS} {σ : Sl} {S : Sto} : forL g f [] σ S = .ok .next σ S := rfl
theorem forL_cons {g : DG} {f : DS} {σ σ1 σ2 : Sl} {S S2 : Sto} {d : D} {ds : List D} (h : g d σ = some σ1) (h2 : f σ1 S = .ok .next σ2 S2) : forL g f (d :: ds) σ S = forL g f ds σ2 S2 := by
  rw [forL]
  dsimp only
  rw [h]
  dsimp only
  rw [h2]
  rfl
theorem forL_inv {g : DG} {f : DS} (P : Nat → Sl → Sto → Prop) : ∀ (items : List D) (k : Nat) (σ : Sl) (S : Sto), P k σ S →
    (∀ (i : Nat) (d : D) (σ : Sl) (S : Sto), items[i]? = some d → P (k + i) σ S → ∃ σ1, g d σ = some σ1 ∧ ∃ σ2 S2, f σ1 S = .ok .next σ2 S2 ∧ P (k + i + 1) σ2 S2) →
    ∃ σ' S', forL g f items σ S = .ok .next σ' S' ∧ P (k + items.length) σ' S'
  | [], k, σ, S, h, _ => ⟨σ, S, rfl, h⟩
  | d :: ds, k, σ, S, h, st => by
    obtain ⟨σ1, e1, σ2, S2, e2, h2⟩ := st 0 d σ S rfl h
    obtain ⟨σ3, S3, e3, h3⟩ := forL_inv P ds (k + 1) σ2 S2 h2 fun i d' σ S hi hp => by
      have := st (i + 1) d' σ S hi (by rw [show k + (i + 1) = k + 1 + i by omega]; exact hp)
      rw [show k + (i + 1) + 1 = k + 1 + i + 1 by omega] at this
      exact this
    refine ⟨σ3, S3, ?_, by rw [List.length_cons, show k + (ds.length + 1) = k + 1 + ds.length by omega]; exact h3⟩
    unfold forL
    rw [e1]
    dsimp only
    rw [e2]
    exact e3
theorem sWhile_step {c : DT} {f : DS} {n : Nat} {σ : Sl} {S : Sto} : sWhile c f (n + 1) σ S = (c σ S).bind fun b σ S => if b = true then (f σ S).bind fun x σ S => (match x with
      | .next => sWhile c f n σ S
      | .cnt => sWhile c f n σ S
      | .brk => .ok .next σ S
      | .ret w => .ok (.ret w) σ S) else .ok .next σ S := rfl
theorem rest_wipe (σ : Sl) (vs : List Nat) : restD σ (wipeD σ vs) vs = σ := by
  apply List.ext_getElem?
  intro j
  rw [restD_get]
  by_cases h : j ∈ vs
  · rw [if_pos h, wipeD_get, if_pos h]
    cases e : σ[j]? with
    | none => rfl
    | some s => rfl
  · rw [if_neg h, wipeD_get, if_neg h]
theorem lcL_gen {g : DG} {c : DT} {e : DE} {vs : List Nat} {σw : Sl} {S : Sto} (a : D → Sl) (p : D → Bool) (h : D → D) : ∀ (items acc : List D), acc.length + items.length ≤ most →
    (∀ d ∈ items, g d σw = some (a d) ∧ wipeD (a d) vs = σw ∧ c (a d) S = .ok (p d) (a d) S ∧ (p d = true → dV e (a d) S = .ok (h d) (a d) S)) →
    lcL g c e vs items acc σw S = .ok (acc ++ (items.filter p).map h) σw S
  | [], acc, _, _ => by simp [lcL]
  | d :: ds, acc, hl, st => by
    obtain ⟨h1, h2, h3, h4⟩ := st d (List.mem_cons_self ..)
    rw [List.length_cons] at hl
    have ih := fun acc' (q : acc'.length + ds.length ≤ most) => lcL_gen (g := g) (c := c) (e := e) (vs := vs) (σw := σw) (S := S) a p h ds acc' q fun d' hd => st d' (List.mem_cons_of_mem _ hd)
    rw [lcL, h1]
    dsimp only
    rw [h3]
    dsimp only [Res.bind]
    cases hp : p d with
    | true =>
      rw [if_pos rfl, h4 hp]
      dsimp only [Res.bind]
      rw [if_pos (by omega), h2, ih _ (by rw [List.length_append, List.length_singleton]; omega), List.filter_cons, if_pos hp]
      simp
    | false =>
      rw [if_neg Bool.false_ne_true, h2, ih _ (by omega), List.filter_cons, if_neg (by rw [hp]; exact Bool.false_ne_true)]
theorem dLc_gen {it : DI} {g : DG} {c : DT} {e : DE} {vs : List Nat} {σ σ' : Sl} {S : Sto} {items : List D} (a : D → Sl) (p : D → Bool) (h : D → D) (hi : it σ S = .ok items σ' S) (hno : noOwn σ' vs = true) (hl : items.length ≤ most)
    (st : ∀ d ∈ items, g d (wipeD σ' vs) = some (a d) ∧ wipeD (a d) vs = wipeD σ' vs ∧ c (a d) S = .ok (p d) (a d) S ∧ (p d = true → dV e (a d) S = .ok (h d) (a d) S)) :
    dLc it g c e vs σ S = .ok (.lst ((items.filter p).map h)) σ' S := by
  unfold dLc
  rw [hi]
  dsimp only [Res.bind]
  rw [if_pos hno, lcL_gen a p h items [] (by simpa using hl) st]
  dsimp only [noX, Res.bind]
  rw [rest_wipe, List.nil_append]
theorem filter_true {α : Type} (l : List α) : l.filter (fun _ => true) = l := by simp
theorem dLc_map {it : DI} {g : DG} {e : DE} {vs : List Nat} {σ σ' : Sl} {S : Sto} {items : List D} (a : D → Sl) (h : D → D) (hi : it σ S = .ok items σ' S) (hno : noOwn σ' vs = true) (hl : items.length ≤ most)
    (st : ∀ d ∈ items, g d (wipeD σ' vs) = some (a d) ∧ wipeD (a d) vs = wipeD σ' vs ∧ dV e (a d) S = .ok (h d) (a d) S) : dLc it g tTrue e vs σ S = .ok (.lst (items.map h)) σ' S := by
  have := dLc_gen (c := tTrue) a (fun _ => true) h hi hno hl fun d hd => ⟨(st d hd).1, (st d hd).2.1, rfl, fun _ => (st d hd).2.2⟩
  rw [filter_true] at this
  exact this
theorem bools_map {α : Type} (f : α → Bool) : ∀ l : List α, bools (l.map fun x => D.bl (f x)) = some (l.map f)
  | [] => rfl
  | x :: l => by
    show (bools (l.map fun x => D.bl (f x))).map _ = _
    rw [bools_map f l]
    rfl
theorem opAll_map {α : Type} (f : α → Bool) (l : List α) : opAll (.lst (l.map fun x => D.bl (f x))) = some (.bl (l.all f)) := by
  show (bools _).map _ = _
  rw [bools_map]
  simp
@[simp] theorem dChain_def {op op' : D → D → Option D} {f g h : DE} {σ : Sl} {S : Sto} : dChain op op' f g h σ S = (f σ S).bind fun x σ S => (g σ S).bind fun y σ S => match (deref σ S x).bind fun a => (deref σ S y).bind fun b => op a b with
  | some (.bl true) => (h σ S).bind fun z σ S => ofOpt ((deref σ S y).bind fun a => (deref σ S z).bind fun b => op' a b) σ S
  | some (.bl false) => .ok (.bl false) σ S
  | _ => .fail := rfl
@[simp] theorem dS1_def {op : D → D → Option D} {f g : DE} {σ : Sl} {S : Sto} : dS1 op f g σ S = (f σ S).bind fun x σ S => match x with
  | .str a => (g σ S).bind fun y σ S => ofOpt ((deref σ S y).bind fun b => op (.str a) b) σ S
  | _ => .fail := rfl
def hasC (z : Str) (c : Nat) : Bool := decide (c ∈ z.cps.toList)
theorem opIn_sign {c : Nat} {z : Str} : opIn (.str ⟨#[c]⟩) (.str z) = some (.bl (hasC z c)) := rfl
theorem strsD_map (l : List Str) : strsD (l.map D.str) = some l := by
  induction l with
  | nil => rfl
  | cons x l ih =>
    show (strsD (l.map D.str)).map _ = _
    rw [ih]
    rfl
end MR
set_option Elab.async false
set_option linter.all false
set_option maxRecDepth 100000
set_option exponentiation.threshold 30000
namespace MR
open PySem
section
variable {σ : Sl} {S : Sto} {i j : Int} {x y : Str} {a b w : D} {r : Nat} {c : String} {cs : List String} {fs : List (String × D)} {l : List (Kk × D)} {k : Kk}
@[simp] theorem deref_obj (h : S[r]? = some (.con false w)) : deref σ S (.obj r) = some w := by unfold deref; simp only; rw [h]; cases w <;> rfl
@[simp] theorem chg_obj (h : S[r]? = some (.con false a)) : chg σ S (.obj r) w = some (σ, S.set r (.con false w)) := by unfold chg; simp only; rw [h]
@[simp] theorem objAt_obj (h : S[r]? = some (.ins c fs)) (hc : c ∈ cs) : objAt cs S (.obj r) = some (r, c, fs) := by
  unfold objAt
  simp only [h]
  rw [if_pos hc]
@[simp] theorem fget_cons {f g : String} : fget ((g, w) :: fs) f = if g = f then some w else fget fs f := by
  unfold fget
  rw [List.find?_cons]
  by_cases h : g = f
  · simp [h]
  · have e : (g == f) = false := beq_eq_false_iff_ne.mpr h
    simp only [e, h, if_false]
@[simp] theorem fget_nil {f : String} : fget [] f = none := rfl
@[simp] theorem fput_nil {f : String} : fput f w [] = [(f, w)] := rfl
@[simp] theorem fput_cons {f g : String} : fput f w ((g, a) :: fs) = if g = f then (g, w) :: fs else (g, a) :: fput f w fs := rfl
@[simp] theorem keyD_int : keyD (.int i) = some (.inl i) := rfl
@[simp] theorem keyD_str : keyD (.str x) = some (.inr x) := rfl
@[simp] theorem opLen_dK : opLen (.dK l) = some (.int l.length) := rfl
@[simp] theorem opGet_dK : opGet (.dK l) a = (keyD a).bind (valD l) := rfl
@[simp] theorem opGet_lst {l : List D} : opGet (.lst l) (.int i) = L2.atI l i := rfl
@[simp] theorem opGet_tup {l : List D} : opGet (.tup l) (.int i) = L2.atI l i := rfl
@[simp] theorem opInG_dK (h : keyD a = some k) : opInG a (.dK l) = some (.bl (valD l k).isSome) := by
  show ((keyD a).map _).map _ = _
  rw [h]
  rfl
@[simp] theorem opNotInG_dK (h : keyD a = some k) : opNotInG a (.dK l) = some (.bl (!(valD l k).isSome)) := by
  show ((keyD a).map _).map _ = _
  rw [h]
  rfl
@[simp] theorem opInG_lst {l : List D} : opInG a (.lst l) = opIn a (.lst l) := by unfold opInG opIn; cases a <;> rfl
@[simp] theorem opNotInG_lst {l : List D} : opNotInG a (.lst l) = opNotIn a (.lst l) := by unfold opNotInG opNotIn; cases a <;> rfl
@[simp] theorem dFld_def {f : String} {fo : DE} : dFld cs f fo σ S = (fo σ S).bind fun x σ S => ofOpt ((objAt cs S x).bind fun p => fget p.2.2 f) σ S := rfl
@[simp] theorem sFldD_def {f : String} {fo fv : DE} : sFldD cs f fo fv σ S = (dV fv σ S).bind fun w σ S => (fo σ S).bind fun x σ S => match objAt cs S x with
  | some (r, c, fs) => if fs.length < 1000 then .ok .next σ (S.set r (.ins c (fput f w fs))) else .fail
  | none => .fail := rfl
@[simp] theorem dAlloc_def {f : DE} : dAlloc f σ S = (f σ S).bind fun w σ S => if scalar w then .ok w σ S else .ok (.obj S.length) σ (S ++ [.con false w]) := rfl
@[simp] theorem scalar_dK : scalar (.dK l) = false := rfl
@[simp] theorem pNil_def : pNil σ S = .ok [] σ S := rfl
@[simp] theorem pCons_def {f g : DE} {r : DP} : pCons f g r σ S = (f σ S).bind fun x σ S => match keyD x with
  | some k => (dV g σ S).bind fun w σ S => (r σ S).bind fun ps σ S => .ok ((k, w) :: ps) σ S
  | none => .fail := rfl
@[simp] theorem dDisp_def {r : DP} : dDisp r σ S = (r σ S).bind fun ps σ S => .ok (.dK (mergeD [] ps)) σ S := rfl
@[simp] theorem sDPutD_def {fd fy fv : DE} : sDPutD fd fy fv σ S = (dV fv σ S).bind fun w σ S => (fd σ S).bind fun x σ S => (fy σ S).bind fun y σ S => match deref σ S x, keyD y with
  | some (.dK l), some k => if l.length < most then ofMutS (chg σ S x (.dK (putD l k w))) else .fail
  | _, _ => .fail := rfl
@[simp] theorem ofMutS_some : ofMutS (some (σ, S)) = .ok .next σ S := rfl
@[simp] theorem isDct_dK : isDct (.dK l) = true := rfl
@[simp] theorem kGet_1 (h : keyD b = some k) : kGet a (.dK l) [b] σ S = .ok ((valD l k).getD .non) σ S := by unfold kGet; simp only; rw [h]
@[simp] theorem kGet_2 (h : keyD b = some k) : kGet a (.dK l) [b, w] σ S = .ok ((valD l k).getD w) σ S := by unfold kGet; simp only; rw [h]
@[simp] theorem outR_ok : outR (.ok w S) σ = .ok w σ S := rfl
@[simp] theorem outR_exc {e : Exn} : outR (.exc e S) σ = .exc e σ S := rfl
@[simp] theorem dMet_def {m : String} {tbl : List (String × Den)} {fo : DE} {fa : DA} : dMet m tbl fo fa σ S = (fo σ S).bind fun x σ S => match objAt (tbl.map (·.1)) S x with
  | some (_, c, fs) => (match fget fs m with
    | some _ => .fail
    | none => (fa σ S).bind fun ws σ S => match tbl.find? (fun p => p.1 == c) with
      | some p => outR (p.2 (x :: ws) S) σ
      | none => .fail)
  | none => .fail := rfl
@[simp] theorem dMake_def {d : Den} {fa : DA} : dMake c d fa σ S = (fa σ S).bind fun ws σ S => match d (.obj S.length :: ws) (S ++ [.ins c []]) with
  | .ok .non S' => .ok (.obj S.length) σ S'
  | .ok _ _ => .fail
  | .exc e S' => .exc e σ S'
  | .fail => .fail := rfl
@[simp] theorem mergeD_nil : mergeD l [] = l := rfl
@[simp] theorem mergeD_cons {p : Kk × D} {ps : List (Kk × D)} : mergeD l (p :: ps) = mergeD (putD l p.1 p.2) ps := rfl
end
section
variable {κ : Type} [DecidableEq κ] {l : List (κ × D)} {k j : κ} {w : D}
@[simp] theorem valD_nil : valD ([] : List (κ × D)) k = none := rfl
theorem valD_cons {p : κ × D} : valD (p :: l) k = if p.1 = k then some p.2 else valD l k := by
  unfold valD
  rw [List.find?_cons]
  by_cases h : p.1 = k
  · simp [h]
  · simp [h]
end
theorem sWhile_false {c : DT} {f : DS} {n : Nat} {σ σ1 : Sl} {S S1 : Sto} (h : c σ S = .ok false σ1 S1) : sWhile c f (n + 1) σ S = .ok .next σ1 S1 := by
  rw [sWhile_step, h]
  rfl
theorem sWhile_next {c : DT} {f : DS} {n : Nat} {σ σ1 σ2 : Sl} {S S1 S2 : Sto} (h : c σ S = .ok true σ1 S1) (h2 : f σ1 S1 = .ok .next σ2 S2) : sWhile c f (n + 1) σ S = sWhile c f n σ2 S2 := by
  rw [sWhile_step, h]
  dsimp only [Res.bind]
  rw [if_pos rfl, h2]
theorem sWhile_ret {c : DT} {f : DS} {n : Nat} {σ σ1 σ2 : Sl} {S S1 S2 : Sto} {w : D} (h : c σ S = .ok true σ1 S1) (h2 : f σ1 S1 = .ok (.ret w) σ2 S2) : sWhile c f (n + 1) σ S = .ok (.ret w) σ2 S2 := by
  rw [sWhile_step, h]
  dsimp only [Res.bind]
  rw [if_pos rfl, h2]
theorem sWhile_more {c : DT} {f : DS} : ∀ {n m : Nat} {σ σ' : Sl} {S S' : Sto} {fl : Fl}, sWhile c f n σ S = .ok fl σ' S' → n ≤ m → sWhile c f m σ S = .ok fl σ' S'
  | 0, _, _, _, _, _, _, h, _ => by cases h
  | n + 1, m, σ, σ', S, S', fl, h, hm => by
    obtain ⟨m, rfl⟩ : ∃ k, m = k + 1 := ⟨m - 1, by omega⟩
    rw [sWhile_step] at h ⊢
    cases e : c σ S with
    | fail => rw [e] at h; cases h
    | exc a _ _ => rw [e] at h; cases h
    | ok b σ1 S1 =>
      rw [e] at h
      dsimp only [Res.bind] at h ⊢
      split
      · rename_i hb
        rw [if_pos hb] at h
        cases e2 : f σ1 S1 with
        | fail => rw [e2] at h; cases h
        | exc a _ _ => rw [e2] at h; cases h
        | ok x σ2 S2 =>
          rw [e2] at h
          cases x with
          | next => exact sWhile_more (n := n) (m := m) h (by omega)
          | cnt => exact sWhile_more (n := n) (m := m) h (by omega)
          | brk => exact h
          | ret w => exact h
      · rename_i hb
        rw [if_neg hb] at h
        exact h
theorem fuel_big : 10000000 ≤ fuel := by
  unfold fuel
  exact Nat.le_trans (by decide : 10000000 ≤ 2 ^ 24) (Nat.pow_le_pow_right (by decide) (by decide))
end MR
set_option Elab.async false
set_option linter.all false
set_option maxRecDepth 100000
namespace MR
open PySem
def Good (l : List Int) : Prop := ∀ v ∈ l, 0 ≤ v ∧ v < 1000003
theorem Good.app {l : List Int} {v : Int} (h : Good l) (h1 : 0 ≤ v) (h2 : v < 1000003) : Good (l ++ [v]) := fun x hx => by
  rcases List.mem_append.mp hx with hx | hx
  · exact h x hx
  · rw [List.mem_singleton.mp hx]; exact ⟨h1, h2⟩
theorem mulOk_of {i j : Int} {a b : Nat} (ha : i.natAbs < 2 ^ a) (hb : j.natAbs < 2 ^ b) (h0 : 0 < a) (h1 : 0 < b) (h : a + b ≤ 1000000) : mulOk i j := L2.wide_mul ha hb h0 h1 h
theorem divOk_of {j : Int} {b : Nat} (h : j ≠ 0) (hb : j.natAbs < 2 ^ b) (h0 : 0 < b) (h9 : b ≤ 9000) : divOk j := ⟨h, Nat.lt_of_lt_of_le (PySem.Flt.log2_lt_of h0 hb) h9⟩
theorem divOk_1009 : divOk 1009 := by decide
theorem divOk_1013 : divOk 1013 := by decide
theorem mulS {i j : Int} (hi : 0 ≤ i ∧ i < 2 ^ 200) (hj : 0 ≤ j ∧ j < 2 ^ 200) : mulOk i j := mulOk_of (a := 200) (b := 200) (by omega) (by omega) (by decide) (by decide) (by decide)
theorem feed_1 {S : Sto} {a0 a1 s3 s4 : Slot} {L : Nat} (hL : L ≤ 10000) {acc : List Int} {r : Int} {s6 : Slot} (hl : acc.length ≤ L) (hg : Good acc) :
    ∃ σ', forL (gN 6) fb__law_feed_1 (ran 0 60) [a0, a1, .own (.lst (acc.map D.int)), s3, s4, .val (.int r), s6] S = .ok .next σ' S ∧
      ∃ acc' r' s6', σ' = [a0, a1, .own (.lst (acc'.map D.int)), s3, s4, .val (.int r'), s6'] ∧ acc'.length ≤ L + 60 ∧ Good acc' := by
  obtain ⟨σ', S', e, ⟨rfl, acc', r', s6', h1, h2, h3⟩⟩ := forL_inv (g := gN 6) (f := fb__law_feed_1) (fun k σ S' => S' = S ∧ ∃ acc' r' s6', σ = [a0, a1, .own (.lst (acc'.map D.int)), s3, s4, .val (.int r'), s6'] ∧ acc'.length ≤ L + k ∧ Good acc') (ran 0 60) 0 _ S ⟨rfl, acc, r, s6, rfl, by omega, hg⟩ (by
    rintro i d σ S' hi ⟨rfl, acc, r, s6, rfl, hl, hg⟩
    have hi60 : i < 60 := by
      have := (List.getElem?_eq_some_iff.mp hi).1
      simp [ran] at this
      omega
    refine ⟨_, rfl, ?_⟩
    by_cases hr : 0 < r
    · have hlt : acc.length < most := by unfold most; omega
      refine ⟨[a0, a1, .own (.lst ((acc ++ [r % 1009]).map D.int)), s3, s4, .val (.int (r.fdiv 1009)), .val d], S', ?_, rfl, acc ++ [r % 1009], _, _, rfl, by rw [List.length_append, List.length_singleton]; omega, hg.app (by omega) (by omega)⟩
      simp [fb__law_feed_1, hr, hlt, divOk_1009]
    · exact ⟨[a0, a1, .own (.lst (acc.map D.int)), s3, s4, .val (.int r), .val d], S', by simp [fb__law_feed_1, hr], rfl, acc, r, _, rfl, by omega, hg⟩)
  refine ⟨σ', e, acc', r', s6', h1, ?_, h3⟩
  simpa [ran] using h2
theorem feed_2 {S : Sto} {a0 a1 : Slot} (items : List Int) (hn : items.length ≤ 63) {s4 s5 s6 : Slot} :
    ∃ σ', forL (gN 4) fb__law_feed_2 (items.map D.int) [a0, a1, .own (.lst []), .val (.int 29), s4, s5, s6] S = .ok .next σ' S ∧
      ∃ (acc : List Int) (salt : Int) (s4 s5 s6 : Slot), σ' = [a0, a1, .own (.lst (acc.map D.int)), .val (.int salt), s4, s5, s6] ∧ acc.length ≤ 4000 ∧ Good acc ∧ 0 ≤ salt ∧ salt < 2147483647 := by
  obtain ⟨σ', S', e, ⟨rfl, acc, salt, s4, s5, s6, h1, h2, h3, h4⟩⟩ := forL_inv (g := gN 4) (f := fb__law_feed_2) (fun k σ S' => S' = S ∧ ∃ (acc : List Int) (salt : Int) (s4 s5 s6 : Slot), σ = [a0, a1, .own (.lst (acc.map D.int)), .val (.int salt), s4, s5, s6] ∧ acc.length ≤ 61 * k ∧ Good acc ∧ 0 ≤ salt ∧ salt < 2147483647) (items.map D.int) 0 _ S ⟨rfl, [], 29, s4, s5, s6, rfl, by simp, fun v hv => by simp at hv, by omega, by omega⟩ (by
    rintro i d σ S' hi ⟨rfl, acc, salt, s4, s5, s6, rfl, hl, hg, hs⟩
    have hi63 : i < 63 := by
      have := (List.getElem?_eq_some_iff.mp hi).1
      rw [List.length_map] at this
      omega
    rw [List.getElem?_map] at hi
    obtain ⟨c, _, rfl⟩ := Option.map_eq_some_iff.mp hi
    refine ⟨_, rfl, ?_⟩
    have hlt : acc.length < most := by unfold most; omega
    have hm : mulOk salt 69621 := mulS (by omega) (by omega)
    by_cases hr : c - 1000000000000000000 < 0
    · obtain ⟨σ', e, acc', r', s6', h1, h2, h3⟩ := feed_1 (S := S') (a0 := a0) (a1 := a1) (s3 := .val (.int ((salt * 69621 + c % 2147483629 + 11) % 2147483647))) (s4 := .val (.int c)) (L := 61 * i + 1) (by omega) (acc := acc ++ [c % 1000003]) (r := c - 1000000000000000000) (s6 := s6) (by rw [List.length_append, List.length_singleton]; omega) (hg.app (by omega) (by omega))
      refine ⟨σ', S', ?_, rfl, acc', _, _, _, s6', h1, by omega, h3, by omega, by omega⟩
      rw [← e]
      simp [fb__law_feed_2, hm, hlt, hr, opPow, small]
    · obtain ⟨σ', e, acc', r', s6', h1, h2, h3⟩ := feed_1 (S := S') (a0 := a0) (a1 := a1) (s3 := .val (.int ((salt * 69621 + c % 2147483629 + 11) % 2147483647))) (s4 := .val (.int c)) (L := 61 * i + 1) (by omega) (acc := acc) (r := c - 1000000000000000000) (s6 := s6) (by omega) hg
      refine ⟨σ', S', ?_, rfl, acc', _, _, _, s6', h1, by omega, h3, by omega, by omega⟩
      rw [← e]
      simp [fb__law_feed_2, hm, hlt, hr, opPow, small])
  refine ⟨σ', e, acc, salt, s4, s5, s6, h1, ?_, h3, h4⟩
  rw [List.length_map] at h2
  omega
theorem feed_3 {S : Sto} {a0 a1 : Slot} (n : Nat) (hn : n ≤ 1000000) {acc : List Int} {salt : Int} {s4 s5 s6 : Slot} (hl : acc.length ≤ 4000) (hg : Good acc) (h0 : 0 ≤ salt) (h1 : salt < 2147483647) :
    ∃ σ', forL (gN 6) fb__law_feed_3 (ran 0 n) [a0, a1, .own (.lst (acc.map D.int)), .val (.int salt), s4, s5, s6] S = .ok .next σ' S ∧
      ∃ (acc' : List Int) (salt : Slot) (s6 : Slot), σ' = [a0, a1, .own (.lst (acc'.map D.int)), salt, s4, s5, s6] ∧ acc'.length = acc.length + n ∧ Good acc' := by
  obtain ⟨σ', S', e, ⟨rfl, acc', salt, s6, h1, h2, h3, h4⟩⟩ := forL_inv (g := gN 6) (f := fb__law_feed_3) (fun k σ S' => S' = S ∧ ∃ (acc' : List Int) (salt : Int) (s6 : Slot), σ = [a0, a1, .own (.lst (acc'.map D.int)), .val (.int salt), s4, s5, s6] ∧ acc'.length = acc.length + k ∧ Good acc' ∧ 0 ≤ salt ∧ salt < 2147483647) (ran 0 n) 0 _ S ⟨rfl, acc, salt, s6, rfl, by simp, hg, h0, h1⟩ (by
    rintro i d σ S' hi ⟨rfl, acc1, salt, s6, rfl, hl1, hg, hs0, hs1⟩
    have hin : i < n := by
      have := (List.getElem?_eq_some_iff.mp hi).1
      simp [ran] at this
      omega
    have hd : d = .int (i : Nat) := by
      unfold ran at hi
      rw [List.getElem?_map] at hi
      obtain ⟨k, hk, rfl⟩ := Option.map_eq_some_iff.mp hi
      rw [List.getElem?_range (by omega)] at hk
      cases hk
      simp
    subst hd
    refine ⟨_, rfl, ?_⟩
    have hlt : acc1.length < most := by unfold most; omega
    have sb : salt * salt < 2 ^ 62 := by
      have : salt * salt ≤ 2147483646 * 2147483646 := Int.mul_le_mul (by omega) (by omega) hs0 (by omega)
      omega
    have sb0 : 0 ≤ salt * salt := Int.mul_nonneg hs0 hs0
    have m1 : mulOk salt salt := mulS ⟨hs0, by omega⟩ ⟨hs0, by omega⟩
    have m2 : mulOk (salt * salt) salt := mulS ⟨sb0, by omega⟩ ⟨hs0, by omega⟩
    have m3 : mulOk 48271 salt := mulS ⟨by omega, by omega⟩ ⟨hs0, by omega⟩
    have m4 : mulOk 13 (i : Nat) := mulS ⟨by omega, by omega⟩ ⟨by omega, by omega⟩
    refine ⟨[a0, a1, .own (.lst ((acc1 ++ [((salt * salt * salt + 48271 * salt + 13 * (i : Nat) + 5) % 2147483629).fdiv 1013 % 1009]).map D.int)), .val (.int ((salt * salt * salt + 48271 * salt + 13 * (i : Nat) + 5) % 2147483629)), s4, s5, .val (.int (i : Nat))], S', ?_, rfl, _, _, _, rfl, by rw [List.length_append, List.length_singleton]; omega, hg.app (by omega) (by omega), by omega, by omega⟩
    simp [fb__law_feed_3, m1, m2, m3, m4, hlt, divOk_1013])
  exact ⟨σ', e, acc', _, s6, h1, by simpa [ran] using h2, h3⟩
theorem cutL_map {α β : Type} (f : α → β) (l : List α) (lo hi : Option Int) : cutL (l.map f) lo hi = (cutL l lo hi).map f := by
  unfold cutL
  rw [List.length_map, List.map_take, List.map_drop]
theorem cutL_to {α : Type} (l : List α) (n : Nat) : cutL l none (some (n : Int)) = l.take n := by
  unfold cutL
  have : HT.sIx l.length l.length (some (n : Int)) = min n l.length := HT.sIx_nat ..
  rw [this]
  show (l.drop 0).take (min n l.length - 0) = l.take n
  rw [List.drop_zero, Nat.sub_zero]
  by_cases h : n ≤ l.length
  · rw [Nat.min_eq_left h]
  · rw [Nat.min_eq_right (by omega), List.take_of_length_le (Nat.le_refl _), List.take_of_length_le (by omega)]
theorem cutL_from {α : Type} (l : List α) (n : Nat) : cutL l (some (n : Int)) none = l.drop n := by
  unfold cutL
  have : HT.sIx l.length 0 (some (n : Int)) = min n l.length := HT.sIx_nat ..
  rw [this]
  show (l.drop (min n l.length)).take (l.length - min n l.length) = l.drop n
  by_cases h : n ≤ l.length
  · rw [Nat.min_eq_left h, List.take_of_length_le (by rw [List.length_drop]; omega)]
  · rw [Nat.min_eq_right (by omega), List.drop_of_length_le (Nat.le_refl _), List.drop_of_length_le (show l.length ≤ n by omega)]
    simp
theorem feed_ok (ns : List Int) (many : Nat) (hm : many ≤ 1000000) (S : Sto) : ∃ fs : List Int, fs.length = many ∧ Good fs ∧ m__law_feed [.scr ns, .int many] S = .ok (.lst (fs.map D.int)) S := by
  have hc : (cutL ns none (some 63)).length ≤ 63 := by
    have := cutL_to ns 63
    rw [show ((63 : Nat) : Int) = 63 from rfl] at this
    rw [this, List.length_take]
    omega
  obtain ⟨σ1, e1, acc, salt, s4, s5, s6, rfl, h1, h2, h3, h4⟩ := feed_2 (S := S) (a0 := .val (.scr ns)) (a1 := .val (.int many)) (cutL ns none (some 63)) hc (s4 := .emp) (s5 := .emp) (s6 := .emp)
  have hsm : small ((many : Int) - (acc.length : Int)) := ⟨by omega, by omega⟩
  have e0 : ran 0 ((many : Int) - (acc.length : Int)) = ran 0 ((many - acc.length : Nat) : Int) := by
    unfold ran
    congr 2
    omega
  obtain ⟨σ2, e2, acc', salt', s6', rfl, h5, h6⟩ := feed_3 (S := S) (a0 := .val (.scr ns)) (a1 := .val (.int many)) (many - acc.length) (by omega) (acc := acc) (salt := salt) (s4 := s4) (s5 := s5) (s6 := s6) h1 h2 h3 h4
  refine ⟨acc'.take many, by rw [List.length_take]; omega, fun v hv => h6 v (List.mem_of_mem_take hv), ?_⟩
  refine dDef_ret (σ' := [.val (.scr ns), .val (.int many), .own (.lst (acc'.map D.int)), salt', s4, s5, s6']) ?_
  have ec : cutL (acc'.map D.int) none (some (many : Int)) = (acc'.take many).map D.int := by rw [cutL_map, cutL_to]
  have hmost : (0 : Nat) ≤ most := Nat.zero_le _
  simp [b__law_feed, e1, hsm, e0, e2, ec, hmost]
theorem gcd_step (x y : Int) (hx : 0 ≤ x) (hy : 0 < y) : Int.gcd y (x % y) = Int.gcd x y := by
  have e : (x % y).natAbs = x.natAbs % y.natAbs := by
    obtain ⟨a, rfl⟩ := Int.eq_ofNat_of_zero_le hx
    obtain ⟨b, rfl⟩ := Int.eq_ofNat_of_zero_le (Int.le_of_lt hy)
    rfl
  show Nat.gcd y.natAbs (x % y).natAbs = Nat.gcd x.natAbs y.natAbs
  rw [e, Nat.gcd_comm, ← Nat.gcd_rec, Nat.gcd_comm]
theorem loop_low (S : Sto) (a b : Slot) : ∀ (n : Nat) (x y : Int), 0 ≤ x → 0 ≤ y → y.toNat < n → sWhile wc__law_low_1 wb__law_low_2 n [a, b, .val (.int x), .val (.int y)] S = .ok .next [a, b, .val (.int (Int.gcd x y)), .val (.int 0)] S := by
  intro n
  induction n with
  | zero => intro x y _ _ h; omega
  | succ n ih =>
    intro x y hx hy h
    rw [sWhile_step]
    by_cases h0 : y = 0
    · subst h0
      have : ((x.natAbs : Nat) : Int) = x := by omega
      simp [wc__law_low_1, this]
    · have hp : 0 < y := by omega
      simp [wc__law_low_1, wb__law_low_2, h0, hp]
      have e := ih y (x % y) hy (Int.emod_nonneg _ h0) (by have := Int.emod_lt_of_pos x hp; omega)
      rw [gcd_step x y hx hp] at e
      simpa [wc__law_low_1, wb__law_low_2] using e
def plain : Nat → D → Bool
  | 0, _ => false
  | _ + 1, .non => true
  | _ + 1, .bl _ => true
  | _ + 1, .int _ => true
  | _ + 1, .str _ => true
  | n + 1, .tup l => l.all (plain n) && decide (l.length ≤ most)
  | n + 1, .lst l => l.all (plain n) && decide (l.length ≤ most)
  | _ + 1, _ => false
theorem bools_rep : ∀ n : Nat, bools (List.replicate n (D.bl true)) = some (List.replicate n true)
  | 0 => rfl
  | n + 1 => by
    rw [List.replicate_succ]
    show (bools (List.replicate n (D.bl true))).map _ = _
    rw [bools_rep n]
    rfl
theorem all_rep (n : Nat) : opAll (.lst (List.replicate n (D.bl true))) = some (.bl true) := by
  show (bools _).map _ = _
  rw [bools_rep]
  simp
theorem same_lc {r : Den} {S : Sto} {a b : Slot} {e : DE} (he : e = dCall r (aCons (dVar 2) (aCons (dVar 3) aNil))) : ∀ (l : List D) (acc : List D), (∀ x ∈ l, r [x, x] S = .ok (.bl true) S ∧ frz x = fun σ S => .ok x σ S) → acc.length + l.length ≤ most →
    lcL (gT 2 (gsCons (gN 2) (gsCons (gN 3) gsNil))) tTrue e [2, 3] (pairs l l) acc [a, b, .emp, .emp] S = .ok (acc ++ List.replicate l.length (D.bl true)) [a, b, .emp, .emp] S
  | [], acc, _, _ => by simp [pairs, lcL]
  | x :: l, acc, h, hl => by
    obtain ⟨h1, h2⟩ := h x (List.mem_cons_self ..)
    have ih := same_lc (a := a) (b := b) (S := S) he l (acc ++ [.bl true]) (fun y hy => h y (List.mem_cons_of_mem _ hy)) (by rw [List.length_append, List.length_singleton]; rw [List.length_cons] at hl; omega)
    have hlt : acc.length < most := by rw [List.length_cons] at hl; omega
    unfold pairs lcL
    simp [gT, gsCons, gsNil, he, h1, h2, hlt]
    simp [wipeD, ← he]
    rw [ih, List.replicate_succ]
    simp
theorem plain_frz : ∀ {n : Nat} {d : D}, plain n d = true → frz d = fun σ S => .ok d σ S
  | 0, d, h => by cases h
  | n + 1, d, h => by cases d <;> first | rfl | cases h
theorem same_refl (S : Sto) : ∀ (n : Nat) (d : D), plain n d = true → r__law_same n [d, d] S = .ok (.bl true) S
  | 0, d, h => by cases h
  | n + 1, d, h => by
    show dDef 4 (b__law_same (r__law_same n)) [d, d] S = _
    cases d with
    | non => exact dDef_ret (σ' := [.val .non, .val .non, .emp, .emp]) (by simp [b__law_same])
    | bl b => exact dDef_ret (σ' := [.val (.bl b), .val (.bl b), .emp, .emp]) (by simp [b__law_same, opIsi, isiD])
    | int i => exact dDef_ret (σ' := [.val (.int i), .val (.int i), .emp, .emp]) (by simp [b__law_same, opIsi, isiD])
    | str x => exact dDef_ret (σ' := [.val (.str x), .val (.str x), .emp, .emp]) (by simp [b__law_same, opIsi, isiD])
    | tup l =>
      obtain ⟨h1, h2⟩ := Bool.and_eq_true_iff.mp h
      have e := same_lc (r := r__law_same n) (S := S) (a := .val (.tup l)) (b := .val (.tup l)) (e := le__law_same_1 (r__law_same n)) rfl l [] (fun x hx => ⟨same_refl S n x (List.all_eq_true.mp h1 x hx), plain_frz (List.all_eq_true.mp h1 x hx)⟩) (by simpa using h2)
      exact dDef_ret (σ' := [.val (.tup l), .val (.tup l), .emp, .emp]) (by simp [b__law_same, opIsi, isiD, dLc, noOwn, wipeD, restD, e, noX, all_rep])
    | lst l =>
      obtain ⟨h1, h2⟩ := Bool.and_eq_true_iff.mp h
      have e := same_lc (r := r__law_same n) (S := S) (a := .val (.lst l)) (b := .val (.lst l)) (e := le__law_same_2 (r__law_same n)) rfl l [] (fun x hx => ⟨same_refl S n x (List.all_eq_true.mp h1 x hx), plain_frz (List.all_eq_true.mp h1 x hx)⟩) (by simpa using h2)
      exact dDef_ret (σ' := [.val (.lst l), .val (.lst l), .emp, .emp]) (by simp [b__law_same, opIsi, isiD, dLc, noOwn, wipeD, restD, e, noX, all_rep])
    | _ => cases h
theorem same_ok {S : Sto} {d : D} (h : plain 8 d = true) : m__law_same [d, d] S = .ok (.bl true) S := same_refl S 8 d h
end MR
set_option Elab.async false
set_option linter.all false
set_option maxRecDepth 100000
set_option exponentiation.threshold 30000
namespace MR
open PySem
def sg (t b : Int) : Int := if b < 0 then -(Int.gcd t b : Int) else (Int.gcd t b : Int)
def frT (t b : Int) : Int := t.fdiv (sg t b)
def frB (t b : Int) : Int := b.fdiv (sg t b)
def fr (t b : Int) : D := .tup [.int (frT t b), .int (frB t b)]
theorem sg_natAbs (t b : Int) : (sg t b).natAbs = Int.gcd t b := by unfold sg; split <;> omega
theorem sg_ne {t b : Int} (h : b ≠ 0) : sg t b ≠ 0 := by
  have := Int.gcd_pos_of_ne_zero_right t h
  unfold sg
  split <;> omega
theorem sg_dvd_t (t b : Int) : sg t b ∣ t := by
  unfold sg
  split
  · exact Int.neg_dvd.mpr (Int.gcd_dvd_left t b)
  · exact Int.gcd_dvd_left t b
theorem sg_dvd_b (t b : Int) : sg t b ∣ b := by
  unfold sg
  split
  · exact Int.neg_dvd.mpr (Int.gcd_dvd_right t b)
  · exact Int.gcd_dvd_right t b
theorem fr_t (t b : Int) : sg t b * frT t b = t := Int.mul_fdiv_cancel' (sg_dvd_t t b)
theorem fr_b (t b : Int) : sg t b * frB t b = b := Int.mul_fdiv_cancel' (sg_dvd_b t b)
theorem sg_pos {t b : Int} (h : 0 < b) : 0 < sg t b := by
  have := Int.gcd_pos_of_ne_zero_right t (show b ≠ 0 by omega)
  unfold sg
  split <;> omega
theorem sg_neg {t b : Int} (h : b < 0) : sg t b < 0 := by
  have := Int.gcd_pos_of_ne_zero_right t (show b ≠ 0 by omega)
  unfold sg
  split <;> omega
theorem frB_pos {t b : Int} (h : b ≠ 0) : 0 < frB t b := by
  have e := fr_b t b
  rcases Int.lt_trichotomy b 0 with hb | hb | hb
  · have hs := sg_neg (t := t) hb
    rcases Int.lt_trichotomy (frB t b) 0 with q | q | q
    · have := Int.mul_pos_of_neg_of_neg hs q
      omega
    · rw [q, Int.mul_zero] at e
      omega
    · exact q
  · exact absurd hb h
  · have hs := sg_pos (t := t) hb
    rcases Int.lt_trichotomy (frB t b) 0 with q | q | q
    · have := Int.mul_neg_of_pos_of_neg hs q
      omega
    · rw [q, Int.mul_zero] at e
      omega
    · exact q
theorem frB_le {t b : Int} (h : b ≠ 0) : (frB t b).natAbs ≤ b.natAbs := by
  have e := congrArg Int.natAbs (fr_b t b)
  rw [Int.natAbs_mul] at e
  have : 0 < (sg t b).natAbs := by have := sg_ne (t := t) h; omega
  rw [← e]
  exact Nat.le_mul_of_pos_left _ this
theorem frT_le {t b : Int} (h : b ≠ 0) : (frT t b).natAbs ≤ t.natAbs := by
  have e := congrArg Int.natAbs (fr_t t b)
  rw [Int.natAbs_mul] at e
  have : 0 < (sg t b).natAbs := by have := sg_ne (t := t) h; omega
  rw [← e]
  exact Nat.le_mul_of_pos_left _ this
theorem sg_small {t b : Int} {n : Nat} (h : b ≠ 0) (hn : b.natAbs < 2 ^ n) : (sg t b).natAbs < 2 ^ n := by
  rw [sg_natAbs]
  exact Nat.lt_of_le_of_lt (Nat.le_of_dvd (by omega) (Int.gcd_dvd_natAbs_right t b)) hn
def okB (b : Int) : Prop := b ≠ 0 ∧ b.natAbs < 2 ^ 9000
theorem okB.fuel {b : Int} (h : okB b) : b.natAbs < fuel := Nat.lt_of_lt_of_le h.2 (by unfold MR.fuel; exact Nat.pow_le_pow_right (by decide) (by decide))
theorem okB.div {t b : Int} (h : okB b) : divOk (sg t b) := divOk_of (sg_ne h.1) (sg_small h.1 h.2) (by decide) (by decide)
theorem most3 : 2 ≤ most := by decide
theorem low_eq {t b : Int} (h : okB b) (S : Sto) : m__law_low [.int t, .int b] S = .ok (fr t b) S := by
  have e := loop_low S (.val (.int t)) (.val (.int b)) fuel (t.natAbs : Int) (b.natAbs : Int) (by omega) (by omega) (by have := h.fuel; omega)
  have e2 : Int.gcd (t.natAbs : Int) (b.natAbs : Int) = Int.gcd t b := by simp [Int.gcd]
  rw [e2] at e
  have hd := h.div (t := t)
  refine dDef_ret (σ' := [.val (.int t), .val (.int b), .val (.int (sg t b)), .val (.int 0)]) ?_
  unfold sg at hd
  by_cases hb : b < 0
  · rw [if_pos hb] at hd
    have hs : sg t b = -(Int.gcd t b : Int) := if_pos hb
    simp [b__law_low, e, hb, fr, frT, frB, hs, hd, most3]
  · rw [if_neg hb] at hd
    have hs : sg t b = (Int.gcd t b : Int) := if_neg hb
    simp [b__law_low, e, hb, fr, frT, frB, hs, hd, most3]
end MR
set_option Elab.async false
set_option linter.all false
set_option maxRecDepth 100000
namespace MR
open PySem
def abc : Str := "abcdefghijklmnopqrstuvwxyz"
def letter (c : Nat) : Bool := hasC abc c
def letters (t : Str) : Bool := t.cps.toList.all letter
def isNm (t : Str) : Bool := (decide (1 ≤ t.length) && decide (t.length ≤ 8)) && letters t
theorem signs_lc {i : Nat} {e : DE} {σ σ' : Sl} {S : Sto} {it : DI} {t : Str} (p : Nat → Bool) (a : D → Sl) (hi : it σ S = .ok (signs t) σ' S) (hno : noOwn σ' [i] = true) (hl : t.length ≤ most)
    (st : ∀ c : Nat, (gN i) (.str ⟨#[c]⟩) (wipeD σ' [i]) = some (a (.str ⟨#[c]⟩)) ∧ wipeD (a (.str ⟨#[c]⟩)) [i] = wipeD σ' [i] ∧ dV e (a (.str ⟨#[c]⟩)) S = .ok (.bl (p c)) (a (.str ⟨#[c]⟩)) S) :
    dLc it (gN i) tTrue e [i] σ S = .ok (.lst (t.cps.toList.map fun c => .bl (p c))) σ' S := by
  have := dLc_map (it := it) (g := gN i) (e := e) (vs := [i]) a (fun d => match d with
    | .str x => .bl (p (x.cps.getD 0 0))
    | d => d) hi hno (by unfold signs; rw [List.length_map]; exact hl) fun d hd => by
      unfold signs at hd
      obtain ⟨c, _, rfl⟩ := List.mem_map.mp hd
      exact st c
  rw [this]
  unfold signs
  rw [List.map_map]
  rfl
theorem is_name_eq {t : Str} (h : t.length ≤ most) (S : Sto) : m_is_name [.str t] S = .ok (.bl (isNm t)) S := by
  have e : dLc (iStr (dVar 0)) (gN 1) tTrue le_is_name_1 [1] [.val (.str t), .emp] S = .ok (.lst (t.cps.toList.map fun c => .bl (letter c))) [.val (.str t), .emp] S :=
    signs_lc letter (fun d => [.val (.str t), .val d]) (by simp) rfl h fun c => ⟨rfl, rfl, by simp [le_is_name_1, opIn_sign]; rfl⟩
  refine dDef_ret (σ' := [.val (.str t), .emp]) ?_
  unfold isNm letters
  by_cases h1 : 1 ≤ t.length
  · by_cases h8 : t.length ≤ 8
    · have h1' : (1 : Int) ≤ (t.length : Int) := by omega
      have h8' : (t.length : Int) ≤ 8 := by omega
      simp [b_is_name, h, h1', h8', e, opAll_map, h1, h8]
    · have h1' : (1 : Int) ≤ (t.length : Int) := by omega
      have h8' : ¬ (t.length : Int) ≤ 8 := by omega
      simp [b_is_name, h, h1', h8', h1, h8]
  · have h1' : ¬ (1 : Int) ≤ (t.length : Int) := by omega
    simp [b_is_name, h, h1', h1]
end MR
set_option Elab.async false
set_option linter.all false
set_option maxRecDepth 100000
set_option exponentiation.threshold 30000
namespace MR
open PySem
theorem atI_map {f : Int → D} {l : List Int} {n : Nat} (h : n < l.length) : L2.atI (l.map f) (n : Int) = some (f (l[n]'h)) := by
  refine L2.atI_nat ?_
  rw [List.getElem?_map, List.getElem?_eq_getElem h]
  rfl
theorem Good.drop {l : List Int} (h : Good l) (n : Nat) : Good (l.drop n) := fun v hv => h v (List.mem_of_mem_drop hv)
abbrev Fr := Int × Int
def encF (p : Fr) : D := .tup [.int p.1, .int p.2]
structure Sz (n : Nat) (p : Fr) : Prop where
  t : p.1.natAbs < 2 ^ n
  b : p.2.natAbs < 2 ^ n
  pos : 0 < p.2
theorem Sz.mono {n m : Nat} {p : Fr} (h : Sz n p) (hm : n ≤ m) : Sz m p := ⟨Nat.lt_of_lt_of_le h.t (Nat.pow_le_pow_right (by decide) hm), Nat.lt_of_lt_of_le h.b (Nat.pow_le_pow_right (by decide) hm), h.pos⟩
def addF (p q : Fr) : Fr := (frT (p.1 * q.2 + q.1 * p.2) (p.2 * q.2), frB (p.1 * q.2 + q.1 * p.2) (p.2 * q.2))
def subF (p q : Fr) : Fr := (frT (p.1 * q.2 - q.1 * p.2) (p.2 * q.2), frB (p.1 * q.2 - q.1 * p.2) (p.2 * q.2))
theorem mul_bits {i j : Int} {a b : Nat} (ha : i.natAbs < 2 ^ a) (hb : j.natAbs < 2 ^ b) : (i * j).natAbs < 2 ^ (a + b) := by
  rw [Int.natAbs_mul, Nat.pow_add]
  exact Nat.mul_lt_mul'' ha hb
theorem Sz.bb {n m : Nat} {p q : Fr} (h : Sz n p) (k : Sz m q) : p.2 * q.2 ≠ 0 := by
  have := Int.mul_pos h.pos k.pos
  omega
theorem Sz.sub {n m : Nat} {p q : Fr} (h : Sz n p) (k : Sz m q) : Sz (n + m + 1) (subF p q) := by
  have h0 := h.bb k
  have b1 := mul_bits h.t k.b
  have b2 := mul_bits k.t h.b
  have b3 := mul_bits h.b k.b
  have p2 : 2 ^ (n + m + 1) = 2 ^ (n + m) + 2 ^ (n + m) := by rw [Nat.pow_succ]; omega
  rw [Nat.add_comm m n] at b2
  refine ⟨Nat.lt_of_le_of_lt (frT_le h0) ?_, Nat.lt_of_le_of_lt (frB_le h0) ?_, frB_pos h0⟩
  · have := Int.natAbs_sub_le (p.1 * q.2) (q.1 * p.2)
    omega
  · omega
theorem Sz.mulOk {i j : Int} {n m : Nat} (h : i.natAbs < 2 ^ n) (k : j.natAbs < 2 ^ m) (hn : n + m ≤ 9000) : MR.mulOk i j := mulOk_of (a := n + 1) (b := m + 1) (Nat.lt_of_lt_of_le h (Nat.pow_le_pow_right (by decide) (by omega))) (Nat.lt_of_lt_of_le k (Nat.pow_le_pow_right (by decide) (by omega))) (by omega) (by omega) (by omega)
@[simp] theorem deref_F (p : Fr) (σ : Sl) (S : Sto) : deref σ S (encF p) = some (encF p) := rfl
@[simp] theorem frz_F (p : Fr) (σ : Sl) (S : Sto) : frz (encF p) σ S = .ok (encF p) σ S := rfl
end MR
set_option Elab.async false
set_option linter.all false
set_option maxRecDepth 100000
namespace MR
open PySem
def txt (l : List Nat) : Str := ⟨l.toArray⟩
@[simp] theorem txt_len (l : List Nat) : (txt l).length = l.length := by unfold txt Str.length; simp
@[simp] theorem txt_cps (l : List Nat) : (txt l).cps.toList = l := by unfold txt; simp
theorem txt_inj {l m : List Nat} (h : txt l = txt m) : l = m := by
  have := congrArg (fun z : Str => z.cps.toList) h
  simpa using this
theorem txt_app (l m : List Nat) : txt l ++ txt m = txt (l ++ m) := by
  show Str.append _ _ = _
  unfold Str.append txt
  simp
theorem join_signs (l : List Nat) : Txt.join "" (l.map fun c => txt [c]) = txt l := by
  show Builtin.Str.glued _ _ = _
  rw [StrLaws.glued_eq_join]
  induction l with
  | nil => rfl
  | cons c l ih =>
    cases l with
    | nil => rfl
    | cons c2 l =>
      show txt [c] ++ ("" : Str) ++ Str.join "" ((c2 :: l).map fun c => txt [c]) = _
      rw [ih]
      have : ("" : Str) = txt [] := by decide +kernel
      rw [this, txt_app, txt_app]
      rfl
theorem cutS_to (l : List Nat) (n : Nat) : L2.cutS (txt l) none (some (n : Int)) = txt (l.take n) := by
  have := cutL_to l n
  unfold cutL at this
  unfold L2.cutS
  rw [txt_len, txt_cps, this]
  rfl
theorem cutS_from (l : List Nat) (n : Nat) : L2.cutS (txt l) (some (n : Int)) none = txt (l.drop n) := by
  have := cutL_from l n
  unfold cutL at this
  unfold L2.cutS
  rw [txt_len, txt_cps, this]
  rfl
theorem rep_sign (c n : Nat) : repS (txt [c]) n = txt (List.replicate n c) := by
  unfold repS
  rw [txt_cps]
  congr 2
  induction n with
  | zero => rfl
  | succ n ih => rw [List.replicate_succ, List.flatten_cons, ih, List.replicate_succ]; rfl
theorem abc_at : ∀ k : Fin 26, abc.cps.toList[k.val]? = some (97 + k.val) := by decide +kernel
theorem abc_let : ∀ k : Fin 26, letter (97 + k.val) = true := by decide +kernel
theorem abc_len : abc.length = 26 := by decide +kernel
theorem abc_ix (v : Int) : opIx (.str abc) (.int (v % 26)) = some (.str (txt [97 + (v % 26).toNat])) := by
  have h := abc_at ⟨(v % 26).toNat, by omega⟩
  have h2 := L2.atI_nat h
  rw [Int.toNat_of_nonneg (by omega)] at h2
  have e : opIx (.str abc) (.int (v % 26)) = if abc.length ≤ most then (L2.atI abc.cps.toList (v % 26)).map (fun c => D.str ⟨#[c]⟩) else none := rfl
  rw [e, if_pos (by rw [abc_len]; decide), h2]
  rfl
theorem letter_of (v : Int) : letter (97 + (v % 26).toNat) = true := abc_let ⟨(v % 26).toNat, by omega⟩
def nmOf (base : List Nat) (at_ : Nat) (rep : Bool) (x0 x3 : Int) (k : Nat) : List Nat :=
  if rep then List.replicate (1 + (x0 + 3 * k) % 8).toNat (97 + ((x3 + 7 * k) % 26).toNat) else base.take at_ ++ (97 + ((x3 + 7 * k) % 26).toNat) :: base.drop at_
theorem nmOf_ok {base : List Nat} {at_ : Nat} {rep : Bool} {x0 x3 : Int} {k : Nat} (hb : base.length ≤ 7) (hl : ∀ c ∈ base, letter c = true) : isNm (txt (nmOf base at_ rep x0 x3 k)) = true := by
  have key : ∀ l : List Nat, 1 ≤ l.length → l.length ≤ 8 → (∀ c ∈ l, letter c = true) → isNm (txt l) = true := fun l h1 h2 h3 => by
    unfold isNm letters
    rw [txt_len, txt_cps, Bool.and_eq_true, Bool.and_eq_true, decide_eq_true_iff, decide_eq_true_iff, List.all_eq_true]
    exact ⟨⟨h1, h2⟩, h3⟩
  unfold nmOf
  cases rep with
  | true =>
    rw [if_pos rfl]
    refine key _ (by rw [List.length_replicate]; omega) (by rw [List.length_replicate]; omega) fun c hc => ?_
    rw [List.eq_of_mem_replicate hc]
    exact letter_of _
  | false =>
    rw [if_neg Bool.false_ne_true]
    refine key _ (by simp; omega) (by simp; omega) fun c hc => ?_
    rcases List.mem_append.mp hc with hc | hc
    · exact hl c (List.mem_of_mem_take hc)
    · rcases List.mem_cons.mp hc with rfl | hc
      · exact letter_of _
      · exact hl c (List.mem_of_mem_drop hc)
theorem nmOf_inj {base : List Nat} {at_ : Nat} {rep : Bool} {x0 x3 : Int} {k j : Nat} (ha : at_ ≤ base.length) (hk : k < 26) (hj : j < 26) (h : nmOf base at_ rep x0 x3 k = nmOf base at_ rep x0 x3 j) : k = j := by
  have : (97 + ((x3 + 7 * k) % 26).toNat) = (97 + ((x3 + 7 * j) % 26).toNat) := by
    unfold nmOf at h
    cases rep with
    | true =>
      rw [if_pos rfl, if_pos rfl] at h
      have e1 : (1 + (x0 + 3 * (k : Int)) % 8).toNat = ((x0 + 3 * (k : Int)) % 8).toNat + 1 := by omega
      have e2 : (1 + (x0 + 3 * (j : Int)) % 8).toNat = ((x0 + 3 * (j : Int)) % 8).toNat + 1 := by omega
      rw [e1, e2, List.replicate_succ, List.replicate_succ] at h
      injection h
    | false =>
      rw [if_neg Bool.false_ne_true, if_neg Bool.false_ne_true] at h
      have := (List.append_cancel_left_eq _ _ _).mp h
      injection this
  omega
def baseOf (x0 x1 : Int) : List Nat := (List.range (x1 % 8).toNat).map fun k => 97 + ((x0 + ((k : Nat) + 1) * x1.fdiv 8) % 26).toNat
theorem baseOf_len (x0 x1 : Int) : (baseOf x0 x1).length = (x1 % 8).toNat := by unfold baseOf; rw [List.length_map, List.length_range]
theorem baseOf_let (x0 x1 : Int) : ∀ c ∈ baseOf x0 x1, letter c = true := fun c hc => by
  obtain ⟨k, _, rfl⟩ := List.mem_map.mp hc
  exact letter_of _
structure Nms (n : Nat) (l : List Str) : Prop where
  len : l.length = n
  nd : l.Nodup
  nm : ∀ x ∈ l, isNm x = true
theorem nm_loop {ds : List D} {x0 x2 x3 : Int} {base : List Nat} {at_ : Nat} (h0 : L2.atI ds 0 = some (.int x0)) (h2 : L2.atI ds 2 = some (.int x2)) (h3 : L2.atI ds 3 = some (.int x3)) (g0 : 0 ≤ x0 ∧ x0 < 1000003) (g3 : 0 ≤ x3 ∧ x3 < 1000003)
    (hb : base.length ≤ 7) (ha : at_ ≤ base.length) (n : Nat) (hn : n ≤ 26) {s1 s6 s7 s8 : Slot} (S : Sto) : ∃ u6 u7 u8, forL (gN 6) fb__law_names_2 (ran 0 n) [.val (.lst ds), s1, .val (.str abc), .val (.str (txt base)), .val (.int at_), .own (.lst []), s6, s7, s8] S =
      .ok .next [.val (.lst ds), s1, .val (.str abc), .val (.str (txt base)), .val (.int at_), .own (.lst ((List.range n).map fun k => .str (txt (nmOf base at_ (decide (x2.fdiv 8 % 2 = 1)) x0 x3 k)))), u6, u7, u8] S := by
  obtain ⟨σ', S', e, rfl, t6, t7, t8, rfl⟩ := forL_inv (g := gN 6) (f := fb__law_names_2) (fun i σ S' => S' = S ∧ ∃ s6 s7 s8, σ = [.val (.lst ds), s1, .val (.str abc), .val (.str (txt base)), .val (.int at_), .own (.lst ((List.range i).map fun k => .str (txt (nmOf base at_ (decide (x2.fdiv 8 % 2 = 1)) x0 x3 k)))), s6, s7, s8]) (ran 0 n) 0 [.val (.lst ds), s1, .val (.str abc), .val (.str (txt base)), .val (.int at_), .own (.lst []), s6, s7, s8] S ⟨rfl, s6, s7, s8, rfl⟩ (by
    rintro i d σ S' hi ⟨rfl, s6, s7, s8, rfl⟩
    have hin : i < n := by
      have := (List.getElem?_eq_some_iff.mp hi).1
      simp [ran] at this
      omega
    have hd : d = .int (i : Nat) := by
      unfold ran at hi
      rw [List.getElem?_map] at hi
      obtain ⟨k, hk, rfl⟩ := Option.map_eq_some_iff.mp hi
      rw [List.getElem?_range (by omega)] at hk
      cases hk
      simp
    subst hd
    refine ⟨_, rfl, ?_⟩
    rw [Nat.zero_add]
    generalize hacc : ((List.range i).map fun k => D.str (txt (nmOf base at_ (decide (x2.fdiv 8 % 2 = 1)) x0 x3 k))) = acc
    have hal : acc.length < most := by rw [← hacc, List.length_map, List.length_range]; unfold most; omega
    have e1 : (List.range (i + 1)).map (fun k => D.str (txt (nmOf base at_ (decide (x2.fdiv 8 % 2 = 1)) x0 x3 k))) = acc ++ [.str (txt (nmOf base at_ (decide (x2.fdiv 8 % 2 = 1)) x0 x3 i))] := by
      rw [List.range_succ, List.map_append, hacc]; rfl
    rw [e1]
    have m7 : mulOk 7 (i : Int) := mulS (by omega) (by omega)
    have m3 : mulOk 3 (i : Int) := mulS (by omega) (by omega)
    have d8 : divOk 8 := by decide
    have es := abc_ix (x3 + 7 * (i : Int))
    have c1 := cutS_to base at_
    have c2 := cutS_from base at_
    have hbm : base.length ≤ most := by unfold most; omega
    have eA : opAdd (.str (txt (base.take at_))) (.str (txt [97 + ((x3 + 7 * (i : Int)) % 26).toNat])) = some (.str (txt (base.take at_ ++ [97 + ((x3 + 7 * (i : Int)) % 26).toNat]))) := by
      rw [opAdd_str (by rw [txt_len, txt_len, List.length_take, List.length_singleton]; unfold most; omega), txt_app]
    have eB : opAdd (.str (txt (base.take at_ ++ [97 + ((x3 + 7 * (i : Int)) % 26).toNat]))) (.str (txt (base.drop at_))) = some (.str (txt (base.take at_ ++ (97 + ((x3 + 7 * (i : Int)) % 26).toNat) :: base.drop at_))) := by
      rw [opAdd_str (by rw [txt_len, txt_len, List.length_append, List.length_take, List.length_singleton, List.length_drop]; unfold most; omega), txt_app, List.append_assoc]
      rfl
    have eM : opMul' (.str (txt [97 + ((x3 + 7 * (i : Int)) % 26).toNat])) (.int (1 + (x0 + 3 * (i : Int)) % 8)) = some (.str (txt (List.replicate (1 + (x0 + 3 * (i : Int)) % 8).toNat (97 + ((x3 + 7 * (i : Int)) % 26).toNat)))) := by
      have : opMul' (.str (txt [97 + ((x3 + 7 * (i : Int)) % 26).toNat])) (.int (1 + (x0 + 3 * (i : Int)) % 8)) = some (.str (repS (txt [97 + ((x3 + 7 * (i : Int)) % 26).toNat]) (1 + (x0 + 3 * (i : Int)) % 8).toNat)) := if_pos ⟨by omega, by omega, by rw [txt_len, List.length_singleton]; unfold most; omega⟩
      rw [this, rep_sign]
    by_cases hr : x2.fdiv 8 % 2 = 1
    · refine ⟨[.val (.lst ds), s1, .val (.str abc), .val (.str (txt base)), .val (.int at_), .own (.lst (acc ++ [.str (txt (nmOf base at_ (decide (x2.fdiv 8 % 2 = 1)) x0 x3 i))])), .val (.int i), .val (.str (txt [97 + ((x3 + 7 * (i : Int)) % 26).toNat])), .val (.str (txt (nmOf base at_ (decide (x2.fdiv 8 % 2 = 1)) x0 x3 i)))], S', ?_, rfl, _, _, _, rfl⟩
      have en : nmOf base at_ (decide (x2.fdiv 8 % 2 = 1)) x0 x3 i = List.replicate (1 + (x0 + 3 * (i : Int)) % 8).toNat (97 + ((x3 + 7 * (i : Int)) % 26).toNat) := by unfold nmOf; rw [if_pos (decide_eq_true hr)]
      rw [en]
      generalize List.replicate (1 + (x0 + 3 * (i : Int)) % 8).toNat (97 + ((x3 + 7 * (i : Int)) % 26).toNat) = z at *
      generalize txt [97 + ((x3 + 7 * (i : Int)) % 26).toNat] = sg at *
      generalize base.take at_ = z1 at *
      simp [fb__law_names_2, h0, h2, h3, m7, m3, d8, es, hbm, c1, c2, eA, eB, eM, hr, hal]
    · refine ⟨[.val (.lst ds), s1, .val (.str abc), .val (.str (txt base)), .val (.int at_), .own (.lst (acc ++ [.str (txt (nmOf base at_ (decide (x2.fdiv 8 % 2 = 1)) x0 x3 i))])), .val (.int i), .val (.str (txt [97 + ((x3 + 7 * (i : Int)) % 26).toNat])), .val (.str (txt (nmOf base at_ (decide (x2.fdiv 8 % 2 = 1)) x0 x3 i)))], S', ?_, rfl, _, _, _, rfl⟩
      have en : nmOf base at_ (decide (x2.fdiv 8 % 2 = 1)) x0 x3 i = base.take at_ ++ (97 + ((x3 + 7 * (i : Int)) % 26).toNat) :: base.drop at_ := by unfold nmOf; rw [if_neg]; simp [hr]
      rw [en]
      generalize base.take at_ ++ (97 + ((x3 + 7 * (i : Int)) % 26).toNat) :: base.drop at_ = z at *
      generalize txt [97 + ((x3 + 7 * (i : Int)) % 26).toNat] = sg at *
      generalize base.take at_ ++ [97 + ((x3 + 7 * (i : Int)) % 26).toNat] = z2 at *
      simp [fb__law_names_2, h0, h2, h3, m7, m3, d8, es, hbm, c1, c2, eA, eB, hr, hal])
  have : 0 + (ran 0 (n : Int)).length = n := by simp [ran]
  rw [this] at e
  exact ⟨t6, t7, t8, e⟩
theorem ran_mem {n : Int} {d : D} (h : d ∈ ran 0 n) : ∃ k : Nat, (k : Int) < n ∧ d = .int k := by
  unfold ran at h
  obtain ⟨k, hk, rfl⟩ := List.mem_map.mp h
  rw [List.mem_range] at hk
  exact ⟨k, by omega, by simp⟩
theorem ran_map {α : Type} (f : D → α) (n : Int) : (ran 0 n).map f = (List.range n.toNat).map fun k => f (.int (k : Nat)) := by
  unfold ran
  rw [List.map_map]
  simp
theorem names_end {ds out : List D} {m a : Int} {z tb : Str} {S : Sto} {u6 u7 u8 : Slot} (hsn : small m) (el : forL (gN 6) fb__law_names_2 (ran 0 m) [.val (.lst ds), .val (.int m), .val (.str z), .val (.str tb), .val (.int a), .own (.lst []), .emp, .emp, .emp] S = .ok .next [.val (.lst ds), .val (.int m), .val (.str z), .val (.str tb), .val (.int a), .own (.lst out), u6, u7, u8] S) :
  sSeq (sSetO 5 (dLst aNil)) (sSeq (sFor (iRan1 (dVar 1)) (gN 6) fb__law_names_2) (sRetO 5)) [.val (.lst ds), .val (.int m), .val (.str z), .val (.str tb), .val (.int a), .emp, .emp, .emp, .emp] S = .ok (.ret (.lst out)) [.val (.lst ds), .val (.int m), .val (.str z), .val (.str tb), .val (.int a), .own (.lst out), u6, u7, u8] S := by
  have m0 : 0 ≤ most := Nat.zero_le _
  simp [m0, hsn, el]
theorem names_ok {l : List Int} (hl : 4 ≤ l.length) (hg : Good l) (n : Nat) (hn : n ≤ 26) (S : Sto) : ∃ ys : List Str, Nms n ys ∧ m__law_names [.lst (l.map D.int), .int n] S = .ok (.lst (ys.map D.str)) S := by
  have a0 := atI_map (f := D.int) (l := l) (n := 0) (by omega)
  have a1 := atI_map (f := D.int) (l := l) (n := 1) (by omega)
  have a2 := atI_map (f := D.int) (l := l) (n := 2) (by omega)
  have a3 := atI_map (f := D.int) (l := l) (n := 3) (by omega)
  have g0 := hg _ (List.getElem_mem (h := show 0 < l.length by omega))
  have g1 := hg _ (List.getElem_mem (h := show 1 < l.length by omega))
  have g3 := hg _ (List.getElem_mem (h := show 3 < l.length by omega))
  generalize l[0]'(by omega) = x0 at a0 g0
  generalize l[1]'(by omega) = x1 at a1 g1
  generalize l[2]'(by omega) = x2 at a2
  generalize l[3]'(by omega) = x3 at a3 g3
  have a0 : L2.atI (l.map D.int) 0 = some (.int x0) := a0
  have a1 : L2.atI (l.map D.int) 1 = some (.int x1) := a1
  have a2 : L2.atI (l.map D.int) 2 = some (.int x2) := a2
  have a3 : L2.atI (l.map D.int) 3 = some (.int x3) := a3
  generalize l.map D.int = ds at *
  have hb : (baseOf x0 x1).length ≤ 7 := by rw [baseOf_len]; omega
  have hsm : small (x1 % 8) := ⟨by omega, by omega⟩
  have habc : ("abcdefghijklmnopqrstuvwxyz" : Str) = abc := rfl
  have d8 : divOk 8 := by decide
  have f8 : 0 ≤ x1.fdiv 8 ∧ x1.fdiv 8 < 1000003 := by rw [Int.fdiv_eq_ediv_of_nonneg _ (by omega)]; omega
  have ec : dLc (iRan1 (d2 opMod (d2 opIx (dVar 0) (dC (.int 1))) (dC (.int 8)))) (gN 6) tTrue le__law_names_1 [6] [.val (.lst ds), .val (.int n), .val (.str abc), .emp, .emp, .emp, .emp, .emp, .emp] S = .ok (.lst ((baseOf x0 x1).map fun c => .str (txt [c]))) [.val (.lst ds), .val (.int n), .val (.str abc), .emp, .emp, .emp, .emp, .emp, .emp] S := by
    have := dLc_map (it := iRan1 (d2 opMod (d2 opIx (dVar 0) (dC (.int 1))) (dC (.int 8)))) (g := gN 6) (e := le__law_names_1) (vs := [6]) (σ := [.val (.lst ds), .val (.int n), .val (.str abc), .emp, .emp, .emp, .emp, .emp, .emp]) (σ' := [.val (.lst ds), .val (.int n), .val (.str abc), .emp, .emp, .emp, .emp, .emp, .emp]) (S := S) (items := ran 0 (x1 % 8))
      (fun d => [.val (.lst ds), .val (.int n), .val (.str abc), .emp, .emp, .emp, .val d, .emp, .emp]) (fun d => match d with
        | .int k => .str (txt [97 + ((x0 + (k + 1) * x1.fdiv 8) % 26).toNat])
        | d => d) (by simp [a1, hsm]) rfl (by unfold ran most; rw [List.length_map, List.length_range]; omega) fun d hd => by
          obtain ⟨k, hk, rfl⟩ := ran_mem hd
          have m1 : mulOk ((k : Int) + 1) (x1.fdiv 8) := mulS (by omega) (by omega)
          have es := abc_ix (x0 + ((k : Int) + 1) * x1.fdiv 8)
          exact ⟨rfl, rfl, by simp [le__law_names_1, a0, a1, d8, m1, es]⟩
    rw [this, ran_map]
    unfold baseOf
    rw [List.map_map]
    rfl
  have ej : opJoin (.str "") (.lst ((baseOf x0 x1).map fun c => .str (txt [c]))) = some (.str (txt (baseOf x0 x1))) := by
    have e1 : ((baseOf x0 x1).map fun c => D.str (txt [c])) = ((baseOf x0 x1).map fun c => txt [c]).map D.str := by rw [List.map_map]; rfl
    rw [e1]
    show (strsD _).bind _ = _
    rw [strsD_map]
    show (if _ then _ else _) = _
    have hs : ∀ z : List Nat, ((z.map fun c => txt [c]).map (·.length)).sum = z.length := by
      intro z
      induction z with
      | nil => rfl
      | cons c z ih => rw [List.map_cons, List.map_cons, List.sum_cons, ih, txt_len, List.length_cons]; simp; omega
    have he0 : ("" : Str).length = 0 := by decide +kernel
    rw [if_pos (by rw [hs, he0, List.length_map]; unfold most; omega), join_signs]
  have hbl := baseOf_let x0 x1
  generalize baseOf x0 x1 = base at *
  have hat : ∃ at_ : Nat, x2 % ((base.length : Int) + 1) = at_ ∧ at_ ≤ base.length := by
    have h1 := Int.emod_nonneg x2 (b := (base.length : Int) + 1) (by omega)
    have h2 := Int.emod_lt_of_pos x2 (b := (base.length : Int) + 1) (by omega)
    exact ⟨(x2 % ((base.length : Int) + 1)).toNat, by omega, by omega⟩
  obtain ⟨at_, eat, hat⟩ := hat
  obtain ⟨u6, u7, u8, el⟩ := nm_loop a0 a2 a3 g0 g3 hb hat n hn (s1 := .val (.int n)) (s6 := .emp) (s7 := .emp) (s8 := .emp) S
  refine ⟨(List.range n).map fun k => txt (nmOf base at_ (decide (x2.fdiv 8 % 2 = 1)) x0 x3 k), ⟨by rw [List.length_map, List.length_range], ?_, fun y hy => ?_⟩, ?_⟩
  · unfold List.Nodup
    rw [List.pairwise_map]
    refine List.Pairwise.imp_of_mem (fun {a b} ha hb' hne e => hne (nmOf_inj hat ?_ ?_ (txt_inj e))) (List.nodup_range (n := n))
    · rw [List.mem_range] at ha; omega
    · rw [List.mem_range] at hb'; omega
  · obtain ⟨k, _, rfl⟩ := List.mem_map.mp hy
    exact nmOf_ok hb hbl
  · rw [List.map_map]
    have hsn : small (n : Int) := ⟨by omega, by omega⟩
    have hbm : base.length ≤ most := by unfold most; omega
    have hp : (0 : Int) < (base.length : Int) + 1 := by omega
    have m0 : 0 ≤ most := Nat.zero_le _
    refine dDef_ret (σ' := [.val (.lst ds), .val (.int n), .val (.str abc), .val (.str (txt base)), .val (.int at_), .own (.lst ((List.range n).map fun k => .str (txt (nmOf base at_ (decide (x2.fdiv 8 % 2 = 1)) x0 x3 k)))), u6, u7, u8]) ?_
    have ho : ((List.range n).map (D.str ∘ fun k => txt (nmOf base at_ (decide (x2.fdiv 8 % 2 = 1)) x0 x3 k))) = ((List.range n).map fun k => D.str (txt (nmOf base at_ (decide (x2.fdiv 8 % 2 = 1)) x0 x3 k))) := rfl
    rw [ho]
    generalize ((List.range n).map fun k => D.str (txt (nmOf base at_ (decide (x2.fdiv 8 % 2 = 1)) x0 x3 k))) = out at el
    have hbm : (txt base).length ≤ most := by rw [txt_len]; exact hbm
    have hlen : opLen (.str (txt base)) = some (.int base.length) := by rw [opLen_str hbm, txt_len]
    have hmod : opMod (.int x2) (.int ((base.length : Int) + 1)) = some (.int at_) := by rw [opMod_int hp, eat]
    generalize txt base = tb at *
    show b__law_names [.val (.lst ds), .val (.int n), .emp, .emp, .emp, .emp, .emp, .emp, .emp] S = _
    unfold b__law_names
    rw [habc]
    rw [sSeq_next (σ1 := [.val (.lst ds), .val (.int n), .val (.str abc), .emp, .emp, .emp, .emp, .emp, .emp]) (S1 := S) (by simp)]
    rw [sSeq_next (σ1 := [.val (.lst ds), .val (.int n), .val (.str abc), .val (.str tb), .emp, .emp, .emp, .emp, .emp]) (S1 := S) (by simp [ec, ej])]
    rw [sSeq_next (σ1 := [.val (.lst ds), .val (.int n), .val (.str abc), .val (.str tb), .val (.int at_), .emp, .emp, .emp, .emp]) (S1 := S) (by simp [a2, hlen, hmod])]
    exact names_end hsn el
end MR
set_option Elab.async false
set_option linter.all false
set_option maxRecDepth 100000
namespace MR
open PySem
def gr : Nat → D → Bool
  | _, .non => true
  | _, .int _ => true
  | _, .str x => PyData.strOk x
  | n + 1, .tup l => l.all (gr n)
  | n + 1, .lst l => l.all (gr n)
  | _, _ => false
theorem toDatas_cons (d : D) (ds : List D) : toData.toDatas (d :: ds) = (toData d).bind fun x => (toData.toDatas ds).map fun xs => x :: xs := rfl
theorem gr_data : ∀ (n : Nat) (d : D), gr n d = true → ∃ x, toData d = some x ∧ x.canLay0 = true ∧ x.depth ≤ n
  | n, .non, _ => ⟨_, rfl, rfl, Nat.zero_le _⟩
  | n, .int i, _ => ⟨_, rfl, rfl, Nat.zero_le _⟩
  | n, .str x, h => ⟨_, rfl, by cases n <;> exact h, Nat.zero_le _⟩
  | n + 1, .tup l, h => by
    have ih := gr_data n
    have : ∀ l : List D, l.all (gr n) = true → ∃ xs, toData.toDatas l = some xs ∧ PyData.canLayAll0 xs = true ∧ PyData.depthAll xs ≤ n := by
      intro l
      induction l with
      | nil => exact fun _ => ⟨[], rfl, rfl, Nat.zero_le _⟩
      | cons d ds hi =>
        intro h
        rw [List.all_cons, Bool.and_eq_true] at h
        obtain ⟨x, e1, e2, e3⟩ := ih d h.1
        obtain ⟨xs, f1, f2, f3⟩ := hi h.2
        refine ⟨x :: xs, by rw [toDatas_cons, e1, f1]; rfl, by rw [PyData.canLayAll0, e2, f2]; rfl, ?_⟩
        rw [PyData.depthAll]
        omega
    obtain ⟨xs, e1, e2, e3⟩ := this l h
    refine ⟨.tuple xs, ?_, e2, ?_⟩
    · show (toData.toDatas l).map _ = _
      rw [e1]; rfl
    · rw [PyData.depth]; omega
  | n + 1, .lst l, h => by
    have ih := gr_data n
    have : ∀ l : List D, l.all (gr n) = true → ∃ xs, toData.toDatas l = some xs ∧ PyData.canLayAll0 xs = true ∧ PyData.depthAll xs ≤ n := by
      intro l
      induction l with
      | nil => exact fun _ => ⟨[], rfl, rfl, Nat.zero_le _⟩
      | cons d ds hi =>
        intro h
        rw [List.all_cons, Bool.and_eq_true] at h
        obtain ⟨x, e1, e2, e3⟩ := ih d h.1
        obtain ⟨xs, f1, f2, f3⟩ := hi h.2
        refine ⟨x :: xs, by rw [toDatas_cons, e1, f1]; rfl, by rw [PyData.canLayAll0, e2, f2]; rfl, ?_⟩
        rw [PyData.depthAll]
        omega
    obtain ⟨xs, e1, e2, e3⟩ := this l h
    refine ⟨.list xs, ?_, e2, ?_⟩
    · show (toData.toDatas l).map _ = _
      rw [e1]; rfl
    · rw [PyData.depth]; omega
  | 0, .tup _, h => nomatch h
  | 0, .lst _, h => nomatch h
  | 0, .bl _, h => nomatch h
  | _ + 1, .bl _, h => nomatch h
  | 0, .dK _, h => nomatch h
  | _ + 1, .dK _, h => nomatch h
  | 0, .dT _, h => nomatch h
  | _ + 1, .dT _, h => nomatch h
  | 0, .obj _, h => nomatch h
  | _ + 1, .obj _, h => nomatch h
  | 0, .loc _, h => nomatch h
  | _ + 1, .loc _, h => nomatch h
  | 0, .scr _, h => nomatch h
  | _ + 1, .scr _, h => nomatch h
  | 0, .fK _, h => nomatch h
  | _ + 1, .fK _, h => nomatch h
  | 0, .fT _, h => nomatch h
  | _ + 1, .fT _, h => nomatch h
  | 0, .cst _, h => nomatch h
  | _ + 1, .cst _, h => nomatch h
def nb : PyData → Bool
  | .bool _ => false
  | _ => true
theorem gr_tup {n : Nat} {l : List D} (h : gr n (.tup l) = true) : ∃ m, n = m + 1 ∧ l.all (gr m) = true := by
  cases n with
  | zero => cases h
  | succ m => exact ⟨m, rfl, h⟩
theorem gr_lst {n : Nat} {l : List D} (h : gr n (.lst l) = true) : ∃ m, n = m + 1 ∧ l.all (gr m) = true := by
  cases n with
  | zero => cases h
  | succ m => exact ⟨m, rfl, h⟩
theorem toData_tup {l : List D} {x : PyData} (h : toData (.tup l) = some x) : ∃ xs, toData.toDatas l = some xs ∧ x = .tuple xs := by
  obtain ⟨xs, g1, g2⟩ := Option.map_eq_some_iff.mp (show (toData.toDatas _).map _ = some _ from h)
  exact ⟨xs, g1, g2.symm⟩
theorem toData_lst {l : List D} {x : PyData} (h : toData (.lst l) = some x) : ∃ xs, toData.toDatas l = some xs ∧ x = .list xs := by
  obtain ⟨xs, g1, g2⟩ := Option.map_eq_some_iff.mp (show (toData.toDatas _).map _ = some _ from h)
  exact ⟨xs, g1, g2.symm⟩
def EqvAt (n : Nat) : Prop := ∀ (a b : D) (m : Nat) (x y : PyData), gr n a = true → gr m b = true → toData a = some x → toData b = some y → (PyData.eqv x y = true ↔ a = b)
theorem eqvAll_iff {n : Nat} (ih : EqvAt n) : ∀ (l k : List D) (m : Nat) (xs ys : List PyData), l.all (gr n) = true → k.all (gr m) = true → toData.toDatas l = some xs → toData.toDatas k = some ys → (PyData.eqvAll xs ys = true ↔ l = k) := by
  intro l
  induction l with
  | nil =>
    intro k m xs ys _ _ e1 e2
    cases e1
    cases k with
    | nil => cases e2; simp [PyData.eqvAll]
    | cons d ds =>
      rw [toDatas_cons] at e2
      obtain ⟨y, f1, f2⟩ := Option.bind_eq_some_iff.mp e2
      obtain ⟨ys, f3, rfl⟩ := Option.map_eq_some_iff.mp f2
      simp [PyData.eqvAll]
  | cons c cs hi =>
    intro k m xs ys h1 h2 e1 e2
    rw [toDatas_cons] at e1
    obtain ⟨x, f1, f2⟩ := Option.bind_eq_some_iff.mp e1
    obtain ⟨xs, f3, rfl⟩ := Option.map_eq_some_iff.mp f2
    rw [List.all_cons, Bool.and_eq_true] at h1
    cases k with
    | nil => cases e2; simp [PyData.eqvAll]
    | cons d ds =>
      rw [toDatas_cons] at e2
      obtain ⟨y, g1, g2⟩ := Option.bind_eq_some_iff.mp e2
      obtain ⟨ys, g3, rfl⟩ := Option.map_eq_some_iff.mp g2
      rw [List.all_cons, Bool.and_eq_true] at h2
      rw [PyData.eqvAll, Bool.and_eq_true, ih c d m x y h1.1 h2.1 f1 g1, hi ds m xs ys h1.2 h2.2 f3 g3]
      simp
theorem gr_cases {n : Nat} {a : D} (h : gr n a = true) : a = .non ∨ (∃ i, a = .int i) ∨ (∃ x, a = .str x) ∨ (∃ l, a = .tup l) ∨ ∃ l, a = .lst l := by
  cases a with
  | non => exact .inl rfl
  | int i => exact .inr (.inl ⟨_, rfl⟩)
  | str x => exact .inr (.inr (.inl ⟨_, rfl⟩))
  | tup l => exact .inr (.inr (.inr (.inl ⟨_, rfl⟩)))
  | lst l => exact .inr (.inr (.inr (.inr ⟨_, rfl⟩)))
  | _ => cases n <;> cases h
theorem eqvAt : ∀ n, EqvAt n := by
  intro n
  induction n with
  | zero =>
    intro a b m x y h1 h2 e1 e2
    rcases gr_cases h1 with rfl | ⟨i, rfl⟩ | ⟨z, rfl⟩ | ⟨l, rfl⟩ | ⟨l, rfl⟩ <;> rcases gr_cases h2 with rfl | ⟨j, rfl⟩ | ⟨z', rfl⟩ | ⟨k, rfl⟩ | ⟨k, rfl⟩ <;> first
      | (cases h1; done)
      | (cases e1; cases e2; simp [PyData.eqv]; done)
      | (cases e1; obtain ⟨ys, _, rfl⟩ := toData_tup e2; simp [PyData.eqv]; done)
      | (cases e1; obtain ⟨ys, _, rfl⟩ := toData_lst e2; simp [PyData.eqv]; done)
  | succ n ih =>
    intro a b m x y h1 h2 e1 e2
    rcases gr_cases h1 with rfl | ⟨i, rfl⟩ | ⟨z, rfl⟩ | ⟨l, rfl⟩ | ⟨l, rfl⟩ <;> rcases gr_cases h2 with rfl | ⟨j, rfl⟩ | ⟨z', rfl⟩ | ⟨k, rfl⟩ | ⟨k, rfl⟩ <;> first
      | (cases e1; cases e2; simp [PyData.eqv]; done)
      | (cases e1; obtain ⟨ys, _, rfl⟩ := toData_tup e2; simp [PyData.eqv]; done)
      | (cases e1; obtain ⟨ys, _, rfl⟩ := toData_lst e2; simp [PyData.eqv]; done)
      | (cases e2; obtain ⟨ys, _, rfl⟩ := toData_tup e1; simp [PyData.eqv]; done)
      | (cases e2; obtain ⟨ys, _, rfl⟩ := toData_lst e1; simp [PyData.eqv]; done)
      | (obtain ⟨xs, f1, rfl⟩ := toData_tup e1; obtain ⟨ys, _, rfl⟩ := toData_lst e2; simp [PyData.eqv]; done)
      | (obtain ⟨xs, f1, rfl⟩ := toData_lst e1; obtain ⟨ys, _, rfl⟩ := toData_tup e2; simp [PyData.eqv]; done)
      | (obtain ⟨xs, f1, rfl⟩ := toData_tup e1
         obtain ⟨ys, f2, rfl⟩ := toData_tup e2
         obtain ⟨m', rfl, h3⟩ := gr_tup h2
         rw [PyData.eqv, eqvAll_iff ih l k m' xs ys h1 h3 f1 f2]
         simp; done)
      | (obtain ⟨xs, f1, rfl⟩ := toData_lst e1
         obtain ⟨ys, f2, rfl⟩ := toData_lst e2
         obtain ⟨m', rfl, h3⟩ := gr_lst h2
         rw [PyData.eqv, eqvAll_iff ih l k m' xs ys h1 h3 f1 f2]
         simp; done)
theorem deepEq_gr {n m : Nat} {a b : D} (ha : gr n a = true) (hb : gr m b = true) (hn : n ≤ 64) (hm : m ≤ 64) : ∃ z : Bool, deepEq a b = some z ∧ (z = true ↔ a = b) := by
  obtain ⟨x, e1, e2, e3⟩ := gr_data n a ha
  obtain ⟨y, f1, f2, f3⟩ := gr_data m b hb
  refine ⟨PyData.eqv x y, ?_, eqvAt n a b m x y ha hb e1 f1⟩
  unfold deepEq
  rw [e1, f1]
  show (if _ then _ else _) = _
  rw [if_pos]
  unfold SeqAt.shaped
  rw [e2, f2]
  simp
  omega
theorem eqD_gr {n m : Nat} {a b : D} (ha : gr n a = true) (hb : gr m b = true) (hn : n ≤ 64) (hm : m ≤ 64) : ∃ z : Bool, eqD a b = some z ∧ (z = true ↔ a = b) := by
  have h := deepEq_gr ha hb hn hm
  rcases gr_cases ha with rfl | ⟨i, rfl⟩ | ⟨z, rfl⟩ | ⟨l, rfl⟩ | ⟨l, rfl⟩ <;> rcases gr_cases hb with rfl | ⟨j, rfl⟩ | ⟨z', rfl⟩ | ⟨k, rfl⟩ | ⟨k, rfl⟩ <;> first
    | exact h
    | (refine ⟨_, rfl, ?_⟩; simp; done)
theorem opEq_self {n : Nat} {a : D} (ha : gr n a = true) (hn : n ≤ 64) : opEq' a a = some (.bl true) := by
  obtain ⟨z, e, h⟩ := eqD_gr ha ha hn hn
  unfold opEq'
  rw [e, h.mpr rfl]
  rfl
theorem opNe_self {n : Nat} {a : D} (ha : gr n a = true) (hn : n ≤ 64) : opNe' a a = some (.bl false) := by
  obtain ⟨z, e, h⟩ := eqD_gr ha ha hn hn
  unfold opNe'
  rw [e, h.mpr rfl]
  rfl
theorem opEq_ne {n m : Nat} {a b : D} (ha : gr n a = true) (hb : gr m b = true) (hn : n ≤ 64) (hm : m ≤ 64) (hab : a ≠ b) : opEq' a b = some (.bl false) := by
  obtain ⟨z, e, h⟩ := eqD_gr ha hb hn hm
  unfold opEq'
  rw [e]
  cases z with
  | true => exact absurd (h.mp rfl) hab
  | false => rfl
theorem opNe_ne {n m : Nat} {a b : D} (ha : gr n a = true) (hb : gr m b = true) (hn : n ≤ 64) (hm : m ≤ 64) (hab : a ≠ b) : opNe' a b = some (.bl true) := by
  obtain ⟨z, e, h⟩ := eqD_gr ha hb hn hm
  unfold opNe'
  rw [e]
  cases z with
  | true => exact absurd (h.mp rfl) hab
  | false => rfl
end MR
set_option Elab.async false
set_option linter.all false
set_option maxRecDepth 100000
set_option exponentiation.threshold 30000
namespace MR
open PySem
theorem opIn_strs (x : Str) (l : List Str) : opIn (.str x) (.lst (l.map D.str)) = some (.bl (decide (x ∈ l))) := by
  have hf : (l.map D.str).all flatD = true := by
    rw [List.all_map, List.all_eq_true]
    intro _ _
    rfl
  have e : inA (.str x) (.lst (l.map D.str)) = some (inD (.str x) (l.map D.str)) := by
    show (if flatD (.str x) && (l.map D.str).all flatD then _ else _) = _
    rw [hf]
    rfl
  unfold opIn
  rw [e]
  have : inD (.str x) (l.map D.str) = decide (x ∈ l) := by
    unfold inD L2.inV
    rw [List.map_map, List.any_map]
    rw [Bool.eq_iff_iff, List.any_eq_true, decide_eq_true_iff]
    constructor
    · rintro ⟨y, hy, e⟩
      have e : L2.eqV (.str y) (.str x) = true := e
      have : y = x := by simpa [L2.eqV] using e
      exact this ▸ hy
    · intro h
      exact ⟨x, h, by show L2.eqV (.str x) (.str x) = true; simp [L2.eqV]⟩
  rw [this]
  rfl
theorem opNotIn_strs (x : Str) (l : List Str) : opNotIn (.str x) (.lst (l.map D.str)) = some (.bl (!decide (x ∈ l))) := by
  have h := opIn_strs x l
  unfold opIn at h
  unfold opNotIn
  cases e : inA (.str x) (.lst (l.map D.str)) with
  | none => rw [e] at h; cases h
  | some b =>
    rw [e] at h
    have h : some (D.bl b) = some (D.bl (decide (x ∈ l))) := h
    injection h with h
    injection h with h
    rw [h]
    rfl
def encO : Option Str → D
  | none => .non
  | some y => .str y
def SV' (h : List (Kk × D)) : Prop := ∀ k w, valD h k = some w → ∃ y, w = .str y
def nxt (h : List (Kk × D)) (x : Str) : Option Str := match valD h (.inr x) with
  | some (.str y) => some y
  | _ => none
theorem nxt_some {h : List (Kk × D)} (hs : SV' h) (x : Str) : (valD h (.inr x)).isSome = (nxt h x).isSome := by
  unfold nxt
  cases e : valD h (.inr x) with
  | none => rfl
  | some w => obtain ⟨y, rfl⟩ := hs _ _ e; rfl
theorem nxt_val {h : List (Kk × D)} {x y : Str} (e : nxt h x = some y) : valD h (.inr x) = some (.str y) := by
  unfold nxt at e
  split at e
  · rename_i z hz; cases e; exact hz
  · cases e
def tkF (nx : Str → Option Str) (dead : Str → Bool) : Nat → List Str → Str → Option (Option Str)
  | 0, _, _ => none
  | n + 1, met, last => match nx last with
    | none => some none
    | some one => if one ∈ met then some none else if dead one = true then tkF nx dead n (met ++ [one]) one else some (some one)
structure KinAt (S : Sto) (r a b : Nat) (h g : List (Kk × D)) : Prop where
  o : S[r]? = some (.ins "Kin" [("heirs", .obj a), ("gone", .obj b)])
  h : S[a]? = some (.con false (.dK h))
  g : S[b]? = some (.con false (.dK g))
section
variable {S : Sto} {r a b : Nat} {h g : List (Kk × D)}
theorem KinAt.ob (K : KinAt S r a b h g) : objAt ["Kin"] S (.obj r) = some (r, "Kin", [("heirs", .obj a), ("gone", .obj b)]) := objAt_obj K.o (by simp)
theorem KinAt.dh (K : KinAt S r a b h g) (σ : Sl) : deref σ S (.obj a) = some (.dK h) := deref_obj K.h
def seenD (met : List Str) : List (Kk × D) := met.map fun x => (.inr x, .bl true)
theorem seenD_val (met : List Str) (x : Str) : (valD (seenD met) (.inr x)).isSome = decide (x ∈ met) := by
  induction met with
  | nil => rfl
  | cons y met ih =>
    show (valD ((.inr y, .bl true) :: seenD met) (.inr x)).isSome = _
    rw [valD_cons]
    by_cases e : y = x
    · subst e; simp
    · have : ¬ (Sum.inr y : Kk) = .inr x := fun z => e (Sum.inr.inj z)
      rw [if_neg this, ih]
      have : ¬ x = y := fun z => e z.symm
      simp [this]
theorem frz_enc (o : Option Str) (σ : Sl) : frz (encO o) σ S = .ok (encO o) σ S := by cases o <;> rfl
end
structure BkAt (S : Sto) (bk a : Nat) (bd h : List (Kk × D)) (dl : List Str) : Prop where
  o : S[bk]? = some (.con false (.dK bd))
  vh : valD bd (.inr "heirs") = some (.obj a)
  vd : valD bd (.inr "dead") = some (.lst (dl.map D.str))
  h : S[a]? = some (.con false (.dK h))
section
variable {S : Sto} {bk a : Nat} {bd h : List (Kk × D)} {dl : List Str}
theorem BkAt.d (B : BkAt S bk a bd h dl) (σ : Sl) : deref σ S (.obj bk) = some (.dK bd) := deref_obj B.o
theorem BkAt.dh (B : BkAt S bk a bd h dl) (σ : Sl) : deref σ S (.obj a) = some (.dK h) := deref_obj B.h
end
theorem tkF_ends {nx : Str → Option Str} {dead : Str → Bool} {vs : List Str} (hv : ∀ x y, nx x = some y → y ∈ vs) : ∀ (n : Nat) (met : List Str) (last : Str), (∀ x ∈ vs, x ∉ met → True) → (vs.filter fun x => decide (x ∉ met)).length < n → ∃ res, tkF nx dead n met last = some res
  | 0, _, _, _, h => by omega
  | n + 1, met, last, _, h => by
    rw [tkF]
    cases e : nx last with
    | none => exact ⟨none, rfl⟩
    | some one =>
      dsimp only
      by_cases hm : one ∈ met
      · rw [if_pos hm]; exact ⟨none, rfl⟩
      · rw [if_neg hm]
        by_cases hd : dead one = true
        · rw [if_pos hd]
          refine tkF_ends hv n (met ++ [one]) one (fun _ _ _ => trivial) ?_
          have h1 : one ∈ vs.filter fun x => decide (x ∉ met) := List.mem_filter.mpr ⟨hv last one e, by simp [hm]⟩
          have h2 : (vs.filter fun x => decide (x ∉ met ++ [one])).length < (vs.filter fun x => decide (x ∉ met)).length := by
            have e1 : (vs.filter fun x => decide (x ∉ met ++ [one])) = (vs.filter fun x => decide (x ∉ met)).filter fun x => decide (x ≠ one) := by
              rw [List.filter_filter]
              congr 1
              funext x
              by_cases hx : x ∈ met <;> by_cases hx2 : x = one <;> simp [hx, hx2]
            rw [e1]
            generalize (vs.filter fun x => decide (x ∉ met)) = l at h1
            induction l with
            | nil => cases h1
            | cons y l ih =>
              rw [List.filter_cons, List.length_cons]
              by_cases hy : y = one
              · subst hy
                simp only [ne_eq, not_true, decide_false, Bool.false_eq_true, if_false]
                have := List.length_filter_le (fun x => decide (x ≠ y)) l
                simp only [ne_eq] at this
                omega
              · simp only [ne_eq, hy, not_false_eq_true, decide_true, if_true, List.length_cons]
                have h3 : one ∈ l := by
                  rcases List.mem_cons.mp h1 with rfl | h3
                  · exact absurd rfl hy
                  · exact h3
                have := ih h3
                simp only [ne_eq] at this
                omega
          omega
        · rw [if_neg hd]; exact ⟨some one, rfl⟩
end MR
set_option Elab.async false
set_option linter.all false
set_option maxRecDepth 100000
set_option exponentiation.threshold 30000
namespace MR
open PySem
def Ret (o : Out) (P : D → Sto → Prop) : Prop := match o with
  | .ok w S => P w S
  | _ => False
def RunF (r : Res Fl) (P : D → Sto → Prop) : Prop := match r with
  | .ok .next _ S => P .non S
  | .ok (.ret w) _ S => P w S
  | _ => False
@[simp] theorem Ret_ok {w : D} {S : Sto} {P : D → Sto → Prop} : Ret (.ok w S) P = P w S := rfl
@[simp] theorem RunF_next {σ : Sl} {S : Sto} {P : D → Sto → Prop} : RunF (.ok .next σ S) P = P .non S := rfl
@[simp] theorem RunF_ret {w : D} {σ : Sl} {S : Sto} {P : D → Sto → Prop} : RunF (.ok (.ret w) σ S) P = P w S := rfl
theorem ret_dDef {n : Nat} {f : DS} {ws : List D} {S : Sto} {P : D → Sto → Prop} : Ret (dDef n f ws S) P = RunF (f (ws.map Slot.val ++ List.replicate (n - ws.length) .emp) S) P := by
  unfold dDef
  cases e : f (ws.map Slot.val ++ List.replicate (n - ws.length) .emp) S with
  | ok a σ S' => cases a <;> rfl
  | exc a σ S' => rfl
  | fail => rfl
theorem Ret.ex {o : Out} {P : D → Sto → Prop} (h : Ret o P) : ∃ w S, o = .ok w S ∧ P w S := by
  cases o with
  | ok w S => exact ⟨w, S, rfl, h⟩
  | exc e S => exact h.elim
  | fail => exact h.elim
theorem Ret.of {o : Out} {P : D → Sto → Prop} {w : D} {S : Sto} (e : o = .ok w S) (h : P w S) : Ret o P := by rw [e]; exact h
theorem RunF.of {r : Res Fl} {P : D → Sto → Prop} {r' : Res Fl} (e : r = r') (h : RunF r' P) : RunF r P := by rw [e]; exact h
section
variable {σ : Sl} {S : Sto} {r : Nat} {w : D} {cs : List String}
theorem derefU : deref σ S (.obj r) = (match S[r]? with
  | some (.con lk c) => conD lk c
  | _ => none) := rfl
theorem chgU : chg σ S (.obj r) w = (match S[r]? with
  | some (.con false _) => some (σ, S.set r (.con false w))
  | _ => none) := rfl
theorem objAtU : objAt cs S (.obj r) = (match S[r]? with
  | some (.ins c fs) => if c ∈ cs then some (r, c, fs) else none
  | _ => none) := rfl
theorem setG {i j : Nat} {o : Ob} : (S.set i o)[j]? = if i = j then (S[j]?).map (fun _ => o) else S[j]? := by
  by_cases e : i = j
  · subst e
    rw [if_pos rfl]
    by_cases lt : i < S.length
    · rw [List.getElem?_set_self lt, List.getElem?_eq_getElem lt]; rfl
    · rw [List.getElem?_eq_none_iff.mpr (by rw [List.length_set]; omega), List.getElem?_eq_none_iff.mpr (by omega)]; rfl
  · rw [if_neg e, List.getElem?_set_ne e]
theorem set_back {i : Nat} {o o' : Ob} (h : S[i]? = some o) : (S.set i o').set i o = S := by
  rw [List.set_set]
  apply List.ext_getElem?
  intro j
  rw [setG]
  by_cases e : i = j
  · subst e; rw [if_pos rfl, h]; rfl
  · rw [if_neg e]
end
structure Off (fp : List Nat) (S S' : Sto) : Prop where
  len : S'.length = S.length
  off : ∀ j, j ∉ fp → S'[j]? = S[j]?
theorem Off.refl {fp : List Nat} {S : Sto} : Off fp S S := ⟨rfl, fun _ _ => rfl⟩
theorem Off.trans {fp : List Nat} {S S' S'' : Sto} (a : Off fp S S') (b : Off fp S' S'') : Off fp S S'' := ⟨b.len.trans a.len, fun j h => (b.off j h).trans (a.off j h)⟩
theorem Off.set {fp : List Nat} {S S' : Sto} {i : Nat} {o : Ob} (a : Off fp S S') (h : i ∈ fp) : Off fp S (S'.set i o) := ⟨by rw [List.length_set]; exact a.len, fun j hj => by rw [List.getElem?_set_ne (fun e => hj (by rw [← e]; exact h))]; exact a.off j hj⟩
theorem Off.mono {fp fp' : List Nat} {S S' : Sto} (a : Off fp S S') (h : ∀ i ∈ fp, i ∈ fp') : Off fp' S S' := ⟨a.len, fun j hj => a.off j fun z => hj (h j z)⟩
section
variable {α : Type} {e : α → D} {l : List (Str × α)} {k j : Str} {v : α}
def aval (l : List (Str × α)) (k : Str) : Option α := (l.find? fun p => decide (p.1 = k)).map (·.2)
def aput (l : List (Str × α)) (k : Str) (v : α) : List (Str × α) := if (l.any fun p => decide (p.1 = k)) = true then l.map (fun p => if p.1 = k then (p.1, v) else p) else l ++ [(k, v)]
def adrop (l : List (Str × α)) (k : Str) : List (Str × α) := l.filter fun p => decide (p.1 ≠ k)
def keys (l : List (Str × α)) : List Str := l.map (·.1)
def enc (e : α → D) (l : List (Str × α)) : List (Kk × D) := l.map fun p => (.inr p.1, e p.2)
@[simp] theorem aval_nil : aval ([] : List (Str × α)) k = none := rfl
@[simp] theorem aval_cons {p : Str × α} : aval (p :: l) k = if p.1 = k then some p.2 else aval l k := by
  unfold aval
  rw [List.find?_cons]
  by_cases h : p.1 = k
  · simp [h]
  · simp [h]
@[simp] theorem valD_enc : valD (enc e l) (.inr k) = (aval l k).map e := by
  induction l with
  | nil => rfl
  | cons p l ih =>
    show valD ((.inr p.1, e p.2) :: enc e l) (.inr k) = _
    rw [valD_cons, aval_cons, ih]
    by_cases h : p.1 = k
    · simp [h]
    · simp [h]
theorem any_enc : ((enc e l).any fun kv => decide (kv.1 = (.inr k : Kk))) = l.any fun p => decide (p.1 = k) := by
  unfold enc
  rw [List.any_map]
  congr 1
  funext p
  simp [Function.comp]
theorem putD_enc : putD (enc e l) (.inr k) (e v) = enc e (aput l k v) := by
  unfold putD aput
  rw [any_enc]
  split
  · unfold enc
    rw [List.map_map, List.map_map]
    apply List.map_congr_left
    intro p _
    by_cases h : p.1 = k
    · simp [h]
    · simp [h]
  · unfold enc
    simp
theorem dropD_enc : dropD (enc e l) (.inr k) = enc e (adrop l k) := by
  unfold dropD adrop enc
  rw [List.filter_map]
  congr 1
  apply List.filter_congr
  intro p _
  simp
@[simp] theorem enc_len : (enc e l).length = l.length := by unfold enc; rw [List.length_map]
theorem enc_fst : (enc e l).map (·.1) = (keys l).map Sum.inr := by
  unfold enc keys
  rw [List.map_map, List.map_map]
  rfl
theorem aval_some_iff : (aval l k).isSome = true ↔ k ∈ keys l := by
  induction l with
  | nil => simp [keys]
  | cons p l ih =>
    rw [aval_cons]
    unfold keys at ih ⊢
    by_cases h : p.1 = k
    · simp [h]
    · have h' : ¬ k = p.1 := fun z => h z.symm
      simp [h, h', ih]
theorem aval_none_iff : aval l k = none ↔ k ∉ keys l := by
  rw [← aval_some_iff]
  cases aval l k <;> simp
theorem aval_mem (h : aval l k = some v) : (k, v) ∈ l := by
  induction l with
  | nil => cases h
  | cons p l ih =>
    rw [aval_cons] at h
    split at h
    · rename_i e; cases h; rw [← e]; exact List.mem_cons_self
    · exact List.mem_cons_of_mem _ (ih h)
theorem aval_of_mem (hn : (keys l).Nodup) (h : (k, v) ∈ l) : aval l k = some v := by
  induction l with
  | nil => cases h
  | cons p l ih =>
    have hn' := List.nodup_cons.mp (show ((p :: l).map (·.1)).Nodup from hn)
    rw [aval_cons]
    rcases List.mem_cons.mp h with rfl | h
    · simp
    · rw [if_neg (fun z => hn'.1 (List.mem_map.mpr ⟨_, h, z.symm⟩)), ih hn'.2 h]
theorem any_keys : (l.any fun p => decide (p.1 = k)) = decide (k ∈ keys l) := by
  unfold keys
  rw [Bool.eq_iff_iff, List.any_eq_true, decide_eq_true_iff, List.mem_map]
  simp
theorem aval_map {f : Str × α → Str × α} (hf : ∀ p, (f p).1 = p.1) : aval (l.map f) k = (l.find? fun p => decide (p.1 = k)).map fun p => (f p).2 := by
  induction l with
  | nil => rfl
  | cons p l ih =>
    rw [List.map_cons, aval_cons, hf, List.find?_cons]
    by_cases h : p.1 = k
    · simp [h]
    · simp only [h, if_false, decide_false]
      exact ih
theorem aval_app : aval (l ++ [(j, v)]) k = if k ∈ keys l then aval l k else if j = k then some v else none := by
  induction l with
  | nil => simp [keys]
  | cons p l ih =>
    rw [List.cons_append, aval_cons, aval_cons, ih]
    unfold keys
    by_cases h : p.1 = k
    · simp [h]
    · have h' : ¬ k = p.1 := fun z => h z.symm
      simp only [h, if_false, List.map_cons, List.mem_cons, h', false_or]
theorem aval_put : aval (aput l j v) k = if j = k then some v else aval l k := by
  unfold aput
  rw [any_keys]
  by_cases hj : j ∈ keys l
  · simp only [hj, decide_true, if_true]
    rw [aval_map (fun p => by split <;> rfl)]
    by_cases e : j = k
    · subst e
      rw [if_pos rfl]
      obtain ⟨w, hw⟩ := Option.isSome_iff_exists.mp (aval_some_iff.mpr hj)
      unfold aval at hw
      obtain ⟨p, hp, _⟩ := Option.map_eq_some_iff.mp hw
      have h1 : p.1 = j := by simpa using List.find?_some hp
      rw [hp]
      simp [h1]
    · rw [if_neg e]
      unfold aval
      cases hf : l.find? fun p => decide (p.1 = k) with
      | none => rfl
      | some p =>
        have h1 : p.1 = k := by simpa using List.find?_some hf
        have : ¬ p.1 = j := fun z => e (z.symm.trans h1)
        simp [this]
  · simp only [hj, decide_false, Bool.false_eq_true, if_false]
    rw [aval_app]
    by_cases e : j = k
    · subst e
      rw [if_neg hj, if_pos rfl, if_pos rfl]
    · rw [if_neg e, if_neg e]
      split
      · rfl
      · rename_i h; exact (aval_none_iff.mpr h).symm
theorem keys_put : keys (aput l j v) = if j ∈ keys l then keys l else keys l ++ [j] := by
  unfold aput
  rw [any_keys]
  by_cases hj : j ∈ keys l
  · simp only [hj, decide_true, if_true]
    unfold keys
    rw [List.map_map]
    apply List.map_congr_left
    intro p _
    show (if p.1 = j then (p.1, v) else p).1 = p.1
    split <;> rfl
  · simp only [hj, decide_false, Bool.false_eq_true, if_false]
    unfold keys
    simp
theorem keys_drop : keys (adrop l j) = (keys l).filter fun x => decide (x ≠ j) := by
  unfold keys adrop
  rw [List.filter_map]
  rfl
theorem aval_drop : aval (adrop l j) k = if j = k then none else aval l k := by
  by_cases e : j = k
  · subst e
    rw [if_pos rfl, aval_none_iff, keys_drop]
    simp
  · rw [if_neg e]
    induction l with
    | nil => rfl
    | cons p l ih =>
      unfold adrop at ih ⊢
      rw [List.filter_cons]
      by_cases h : p.1 = j
      · simp only [ne_eq, h, not_true, decide_false, Bool.false_eq_true, if_false]
        rw [ih, aval_cons, if_neg (fun z => e (h.symm.trans z))]
      · simp only [ne_eq, h, not_false_eq_true, decide_true, if_true]
        rw [aval_cons, aval_cons, ih]
end
theorem putD_encS {l : List (Str × Str)} {k v : Str} : putD (enc D.str l) (.inr k) (.str v) = enc D.str (aput l k v) := putD_enc
theorem putD_encI {l : List (Str × Int)} {k : Str} {v : Int} : putD (enc D.int l) (.inr k) (.int v) = enc D.int (aput l k v) := putD_enc
theorem putD_encO {l : List (Str × Option Str)} {k v : Str} : putD (enc encO l) (.inr k) (.str v) = enc encO (aput l k (some v)) := putD_enc (e := encO) (v := some v)
theorem putD_encF {l : List (Str × Fr)} {k : Str} {a b : Int} : putD (enc encF l) (.inr k) (.tup [.int a, .int b]) = enc encF (aput l k (a, b)) := putD_enc (e := encF) (v := (a, b))
@[simp] theorem kD_inr {x : Str} : kD (.inr x) = .str x := rfl
@[simp] theorem kD_inl {x : Int} : kD (.inl x) = .int x := rfl
theorem lock_lc {fe : DE} {i : Nat} {c : DT} {e : DE} {σ : Sl} {S : Sto} {a : Nat} {l : List (Kk × D)} (p : Kk → Bool) (h : Kk → D) (hs : S[a]? = some (.con false (.dK l))) (h1 : fe σ S = .ok (.obj a) σ S) (h2 : fe σ (S.set a (.con true (.dK l))) = .ok (.obj a) σ (S.set a (.con true (.dK l))))
    (hno : noOwn σ [i] = true) (hl : l.length ≤ most)
    (st : ∀ k ∈ l.map (·.1), c ((wipeD σ [i]).set i (.val (kD k))) (S.set a (.con true (.dK l))) = .ok (p k) ((wipeD σ [i]).set i (.val (kD k))) (S.set a (.con true (.dK l))) ∧ (p k = true → dV e ((wipeD σ [i]).set i (.val (kD k))) (S.set a (.con true (.dK l))) = .ok (h k) ((wipeD σ [i]).set i (.val (kD k))) (S.set a (.con true (.dK l))))) :
    dLock fe (dLc (iKeysD fe) (gN i) c e [i]) σ S = .ok (.lst (((l.map (·.1)).filter p).map h)) σ S := by
  have ep : pick fe σ S = some (a, l) := by
    unfold pick
    rw [h1]
    simp only [hs]
  have lt : a < S.length := (List.getElem?_eq_some_iff.mp hs).1
  have hlk : (S.set a (.con true (.dK l)))[a]? = some (.con true (.dK l)) := List.getElem?_set_self lt
  have hi : iKeysD fe σ (S.set a (.con true (.dK l))) = .ok (l.map fun q => kD q.1) σ (S.set a (.con true (.dK l))) := by
    show (fe σ _).bind _ = _
    rw [h2]
    show (match lockd σ (S.set a (.con true (.dK l))) (.obj a) with
      | some l' => Res.ok (List.map (fun (q : Kk × D) => kD q.1) l') σ (S.set a (.con true (.dK l)))
      | none => .fail) = _
    unfold lockd
    simp only [hlk]
  have hwi : ∀ d : D, wipeD ((wipeD σ [i]).set i (.val d)) [i] = wipeD σ [i] := fun d => by
    apply List.ext_getElem?
    intro j
    rw [wipeD_get, wipeD_get]
    by_cases e : j = i
    · subst e
      simp only [List.mem_singleton, if_true]
      by_cases lt : j < σ.length
      · rw [List.getElem?_set_self (by rw [wipeD_len]; exact lt), List.getElem?_eq_getElem lt]
        rfl
      · rw [List.getElem?_eq_none_iff.mpr (by rw [List.length_set, wipeD_len]; omega), List.getElem?_eq_none_iff.mpr (by omega)]
    · simp only [List.mem_singleton, e, if_false]
      rw [List.getElem?_set_ne (fun z => e z.symm), wipeD_get]
      simp [e]
  have key := dLc_gen (it := iKeysD fe) (g := gN i) (c := c) (e := e) (vs := [i]) (σ := σ) (σ' := σ) (S := S.set a (.con true (.dK l))) (items := l.map fun q => kD q.1) (fun d => (wipeD σ [i]).set i (.val d))
    (fun d => match d with
      | .int n => p (.inl n)
      | .str x => p (.inr x)
      | _ => false)
    (fun d => match d with
      | .int n => h (.inl n)
      | .str x => h (.inr x)
      | _ => .non) hi hno (by rw [List.length_map]; exact hl) (by
      intro d hd
      obtain ⟨q, hq, rfl⟩ := List.mem_map.mp hd
      obtain ⟨s1, s2⟩ := st q.1 (List.mem_map.mpr ⟨q, hq, rfl⟩)
      refine ⟨rfl, hwi _, ?_, ?_⟩
      · cases hk : q.1 with
        | inl n => rw [hk] at s1; exact s1
        | inr x => rw [hk] at s1; exact s1
      · cases hk : q.1 with
        | inl n => rw [hk] at s2; exact s2
        | inr x => rw [hk] at s2; exact s2)
  unfold dLock
  rw [ep]
  dsimp only
  rw [key]
  dsimp only [unlk]
  unfold openAt
  simp only [hlk]
  rw [set_back hs]
  congr 2
  clear key hi hlk ep h1 h2 hs st hl lt
  induction l with
  | nil => rfl
  | cons q l ih =>
    rw [List.map_cons, List.map_cons, List.filter_cons, List.filter_cons]
    cases hk : q.1 with
    | inl n =>
      simp only [kD_inl]
      by_cases hp : p (.inl n) = true
      · simp only [hp, if_true, List.map_cons]; rw [ih]
      · simp only [hp, if_false]; exact ih
    | inr x =>
      simp only [kD_inr]
      by_cases hp : p (.inr x) = true
      · simp only [hp, if_true, List.map_cons]; rw [ih]
      · simp only [hp, if_false]; exact ih
theorem lock_keys {α : Type} {enc_ : α → D} {fe : DE} {i : Nat} {c : DT} {σ : Sl} {S : Sto} {a : Nat} {l : List (Str × α)} (p : Str → Bool) (hs : S[a]? = some (.con false (.dK (enc enc_ l)))) (h1 : fe σ S = .ok (.obj a) σ S) (h2 : fe σ (S.set a (.con true (.dK (enc enc_ l)))) = .ok (.obj a) σ (S.set a (.con true (.dK (enc enc_ l)))))
    (hno : noOwn σ [i] = true) (hi : i < σ.length) (hl : l.length ≤ most)
    (st : ∀ k ∈ keys l, c ((wipeD σ [i]).set i (.val (.str k))) (S.set a (.con true (.dK (enc enc_ l)))) = .ok (p k) ((wipeD σ [i]).set i (.val (.str k))) (S.set a (.con true (.dK (enc enc_ l))))) :
    dLock fe (dLc (iKeysD fe) (gN i) c (dVar i) [i]) σ S = .ok (.lst (((keys l).filter p).map D.str)) σ S := by
  have := lock_lc (fe := fe) (i := i) (c := c) (e := dVar i) (fun k => match k with
    | .inl _ => false
    | .inr x => p x) kD hs h1 h2 hno (by rw [enc_len]; exact hl) (by
    intro k hk
    rw [enc_fst] at hk
    obtain ⟨x, hx, rfl⟩ := List.mem_map.mp hk
    refine ⟨st x hx, fun _ => ?_⟩
    rw [dV_def, dVar_val (w := .str x) (by rw [kD_inr]; exact List.getElem?_set_self (by rw [wipeD_len]; exact hi))]
    rfl)
  rw [this, enc_fst]
  congr 2
  rw [List.filter_map, List.map_map]
  rfl
theorem sortS_eq {xs : List Str} (h : xs.length < 64) : opSorted (.lst (xs.map D.str)) = some (.lst ((srtS xs).map D.str)) := by
  show (strsD (xs.map D.str)).bind _ = _
  rw [strsD_map]
  show (if xs.length < 64 then _ else _) = _
  rw [if_pos h]
@[simp] theorem opListA_dK {l : List (Kk × D)} : opListA (.dK l) = some (.lst (l.map fun p => kD p.1)) := rfl
@[simp] theorem opVals_dK {l : List (Kk × D)} : opVals (.dK l) = some (.lst (l.map (·.2))) := rfl
@[simp] theorem sDAugD_def {op : Int → Int → Int} {fd fy fv : DE} {σ : Sl} {S : Sto} : sDAugD op fd fy fv σ S = (fd σ S).bind fun x σ S => (fy σ S).bind fun y σ S => match deref σ S x, keyD y with
  | some (.dK l), some k => (match valD l k with
    | some (.int i) => (fv σ S).bind fun z σ S => (match z, deref σ S x with
      | .int j, some (.dK l') => if l'.length < most then ofMutS (chg σ S x (.dK (putD l' k (.int (op i j))))) else .fail
      | _, _ => .fail)
    | _ => .fail)
  | _, _ => .fail := rfl
@[simp] theorem sRaise_def {c : String} {σ : Sl} {S : Sto} : sRaise c σ S = .exc ⟨c, none⟩ σ S := rfl
@[simp] theorem kPop_1 {x b : D} {l : List (Kk × D)} {k : Kk} {σ : Sl} {S : Sto} (h : keyD b = some k) : kPop x (.dK l) [b] σ S = (match valD l k with
    | some w => ofMut w (chg σ S x (.dK (dropD l k)))
    | none => .fail) := by
  unfold kPop
  simp only [h] <;> rfl
end MR
set_option Elab.async false
set_option linter.all false
set_option maxRecDepth 100000
namespace MR
open PySem
structure Ld where
  lords : List (Str × Option Str)
  hold : List (Str × Str)
  own : List (Str × Int)
  due : List (Str × Fr)
abbrev Ld.ks (L : Ld) : List Str := keys L.lords
def Ld.lord (L : Ld) (k : Str) : Option Str := (aval L.lords k).join
def ixOf (l : List Str) (k : Str) : Nat := l.findIdx (· == k)
theorem ixOf_lt {l : List Str} {k : Str} : k ∈ l ↔ ixOf l k < l.length := by
  unfold ixOf
  constructor
  · intro h; exact List.findIdx_lt_length_of_exists ⟨k, h, by simp⟩
  · intro h
    have := List.findIdx_getElem (xs := l) (p := (· == k)) (w := h)
    exact eq_of_beq this ▸ List.getElem_mem h
theorem ixOf_app {l m : List Str} {k : Str} (h : k ∈ l) : ixOf (l ++ m) k = ixOf l k := by
  unfold ixOf
  rw [List.findIdx_append, if_pos (List.findIdx_lt_length_of_exists ⟨k, h, by simp⟩)]
theorem ixOf_last {l : List Str} {k : Str} (h : k ∉ l) : ixOf (l ++ [k]) k = l.length := by
  unfold ixOf
  rw [List.findIdx_append]
  have : ¬ (l.findIdx (· == k) < l.length) := fun z => h (ixOf_lt.mpr z)
  rw [if_neg this]
  simp
structure Wf (L : Ld) : Prop where
  kh : keys L.hold = L.ks
  ko : keys L.own = L.ks
  kd : keys L.due = L.ks
  nd : L.ks.Nodup
  cr : aval L.lords "" = some none
  no : ∀ k, aval L.lords k = some none → k = ""
  up : ∀ k p, aval L.lords k = some (some p) → p ∈ L.ks ∧ ixOf L.ks p < ixOf L.ks k
  sk : ∀ k ∈ L.ks, PyData.strOk k = true
  sh : ∀ m ∈ L.hold.map (·.2), PyData.strOk m = true
section
variable {L : Ld}
theorem Wf.crk (W : Wf L) : ("" : Str) ∈ L.ks := aval_some_iff.mp (by rw [W.cr]; rfl)
theorem lord_some {k p : Str} (h : L.lord k = some p) : aval L.lords k = some (some p) := by
  unfold Ld.lord at h
  cases e : aval L.lords k with
  | none => rw [e] at h; cases h
  | some o => rw [e] at h; cases o with
    | none => cases h
    | some q => cases h; rfl
theorem lord_of {k : Str} {o : Option Str} (h : aval L.lords k = some o) : L.lord k = o := by unfold Ld.lord; rw [h]; cases o <;> rfl
theorem Wf.lord_ne (W : Wf L) {k : Str} (hk : k ∈ L.ks) (h0 : k ≠ "") : ∃ p, L.lord k = some p ∧ p ∈ L.ks ∧ ixOf L.ks p < ixOf L.ks k := by
  obtain ⟨o, ho⟩ := Option.isSome_iff_exists.mp (aval_some_iff.mpr hk)
  cases o with
  | none => exact absurd (W.no k ho) h0
  | some p => exact ⟨p, lord_of ho, W.up k p ho⟩
theorem Wf.lord_cr (W : Wf L) : L.lord "" = none := lord_of W.cr
def chn (L : Ld) : Nat → Str → List Str
  | 0, x => [x]
  | n + 1, x => x :: (match L.lord x with
    | some p => chn L n p
    | none => [])
def Ld.chain (L : Ld) (x : Str) : List Str := chn L (ixOf L.ks x) x
theorem chn_more (W : Wf L) : ∀ (n m : Nat) (x : Str), x ∈ L.ks → ixOf L.ks x ≤ n → n ≤ m → chn L m x = chn L n x := by
  intro n
  induction n with
  | zero =>
    intro m x hx hi hm
    have e : L.lord x = none := by
      cases h : L.lord x with
      | none => rfl
      | some p => have := (W.up x p (lord_some h)).2; omega
    cases m with
    | zero => rfl
    | succ m => unfold chn; rw [e]
  | succ n ih =>
    intro m x hx hi hm
    cases m with
    | zero => omega
    | succ m =>
      show (x :: _) = (x :: _)
      cases h : L.lord x with
      | none => rfl
      | some p =>
        obtain ⟨h1, h2⟩ := W.up x p (lord_some h)
        show x :: chn L m p = x :: chn L n p
        rw [ih m p h1 (by omega) (by omega)]
theorem chain_step (W : Wf L) {x p : Str} (h : L.lord x = some p) : L.chain x = x :: L.chain p := by
  obtain ⟨h1, h2⟩ := W.up x p (lord_some h)
  have hx : x ∈ L.ks := aval_some_iff.mp (by rw [lord_some h]; rfl)
  unfold Ld.chain
  obtain ⟨n, hn⟩ : ∃ n, ixOf L.ks x = n + 1 := ⟨ixOf L.ks x - 1, by omega⟩
  rw [hn]
  show x :: (match L.lord x with
    | some p => chn L n p
    | none => []) = _
  rw [h]
  show x :: chn L n p = _
  rw [chn_more W (ixOf L.ks p) n p h1 (Nat.le_refl _) (by omega)]
theorem chain_cr (W : Wf L) : L.chain "" = [("" : Str)] := by
  unfold Ld.chain
  cases ixOf L.ks "" with
  | zero => rfl
  | succ n =>
    show ("" : Str) :: (match L.lord "" with
      | some p => chn L n p
      | none => []) = _
    rw [W.lord_cr]
theorem chain_ind (W : Wf L) {P : Str → Prop} (h0 : P "") (h1 : ∀ x p, x ∈ L.ks → x ≠ "" → L.lord x = some p → p ∈ L.ks → P p → P x) : ∀ x ∈ L.ks, P x := by
  have key : ∀ (n : Nat) (x : Str), x ∈ L.ks → ixOf L.ks x < n → P x := by
    intro n
    induction n with
    | zero => intro x _ h; omega
    | succ n ih =>
      intro x hx hi
      by_cases e : x = ""
      · rw [e]; exact h0
      · obtain ⟨p, hp, hm, hlt⟩ := W.lord_ne hx e
        exact h1 x p hx e hp hm (ih p hm (by omega))
  exact fun x hx => key _ x hx (Nat.lt_succ_self _)
theorem chain_sub (W : Wf L) : ∀ x ∈ L.ks, ∀ y ∈ L.chain x, y ∈ L.ks ∧ ixOf L.ks y ≤ ixOf L.ks x := by
  refine chain_ind W ?_ ?_
  · intro y hy
    rw [chain_cr W] at hy
    rw [List.mem_singleton.mp hy]
    exact ⟨W.crk, Nat.le_refl _⟩
  · intro x p hx h0 hp hm ih y hy
    rw [chain_step W hp] at hy
    rcases List.mem_cons.mp hy with rfl | hy
    · exact ⟨hx, Nat.le_refl _⟩
    · have := ih y hy
      have h2 := (W.up x p (lord_some hp)).2
      exact ⟨this.1, by omega⟩
def Ld.kids (L : Ld) (e : Str) : List Str := L.ks.filter fun k => decide (aval L.lords k = some (some e))
def Ld.under (L : Ld) (e : Str) : List Str := srtS (L.kids e)
theorem mem_kids {e k : Str} : k ∈ L.kids e ↔ L.lord k = some e := by
  unfold Ld.kids
  rw [List.mem_filter, decide_eq_true_iff]
  constructor
  · intro h; exact lord_of h.2
  · intro h; exact ⟨aval_some_iff.mp (by rw [lord_some h]; rfl), lord_some h⟩
theorem mem_under {e k : Str} : k ∈ L.under e ↔ L.lord k = some e := by
  unfold Ld.under
  rw [(srtS_perm _).mem_iff, mem_kids]
def inc (L : Ld) (e x : Str) : Nat := if e ∈ L.chain x then 1 else 0
theorem sum_zeroN (l : List Str) : (l.map fun _ => (0 : Nat)).sum = 0 := by
  induction l with
  | nil => rfl
  | cons x l ih => simp only [List.map_cons, List.sum_cons]; omega
theorem sum_zeroI (l : List Str) : (l.map fun _ => (0 : Int)).sum = 0 := by
  induction l with
  | nil => rfl
  | cons x l ih => simp only [List.map_cons, List.sum_cons]; omega
theorem sum_one {l : List Str} (hn : l.Nodup) (x : Str) : (l.map fun c => if c = x then 1 else 0).sum = if x ∈ l then 1 else 0 := by
  induction l with
  | nil => rfl
  | cons y l ih =>
    have h := List.nodup_cons.mp hn
    rw [List.map_cons, List.sum_cons, ih h.2]
    by_cases e : y = x
    · subst e
      simp [h.1]
    · have e' : ¬ x = y := fun z => e z.symm
      simp [e, e']
theorem inc_split (W : Wf L) {e : Str} (he : e ∈ L.ks) : ∀ x ∈ L.ks, inc L e x = (if x = e then 1 else 0) + ((L.kids e).map fun c => inc L c x).sum := by
  have ndk : (L.kids e).Nodup := List.Pairwise.filter _ W.nd
  refine chain_ind W ?_ ?_
  · have z : ((L.kids e).map fun c => inc L c "").sum = 0 := by
      have : (L.kids e).map (fun c => inc L c "") = (L.kids e).map fun _ => 0 := by
        apply List.map_congr_left
        intro c hc
        unfold inc
        rw [chain_cr W, if_neg]
        intro h
        have : c = "" := List.mem_singleton.mp h
        rw [this] at hc
        have := mem_kids.mp hc
        rw [W.lord_cr] at this
        cases this
      rw [this, sum_zeroN]
    rw [z]
    unfold inc
    rw [chain_cr W]
    by_cases h : e = ""
    · subst h; simp
    · have h' : ¬ ("" : Str) = e := fun z => h z.symm
      simp [h, h']
  · intro x p hx h0 hp hm ih
    have hlt := (W.up x p (lord_some hp)).2
    have hxp : x ∉ L.chain p := fun z => by have := (chain_sub W p hm x z).2; omega
    have e1 : ∀ c, inc L c x = (if c = x then 1 else 0) + inc L c p := by
      intro c
      unfold inc
      rw [chain_step W hp]
      by_cases h : c = x
      · subst h; simp [hxp]
      · simp [h]
    have e2 : ((L.kids e).map fun c => inc L c x).sum = (if x ∈ L.kids e then 1 else 0) + ((L.kids e).map fun c => inc L c p).sum := by
      rw [← sum_one ndk x]
      clear ih ndk
      generalize L.kids e = l
      induction l with
      | nil => rfl
      | cons c l ih2 =>
        simp only [List.map_cons, List.sum_cons]
        rw [ih2, e1 c]
        omega
    rw [e1 e, ih, e2]
    have e3 : (if x ∈ L.kids e then 1 else 0) = if p = e then 1 else 0 := by
      by_cases h : p = e
      · subst h
        rw [if_pos rfl, if_pos (mem_kids.mpr hp)]
      · rw [if_neg h, if_neg]
        intro z
        have := mem_kids.mp z
        rw [hp] at this
        cases this
        exact h rfl
    rw [e3]
    have e4 : (if e = x then 1 else 0) = if x = e then 1 else 0 := by
      by_cases h : x = e
      · rw [if_pos h, if_pos h.symm]
      · rw [if_neg h, if_neg (fun z => h z.symm)]
    rw [e4]
def Ld.ac (L : Ld) (k : Str) : Int := (aval L.own k).getD 0
def Ld.breadth (L : Ld) (e : Str) : Int := (L.ks.map fun x => (inc L e x : Int) * L.ac x).sum
def Ld.size (L : Ld) (e : Str) : Nat := (L.ks.map fun x => inc L e x).sum
theorem size_le (L : Ld) (e : Str) : L.size e ≤ L.ks.length := by
  unfold Ld.size
  generalize L.ks = l
  induction l with
  | nil => simp
  | cons x l ih =>
    simp only [List.map_cons, List.sum_cons, List.length_cons]
    have : inc L e x ≤ 1 := by unfold inc; split <;> omega
    omega
theorem sum_swap {α β : Type} (f : α → β → Int) (l : List α) (m : List β) : (l.map fun x => (m.map fun y => f x y).sum).sum = (m.map fun y => (l.map fun x => f x y).sum).sum := by
  induction l with
  | nil =>
    simp only [List.map_nil, List.sum_nil]
    induction m with
    | nil => rfl
    | cons y m ih => simp only [List.map_cons, List.sum_cons]; rw [← ih]; rfl
  | cons x l ih =>
    simp only [List.map_cons, List.sum_cons]
    rw [ih]
    clear ih
    induction m with
    | nil => rfl
    | cons y m ih => simp only [List.map_cons, List.sum_cons]; rw [← ih]; omega
theorem sum_nat {α : Type} (f : α → Nat) (l : List α) : ((l.map f).sum : Int) = (l.map fun x => (f x : Int)).sum := by
  induction l with
  | nil => rfl
  | cons x l ih => simp only [List.map_cons, List.sum_cons]; rw [← ih]; omega
theorem sum_mulr {α : Type} (f : α → Int) (l : List α) (c : Int) : (l.map fun x => f x * c).sum = (l.map f).sum * c := by
  induction l with
  | nil => simp
  | cons x l ih => simp only [List.map_cons, List.sum_cons]; rw [ih, Int.add_mul]
theorem sum_pick {l : List Str} (hn : l.Nodup) (g : Str → Int) {e : Str} (he : e ∈ l) : (l.map fun x => (if x = e then (1 : Int) else 0) * g x).sum = g e := by
  induction l with
  | nil => cases he
  | cons y l ih =>
    have h := List.nodup_cons.mp hn
    simp only [List.map_cons, List.sum_cons]
    rcases List.mem_cons.mp he with rfl | he
    · have : (l.map fun x => (if x = e then (1 : Int) else 0) * g x) = l.map fun _ => 0 := by
        apply List.map_congr_left
        intro x hx
        rw [if_neg (fun z : x = e => h.1 (z ▸ hx))]
        simp
      rw [this, sum_zeroI]
      simp
    · rw [ih h.2 he, if_neg (fun z : y = e => h.1 (z ▸ he))]
      simp
theorem sum_addI {α : Type} (f g : α → Int) (l : List α) : (l.map fun x => f x + g x).sum = (l.map f).sum + (l.map g).sum := by
  induction l with
  | nil => rfl
  | cons x l ih => simp only [List.map_cons, List.sum_cons]; rw [ih]; omega
theorem wsum_split (W : Wf L) {e : Str} (he : e ∈ L.ks) (g : Str → Int) : (L.ks.map fun x => (inc L e x : Int) * g x).sum = g e + ((L.kids e).map fun c => (L.ks.map fun x => (inc L c x : Int) * g x).sum).sum := by
  rw [sum_swap (fun c x => (inc L c x : Int) * g x) (L.kids e) L.ks]
  rw [← sum_pick W.nd g he, ← sum_addI]
  congr 1
  apply List.map_congr_left
  intro x hx
  rw [inc_split W he x hx, sum_mulr (fun c => (inc L c x : Int))]
  rw [← sum_nat]
  by_cases h : x = e
  · simp only [h, if_true]; rw [Int.natCast_add, Int.add_mul]; rfl
  · simp only [h, if_false]; rw [Nat.zero_add]; simp
theorem breadth_split (W : Wf L) {e : Str} (he : e ∈ L.ks) : L.breadth e = L.ac e + ((L.kids e).map L.breadth).sum := wsum_split W he L.ac
theorem size_split (W : Wf L) {e : Str} (he : e ∈ L.ks) : L.size e = 1 + ((L.kids e).map L.size).sum := by
  have h := wsum_split W he (fun _ => 1)
  have e1 : ∀ c, ((L.size c : Nat) : Int) = (L.ks.map fun x => (inc L c x : Int) * 1).sum := fun c => by
    unfold Ld.size
    rw [sum_nat]
    congr 1
    apply List.map_congr_left
    intro x _
    omega
  rw [← e1] at h
  have e2 : ((L.kids e).map fun c => (L.ks.map fun x => (inc L c x : Int) * 1).sum).sum = (((L.kids e).map L.size).sum : Nat) := by
    rw [sum_nat]
    congr 1
    apply List.map_congr_left
    intro c _
    exact (e1 c).symm
  rw [e2] at h
  omega
theorem size_pos (W : Wf L) {e : Str} (he : e ∈ L.ks) : 1 ≤ L.size e := by rw [size_split W he]; omega
theorem perm_sum {l m : List Str} (p : l.Perm m) (f : Str → Int) : (l.map f).sum = (m.map f).sum := by
  induction p with
  | nil => rfl
  | cons x _ ih => simp only [List.map_cons, List.sum_cons]; rw [ih]
  | swap x y l => simp only [List.map_cons, List.sum_cons]; omega
  | trans _ _ a b => exact a.trans b
theorem perm_sumN {l m : List Str} (p : l.Perm m) (f : Str → Nat) : (l.map f).sum = (m.map f).sum := by
  induction p with
  | nil => rfl
  | cons x _ ih => simp only [List.map_cons, List.sum_cons]; rw [ih]
  | swap x y l => simp only [List.map_cons, List.sum_cons]; omega
  | trans _ _ a b => exact a.trans b
theorem breadth_under (W : Wf L) {e : Str} (he : e ∈ L.ks) : L.breadth e = L.ac e + ((L.under e).map L.breadth).sum := by rw [breadth_split W he]; unfold Ld.under; rw [perm_sum (srtS_perm _)]
theorem size_under (W : Wf L) {e : Str} (he : e ∈ L.ks) : L.size e = 1 + ((L.under e).map L.size).sum := by rw [size_split W he]; unfold Ld.under; rw [perm_sumN (srtS_perm _)]
theorem under_ks {e k : Str} (h : k ∈ L.under e) : k ∈ L.ks := aval_some_iff.mp (by rw [lord_some (mem_under.mp h)]; rfl)
end
end MR
set_option Elab.async false
set_option linter.all false
set_option maxRecDepth 100000
set_option exponentiation.threshold 30000
namespace MR
open PySem
structure LandAt (S : Sto) (r a b c d : Nat) (la lb : Bool) (L : Ld) : Prop where
  o : S[r]? = some (.ins "Land" [("lords", .obj a), ("holders", .obj b), ("acres_of", .obj c), ("services", .obj d)])
  l : S[a]? = some (.con la (.dK (enc encO L.lords)))
  h : S[b]? = some (.con lb (.dK (enc D.str L.hold)))
  w : S[c]? = some (.con false (.dK (enc D.int L.own)))
  s : S[d]? = some (.con false (.dK (enc encF L.due)))
  nd : [r, a, b, c, d].Nodup
section
variable {S : Sto} {r a b c d : Nat} {la lb : Bool} {L : Ld} {e : Str}
theorem LandAt.ob (A : LandAt S r a b c d la lb L) : objAt ["Land"] S (.obj r) = some (r, "Land", [("lords", .obj a), ("holders", .obj b), ("acres_of", .obj c), ("services", .obj d)]) := by rw [objAtU, A.o]; simp
theorem LandAt.dl (A : LandAt S r a b c d la lb L) (σ : Sl) : deref σ S (.obj a) = some (.dK (enc encO L.lords)) := by rw [derefU, A.l]
theorem LandAt.dh (A : LandAt S r a b c d la lb L) (σ : Sl) : deref σ S (.obj b) = some (.dK (enc D.str L.hold)) := by rw [derefU, A.h]
theorem LandAt.lockL (A : LandAt S r a b c d la lb L) (lk : Bool) : LandAt (S.set a (.con lk (.dK (enc encO L.lords)))) r a b c d lk lb L := by
  have nd := A.nd
  simp only [List.nodup_cons, List.mem_cons, List.not_mem_nil, or_false, not_or] at nd
  obtain ⟨⟨n1, n2, n3, n4⟩, ⟨n5, n6, n7⟩, _⟩ := nd
  refine ⟨?_, ?_, ?_, ?_, ?_, A.nd⟩
  · rw [setG, if_neg (fun z => n1 z.symm)]; exact A.o
  · rw [setG, if_pos rfl, A.l]; rfl
  · rw [setG, if_neg n5]; exact A.h
  · rw [setG, if_neg n6]; exact A.w
  · rw [setG, if_neg n7]; exact A.s
theorem LandAt.lockH (A : LandAt S r a b c d la lb L) (lk : Bool) : LandAt (S.set b (.con lk (.dK (enc D.str L.hold)))) r a b c d la lk L := by
  have nd := A.nd
  simp only [List.nodup_cons, List.mem_cons, List.not_mem_nil, or_false, not_or] at nd
  obtain ⟨⟨n1, n2, n3, n4⟩, ⟨n5, n6, n7⟩, ⟨n8, n9⟩, _⟩ := nd
  refine ⟨?_, ?_, ?_, ?_, ?_, A.nd⟩
  · rw [setG, if_neg (fun z => n2 z.symm)]; exact A.o
  · rw [setG, if_neg (fun z => n5 z.symm)]; exact A.l
  · rw [setG, if_pos rfl, A.h]; rfl
  · rw [setG, if_neg n8]; exact A.w
  · rw [setG, if_neg n9]; exact A.s
theorem eq_encO {o : Option Str} {e : Str} : opEq' (encO o) (.str e) = some (.bl (decide (o = some e))) := by
  cases o with
  | none => rfl
  | some x => show some (D.bl (decide (x = e))) = _; simp
theorem deref_encO {σ : Sl} {o : Option Str} : deref σ S (encO o) = some (encO o) := by cases o <;> rfl
def Ld.held (L : Ld) (m : Str) : List Str := srtS ((keys L.hold).filter fun k => decide (aval L.hold k = some m))
@[simp] theorem kLPop_app {x : D} {l : List D} {y : D} {σ : Sl} : kLPop x (.lst (l ++ [y])) [] σ S = ofMut y (chg σ S x (.lst l)) := by
  unfold kLPop
  simp
@[simp] theorem kExt_lst {x : D} {l m : List D} {σ : Sl} (h : l.length + m.length ≤ most) : kExt x (.lst l) [.lst m] σ S = ofMut .non (chg σ S x (.lst (l ++ m))) := by
  unfold kExt
  simp only [h, if_true]
@[simp] theorem sAug_val {σ : Sl} {n : Nat} {i : Int} {op : Int → Int → Int} {f : DE} (h : σ[n]? = some (.val (.int i))) : sAug n op f σ S = (f σ S).bind fun y σ S => match y with
  | .int j => .ok .next (σ.set n (.val (.int (op i j)))) S
  | _ => .fail := by
  unfold sAug
  rw [h] <;> rfl
theorem gr_strs {l : List Str} (h : ∀ x ∈ l, PyData.strOk x = true) : gr 1 (.lst (l.map D.str)) = true := by
  show (l.map D.str).all (gr 0) = true
  rw [List.all_map, List.all_eq_true]
  intro x hx
  exact h x hx
theorem ne_nil {l : List Str} (hs : ∀ x ∈ l, PyData.strOk x = true) : opNe' (.lst (l.map D.str)) (.lst []) = some (.bl (decide (l ≠ []))) := by
  cases l with
  | nil => exact opNe_self (n := 1) rfl (by decide)
  | cons x l =>
    rw [opNe_ne (n := 1) (m := 1) (gr_strs hs) rfl (by decide) (by decide) (by intro z; cases z)]
    rfl
theorem atI_last {α : Type} {l : List α} {x : α} : L2.atI (l ++ [x]) (-1) = some x := by
  unfold L2.atI L2.ixN
  have e : (-1 + ((l.length : Int) + 1)).toNat = l.length := by omega
  simp only [List.length_append, List.length_singleton]
  rw [if_neg (by decide), if_pos (by omega)]
  show (l ++ [x])[(-1 + ((l.length + 1 : Nat) : Int)).toNat]? = some x
  rw [show (-1 + ((l.length + 1 : Nat) : Int)).toNat = l.length by omega]
  simp
end
end MR
set_option Elab.async false
set_option linter.all false
set_option maxRecDepth 100000
set_option exponentiation.threshold 30000
namespace MR
open PySem
def setAll {α : Type} (l : List (Str × α)) (cs : List Str) (v : α) : List (Str × α) := l.map fun q => if q.1 ∈ cs then (q.1, v) else q
section
variable {α : Type} {l : List (Str × α)} {v : α}
theorem aput_in {k : Str} (h : k ∈ keys l) : aput l k v = l.map fun q => if q.1 = k then (q.1, v) else q := by
  unfold aput
  rw [any_keys]
  simp only [h, decide_true, if_true]
theorem aput_out {k : Str} (h : k ∉ keys l) : aput l k v = l ++ [(k, v)] := by
  unfold aput
  rw [any_keys]
  simp only [h, decide_false, Bool.false_eq_true, if_false]
theorem setAll_keys {cs : List Str} : keys (setAll l cs v) = keys l := by
  unfold keys setAll
  rw [List.map_map]
  apply List.map_congr_left
  intro q _
  show (if q.1 ∈ cs then (q.1, v) else q).1 = q.1
  split <;> rfl
theorem fold_aput : ∀ (cs : List Str) (l : List (Str × α)), (∀ c ∈ cs, c ∈ keys l) → cs.foldl (fun l c => aput l c v) l = setAll l cs v := by
  intro cs
  induction cs with
  | nil =>
    intro l _
    show l = l.map _
    conv => lhs; rw [← List.map_id l]
    apply List.map_congr_left
    intro q _
    simp
  | cons c cs ih =>
    intro l h
    have hc := h c List.mem_cons_self
    have e : setAll l [c] v = aput l c v := by
      rw [aput_in hc]
      unfold setAll
      simp
    rw [List.foldl_cons, ← e, ih _ (fun x hx => by rw [setAll_keys]; exact h x (List.mem_cons_of_mem _ hx))]
    unfold setAll
    rw [List.map_map]
    apply List.map_congr_left
    intro q _
    simp only [Function.comp, List.mem_singleton, List.mem_cons]
    by_cases h1 : q.1 = c
    · simp [h1]
    · by_cases h2 : q.1 ∈ cs <;> simp [h1, h2]
theorem aval_setAll {cs : List Str} {k : Str} : aval (setAll l cs v) k = if k ∈ cs ∧ k ∈ keys l then some v else aval l k := by
  unfold setAll
  rw [aval_map (fun p => by split <;> rfl)]
  by_cases hk : k ∈ keys l
  · obtain ⟨w, hw⟩ := Option.isSome_iff_exists.mp (aval_some_iff.mpr hk)
    have hw' := hw
    unfold aval at hw
    obtain ⟨p, hp, hp2⟩ := Option.map_eq_some_iff.mp hw
    have h1 : p.1 = k := by simpa using List.find?_some hp
    rw [hp, hw']
    by_cases hc : k ∈ cs
    · simp [hc, hk, h1]
    · simp [hc, h1, hp2]
  · have : l.find? (fun p => decide (p.1 = k)) = none := by
      have := aval_none_iff.mpr hk
      unfold aval at this
      simpa using this
    rw [this, aval_none_iff.mpr hk]
    simp [hk]
theorem setAll_drop {cs : List Str} {e : Str} : adrop (setAll l cs v) e = setAll (adrop l e) cs v := by
  unfold adrop setAll
  rw [List.filter_map]
  congr 1
  apply List.filter_congr
  intro q _
  show decide ((if q.1 ∈ cs then (q.1, v) else q).1 ≠ e) = decide (q.1 ≠ e)
  split <;> rfl
end
def Ld.grant (L : Ld) (e n m : Str) (a s : Int) : Ld := ⟨aput L.lords n (some e), aput L.hold n m, aput (aput L.own n a) e (L.ac e - a), aput L.due n (s, 1)⟩
def Ld.sv (L : Ld) (e : Str) : Fr := (aval L.due e).getD (0, 1)
def moved (L : Ld) (e : Str) (a : Int) : Fr := (frT ((L.sv e).1 * a) ((L.sv e).2 * L.breadth e), frB ((L.sv e).1 * a) ((L.sv e).2 * L.breadth e))
def left (L : Ld) (e : Str) (a : Int) : Fr := (frT ((L.sv e).1 * (L.breadth e - a)) ((L.sv e).2 * L.breadth e), frB ((L.sv e).1 * (L.breadth e - a)) ((L.sv e).2 * L.breadth e))
def Ld.part (L : Ld) (e n m : Str) (a : Int) : Ld := ⟨aput L.lords n (L.lord e), aput L.hold n m, aput (aput L.own n a) e (L.ac e - a), aput (aput L.due n (moved L e a)) e (left L e a)⟩
def Ld.convey (L : Ld) (e m : Str) : Ld := { L with hold := aput L.hold e m }
def Ld.fall (L : Ld) (e p : Str) : Ld := ⟨adrop (setAll L.lords (L.under e) (some p)) e, adrop L.hold e, aput (adrop L.own e) p (L.ac p + L.ac e), adrop L.due e⟩
theorem ixOf_cons {z x : Str} {l : List Str} : ixOf (z :: l) x = if z = x then 0 else ixOf l x + 1 := by
  unfold ixOf
  rw [List.findIdx_cons]
  by_cases h : z = x
  · simp [h]
  · have : (z == x) = false := beq_eq_false_iff_ne.mpr h
    simp [h, this]
theorem ix_filter (P : Str → Bool) {x y : Str} (hx : P x = true) (hy : P y = true) : ∀ l : List Str, y ∈ l → ixOf l x < ixOf l y → ixOf (l.filter P) x < ixOf (l.filter P) y
  | [], h, _ => by cases h
  | z :: l, h, h2 => by
    rw [ixOf_cons, ixOf_cons] at h2
    by_cases zx : z = x
    · subst zx
      rw [List.filter_cons, if_pos hx, ixOf_cons, ixOf_cons]
      by_cases zy : z = y
      · subst zy; simp at h2
      · simp [zy]
    · by_cases zy : z = y
      · subst zy; simp at h2
      · simp only [zx, zy, if_false] at h2
        have hm : y ∈ l := by
          rcases List.mem_cons.mp h with e | h
          · exact absurd e.symm zy
          · exact h
        have ih := ix_filter P hx hy l hm (by omega)
        rw [List.filter_cons]
        split
        · rw [ixOf_cons, ixOf_cons, if_neg zx, if_neg zy]; omega
        · exact ih
section
variable {L : Ld} {e n m : Str} {a s : Int}
theorem vals_put {l : List (Str × Str)} {k v : Str} {P : Str → Prop} (h : ∀ x ∈ l.map (·.2), P x) (hv : P v) : ∀ x ∈ (aput l k v).map (·.2), P x := by
  intro x hx
  obtain ⟨q, hq, rfl⟩ := List.mem_map.mp hx
  unfold aput at hq
  split at hq
  · obtain ⟨q', hq', rfl⟩ := List.mem_map.mp hq
    split
    · exact hv
    · exact h _ (List.mem_map.mpr ⟨q', hq', rfl⟩)
  · rcases List.mem_append.mp hq with hq | hq
    · exact h _ (List.mem_map.mpr ⟨q, hq, rfl⟩)
    · rw [List.mem_singleton.mp hq]; exact hv
theorem Wf.new (W : Wf L) (hn : n ∉ L.ks) (n0 : n ≠ "") {p : Str} (hp : p ∈ L.ks) (sn : PyData.strOk n = true) (sm : PyData.strOk m = true) {L' : Ld} (h1 : L'.lords = aput L.lords n (some p)) (h2 : L'.hold = aput L.hold n m) (h3 : keys L'.own = L.ks ++ [n]) (h4 : keys L'.due = L.ks ++ [n]) : Wf L' := by
  have ek : L'.ks = L.ks ++ [n] := by
    show keys L'.lords = _
    rw [h1, keys_put, if_neg hn]
  refine ⟨?_, by rw [ek]; exact h3, by rw [ek]; exact h4, ?_, ?_, ?_, ?_, ?_, ?_⟩
  · rw [ek, h2, keys_put, if_neg (by rw [W.kh]; exact hn), W.kh]
  · rw [ek]
    exact List.nodup_append.mpr ⟨W.nd, List.pairwise_singleton _ _, fun x hx y hy => by rw [List.mem_singleton.mp hy]; exact fun z => hn (z ▸ hx)⟩
  · rw [h1, aval_put, if_neg n0]; exact W.cr
  · intro k hk
    rw [h1, aval_put] at hk
    split at hk
    · cases hk
    · exact W.no k hk
  · intro k q hk
    rw [h1, aval_put] at hk
    rw [ek]
    split at hk
    · rename_i e1
      cases hk
      subst e1
      exact ⟨List.mem_append_left _ hp, by rw [ixOf_app hp, ixOf_last hn]; exact ixOf_lt.mp hp⟩
    · have hkm : k ∈ L.ks := aval_some_iff.mp (by rw [hk]; rfl)
      obtain ⟨g1, g2⟩ := W.up k q hk
      exact ⟨List.mem_append_left _ g1, by rw [ixOf_app g1, ixOf_app hkm]; exact g2⟩
  · intro k hk
    rw [ek] at hk
    rcases List.mem_append.mp hk with hk | hk
    · exact W.sk k hk
    · rw [List.mem_singleton.mp hk]; exact sn
  · rw [h2]
    exact vals_put W.sh sm
theorem keys_put2 {α : Type} {l : List (Str × α)} {n e : Str} {u v : α} (hn : n ∉ keys l) (he : e ∈ keys l) : keys (aput (aput l n u) e v) = keys l ++ [n] := by
  rw [keys_put, keys_put, if_neg hn, if_pos (List.mem_append_left _ he)]
theorem Wf.grant (W : Wf L) (he : e ∈ L.ks) (hn : n ∉ L.ks) (n0 : n ≠ "") (sn : PyData.strOk n = true) (sm : PyData.strOk m = true) : Wf (L.grant e n m a s) :=
  W.new hn n0 he sn sm rfl rfl (by rw [← W.ko]; exact keys_put2 (by rw [W.ko]; exact hn) (by rw [W.ko]; exact he)) (by
    show keys (aput L.due n (s, 1)) = _
    rw [keys_put, if_neg (by rw [W.kd]; exact hn), W.kd])
theorem Wf.part (W : Wf L) (he : e ∈ L.ks) (e0 : e ≠ "") (hn : n ∉ L.ks) (n0 : n ≠ "") (sn : PyData.strOk n = true) (sm : PyData.strOk m = true) : Wf (L.part e n m a) := by
  obtain ⟨p, hp, hm, _⟩ := W.lord_ne he e0
  exact W.new hn n0 hm sn sm (by show aput L.lords n (L.lord e) = _; rw [hp]) rfl (by rw [← W.ko]; exact keys_put2 (by rw [W.ko]; exact hn) (by rw [W.ko]; exact he)) (by rw [← W.kd]; exact keys_put2 (by rw [W.kd]; exact hn) (by rw [W.kd]; exact he))
theorem Wf.convey (W : Wf L) (he : e ∈ L.ks) (sm : PyData.strOk m = true) : Wf (L.convey e m) :=
  ⟨by show keys (aput L.hold e m) = L.ks; rw [keys_put, if_pos (by rw [W.kh]; exact he), W.kh], W.ko, W.kd, W.nd, W.cr, W.no, W.up, W.sk, vals_put W.sh sm⟩
theorem Wf.fall (W : Wf L) {p : Str} (hp : L.lord e = some p) : Wf (L.fall e p) := by
  obtain ⟨hpm, hpl⟩ := W.up e p (lord_some hp)
  have he : e ∈ L.ks := aval_some_iff.mp (by rw [lord_some hp]; rfl)
  have pe : p ≠ e := fun z => by rw [z] at hpl; omega
  have e0 : e ≠ "" := fun z => by rw [z, W.lord_cr] at hp; cases hp
  have ek : (L.fall e p).ks = L.ks.filter fun x => decide (x ≠ e) := by
    show keys (adrop (setAll L.lords (L.under e) (some p)) e) = _
    rw [keys_drop, setAll_keys]
  have key : ∀ k, aval (L.fall e p).lords k = if e = k then none else if L.lord k = some e then some (some p) else aval L.lords k := by
    intro k
    show aval (adrop (setAll L.lords (L.under e) (some p)) e) k = _
    rw [aval_drop, aval_setAll]
    by_cases h : e = k
    · rw [if_pos h, if_pos h]
    · rw [if_neg h, if_neg h]
      by_cases h2 : L.lord k = some e
      · rw [if_pos h2, if_pos ⟨mem_under.mpr h2, under_ks (mem_under.mpr h2)⟩]
      · rw [if_neg h2, if_neg (fun z => h2 (mem_under.mp z.1))]
  have mem' : ∀ x, x ∈ (L.fall e p).ks ↔ x ∈ L.ks ∧ x ≠ e := fun x => by rw [ek, List.mem_filter, decide_eq_true_iff]
  refine ⟨?_, ?_, ?_, ?_, ?_, ?_, ?_, ?_, ?_⟩
  · rw [ek]; show keys (adrop L.hold e) = _; rw [keys_drop, W.kh]
  · rw [ek]; show keys (aput (adrop L.own e) p _) = _
    rw [keys_put, keys_drop, W.ko, if_pos]
    rw [List.mem_filter, decide_eq_true_iff]
    exact ⟨hpm, pe⟩
  · rw [ek]; show keys (adrop L.due e) = _; rw [keys_drop, W.kd]
  · rw [ek]; exact List.Pairwise.filter _ W.nd
  · rw [key, if_neg e0, if_neg (by rw [W.lord_cr]; intro z; cases z)]; exact W.cr
  · intro k hk
    rw [key] at hk
    split at hk
    · cases hk
    · split at hk
      · cases hk
      · exact W.no k hk
  · intro k q hk
    rw [key] at hk
    split at hk
    · cases hk
    · rename_i ne
      have fin : ∀ q, q ∈ L.ks → q ≠ e → k ∈ L.ks → ixOf L.ks q < ixOf L.ks k → q ∈ (L.fall e p).ks ∧ ixOf (L.fall e p).ks q < ixOf (L.fall e p).ks k := fun q h1 h2 h3 h4 => by
        refine ⟨(mem' q).mpr ⟨h1, h2⟩, ?_⟩
        rw [ek]
        exact ix_filter _ (by simpa using h2) (by simpa using fun z : k = e => ne z.symm) L.ks h3 h4
      split at hk
      · rename_i h2
        cases hk
        have hkm : k ∈ L.ks := aval_some_iff.mp (by rw [lord_some h2]; rfl)
        have := (W.up k e (lord_some h2)).2
        exact fin p hpm pe hkm (by omega)
      · rename_i h2
        have hkm : k ∈ L.ks := aval_some_iff.mp (by rw [hk]; rfl)
        obtain ⟨g1, g2⟩ := W.up k q hk
        exact fin q g1 (fun z => h2 (by rw [lord_of hk, z])) hkm g2
  · intro k hk; exact W.sk k ((mem' k).mp hk).1
  · intro x hx
    obtain ⟨q, hq, rfl⟩ := List.mem_map.mp hx
    exact W.sh _ (List.mem_map.mpr ⟨q, (List.mem_filter.mp hq).1, rfl⟩)
end
end MR
set_option Elab.async false
set_option linter.all false
set_option maxRecDepth 100000
set_option exponentiation.threshold 30000
namespace MR
open PySem
section
variable {S : Sto} {r a b c d : Nat} {L : Ld} {e n m : Str} {x s : Int}
theorem atI_lit {α : Type} (l : List α) (k : Nat) : L2.atI l (k : Int) = l[k]? := by
  unfold L2.atI L2.ixN
  rw [if_pos (by omega)]
  by_cases h : k < l.length
  · rw [if_pos (by omega)]
    simp
  · rw [if_neg (by omega), List.getElem?_eq_none_iff.mpr (by omega)]
    rfl
theorem atI0 {α : Type} {x : α} {l : List α} : L2.atI (x :: l) 0 = some x := atI_lit (x :: l) 0
theorem atI1 {α : Type} {x y : α} {l : List α} : L2.atI (x :: y :: l) 1 = some y := atI_lit (x :: y :: l) 1
theorem atI2 {α : Type} {x y z : α} {l : List α} : L2.atI (x :: y :: z :: l) 2 = some z := atI_lit (x :: y :: z :: l) 2
theorem atI3' {α : Type} {x y z u : α} {l : List α} : L2.atI (x :: y :: z :: u :: l) 3 = some u := atI_lit (x :: y :: z :: u :: l) 3
theorem atI4 {α : Type} {x y z u v : α} {l : List α} : L2.atI (x :: y :: z :: u :: v :: l) 4 = some v := atI_lit (x :: y :: z :: u :: v :: l) 4
theorem atI5 {α : Type} {x y z u v t : α} {l : List α} : L2.atI (x :: y :: z :: u :: v :: t :: l) 5 = some t := atI_lit (x :: y :: z :: u :: v :: t :: l) 5
theorem atI6 {α : Type} {x y z u v t q : α} {l : List α} : L2.atI (x :: y :: z :: u :: v :: t :: q :: l) 6 = some q := atI_lit (x :: y :: z :: u :: v :: t :: q :: l) 6
theorem keys_len {α : Type} (l : List (Str × α)) : (keys l).length = l.length := List.length_map ..
structure Lens (L : Ld) : Prop where
  l : L.lords.length < 64
  h : L.hold.length < 64
  o : L.own.length < 64
  d : L.due.length < 64
theorem Wf.lens (W : Wf L) (hl : L.ks.length < 64) : Lens L := by
  have h1 := keys_len L.lords
  have h2 := keys_len L.hold
  have h3 := keys_len L.own
  have h4 := keys_len L.due
  have e1 : L.ks.length = (keys L.lords).length := rfl
  rw [W.kh] at h2
  rw [W.ko] at h3
  rw [W.kd] at h4
  exact ⟨by omega, by omega, by omega, by omega⟩
theorem LandAt.ne (A : LandAt S r a b c d false false L) : (¬ a = r ∧ ¬ b = r ∧ ¬ c = r ∧ ¬ d = r) ∧ (¬ a = b ∧ ¬ a = c ∧ ¬ a = d ∧ ¬ b = c ∧ ¬ b = d ∧ ¬ c = d) ∧ (¬ b = a ∧ ¬ c = a ∧ ¬ d = a ∧ ¬ c = b ∧ ¬ d = b ∧ ¬ d = c) := by
  have nd := A.nd
  simp only [List.nodup_cons, List.mem_cons, List.not_mem_nil, or_false, not_or] at nd
  obtain ⟨⟨n1, n2, n3, n4⟩, ⟨n5, n6, n7⟩, ⟨n8, n9⟩, n10, _⟩ := nd
  exact ⟨⟨fun z => n1 z.symm, fun z => n2 z.symm, fun z => n3 z.symm, fun z => n4 z.symm⟩, ⟨n5, n6, n7, n8, n9, n10⟩, fun z => n5 z.symm, fun z => n6 z.symm, fun z => n7 z.symm, fun z => n8 z.symm, fun z => n9 z.symm, fun z => n10 z.symm⟩
end
end MR
set_option Elab.async false
set_option linter.all false
set_option maxRecDepth 100000
namespace MR
open PySem
theorem wipe_setD {σ : Sl} {vs : List Nat} {j : Nat} {x : Slot} (h : j ∈ vs) : wipeD (σ.set j x) vs = wipeD σ vs := by
  apply List.ext_getElem?
  intro k
  rw [wipeD_get, wipeD_get]
  by_cases e : k ∈ vs
  · rw [if_pos e, if_pos e]
    by_cases lt : k < σ.length
    · rw [List.getElem?_eq_getElem (by rw [List.length_set]; exact lt), List.getElem?_eq_getElem lt]
      rfl
    · rw [List.getElem?_eq_none_iff.mpr (by rw [List.length_set]; omega), List.getElem?_eq_none_iff.mpr (by omega)]
  · rw [if_neg e, if_neg e, List.getElem?_set_ne (fun z => e (by rw [← z]; exact h))]
theorem wipe_wipe {σ : Sl} {vs : List Nat} : wipeD (wipeD σ vs) vs = wipeD σ vs := by
  apply List.ext_getElem?
  intro k
  rw [wipeD_get, wipeD_get]
  by_cases e : k ∈ vs
  · simp only [e, if_true]
    cases σ[k]? <;> rfl
  · rw [if_neg e]
theorem lc_mapK {α : Type} {it : DI} {i : Nat} {c : DT} {e : DE} {σ σ' : Sl} {S : Sto} {l : List α} (f : α → D) (p : α → Bool) (h : α → D) (hi : it σ S = .ok (l.map f) σ' S) (hno : noOwn σ' [i] = true) (hl : l.length ≤ most)
    (st : ∀ x ∈ l, c ((wipeD σ' [i]).set i (.val (f x))) S = .ok (p x) ((wipeD σ' [i]).set i (.val (f x))) S ∧ (p x = true → dV e ((wipeD σ' [i]).set i (.val (f x))) S = .ok (h x) ((wipeD σ' [i]).set i (.val (f x))) S)) :
    dLc it (gN i) c e [i] σ S = .ok (.lst ((l.filter p).map h)) σ' S := by
  have key : ∀ (l : List α) (acc : List D), acc.length + l.length ≤ most → (∀ x ∈ l, c ((wipeD σ' [i]).set i (.val (f x))) S = .ok (p x) ((wipeD σ' [i]).set i (.val (f x))) S ∧ (p x = true → dV e ((wipeD σ' [i]).set i (.val (f x))) S = .ok (h x) ((wipeD σ' [i]).set i (.val (f x))) S)) →
      lcL (gN i) c e [i] (l.map f) acc (wipeD σ' [i]) S = .ok (acc ++ (l.filter p).map h) (wipeD σ' [i]) S := by
    intro l
    induction l with
    | nil => intro acc _ _; simp [lcL]
    | cons x l ih =>
      intro acc hl st
      rw [List.length_cons] at hl
      obtain ⟨h1, h2⟩ := st x List.mem_cons_self
      have ih := fun acc' q => ih acc' q fun y hy => st y (List.mem_cons_of_mem _ hy)
      have hw : wipeD ((wipeD σ' [i]).set i (.val (f x))) [i] = wipeD σ' [i] := by rw [wipe_setD (by simp), wipe_wipe]
      have hg : gN i (f x) (wipeD σ' [i]) = some ((wipeD σ' [i]).set i (.val (f x))) := rfl
      rw [List.map_cons, lcL, hg]
      dsimp only
      rw [h1]
      dsimp only [Res.bind]
      cases hp : p x with
      | true =>
        rw [if_pos rfl, h2 hp]
        dsimp only [Res.bind]
        rw [if_pos (by omega), hw, ih _ (by rw [List.length_append, List.length_singleton]; omega), List.filter_cons, if_pos hp]
        simp
      | false =>
        rw [if_neg Bool.false_ne_true, hw, ih _ (by omega), List.filter_cons, if_neg (by rw [hp]; exact Bool.false_ne_true)]
  unfold dLc
  rw [hi]
  dsimp only [Res.bind]
  rw [if_pos hno, key l [] (by simpa using hl) st]
  dsimp only [noX, Res.bind]
  rw [rest_wipe, List.nil_append]
section
variable {fe f : DE} {σ : Sl} {S : Sto} {a : Nat} {l : List (Kk × D)}
theorem lock_re (hs : S[a]? = some (.con true (.dK l))) (h1 : fe σ S = .ok (.obj a) σ S) : dLock fe f σ S = f σ S := by
  have e1 : pick fe σ S = none := by unfold pick; rw [h1]; simp only [hs]
  have e2 : relk fe σ S = true := by unfold relk; rw [h1]; simp only [hs]
  unfold dLock
  rw [e1]
  dsimp only
  rw [if_pos e2]
theorem keys_lk (hs : S[a]? = some (.con true (.dK l))) (h1 : fe σ S = .ok (.obj a) σ S) : iKeysD fe σ S = .ok (l.map fun p => kD p.1) σ S := by
  show (fe σ S).bind _ = _
  rw [h1]
  dsimp only [Res.bind]
  unfold lockd
  simp only [hs]
end
theorem keys_enc {α : Type} {enc_ : α → D} {l : List (Str × α)} : ((enc enc_ l).map fun p => kD p.1) = (keys l).map D.str := by
  unfold enc keys
  rw [List.map_map, List.map_map]
  rfl
theorem lock_keys2 {α : Type} {enc_ : α → D} {fe : DE} {i : Nat} {c : DT} {σ : Sl} {S : Sto} {a : Nat} {l : List (Str × α)} (p : Str → Bool) (hs : S[a]? = some (.con true (.dK (enc enc_ l)))) (h1 : fe σ S = .ok (.obj a) σ S)
    (hno : noOwn σ [i] = true) (hi : i < σ.length) (hl : l.length ≤ most)
    (st : ∀ k ∈ keys l, c ((wipeD σ [i]).set i (.val (.str k))) S = .ok (p k) ((wipeD σ [i]).set i (.val (.str k))) S) :
    dLock fe (dLc (iKeysD fe) (gN i) c (dVar i) [i]) σ S = .ok (.lst (((keys l).filter p).map D.str)) σ S := by
  rw [lock_re hs h1]
  refine lc_mapK D.str p D.str (by rw [keys_lk hs h1, keys_enc]) hno (by rw [show (keys l).length = l.length from List.length_map ..]; exact hl) fun k hk => ⟨st k hk, fun _ => ?_⟩
  rw [dV_def, dVar_val (w := .str k) (List.getElem?_set_self (by rw [wipeD_len]; exact hi))]
  rfl
end MR
set_option Elab.async false
set_option linter.all false
set_option maxRecDepth 100000
set_option exponentiation.threshold 30000
namespace MR
open PySem
structure Bk where
  L : Ld
  known : List Str
  heirs : List (Str × Str)
  dead : List Str
  lieges : List (Str × Str)
def bkD (n : Nat) : List (Kk × D) := [(.inr "lords", .obj n), (.inr "holders", .obj (n + 1)), (.inr "own", .obj (n + 2)), (.inr "due", .obj (n + 3)), (.inr "known", .obj (n + 4)), (.inr "heirs", .obj (n + 5)), (.inr "dead", .obj (n + 6)), (.inr "lieges", .obj (n + 7))]
theorem bk0 (n : Nat) : valD (bkD n) (.inr "lords") = some (.obj n) := rfl
theorem bk1 (n : Nat) : valD (bkD n) (.inr "holders") = some (.obj (n + 1)) := rfl
theorem bk2 (n : Nat) : valD (bkD n) (.inr "own") = some (.obj (n + 2)) := rfl
theorem bk3 (n : Nat) : valD (bkD n) (.inr "due") = some (.obj (n + 3)) := rfl
theorem bk4 (n : Nat) : valD (bkD n) (.inr "known") = some (.obj (n + 4)) := rfl
theorem bk5 (n : Nat) : valD (bkD n) (.inr "heirs") = some (.obj (n + 5)) := rfl
theorem bk6 (n : Nat) : valD (bkD n) (.inr "dead") = some (.obj (n + 6)) := rfl
theorem bk7 (n : Nat) : valD (bkD n) (.inr "lieges") = some (.obj (n + 7)) := rfl
structure BookAt (S : Sto) (n : Nat) (la lb : Bool) (B : Bk) : Prop where
  c0 : S[n]? = some (.con la (.dK (enc encO B.L.lords)))
  c1 : S[n + 1]? = some (.con lb (.dK (enc D.str B.L.hold)))
  c2 : S[n + 2]? = some (.con false (.dK (enc D.int B.L.own)))
  c3 : S[n + 3]? = some (.con false (.dK (enc encF B.L.due)))
  c4 : S[n + 4]? = some (.con false (.lst (B.known.map D.str)))
  c5 : S[n + 5]? = some (.con false (.dK (enc D.str B.heirs)))
  c6 : S[n + 6]? = some (.con false (.lst (B.dead.map D.str)))
  c7 : S[n + 7]? = some (.con false (.dK (enc D.str B.lieges)))
  c8 : S[n + 8]? = some (.con false (.dK (bkD n)))
section
variable {S : Sto} {n : Nat} {la lb : Bool} {B : Bk} {e m : Str}
theorem BookAt.d0 (A : BookAt S n la lb B) (σ : Sl) : deref σ S (.obj n) = some (.dK (enc encO B.L.lords)) := by rw [derefU, A.c0]
theorem BookAt.d1 (A : BookAt S n la lb B) (σ : Sl) : deref σ S (.obj (n + 1)) = some (.dK (enc D.str B.L.hold)) := by rw [derefU, A.c1]
theorem BookAt.d2 (A : BookAt S n la lb B) (σ : Sl) : deref σ S (.obj (n + 2)) = some (.dK (enc D.int B.L.own)) := by rw [derefU, A.c2]
theorem BookAt.d4 (A : BookAt S n la lb B) (σ : Sl) : deref σ S (.obj (n + 4)) = some (.lst (B.known.map D.str)) := by rw [derefU, A.c4]
theorem BookAt.d6 (A : BookAt S n la lb B) (σ : Sl) : deref σ S (.obj (n + 6)) = some (.lst (B.dead.map D.str)) := by rw [derefU, A.c6]
theorem BookAt.d8 (A : BookAt S n la lb B) (σ : Sl) : deref σ S (.obj (n + 8)) = some (.dK (bkD n)) := by rw [derefU, A.c8]
theorem BookAt.lockL (A : BookAt S n la lb B) (lk : Bool) : BookAt (S.set n (.con lk (.dK (enc encO B.L.lords)))) n lk lb B := by
  refine ⟨?_, ?_, ?_, ?_, ?_, ?_, ?_, ?_, ?_⟩ <;> simp [setG, A.c0, A.c1, A.c2, A.c3, A.c4, A.c5, A.c6, A.c7, A.c8]
theorem BookAt.lockH (A : BookAt S n la lb B) (lk : Bool) : BookAt (S.set (n + 1) (.con lk (.dK (enc D.str B.L.hold)))) n la lk B := by
  refine ⟨?_, ?_, ?_, ?_, ?_, ?_, ?_, ?_, ?_⟩ <;> simp [setG, A.c0, A.c1, A.c2, A.c3, A.c4, A.c5, A.c6, A.c7, A.c8]
theorem lunder_eq (A : BookAt S n la lb B) (hl : B.L.ks.length < 64) : m__law_under [.obj (n + 8), .str e] S = .ok (.lst ((B.L.under e).map D.str)) S := by
  have hll : B.L.lords.length < 64 := by have : B.L.ks.length = B.L.lords.length := List.length_map ..; omega
  have hlen : (B.L.kids e).length < 64 := by have := List.length_filter_le (fun k => decide (aval B.L.lords k = some (some e))) B.L.ks; unfold Ld.kids; omega
  have h2 : (dLock (MR.d2 opGet (dVar 0) (dC (.str "lords"))) (dLc (iKeysD (MR.d2 opGet (dVar 0) (dC (.str "lords")))) (gN 2) lt__law_under_1 le__law_under_2 [2])) [.val (.obj (n + 8)), .val (.str e), .emp] S = .ok (.lst ((B.L.kids e).map D.str)) [.val (.obj (n + 8)), .val (.str e), .emp] S := by
    cases la with
    | false =>
      have C := A.lockL true
      exact lock_keys (fe := MR.d2 opGet (dVar 0) (dC (.str "lords"))) (i := 2) (c := lt__law_under_1) (σ := [.val (.obj (n + 8)), .val (.str e), .emp]) (fun k => decide (aval B.L.lords k = some (some e))) A.c0 (by simp [A.d8, bk0]) (by simp [C.d8, bk0]) rfl (by simp) (by unfold most; omega) (by
        intro k hk
        obtain ⟨o, ho⟩ := Option.isSome_iff_exists.mp (aval_some_iff.mpr hk)
        simp [wipeD, lt__law_under_1, C.d8, C.d0, bk0, ho, deref_encO, eq_encO])
    | true =>
      exact lock_keys2 (fe := MR.d2 opGet (dVar 0) (dC (.str "lords"))) (i := 2) (c := lt__law_under_1) (σ := [.val (.obj (n + 8)), .val (.str e), .emp]) (fun k => decide (aval B.L.lords k = some (some e))) A.c0 (by simp [A.d8, bk0]) rfl (by simp) (by unfold most; omega) (by
        intro k hk
        obtain ⟨o, ho⟩ := Option.isSome_iff_exists.mp (aval_some_iff.mpr hk)
        simp [wipeD, lt__law_under_1, A.d8, A.d0, bk0, ho, deref_encO, eq_encO])
  refine dDef_ret (σ' := [.val (.obj (n + 8)), .val (.str e), .emp]) ?_
  simp [b__law_under, h2, sortS_eq hlen, Ld.under]
theorem lheld_eq (A : BookAt S n la false B) (hl : B.L.hold.length < 64) : m__law_held [.obj (n + 8), .str m] S = .ok (.lst ((B.L.held m).map D.str)) S := by
  have C := A.lockH true
  have key := lock_keys (fe := MR.d2 opGet (dVar 0) (dC (.str "holders"))) (i := 2) (c := lt__law_held_1) (σ := [.val (.obj (n + 8)), .val (.str m), .emp]) (fun k => decide (aval B.L.hold k = some m)) A.c1 (by simp [A.d8, bk1]) (by simp [C.d8, bk1]) rfl (by simp) (by unfold most; omega) (by
    intro k hk
    obtain ⟨o, ho⟩ := Option.isSome_iff_exists.mp (aval_some_iff.mpr hk)
    simp [wipeD, lt__law_held_1, C.d8, C.d1, bk1, ho])
  have hlen : ((keys B.L.hold).filter fun k => decide (aval B.L.hold k = some m)).length < 64 := by
    have := List.length_filter_le (fun k => decide (aval B.L.hold k = some m)) (keys B.L.hold)
    have e : (keys B.L.hold).length = B.L.hold.length := List.length_map ..
    omega
  refine dDef_ret (σ' := [.val (.obj (n + 8)), .val (.str m), .emp]) ?_
  have h2 : (dLock (MR.d2 opGet (dVar 0) (dC (.str "holders"))) (dLc (iKeysD (MR.d2 opGet (dVar 0) (dC (.str "holders")))) (gN 2) lt__law_held_1 le__law_held_2 [2])) [.val (.obj (n + 8)), .val (.str m), .emp] S = .ok (.lst (((keys B.L.hold).filter fun k => decide (aval B.L.hold k = some m)).map D.str)) [.val (.obj (n + 8)), .val (.str m), .emp] S := key
  simp [b__law_held, h2, sortS_eq hlen, Ld.held]
theorem cut1 {x : Str} {l : List Str} : cutL ((x :: l).map D.str) (some 1) none = l.map D.str := by
  rw [cutL_map]
  have := cutL_from (x :: l) 1
  rw [show ((1 : Nat) : Int) = 1 from rfl] at this
  rw [this]
  rfl
theorem lbreadth_loop (A : BookAt S n la lb B) (W : Wf B.L) (hl : B.L.ks.length < 64) : ∀ (k : Nat) (ah : List Str) (f : Int), (∀ x ∈ ah, x ∈ B.L.ks) → (ah.map B.L.size).sum = k → k < 64 →
    sWhile wc__law_breadth_1 wb__law_breadth_2 (k + 1) [.val (.obj (n + 8)), .val (.str e), .val (.int f), .val (.lst (ah.map D.str))] S = .ok .next [.val (.obj (n + 8)), .val (.str e), .val (.int (f + (ah.map B.L.breadth).sum)), .val (.lst [])] S := by
  intro k
  induction k using Nat.strongRecOn with
  | _ k ih =>
    intro ah f hk hn h64
    have hso : ∀ x ∈ ah, PyData.strOk x = true := fun x hx => W.sk x (hk x hx)
    cases ah with
    | nil =>
      rw [sWhile_false (σ1 := [.val (.obj (n + 8)), .val (.str e), .val (.int f), .val (.lst [])]) (S1 := S) (by have := ne_nil (l := []) (by simp); simp at this; simp [wc__law_breadth_1, this])]
      simp
    | cons x ah =>
      have hx : x ∈ B.L.ks := hk x (by simp)
      obtain ⟨o, ho⟩ := Option.isSome_iff_exists.mp (aval_some_iff.mpr (show x ∈ keys B.L.own by rw [W.ko]; exact hx))
      have hac : B.L.ac x = o := by unfold Ld.ac; rw [ho]; rfl
      have e1 : wc__law_breadth_1 [.val (.obj (n + 8)), .val (.str e), .val (.int f), .val (.lst ((x :: ah).map D.str))] S = .ok true [.val (.obj (n + 8)), .val (.str e), .val (.int f), .val (.lst ((x :: ah).map D.str))] S := by
        have := ne_nil hso
        have h2 : decide (x :: ah ≠ []) = true := by simp
        rw [h2] at this
        simp [wc__law_breadth_1, -List.map_cons, this]
      rw [List.map_cons, List.sum_cons] at hn
      have hsz := size_under W hx
      have hu := lunder_eq (e := x) A hl
      have hlen : ∀ l : List Str, (∀ y ∈ l, y ∈ B.L.ks) → l.length ≤ (l.map B.L.size).sum := by
        intro l hl
        induction l with
        | nil => simp
        | cons y l ih2 =>
          have h1 := size_pos W (hl y (by simp))
          have h2 := ih2 fun z hz => hl z (by simp [hz])
          simp only [List.length_cons, List.map_cons, List.sum_cons]
          omega
      have l1 := hlen ah fun y hy => hk y (by simp [hy])
      have l2 := hlen (B.L.under x) fun y hy => under_ks hy
      have e2 : wb__law_breadth_2 [.val (.obj (n + 8)), .val (.str e), .val (.int f), .val (.lst ((x :: ah).map D.str))] S = .ok .next [.val (.obj (n + 8)), .val (.str e), .val (.int (f + o)), .val (.lst ((ah ++ B.L.under x).map D.str))] S := by
        have hm : ah.length + (B.L.under x).length ≤ most := by unfold most; omega
        have hc : cutL (.str x :: ah.map D.str) (some 1) none = ah.map D.str := cut1 (x := x) (l := ah)
        simp [wb__law_breadth_2, A.d8, A.d2, bk2, ho, hu, hm, atI0, hc]
      obtain ⟨k', hk'⟩ : ∃ k', k = k' + 1 := ⟨k - 1, by omega⟩
      subst hk'
      rw [sWhile_next e1 e2, ih k' (by omega) (ah ++ B.L.under x) (f + o) (fun y hy => by
        rcases List.mem_append.mp hy with hy | hy
        · exact hk y (by simp [hy])
        · exact under_ks hy) (by rw [List.map_append, List.sum_append]; omega) (by omega)]
      have hb := breadth_under W hx
      congr 6
      rw [List.map_append, List.sum_append, List.map_cons, List.sum_cons, hb, hac]
      omega
theorem lbreadth_eq (A : BookAt S n la lb B) (W : Wf B.L) (hl : B.L.ks.length < 64) (he : e ∈ B.L.ks) : m__law_breadth [.obj (n + 8), .str e] S = .ok (.int (B.L.breadth e)) S := by
  have hs := size_le B.L e
  have h2 := size_under W he
  obtain ⟨o, ho⟩ := Option.isSome_iff_exists.mp (aval_some_iff.mpr (show e ∈ keys B.L.own by rw [W.ko]; exact he))
  have hac : B.L.ac e = o := by unfold Ld.ac; rw [ho]; rfl
  have e1 := lbreadth_loop (e := e) A W hl (((B.L.under e).map B.L.size).sum) (B.L.under e) o (fun y hy => under_ks hy) rfl (by omega)
  have e2 := sWhile_more (m := fuel) e1 (by have := fuel_big; omega)
  rw [show o + ((B.L.under e).map B.L.breadth).sum = B.L.breadth e by rw [breadth_under W he, hac]] at e2
  have hu := lunder_eq (e := e) A hl
  refine dDef_ret (σ' := [.val (.obj (n + 8)), .val (.str e), .val (.int (B.L.breadth e)), .val (.lst [])]) ?_
  simp [b__law_breadth, A.d8, A.d2, bk2, ho, hu, e2]
end
end MR
set_option Elab.async false
set_option linter.all false
set_option maxRecDepth 100000
set_option exponentiation.threshold 30000
namespace MR
open PySem
@[simp] theorem ofString_iff {a b : String} : (Str.ofString a = Str.ofString b) ↔ a = b := ⟨ofString_inj, congrArg _⟩
inductive Rw where
  | heir (d : Int) (m h : Str)
  | grant (d : Int) (e n m : Str) (a s : Int)
  | part (d : Int) (e n m : Str) (a : Int)
  | convey (d : Int) (e m : Str)
  | liege (d : Int) (m l : Str)
  | surr (d : Int) (e : Str)
  | death (d : Int) (m : Str)
def Rw.D : Rw → MR.D
  | .heir d m h => .tup [.str "heir", .int d, .str m, .str h]
  | .grant d e n m a s => .tup [.str "grant", .int d, .str e, .str n, .str m, .int a, .int s]
  | .part d e n m a => .tup [.str "part", .int d, .str e, .str n, .str m, .int a]
  | .convey d e m => .tup [.str "convey", .int d, .str e, .str m]
  | .liege d m l => .tup [.str "liege", .int d, .str m, .str l]
  | .surr d e => .tup [.str "surrender", .int d, .str e]
  | .death d m => .tup [.str "death", .int d, .str m]
def Ld.bound (L : Ld) (m : Str) : List Str := ((L.held m).filter fun k => decide (k ≠ ("" : Str))).map fun k => ((L.lord k).bind fun p => aval L.hold p).getD ""
def Bk.why (B : Bk) : Rw → Str
  | .heir _ m _ => if m ∈ B.dead then "dead" else "stands"
  | .grant _ e n m a _ => if e ∉ B.L.ks then "nowhere" else if n ∈ B.known then "taken" else if m ∈ B.dead then "dead" else if B.L.ac e < a then "acres" else "stands"
  | .part _ e n m a => if e ∉ B.L.ks then "nowhere" else if n ∈ B.known then "taken" else if m ∈ B.dead then "dead" else if B.L.ac e < a then "acres" else "stands"
  | .convey _ e m => if e ∉ B.L.ks then "nowhere" else if m ∈ B.dead then "dead" else "stands"
  | .liege _ m l => if m ∈ B.dead then "dead" else if l ∉ B.L.bound m then "nobond" else "stands"
  | .surr _ e => if e ∉ B.L.ks then "nowhere" else "stands"
  | .death _ m => if m ∈ B.dead then "dead" else "stands"
theorem opInG_tup {x : Str} {l : List Str} : opInG (.str x) (.tup (l.map D.str)) = some (.bl (decide (x ∈ l))) := by
  have h : opInG (.str x) (.tup (l.map D.str)) = opIn (.str x) (.lst (l.map D.str)) := by unfold opInG opIn; rfl
  rw [h, opIn_strs]
theorem inT2 {x a b : Str} : opInG (.str x) (.tup [.str a, .str b]) = some (.bl (decide (x ∈ [a, b]))) := opInG_tup (l := [a, b])
theorem inT3 {x a b c : Str} : opInG (.str x) (.tup [.str a, .str b, .str c]) = some (.bl (decide (x ∈ [a, b, c]))) := opInG_tup (l := [a, b, c])
theorem inT4 {x a b c d : Str} : opInG (.str x) (.tup [.str a, .str b, .str c, .str d]) = some (.bl (decide (x ∈ [a, b, c, d]))) := opInG_tup (l := [a, b, c, d])
section
variable {S : Sto} {n : Nat} {la lb : Bool} {B : Bk} {e m : Str}
theorem mem_held {L : Ld} {m k : Str} : k ∈ L.held m ↔ aval L.hold k = some m := by
  unfold Ld.held
  rw [(srtS_perm _).mem_iff, List.mem_filter, decide_eq_true_iff]
  exact ⟨fun h => h.2, fun h => ⟨aval_some_iff.mp (by rw [h]; rfl), h⟩⟩
theorem lbound_eq (A : BookAt S n la false B) (W : Wf B.L) (hl : B.L.ks.length < 64) : m__law_bound_to [.obj (n + 8), .str m] S = .ok (.lst ((B.L.bound m).map D.str)) S := by
  have ln := W.lens hl
  have hh := lheld_eq (m := m) A ln.h
  have hlen : (B.L.held m).length < 64 := by
    unfold Ld.held
    rw [(srtS_perm _).length_eq]
    have := List.length_filter_le (fun k => decide (aval B.L.hold k = some m)) (keys B.L.hold)
    rw [keys_len] at this
    have := ln.h
    omega
  have key := dLc_gen (it := iLst (dCall m__law_held (aCons (dVar 0) (aCons (dVar 1) aNil)))) (g := gN 2) (c := lt__law_bound_to_1) (e := le__law_bound_to_2) (vs := [2]) (σ := [.val (.obj (n + 8)), .val (.str m), .emp]) (σ' := [.val (.obj (n + 8)), .val (.str m), .emp]) (S := S) (items := (B.L.held m).map D.str)
    (fun d => [.val (.obj (n + 8)), .val (.str m), .val d]) (fun d => match d with | .str k => decide (k ≠ ("" : Str)) | _ => false) (fun d => match d with | .str k => .str (((B.L.lord k).bind fun p => aval B.L.hold p).getD "") | _ => .non)
    (by simp [hh]) rfl (by rw [List.length_map]; unfold most; omega) (by
      intro d hd
      obtain ⟨k, hk, rfl⟩ := List.mem_map.mp hd
      refine ⟨rfl, rfl, by simp [lt__law_bound_to_1], fun h0 => ?_⟩
      have h0 : k ≠ "" := by simpa using h0
      have hkm : k ∈ B.L.ks := by rw [← W.kh]; exact aval_some_iff.mp (by rw [mem_held.mp hk]; rfl)
      obtain ⟨p, hp, hpm, _⟩ := W.lord_ne hkm h0
      obtain ⟨q, hq⟩ := Option.isSome_iff_exists.mp (aval_some_iff.mpr (show p ∈ keys B.L.hold by rw [W.kh]; exact hpm))
      simp [le__law_bound_to_2, A.d8, A.d0, A.d1, bk0, bk1, lord_some hp, encO, hp, hq])
  have e0 : (((B.L.held m).map D.str).filter fun d => match d with | .str k => decide (k ≠ ("" : Str)) | _ => false).map (fun d => match d with | .str k => D.str (((B.L.lord k).bind fun p => aval B.L.hold p).getD "") | _ => .non) = (B.L.bound m).map D.str := by
    unfold Ld.bound
    rw [List.filter_map, List.map_map, List.map_map]
    rfl
  rw [e0] at key
  refine dDef_ret (σ' := [.val (.obj (n + 8)), .val (.str m), .emp]) ?_
  show (dLc _ _ _ _ _ [.val (.obj (n + 8)), .val (.str m), .emp] S).bind _ = _
  rw [key]
  rfl
theorem lwhy_eq (A : BookAt S n la false B) (W : Wf B.L) (hl : B.L.ks.length < 64) (row : Rw) : m__law_why [.obj (n + 8), row.D] S = .ok (.str (B.why row)) S := by
  have hks : ∀ k, k ∈ B.L.ks → ∃ o, aval B.L.own k = some o ∧ B.L.ac k = o := fun k hk => by
    obtain ⟨o, ho⟩ := Option.isSome_iff_exists.mp (aval_some_iff.mpr (show k ∈ keys B.L.own by rw [W.ko]; exact hk))
    exact ⟨o, ho, by unfold Ld.ac; rw [ho]; rfl⟩
  have k2 : (2 ≤ most) := by decide
  have k4 : (4 ≤ most) := by decide
  refine dDef_ex ?_
  cases row with
  | heir d m h =>
    by_cases c1 : m ∈ B.dead <;> simp [b__law_why, Rw.D, Bk.why, A.d8, A.d6, bk6, inT2, inT4, opIn_strs, k2, k4, atI0, atI2, c1]
  | death d m =>
    by_cases c1 : m ∈ B.dead <;> simp [b__law_why, Rw.D, Bk.why, A.d8, A.d6, bk6, inT2, inT4, opIn_strs, k2, k4, atI0, atI2, c1]
  | surr d e =>
    by_cases c1 : e ∈ B.L.ks <;> simp [b__law_why, Rw.D, Bk.why, A.d8, A.d0, bk0, inT2, inT4, aval_none_iff, k2, k4, atI0, atI2, c1]
  | convey d e m =>
    by_cases c1 : e ∈ B.L.ks
    · by_cases c2 : m ∈ B.dead <;> simp [b__law_why, Rw.D, Bk.why, A.d8, A.d0, A.d6, bk0, bk6, inT2, inT4, aval_none_iff, opIn_strs, k2, k4, atI0, atI2, atI3', c1, c2]
    · simp [b__law_why, Rw.D, Bk.why, A.d8, A.d0, A.d6, bk0, bk6, inT2, inT4, aval_none_iff, opIn_strs, k2, k4, atI0, atI2, atI3', c1]
  | liege d m l =>
    have hb := lbound_eq (m := m) A W hl
    by_cases c1 : m ∈ B.dead
    · simp [b__law_why, Rw.D, Bk.why, A.d8, A.d6, bk6, inT2, inT4, opIn_strs, k2, k4, atI0, atI2, c1]
    · by_cases c2 : l ∈ B.L.bound m <;> simp [b__law_why, Rw.D, Bk.why, A.d8, A.d6, bk6, inT2, inT4, opIn_strs, opNotIn_strs, k2, k4, atI0, atI2, atI3', c1, c2, hb]
  | grant d e nw m a s =>
    by_cases c1 : e ∈ B.L.ks
    · obtain ⟨o, ho, hac⟩ := hks e c1
      by_cases c2 : nw ∈ B.known
      · simp [b__law_why, Rw.D, Bk.why, A.d8, A.d0, A.d2, A.d4, A.d6, bk0, bk2, bk4, bk6, inT2, inT4, aval_none_iff, opIn_strs, k2, k4, atI0, atI2, atI3', atI4, atI5, c1, c2]
      · by_cases c3 : m ∈ B.dead
        · simp [b__law_why, Rw.D, Bk.why, A.d8, A.d0, A.d2, A.d4, A.d6, bk0, bk2, bk4, bk6, inT2, inT4, aval_none_iff, opIn_strs, k2, k4, atI0, atI2, atI3', atI4, atI5, c1, c2, c3]
        · by_cases c4 : o < a <;> simp [b__law_why, Rw.D, Bk.why, A.d8, A.d0, A.d2, A.d4, A.d6, bk0, bk2, bk4, bk6, inT2, inT4, aval_none_iff, opIn_strs, k2, k4, atI0, atI2, atI3', atI4, atI5, c1, c2, c3, ho, hac, c4]
    · simp [b__law_why, Rw.D, Bk.why, A.d8, A.d0, A.d2, A.d4, A.d6, bk0, bk2, bk4, bk6, inT2, inT4, aval_none_iff, opIn_strs, k2, k4, atI0, atI2, atI3', atI4, atI5, c1]
  | part d e nw m a =>
    by_cases c1 : e ∈ B.L.ks
    · obtain ⟨o, ho, hac⟩ := hks e c1
      by_cases c2 : nw ∈ B.known
      · simp [b__law_why, Rw.D, Bk.why, A.d8, A.d0, A.d2, A.d4, A.d6, bk0, bk2, bk4, bk6, inT2, inT4, aval_none_iff, opIn_strs, k2, k4, atI0, atI2, atI3', atI4, atI5, c1, c2]
      · by_cases c3 : m ∈ B.dead
        · simp [b__law_why, Rw.D, Bk.why, A.d8, A.d0, A.d2, A.d4, A.d6, bk0, bk2, bk4, bk6, inT2, inT4, aval_none_iff, opIn_strs, k2, k4, atI0, atI2, atI3', atI4, atI5, c1, c2, c3]
        · by_cases c4 : o < a <;> simp [b__law_why, Rw.D, Bk.why, A.d8, A.d0, A.d2, A.d4, A.d6, bk0, bk2, bk4, bk6, inT2, inT4, aval_none_iff, opIn_strs, k2, k4, atI0, atI2, atI3', atI4, atI5, c1, c2, c3, ho, hac, c4]
    · simp [b__law_why, Rw.D, Bk.why, A.d8, A.d0, A.d2, A.d4, A.d6, bk0, bk2, bk4, bk6, inT2, inT4, aval_none_iff, opIn_strs, k2, k4, atI0, atI2, atI3', atI4, atI5, c1]
end
end MR
set_option Elab.async false
set_option linter.all false
set_option maxRecDepth 100000
set_option exponentiation.threshold 30000
namespace MR
open PySem
abbrev fp9 (n : Nat) : List Nat := [n, n + 1, n + 2, n + 3, n + 4, n + 5, n + 6, n + 7, n + 8]
abbrev BDone (S : Sto) (n : Nat) (B' : Bk) : D → Sto → Prop := fun w S' => w = .non ∧ BookAt S' n false false B' ∧ Off (fp9 n) S S'
section
variable {S : Sto} {n : Nat} {B : Bk} {e nw m : Str} {a s : Int}
theorem lnew_ok (A : BookAt S n false false B) (W : Wf B.L) (ln : Lens B.L) (hkn : B.known.length < 1000) (he : e ∈ B.L.ks) (hn : nw ∉ B.L.ks) {t : Str} {dd : Int} {rest : List D} {p : Str} {q : Fr} :
    Ret (m__law_new [.obj (n + 8), .tup (.str t :: .int dd :: .str e :: .str nw :: .str m :: .int a :: rest), .str p, encF q] S) (BDone S n { B with L := ⟨aput B.L.lords nw (some p), aput B.L.hold nw m, aput (aput B.L.own nw a) e (B.L.ac e - a), aput B.L.due nw q⟩, known := B.known ++ [nw] }) := by
  have h1 : B.L.lords.length < most := Nat.lt_trans ln.l (by decide)
  have h2 : B.L.hold.length < most := Nat.lt_trans ln.h (by decide)
  have h3 : B.L.own.length < most := Nat.lt_trans ln.o (by decide)
  have h4 : B.L.due.length < most := Nat.lt_trans ln.d (by decide)
  have h6 : B.known.length < most := Nat.lt_trans hkn (by decide)
  have hne : ¬ nw = e := fun z => hn (z ▸ he)
  obtain ⟨o, ho⟩ := Option.isSome_iff_exists.mp (aval_some_iff.mpr (show e ∈ keys B.L.own by rw [W.ko]; exact he))
  have hac : B.L.ac e = o := by unfold Ld.ac; rw [ho]; rfl
  have h5 : (aput B.L.own nw a).length < most := by
    rw [aput_out (by rw [W.ko]; exact hn), List.length_append]
    have := ln.o
    unfold most
    simp
    omega
  unfold m__law_new
  rw [ret_dDef]
  simp [b__law_new, derefU, chgU, setG, A.c0, A.c1, A.c2, A.c3, A.c4, A.c5, A.c6, A.c7, A.c8, bk0, bk1, bk2, bk3, bk4, h1, h2, h3, h4, h5, h6, putD_encS, putD_encO, putD_encI, putD_encF, aval_put, hne, ho, atI0, atI2, atI3', atI4, atI5, encF]
  refine ⟨rfl, ⟨?_, ?_, ?_, ?_, ?_, ?_, ?_, ?_, ?_⟩, ?off⟩
  case off => repeat (first | exact Off.refl | refine Off.set ?_ (by simp))
  all_goals simp [setG, A.c0, A.c1, A.c2, A.c3, A.c4, A.c5, A.c6, A.c7, A.c8, hac]
theorem lfall_loop {p : Str} : ∀ (cs : List Str) (S : Sto) (B : Bk) (s3 : Slot), BookAt S n false false B → B.L.lords.length < 64 → (∀ x ∈ cs, x ∈ B.L.ks) →
    ∃ S' s3', forL (gN 3) fb__law_fall_1 (cs.map D.str) [.val (.obj (n + 8)), .val (.str e), .val (.str p), s3] S = .ok .next [.val (.obj (n + 8)), .val (.str e), .val (.str p), s3'] S' ∧ BookAt S' n false false { B with L := { B.L with lords := cs.foldl (fun l x => aput l x (some p)) B.L.lords } } ∧ Off (fp9 n) S S' := by
  intro cs
  induction cs with
  | nil => intro S B s3 A _ _; exact ⟨S, s3, rfl, A, Off.refl⟩
  | cons x cs ih =>
    intro S B s3 A hl hk
    have hm : B.L.lords.length < most := Nat.lt_trans hl (by decide)
    have hx := hk x List.mem_cons_self
    have A2 : BookAt (S.set n (.con false (.dK (enc encO (aput B.L.lords x (some p)))))) n false false { B with L := { B.L with lords := aput B.L.lords x (some p) } } := by
      refine ⟨?_, ?_, ?_, ?_, ?_, ?_, ?_, ?_, ?_⟩ <;> simp [setG, A.c0, A.c1, A.c2, A.c3, A.c4, A.c5, A.c6, A.c7, A.c8]
    have hll : (aput B.L.lords x (some p)).length < 64 := by
      rw [← keys_len, keys_put, if_pos hx, keys_len]
      exact hl
    obtain ⟨S', s3', e1, e2, e3⟩ := ih _ _ (.val (.str x)) A2 hll (fun y hy => by
      show y ∈ keys (aput B.L.lords x (some p))
      rw [keys_put, if_pos hx]
      exact hk y (List.mem_cons_of_mem _ hy))
    refine ⟨S', s3', ?_, e2, (Off.refl.set (by simp)).trans e3⟩
    rw [List.map_cons, forL_cons (σ1 := [.val (.obj (n + 8)), .val (.str e), .val (.str p), .val (.str x)]) (σ2 := [.val (.obj (n + 8)), .val (.str e), .val (.str p), .val (.str x)]) (S2 := S.set n (.con false (.dK (enc encO (aput B.L.lords x (some p)))))) rfl (by simp [fb__law_fall_1, derefU, chgU, A.c0, A.c8, bk0, hm, putD_encO])]
    exact e1
theorem lfall_ok (A : BookAt S n false false B) (W : Wf B.L) (hl : B.L.ks.length < 64) {p : Str} (hp : B.L.lord e = some p) : Ret (m__law_fall [.obj (n + 8), .str e] S) (BDone S n { B with L := B.L.fall e p }) := by
  have ln := W.lens hl
  obtain ⟨hpm, hpl⟩ := W.up e p (lord_some hp)
  have he : e ∈ B.L.ks := aval_some_iff.mp (by rw [lord_some hp]; rfl)
  have pe : ¬ e = p := fun z => by rw [z] at hpl; omega
  obtain ⟨oe, hoe⟩ := Option.isSome_iff_exists.mp (aval_some_iff.mpr (show e ∈ keys B.L.own by rw [W.ko]; exact he))
  obtain ⟨op, hop⟩ := Option.isSome_iff_exists.mp (aval_some_iff.mpr (show p ∈ keys B.L.own by rw [W.ko]; exact hpm))
  obtain ⟨he1, hhe⟩ := Option.isSome_iff_exists.mp (aval_some_iff.mpr (show e ∈ keys B.L.hold by rw [W.kh]; exact he))
  obtain ⟨du, hdu⟩ := Option.isSome_iff_exists.mp (aval_some_iff.mpr (show e ∈ keys B.L.due by rw [W.kd]; exact he))
  have hac : B.L.ac e = oe := by unfold Ld.ac; rw [hoe]; rfl
  have hap : B.L.ac p = op := by unfold Ld.ac; rw [hop]; rfl
  have h3 : (adrop B.L.own e).length < most := Nat.lt_of_le_of_lt (List.length_filter_le ..) (Nat.lt_trans ln.o (by decide))
  have hlo := lord_some hp
  let B1 : Bk := { B with L := ⟨adrop B.L.lords e, adrop B.L.hold e, aput (adrop B.L.own e) p (B.L.ac p + B.L.ac e), adrop B.L.due e⟩ }
  have kids1 : B1.L.kids e = B.L.kids e := by
    show (keys (adrop B.L.lords e)).filter (fun k => decide (aval (adrop B.L.lords e) k = some (some e))) = (keys B.L.lords).filter fun k => decide (aval B.L.lords k = some (some e))
    rw [keys_drop, List.filter_filter]
    apply List.filter_congr
    intro k hk
    rw [aval_drop]
    by_cases h : e = k
    · subst h
      have : ¬ p = e := fun z => pe z.symm
      simp [hlo, this]
    · have h' : ¬ k = e := fun z => h z.symm
      simp [h, h']
  have under1 : B1.L.under e = B.L.under e := by unfold Ld.under; rw [kids1]
  have len1 : B1.L.ks.length < 64 := by
    show (keys (adrop B.L.lords e)).length < 64
    rw [keys_drop]
    exact Nat.lt_of_le_of_lt (List.length_filter_le ..) hl
  have kidin : ∀ x ∈ B.L.under e, x ∈ B1.L.ks := fun x hx => by
    show x ∈ keys (adrop B.L.lords e)
    rw [keys_drop, List.mem_filter]
    refine ⟨under_ks hx, ?_⟩
    have h1 := mem_under.mp hx
    simp
    rintro rfl
    rw [hp] at h1
    cases h1
    exact pe rfl
  obtain ⟨S1, A1, o1, r1⟩ : ∃ S1, BookAt S1 n false false B1 ∧ Off (fp9 n) S S1 ∧ b__law_fall [.val (.obj (n + 8)), .val (.str e), .emp, .emp] S = (sFor (iLst (dCall m__law_under (aCons (dVar 0) (aCons (dVar 1) aNil)))) (gN 3) fb__law_fall_1) [.val (.obj (n + 8)), .val (.str e), .val (.str p), .emp] S1 := by
    refine ⟨((((S.set n (.con false (.dK (enc encO (adrop B.L.lords e))))).set (n + 2) (.con false (.dK (enc D.int (aput (adrop B.L.own e) p (op + oe)))))).set (n + 1) (.con false (.dK (enc D.str (adrop B.L.hold e))))).set (n + 3) (.con false (.dK (enc encF (adrop B.L.due e))))), ?_, ?_, ?_⟩
    · refine ⟨?_, ?_, ?_, ?_, ?_, ?_, ?_, ?_, ?_⟩ <;> simp [setG, A.c0, A.c1, A.c2, A.c3, A.c4, A.c5, A.c6, A.c7, A.c8, B1, hac, hap]
    · repeat (first | exact Off.refl | refine Off.set ?_ (by simp))
    · simp only [b__law_fall]
      simp [-sFor_def, derefU, chgU, setG, A.c0, A.c1, A.c2, A.c3, A.c4, A.c5, A.c6, A.c7, A.c8, bk0, bk1, bk2, bk3, hlo, encO, hoe, hop, hhe, hdu, h3, dropD_enc, putD_encI, encF]
  have hu := lunder_eq (e := e) A1 len1
  rw [under1] at hu
  obtain ⟨S2, s3', e1, A2, o2⟩ := lfall_loop (e := e) (p := p) (B.L.under e) S1 B1 .emp A1 (by show (adrop B.L.lords e).length < 64; exact Nat.lt_of_le_of_lt (List.length_filter_le ..) ln.l) kidin
  rw [fold_aput _ _ kidin] at A2
  unfold m__law_fall
  rw [ret_dDef]
  show RunF (b__law_fall [.val (.obj (n + 8)), .val (.str e), .emp, .emp] S) _
  rw [r1]
  have st : (sFor (iLst (dCall m__law_under (aCons (dVar 0) (aCons (dVar 1) aNil)))) (gN 3) fb__law_fall_1) [.val (.obj (n + 8)), .val (.str e), .val (.str p), .emp] S1 = .ok .next [.val (.obj (n + 8)), .val (.str e), .val (.str p), s3'] S2 := by simp [hu, e1]
  rw [st]
  refine ⟨rfl, ?_, o1.trans o2⟩
  have e3 : (B.L.fall e p).lords = setAll (adrop B.L.lords e) (B.L.under e) (some p) := setAll_drop
  have e4 : ({ B with L := B.L.fall e p } : Bk) = { B1 with L := { B1.L with lords := setAll B1.L.lords (B.L.under e) (some p) } } := by
    show Bk.mk _ _ _ _ _ = Bk.mk _ _ _ _ _
    congr 1
    show Ld.mk _ _ _ _ = Ld.mk _ _ _ _
    congr 1
  rw [e4]
  exact A2
end
end MR
set_option Elab.async false
set_option linter.all false
set_option maxRecDepth 100000
set_option exponentiation.threshold 30000
namespace MR
open PySem
section
variable {α : Type}
theorem map_aval {l : List (Str × Int)} (hn : (keys l).Nodup) : (keys l).map (fun k => (aval l k).getD 0) = l.map (·.2) := by
  unfold keys
  rw [List.map_map]
  apply List.map_congr_left
  intro p hp
  show (aval l p.1).getD 0 = p.2
  rw [aval_of_mem hn hp]
  rfl
theorem sum_snd_put {l : List (Str × Int)} {k : Str} {v : Int} (hn : (keys l).Nodup) : ((aput l k v).map (·.2)).sum = (l.map (·.2)).sum - (aval l k).getD 0 + v := by
  by_cases h : k ∈ keys l
  · rw [aput_in h]
    induction l with
    | nil => cases h
    | cons p l ih =>
      have hn' := List.nodup_cons.mp (show ((p :: l).map (·.1)).Nodup from hn)
      simp only [List.map_cons, List.sum_cons, aval_cons]
      by_cases e : p.1 = k
      · have nk : k ∉ keys l := by rw [← e]; exact hn'.1
        have e2 : (l.map fun q => if q.1 = k then (q.1, v) else q) = l := by
          conv => rhs; rw [← List.map_id l]
          apply List.map_congr_left
          intro q hq
          rw [if_neg (fun z : q.1 = k => nk (z ▸ List.mem_map.mpr ⟨q, hq, rfl⟩))]
          rfl
        rw [e2]
        simp only [e, if_true, Option.getD_some]
        omega
      · have hk : k ∈ keys l := by
          rcases List.mem_cons.mp (show k ∈ p.1 :: keys l from h) with z | z
          · exact absurd z.symm e
          · exact z
        simp only [e, if_false]
        rw [ih hn'.2 hk]
        omega
  · rw [aput_out h, aval_none_iff.mpr h]
    simp only [List.map_append, List.sum_append, List.map_cons, List.map_nil, List.sum_cons, List.sum_nil, Option.getD_none]
    omega
theorem sum_snd_drop {l : List (Str × Int)} {k : Str} (hn : (keys l).Nodup) : ((adrop l k).map (·.2)).sum = (l.map (·.2)).sum - (aval l k).getD 0 := by
  induction l with
  | nil => rfl
  | cons p l ih =>
    have hn' := List.nodup_cons.mp (show ((p :: l).map (·.1)).Nodup from hn)
    have ih := ih hn'.2
    unfold adrop at ih ⊢
    rw [List.filter_cons]
    simp only [List.map_cons, List.sum_cons, aval_cons]
    by_cases e : p.1 = k
    · have nk : aval l k = none := aval_none_iff.mpr (by rw [← e]; exact hn'.1)
      rw [nk] at ih
      simp only [e, ne_eq, not_true, decide_false, Bool.false_eq_true, if_false, if_true, Option.getD_some]
      rw [ih]
      simp
      omega
    · simp only [ne_eq, e, not_false_eq_true, decide_true, if_true, if_false, List.map_cons, List.sum_cons]
      rw [ih]
      omega
theorem mem_put {l : List (Str × α)} {k : Str} {v : α} {P : α → Prop} (h : ∀ p ∈ l, P p.2) (hv : P v) : ∀ p ∈ aput l k v, P p.2 := by
  intro p hp
  unfold aput at hp
  split at hp
  · obtain ⟨q, hq, rfl⟩ := List.mem_map.mp hp
    split
    · exact hv
    · exact h q hq
  · rcases List.mem_append.mp hp with hp | hp
    · exact h p hp
    · rw [List.mem_singleton.mp hp]; exact hv
theorem mem_drop {l : List (Str × α)} {k : Str} {P : α → Prop} (h : ∀ p ∈ l, P p.2) : ∀ p ∈ adrop l k, P p.2 := fun p hp => h p (List.mem_filter.mp hp).1
end
structure Nu (L : Ld) (k : Nat) (tot : Int) : Prop where
  nn : ∀ p ∈ L.own, 0 ≤ p.2
  sm : (L.own.map (·.2)).sum = tot
  sz : ∀ p ∈ L.due, Sz k p.2
section
variable {L : Ld} {k : Nat} {tot : Int} {e n m : Str} {a s : Int}
theorem Nu.ac0 (N : Nu L k tot) (x : Str) : 0 ≤ L.ac x := by
  unfold Ld.ac
  cases h : aval L.own x with
  | none => exact Int.le_refl _
  | some v => exact N.nn _ (aval_mem h)
theorem Nu.all (W : Wf L) (N : Nu L k tot) : (L.ks.map L.ac).sum = tot := by
  rw [← N.sm, ← map_aval (l := L.own) (by rw [W.ko]; exact W.nd), W.ko]
  rfl
theorem sum_le {l : List Str} {f g : Str → Int} (h : ∀ x ∈ l, f x ≤ g x) : (l.map f).sum ≤ (l.map g).sum := by
  induction l with
  | nil => exact Int.le_refl _
  | cons x l ih =>
    simp only [List.map_cons, List.sum_cons]
    have h1 := h x List.mem_cons_self
    have h2 := ih fun y hy => h y (List.mem_cons_of_mem _ hy)
    omega
theorem inc01 (L : Ld) (e x : Str) : inc L e x = 0 ∨ inc L e x = 1 := by unfold inc; split; exact .inr rfl; exact .inl rfl
theorem Nu.br_le (W : Wf L) (N : Nu L k tot) : L.breadth e ≤ tot := by
  rw [← N.all W]
  refine sum_le fun x hx => ?_
  have h := N.ac0 x
  rcases inc01 L e x with h1 | h1 <;> rw [h1] <;> simp <;> omega
theorem sum_pos {l : List Str} {f : Str → Int} (h : ∀ x ∈ l, 0 ≤ f x) : 0 ≤ (l.map f).sum := by
  have := sum_le (l := l) (f := fun _ => 0) (g := f) h
  rwa [sum_zeroI] at this
theorem Nu.br_nn (N : Nu L k tot) (e : Str) : 0 ≤ L.breadth e := by
  refine sum_pos fun x hx => ?_
  have h := N.ac0 x
  rcases inc01 L e x with h1 | h1 <;> rw [h1] <;> simp <;> omega
theorem Nu.br_ge (W : Wf L) (N : Nu L k tot) (he : e ∈ L.ks) : L.ac e ≤ L.breadth e := by
  rw [breadth_split W he]
  have := sum_pos (l := L.kids e) (f := L.breadth) fun x _ => N.br_nn x
  omega
theorem Nu.sv (W : Wf L) (N : Nu L k tot) (he : e ∈ L.ks) : Sz k (L.sv e) := by
  obtain ⟨v, hv⟩ := Option.isSome_iff_exists.mp (aval_some_iff.mpr (show e ∈ keys L.due by rw [W.kd]; exact he))
  unfold Ld.sv
  rw [hv]
  exact N.sz _ (aval_mem hv)
theorem Nu.mono {k' : Nat} (N : Nu L k tot) (h : k ≤ k') : Nu L k' tot := ⟨N.nn, N.sm, fun p hp => (N.sz p hp).mono h⟩
theorem own_new (W : Wf L) (N : Nu L k tot) (he : e ∈ L.ks) (hn : n ∉ L.ks) (ha : 0 ≤ a) (hae : a ≤ L.ac e) : (∀ p ∈ aput (aput L.own n a) e (L.ac e - a), 0 ≤ p.2) ∧ ((aput (aput L.own n a) e (L.ac e - a)).map (·.2)).sum = tot := by
  have hno : n ∉ keys L.own := by rw [W.ko]; exact hn
  have nd : (keys L.own).Nodup := by rw [W.ko]; exact W.nd
  have nd2 : (keys (aput L.own n a)).Nodup := by
    rw [keys_put, if_neg hno]
    exact List.nodup_append.mpr ⟨nd, List.pairwise_singleton _ _, fun x hx y hy => by rw [List.mem_singleton.mp hy]; exact fun z => hno (z ▸ hx)⟩
  refine ⟨mem_put (P := fun v => 0 ≤ v) (mem_put (P := fun v => 0 ≤ v) N.nn ha) (by omega), ?_⟩
  rw [sum_snd_put nd2, sum_snd_put nd, aval_put, if_neg (fun z : n = e => hn (z ▸ he)), aval_none_iff.mpr hno, N.sm]
  show tot - 0 + a - L.ac e + (L.ac e - a) = tot
  omega
theorem Nu.grant (W : Wf L) (N : Nu L k tot) (he : e ∈ L.ks) (hn : n ∉ L.ks) (ha : 0 ≤ a) (hae : a ≤ L.ac e) (hs : Sz k (s, 1)) : Nu (L.grant e n m a s) k tot := by
  obtain ⟨h1, h2⟩ := own_new W N he hn ha hae
  exact ⟨h1, h2, mem_put N.sz hs⟩
theorem Nu.part (W : Wf L) (N : Nu L k tot) (he : e ∈ L.ks) (hn : n ∉ L.ks) (ha : 1 ≤ a) (hae : a ≤ L.ac e) (ht : tot < 2 ^ 20) : Nu (L.part e n m a) (k + 20) tot := by
  obtain ⟨h1, h2⟩ := own_new W N he hn (by omega) hae
  have hz := N.sv W he
  have b1 := N.br_le W (e := e)
  have b2 := N.br_ge W he
  have hne : (L.sv e).2 * L.breadth e ≠ 0 := Int.ne_of_gt (Int.mul_pos hz.pos (by omega))
  have hbb : ((L.sv e).2 * L.breadth e).natAbs < 2 ^ (k + 20) := mul_bits hz.b (by omega)
  refine ⟨h1, h2, mem_put (mem_put (fun p hp => (N.sz p hp).mono (by omega)) ?_) ?_⟩
  · exact ⟨Nat.lt_of_le_of_lt (frT_le hne) (mul_bits hz.t (by omega)), Nat.lt_of_le_of_lt (frB_le hne) hbb, frB_pos hne⟩
  · exact ⟨Nat.lt_of_le_of_lt (frT_le hne) (mul_bits hz.t (by omega)), Nat.lt_of_le_of_lt (frB_le hne) hbb, frB_pos hne⟩
theorem Nu.convey (N : Nu L k tot) : Nu (L.convey e m) k tot := ⟨N.nn, N.sm, N.sz⟩
theorem Nu.fall (W : Wf L) (N : Nu L k tot) {p : Str} (hp : L.lord e = some p) : Nu (L.fall e p) k tot := by
  obtain ⟨hpm, hpl⟩ := W.up e p (lord_some hp)
  have pe : ¬ e = p := fun z => by rw [z] at hpl; omega
  have nd : (keys L.own).Nodup := by rw [W.ko]; exact W.nd
  have nd2 : (keys (adrop L.own e)).Nodup := by rw [keys_drop]; exact List.Pairwise.filter _ nd
  have h1 := N.ac0 p
  have h2 := N.ac0 e
  refine ⟨mem_put (P := fun v => 0 ≤ v) (mem_drop (P := fun v => 0 ≤ v) N.nn) (by omega), ?_, mem_drop N.sz⟩
  show ((aput (adrop L.own e) p (L.ac p + L.ac e)).map (·.2)).sum = tot
  rw [sum_snd_put nd2, sum_snd_drop nd, aval_drop, if_neg pe, N.sm]
  show tot - L.ac e - L.ac p + (L.ac p + L.ac e) = tot
  omega
end
structure Rw.ok (r : Rw) : Prop where
  h : match r with
    | .grant _ e n m a s => n ≠ "" ∧ PyData.strOk n = true ∧ PyData.strOk m = true ∧ 1 ≤ a ∧ 0 ≤ s ∧ s < 10000
    | .part _ e n m a => e ≠ "" ∧ n ≠ "" ∧ PyData.strOk n = true ∧ PyData.strOk m = true ∧ 1 ≤ a
    | .convey _ e m => e ≠ "" ∧ PyData.strOk m = true
    | .surr _ e => e ≠ ""
    | .heir _ m h => PyData.strOk m = true ∧ PyData.strOk h = true
    | .liege _ m l => PyData.strOk m = true ∧ PyData.strOk l = true
    | .death _ m => PyData.strOk m = true
def Rw.lands : Rw → Bool
  | .grant .. => true
  | .part .. => true
  | .convey .. => true
  | .surr .. => true
  | _ => false
def Ld.act (L : Ld) : Rw → Ld
  | .grant _ e n m a s => L.grant e n m a s
  | .part _ e n m a => L.part e n m a
  | .convey _ e m => L.convey e m
  | .surr _ e => L.fall e ((L.lord e).getD "")
  | _ => L
def Rw.new : Rw → List Str
  | .grant _ _ n _ _ _ => [n]
  | .part _ _ n _ _ => [n]
  | _ => []
def Bk.actL (B : Bk) (r : Rw) : Bk := { B with L := B.L.act r, known := B.known ++ r.new }
structure Sound (B : Bk) (t : Nat) (tot : Int) : Prop where
  W : Wf B.L
  N : Nu B.L (20 + 20 * t) tot
  len : B.L.ks.length ≤ t + 1
  kn : ∀ k ∈ B.L.ks, k ≠ "" → k ∈ B.known
  kl : B.known.length ≤ t
  tt : tot < 10000
theorem stands_cases {c : Prop} [Decidable c] {x y : Str} (h : (if c then x else y) = "stands") (hx : x ≠ "stands") : ¬ c ∧ y = "stands" := by
  by_cases hc : c
  · rw [if_pos hc] at h; exact absurd h hx
  · rw [if_neg hc] at h; exact ⟨hc, h⟩
section
variable {B : Bk} {t : Nat} {tot : Int}
theorem new_facts (Z : Sound B t tot) {d : Int} {e n m : Str} {a s : Int} (h : B.why (.grant d e n m a s) = "stands") (n0 : n ≠ "") : e ∈ B.L.ks ∧ n ∉ B.L.ks ∧ n ∉ B.known ∧ a ≤ B.L.ac e := by
  unfold Bk.why at h
  obtain ⟨h1, h⟩ := stands_cases h (by decide)
  obtain ⟨h2, h⟩ := stands_cases h (by decide)
  obtain ⟨h3, h⟩ := stands_cases h (by decide)
  obtain ⟨h4, h⟩ := stands_cases h (by decide)
  exact ⟨Classical.byContradiction h1, fun z => h2 (Z.kn n z n0), h2, by omega⟩
theorem Sound.act (Z : Sound B t tot) {r : Rw} (hl : r.lands = true) (ok : r.ok) (h : B.why r = "stands") (ht : t < 60) : Sound (B.actL r) (t + 1) tot := by
  have W := Z.W
  have N := Z.N
  cases r with
  | grant d e n m a s =>
    obtain ⟨n0, sn, sm, a1, s0, s1⟩ := ok.h
    obtain ⟨he, hn, hk, hae⟩ := new_facts Z h n0
    have ek : (B.L.grant e n m a s).ks = B.L.ks ++ [n] := by show keys (aput B.L.lords n (some e)) = _; rw [keys_put, if_neg hn]
    refine ⟨W.grant he hn n0 sn sm, (N.grant W he hn (by omega) hae ?_).mono (by omega), ?_, ?_, ?_, Z.tt⟩
    · have : (2 : Nat) ^ 14 ≤ 2 ^ (20 + 20 * t) := Nat.pow_le_pow_right (by decide) (by omega)
      exact ⟨by show s.natAbs < _; omega, by show (1 : Int).natAbs < _; omega, by show (0 : Int) < 1; omega⟩
    · show (B.L.grant e n m a s).ks.length ≤ _
      rw [ek, List.length_append, List.length_singleton]
      have := Z.len
      omega
    · intro k hk2 k0
      show k ∈ B.known ++ [n]
      have hk3 : k ∈ (B.L.grant e n m a s).ks := hk2
      rw [ek] at hk3
      rcases List.mem_append.mp hk3 with z | z
      · exact List.mem_append_left _ (Z.kn k z k0)
      · exact List.mem_append_right _ z
    · show (B.known ++ [n]).length ≤ _
      rw [List.length_append, List.length_singleton]
      have := Z.kl
      omega
  | part d e n m a =>
    obtain ⟨e0, n0, sn, sm, a1⟩ := ok.h
    obtain ⟨he, hn, hk, hae⟩ := new_facts (s := 0) Z (show B.why (.grant d e n m a 0) = "stands" from h) n0
    have ek : (B.L.part e n m a).ks = B.L.ks ++ [n] := by show keys (aput B.L.lords n (B.L.lord e)) = _; rw [keys_put, if_neg hn]
    refine ⟨W.part he e0 hn n0 sn sm, (N.part W he hn a1 hae (by have := Z.tt; omega)).mono (by omega), ?_, ?_, ?_, Z.tt⟩
    · show (B.L.part e n m a).ks.length ≤ _
      rw [ek, List.length_append, List.length_singleton]
      have := Z.len
      omega
    · intro k hk2 k0
      show k ∈ B.known ++ [n]
      have hk3 : k ∈ (B.L.part e n m a).ks := hk2
      rw [ek] at hk3
      rcases List.mem_append.mp hk3 with z | z
      · exact List.mem_append_left _ (Z.kn k z k0)
      · exact List.mem_append_right _ z
    · show (B.known ++ [n]).length ≤ _
      rw [List.length_append, List.length_singleton]
      have := Z.kl
      omega
  | convey d e m =>
    obtain ⟨e0, sm⟩ := ok.h
    unfold Bk.why at h
    obtain ⟨h1, h⟩ := stands_cases h (by decide)
    have he : e ∈ B.L.ks := Classical.byContradiction h1
    exact ⟨W.convey he sm, (Nu.convey N).mono (by omega), Nat.le_succ_of_le Z.len, fun k hk k0 => by show k ∈ B.known ++ []; rw [List.append_nil]; exact Z.kn k hk k0, by show (B.known ++ []).length ≤ _; rw [List.append_nil]; exact Nat.le_succ_of_le Z.kl, Z.tt⟩
  | surr d e =>
    have e0 : e ≠ "" := ok.h
    unfold Bk.why at h
    obtain ⟨h1, h⟩ := stands_cases h (by decide)
    have he : e ∈ B.L.ks := Classical.byContradiction h1
    obtain ⟨p, hp, _⟩ := W.lord_ne he e0
    have ea : B.L.act (.surr d e) = B.L.fall e p := by show B.L.fall e ((B.L.lord e).getD "") = _; rw [hp]; rfl
    have ek : (B.L.fall e p).ks = B.L.ks.filter fun x => decide (x ≠ e) := by
      show keys (adrop (setAll B.L.lords (B.L.under e) (some p)) e) = _
      rw [keys_drop, setAll_keys]
    refine ⟨by show Wf (B.L.act (.surr d e)); rw [ea]; exact W.fall hp, by show Nu (B.L.act (.surr d e)) _ _; rw [ea]; exact (N.fall W hp).mono (by omega), ?_, ?_, ?_, Z.tt⟩
    · show (B.L.act (.surr d e)).ks.length ≤ _
      rw [ea, ek]
      exact Nat.le_trans (List.length_filter_le ..) (Nat.le_succ_of_le Z.len)
    · intro k hk k0
      show k ∈ B.known ++ []
      rw [List.append_nil]
      have hk : k ∈ (B.L.act (.surr d e)).ks := hk
      rw [ea, ek] at hk
      exact Z.kn k (List.mem_filter.mp hk).1 k0
    · show (B.known ++ []).length ≤ _
      rw [List.append_nil]
      exact Nat.le_succ_of_le Z.kl
  | _ => cases hl
end
end MR
set_option Elab.async false
set_option linter.all false
set_option maxRecDepth 100000
set_option exponentiation.threshold 30000
namespace MR
open PySem
section
variable {S : Sto} {n : Nat} {B : Bk} {t : Nat} {tot : Int}
theorem Sound.br (Z : Sound B t tot) {e : Str} (he : e ∈ B.L.ks) {a : Int} (a1 : 1 ≤ a) (hae : a ≤ B.L.ac e) : 0 < B.L.breadth e ∧ B.L.breadth e < 2 ^ 20 ∧ a ≤ B.L.breadth e := by
  have b1 := Z.N.br_le Z.W (e := e)
  have b2 := Z.N.br_ge Z.W he
  have := Z.tt
  refine ⟨by omega, by omega, by omega⟩
theorem ldo_ok (A : BookAt S n false false B) (Z : Sound B t tot) (ht : t < 60) {r : Rw} (hl : r.lands = true) (ok : r.ok) (h : B.why r = "stands") : Ret (m__law_do [.obj (n + 8), r.D] S) (BDone S n (B.actL r)) := by
  have W := Z.W
  have hlen := Z.len
  have ln := W.lens (by omega)
  have hkl := Z.kl
  have k5 : 5 ≤ most := by decide
  have k2 : 2 ≤ most := by decide
  unfold m__law_do
  rw [ret_dDef]
  cases r with
  | grant d e nw m a s =>
    obtain ⟨n0, sn, sm, a1, s0, s1⟩ := ok.h
    obtain ⟨he, hn, hk, hae⟩ := new_facts Z h n0
    obtain ⟨w, S', e1, e2, A2, o2⟩ := (lnew_ok A W ln (by omega) he hn (m := m) (a := a) (t := "grant") (dd := d) (rest := [.int s]) (p := e) (q := (s, 1))).ex
    simp only [encF] at e1
    simp [b__law_do, Rw.D, atI0, atI2, atI6, e1, k5, k2]
    exact ⟨rfl, A2, o2⟩
  | part d e nw m a =>
    obtain ⟨e0, n0, sn, sm, a1⟩ := ok.h
    obtain ⟨he, hn, hk, hae⟩ := new_facts (s := 0) Z (show B.why (.grant d e nw m a 0) = "stands" from h) n0
    obtain ⟨hB, hb, hab⟩ := Z.br he a1 hae
    have hz := Z.N.sv W he
    obtain ⟨⟨w1, w2⟩, hw⟩ := Option.isSome_iff_exists.mp (aval_some_iff.mpr (show e ∈ keys B.L.due by rw [W.kd]; exact he))
    have hsv : B.L.sv e = (w1, w2) := by unfold Ld.sv; rw [hw]; rfl
    obtain ⟨p, hp, _⟩ := W.lord_ne he e0
    have hlo := lord_some hp
    rw [hsv] at hz
    have hBn : (B.L.breadth e).natAbs < 2 ^ 20 := by omega
    have hxn : a.natAbs < 2 ^ 20 := by omega
    have mo1 : mulOk w1 a := Sz.mulOk hz.t hxn (by omega)
    have mo2 : mulOk w2 (B.L.breadth e) := Sz.mulOk hz.b hBn (by omega)
    have mo3 : mulOk w1 (B.L.breadth e - a) := Sz.mulOk hz.t (show (B.L.breadth e - a).natAbs < 2 ^ 20 by omega) (by omega)
    have hne0 : w2 * B.L.breadth e ≠ 0 := Int.ne_of_gt (Int.mul_pos hz.pos hB)
    have okb : okB (w2 * B.L.breadth e) := ⟨hne0, Nat.lt_of_lt_of_le (mul_bits hz.b hBn) (Nat.pow_le_pow_right (by decide) (by omega))⟩
    have hbr := lbreadth_eq A W (by omega) he
    have f1 : fr (w1 * a) (w2 * B.L.breadth e) = encF (moved B.L e a) := by unfold moved fr encF; rw [hsv]
    have f2 : fr (w1 * (B.L.breadth e - a)) (w2 * B.L.breadth e) = encF (left B.L e a) := by unfold left fr encF; rw [hsv]
    have lo1 := low_eq (t := w1 * a) okb S
    rw [f1] at lo1
    obtain ⟨w, S', e1, e2, A2, o2⟩ := (lnew_ok A W ln (by omega) he hn (m := m) (a := a) (t := "part") (dd := d) (rest := []) (p := p) (q := moved B.L e a)).ex
    have lo2 := low_eq (t := w1 * (B.L.breadth e - a)) okb S'
    rw [f2] at lo2
    have h6 : (aput B.L.due nw (moved B.L e a)).length < most := by
      rw [aput_out (by rw [W.kd]; exact hn), List.length_append]
      have := ln.d
      unfold most
      simp
      omega
    simp only [encF] at e1 lo1 lo2
    simp [b__law_do, Rw.D, derefU, chgU, A.c8, A.c3, A.c0, A2.c8, A2.c3, bk0, bk3, hw, hlo, encO, encF, hbr, lo1, lo2, mo1, mo2, mo3, atI0, atI1, atI2, atI5, e1, k5, k2, h6, putD_encF]
    refine ⟨rfl, ⟨?_, ?_, ?_, ?_, ?_, ?_, ?_, ?_, ?_⟩, o2.set (by simp)⟩
    all_goals simp [setG, A2.c0, A2.c1, A2.c2, A2.c3, A2.c4, A2.c5, A2.c6, A2.c7, A2.c8, Bk.actL, Ld.act, Ld.part, Rw.new, hp]
  | convey d e m =>
    have h2 : B.L.hold.length < most := Nat.lt_trans ln.h (by decide)
    simp [b__law_do, Rw.D, derefU, chgU, A.c8, A.c1, bk1, atI0, atI2, atI3', h2, putD_encS, k5, k2]
    refine ⟨rfl, ⟨?_, ?_, ?_, ?_, ?_, ?_, ?_, ?_, ?_⟩, Off.refl.set (by simp)⟩
    all_goals simp [setG, A.c0, A.c1, A.c2, A.c3, A.c4, A.c5, A.c6, A.c7, A.c8, Bk.actL, Ld.act, Ld.convey, Rw.new]
  | surr d e =>
    have e0 : e ≠ "" := ok.h
    unfold Bk.why at h
    obtain ⟨h1, h⟩ := stands_cases h (by decide)
    have he : e ∈ B.L.ks := Classical.byContradiction h1
    obtain ⟨p, hp, _⟩ := W.lord_ne he e0
    obtain ⟨w, S', e1, e2, A2, o2⟩ := (lfall_ok A W (by omega) hp).ex
    simp [b__law_do, Rw.D, atI0, atI2, e1, k5, k2]
    refine ⟨rfl, ?_, o2⟩
    have : B.actL (.surr d e) = { B with L := B.L.fall e p } := by
      unfold Bk.actL
      simp [Ld.act, hp, Rw.new]
    rw [this]
    exact A2
  | _ => cases hl
end
end MR
set_option Elab.async false
set_option linter.all false
set_option maxRecDepth 100000
set_option exponentiation.threshold 30000
namespace MR
open PySem
section
theorem wipe1 (σ : Sl) (i : Nat) (d : D) : wipeD ((wipeD σ [i]).set i (.val d)) [i] = wipeD σ [i] := by
  apply List.ext_getElem?
  intro j
  rw [wipeD_get, wipeD_get]
  by_cases e : j = i
  · subst e
    simp only [List.mem_singleton, if_true]
    by_cases lt : j < σ.length
    · rw [List.getElem?_set_self (by rw [wipeD_len]; exact lt), List.getElem?_eq_getElem lt]
      rfl
    · rw [List.getElem?_eq_none_iff.mpr (by rw [List.length_set, wipeD_len]; omega), List.getElem?_eq_none_iff.mpr (by omega)]
  · simp only [List.mem_singleton, e, if_false]
    rw [List.getElem?_set_ne (fun z => e z.symm), wipeD_get]
    simp [e]
theorem lc_strs {it : DI} {i : Nat} {c : DT} {e : DE} {σ σ' : Sl} {S : Sto} {l : List Str} (p : Str → Bool) (h : Str → D) (hi : it σ S = .ok (l.map D.str) σ' S) (hno : noOwn σ' [i] = true) (hl : l.length ≤ most)
    (st : ∀ x ∈ l, c ((wipeD σ' [i]).set i (.val (.str x))) S = .ok (p x) ((wipeD σ' [i]).set i (.val (.str x))) S ∧ (p x = true → dV e ((wipeD σ' [i]).set i (.val (.str x))) S = .ok (h x) ((wipeD σ' [i]).set i (.val (.str x))) S)) :
    dLc it (gN i) c e [i] σ S = .ok (.lst ((l.filter p).map h)) σ' S := by
  have key := dLc_gen (it := it) (g := gN i) (c := c) (e := e) (vs := [i]) (σ := σ) (σ' := σ') (S := S) (items := l.map D.str) (fun d => (wipeD σ' [i]).set i (.val d))
    (fun d => match d with
      | .str x => p x
      | _ => false)
    (fun d => match d with
      | .str x => h x
      | _ => .non) hi hno (by rw [List.length_map]; exact hl) (by
      intro d hd
      obtain ⟨x, hx, rfl⟩ := List.mem_map.mp hd
      obtain ⟨s1, s2⟩ := st x hx
      exact ⟨rfl, wipe1 _ _ _, s1, s2⟩)
  rw [key]
  congr 2
  rw [List.filter_map, List.map_map]
  rfl
variable {S : Sto} {r a b c d n : Nat} {B : Bk} {e : Str}
theorem srtS_len (l : List Str) : (srtS l).length = l.length := (srtS_perm l).length_eq
theorem mem_srtS {l : List Str} {x : Str} : x ∈ srtS l ↔ x ∈ l := (srtS_perm l).mem_iff
end
end MR
set_option Elab.async false
set_option linter.all false
set_option maxRecDepth 100000
set_option exponentiation.threshold 30000
namespace MR
open PySem
section
theorem RunF_step {f g : DS} {σ σ1 : Sl} {S S1 : Sto} {P : D → Sto → Prop} (h : f σ S = .ok .next σ1 S1) (h2 : RunF (g σ1 S1) P) : RunF (sSeq f g σ S) P := by rw [sSeq_next h]; exact h2
theorem atI7 {α : Type} {x y z u v t q p : α} {l : List α} : L2.atI (x :: y :: z :: u :: v :: t :: q :: p :: l) 7 = some p := atI_lit (x :: y :: z :: u :: v :: t :: q :: p :: l) 7
theorem atIs {l : List Str} {i : Int} (h0 : 0 ≤ i) (h1 : i < l.length) : ∃ x ∈ l, L2.atI (l.map D.str) i = some (.str x) := by
  obtain ⟨n, rfl⟩ := Int.eq_ofNat_of_zero_le h0
  have hn : n < l.length := by omega
  refine ⟨l[n]'hn, List.getElem_mem .., L2.atI_nat ?_⟩
  rw [List.getElem?_map, List.getElem?_eq_getElem hn]
  rfl
theorem picks {l : List Str} (x : Int) (h : l ≠ []) : ∃ y ∈ l, L2.atI (l.map D.str) (x % (l.length : Int)) = some (.str y) := by
  have : 0 < l.length := List.length_pos_iff.mpr h
  exact atIs (Int.emod_nonneg _ (by omega)) (Int.emod_lt_of_pos _ (by omega))
theorem cut_nat {α : Type} (l : List α) (a b : Nat) (hb : b ≤ l.length) (hab : a ≤ b) : cutL l (some (a : Int)) (some (b : Int)) = (l.drop a).take (b - a) := by
  unfold cutL
  have h1 : HT.sIx l.length 0 (some (a : Int)) = min a l.length := HT.sIx_nat ..
  have h2 : HT.sIx l.length l.length (some (b : Int)) = min b l.length := HT.sIx_nat ..
  rw [h1, h2, Nat.min_eq_left (by omega), Nat.min_eq_left (by omega)]
theorem nm_ne {x : Str} (h : isNm x = true) : x ≠ "" := by
  rintro rfl
  revert h
  decide
theorem letter_small {c : Nat} (h : letter c = true) : c < 0x110000 := by
  unfold letter hasC at h
  have h2 : c ∈ abc.cps.toList := by simpa using h
  have : ∀ d ∈ abc.cps.toList, d < 0x110000 := by decide +kernel
  exact this c h2
theorem nm_ok {x : Str} (h : isNm x = true) : PyData.strOk x = true := by
  unfold isNm at h
  rw [Bool.and_eq_true] at h
  have h2 := h.2
  unfold letters at h2
  unfold PyData.strOk
  rw [← Array.all_toList, List.all_eq_true]
  intro c hc
  exact decide_eq_true (letter_small (List.all_eq_true.mp h2 c hc))
structure Pools (men lands : List Str) (w : Int) : Prop where
  lm : men.length = 6
  ll : lands.length = 9
  nm : ∀ x ∈ men, isNm x = true
  nl : ∀ x ∈ lands, isNm x = true
  dm : men.Nodup
  dl : lands.Nodup
  w1 : 1 ≤ w
  w2 : w ≤ 9999
abbrev poolsD (men lands : List Str) (w : Int) : D := .tup [.lst (men.map D.str), .lst (lands.map D.str), .int w]
theorem int_at {fs : List Int} (i : Nat) (hg : Good fs) (h : i < fs.length) : ∃ x : Int, L2.atI (fs.map D.int) (i : Int) = some (.int x) ∧ 0 ≤ x ∧ x < 1000003 := by
  refine ⟨fs[i]'h, ?_, hg _ (List.getElem_mem ..)⟩
  rw [atI_lit, List.getElem?_map, List.getElem?_eq_getElem h]
  rfl
theorem Good.cut {fs : List Int} (hg : Good fs) (a b : Nat) : Good ((fs.drop a).take b) := fun v hv => hg v (List.mem_of_mem_drop (List.mem_of_mem_take hv))
theorem cut_ok {fs : List Int} (hg : Good fs) (a b : Nat) (hb : b ≤ fs.length) (hab : a ≤ b) : ∃ ds : List Int, cutL (fs.map D.int) (some (a : Int)) (some (b : Int)) = ds.map D.int ∧ ds.length = b - a ∧ Good ds := ⟨(fs.drop a).take (b - a), by rw [cutL_map]; congr 1; exact cut_nat fs a b hb hab, by rw [List.length_take, List.length_drop]; omega, hg.cut a _⟩
end
end MR
set_option Elab.async false
set_option linter.all false
set_option maxRecDepth 100000
set_option exponentiation.threshold 30000
namespace MR
open PySem
def Rw.fit (men lands : List Str) (B : Bk) (dd : Int) : Rw → Prop
  | .grant d e n m a s => d = dd ∧ (e ∈ B.L.ks ∨ e ∈ ("" : Str) :: lands) ∧ n ∈ lands ∧ m ∈ men ∧ 1 ≤ a ∧ a ≤ 9999 ∧ 0 ≤ s ∧ s ≤ 9999
  | .part d e n m a => d = dd ∧ (e ∈ B.L.ks ∨ e ∈ ("" : Str) :: lands) ∧ e ≠ "" ∧ n ∈ lands ∧ m ∈ men ∧ 1 ≤ a ∧ a ≤ 9999
  | .convey d e m => d = dd ∧ (e ∈ B.L.ks ∨ e ∈ ("" : Str) :: lands) ∧ e ≠ "" ∧ m ∈ men
  | .surr d e => d = dd ∧ (e ∈ B.L.ks ∨ e ∈ ("" : Str) :: lands) ∧ e ≠ ""
  | .heir d m h => d = dd ∧ m ∈ men ∧ h ∈ men ∧ h ≠ m
  | .liege d m l => d = dd ∧ m ∈ men ∧ l ≠ m ∧ (l = "" ∨ l ∈ men ∨ l ∈ B.L.bound m)
  | .death d m => d = dd ∧ m ∈ men
section
variable {S : Sto} {n t : Nat} {B : Bk} {tot : Int} {men lands : List Str} {w : Int}
theorem bound_len (L : Ld) (m : Str) : (L.bound m).length ≤ L.hold.length := by
  unfold Ld.bound
  rw [List.length_map]
  refine Nat.le_trans (List.length_filter_le ..) ?_
  unfold Ld.held
  rw [srtS_len]
  refine Nat.le_trans (List.length_filter_le ..) ?_
  rw [keys_len]
  exact Nat.le_refl _
theorem opMul3 {l : List Str} (h : l.length < 1000) : opMul' (.lst (l.map D.str)) (.int 3) = some (.lst ((l ++ (l ++ l)).map D.str)) := by
  have : (List.replicate 3 (l.map D.str)).flatten = (l ++ (l ++ l)).map D.str := by simp [List.replicate]
  rw [← this]
  exact if_pos ⟨by decide, by decide, by rw [List.length_map]; show l.length * 3 ≤ most; unfold most; omega⟩
theorem lord_for_ok (A : BookAt S n false false B) (W : Wf B.L) (hl : B.L.ks.length < 64) (P : Pools men lands w) {m : Str} (m0 : m ≠ "") (x : Int) : ∃ l : Str, (l = "" ∨ l ∈ men ∨ l ∈ B.L.bound m) ∧ l ≠ m ∧ m__law_lord_for [.obj (n + 8), .lst (men.map D.str), .str m, .int x] S = .ok (.str l) S := by
  have hb := lbound_eq (m := m) A W hl
  have lb := bound_len B.L m
  have lh := (W.lens hl).h
  have h3 := opMul3 (l := B.L.bound m) (by omega)
  generalize hbm : B.L.bound m = bm at *
  obtain ⟨L, eL⟩ : ∃ L : List Str, L = bm ++ (bm ++ bm) ++ men ++ [("" : Str)] := ⟨_, rfl⟩
  have hL : L.length < 1000 := by rw [eL]; simp; have := P.lm; omega
  have mL : ∀ y ∈ L, y = "" ∨ y ∈ men ∨ y ∈ bm := fun y hy => by
    rw [eL] at hy
    simp only [List.mem_append, List.mem_singleton] at hy
    rcases hy with ((z | z | z) | z) | z
    · exact .inr (.inr z)
    · exact .inr (.inr z)
    · exact .inr (.inr z)
    · exact .inr (.inl z)
    · exact .inl z
  have e0 : ("" : Str) ∈ L := by rw [eL]; simp
  have lm := P.lm
  have k1 : 1 ≤ most := by decide
  have q1 : bm.length + (bm.length + bm.length) + men.length ≤ most := by unfold most; omega
  have q2 : bm.length + (bm.length + bm.length) + men.length + 1 ≤ most := by unfold most; omega
  let σ0 : Sl := [.val (.obj (n + 8)), .val (.lst (men.map D.str)), .val (.str m), .val (.int x), .emp, .emp]
  let F := L.filter fun y => !decide (y = m)
  have hi : (iLst (d2 opAdd (d2 opAdd (d2 opMul' (dCall m__law_bound_to (aCons (dVar 0) (aCons (dVar 2) aNil))) (dC (.int 3))) (dVar 1)) (dLst (aCons (dC (.str "")) aNil)))) σ0 S = .ok (L.map D.str) σ0 S := by
    simp only [List.map_append] at h3
    simp [-List.append_assoc, σ0, hb, h3, k1, q1, q2, eL]
  have hlc := lc_strs (it := (iLst (d2 opAdd (d2 opAdd (d2 opMul' (dCall m__law_bound_to (aCons (dVar 0) (aCons (dVar 2) aNil))) (dC (.int 3))) (dVar 1)) (dLst (aCons (dC (.str "")) aNil))))) (i := 5) (c := lt__law_lord_for_1) (e := le__law_lord_for_2) (fun y => !decide (y = m)) D.str hi rfl (by unfold most; omega) (fun y hy => by simp [σ0, wipeD, lt__law_lord_for_1, le__law_lord_for_2])
  have hlc : (dLc (iLst (d2 opAdd (d2 opAdd (d2 opMul' (dCall m__law_bound_to (aCons (dVar 0) (aCons (dVar 2) aNil))) (dC (.int 3))) (dVar 1)) (dLst (aCons (dC (.str "")) aNil)))) (gN 5) lt__law_lord_for_1 le__law_lord_for_2 [5]) σ0 S = .ok (.lst (F.map D.str)) σ0 S := hlc
  have F0 : F ≠ [] := List.ne_nil_of_mem (List.mem_filter.mpr ⟨e0, by simp; exact fun z => m0 z.symm⟩)
  obtain ⟨y, hy, ey⟩ := picks (l := F) x F0
  have hFl : 0 < F.length := List.length_pos_iff.mpr F0
  have hy2 := List.mem_filter.mp hy
  refine ⟨y, mL y hy2.1, by simpa using hy2.2, ?_⟩
  refine dDef_ret (σ' := [.val (.obj (n + 8)), .val (.lst (men.map D.str)), .val (.str m), .val (.int x), .val (.lst (F.map D.str)), .emp]) ?_
  show b__law_lord_for σ0 S = _
  unfold b__law_lord_for
  have st1 : (sSet 4 (dLc (iLst (d2 opAdd (d2 opAdd (d2 opMul' (dCall m__law_bound_to (aCons (dVar 0) (aCons (dVar 2) aNil))) (dC (.int 3))) (dVar 1)) (dLst (aCons (dC (.str "")) aNil)))) (gN 5) lt__law_lord_for_1 le__law_lord_for_2 [5])) σ0 S = .ok .next [.val (.obj (n + 8)), .val (.lst (men.map D.str)), .val (.str m), .val (.int x), .val (.lst (F.map D.str)), .emp] S := by
    show ((dLc _ _ _ _ _ σ0 S).bind _).bind _ = _
    rw [hlc]
    rfl
  rw [sSeq_next st1]
  generalize F = G at *
  simp [ey, hFl]
end
end MR
set_option Elab.async false
set_option linter.all false
set_option maxRecDepth 100000
set_option exponentiation.threshold 30000
namespace MR
open PySem
section
variable {S : Sto} {n t : Nat} {B : Bk} {tot : Int} {men lands : List Str} {w : Int} {x0 x1 x2 x3 x4 x5 x6 x7 dd : Int}
theorem keys_kD {α : Type} {f : α → D} {l : List (Str × α)} : (enc f l).map (fun p => kD p.1) = (keys l).map D.str := by
  unfold enc keys
  rw [List.map_map, List.map_map]
  rfl
theorem inI5 {k : Int} {a b c d e : Int} : opInG (.int k) (.tup [.int a, .int b, .int c, .int d, .int e]) = some (.bl (decide (k = a ∨ k = b ∨ k = c ∨ k = d ∨ k = e))) := by
  show (if flatD (.int k) && ([.int a, .int b, .int c, .int d, .int e] : List D).all flatD then some (inD (.int k) [.int a, .int b, .int c, .int d, .int e]) else none).map D.bl = _
  have h : (flatD (.int k) && ([.int a, .int b, .int c, .int d, .int e] : List D).all flatD) = true := rfl
  rw [h]
  have q : ∀ x : Int, (x == k) = decide (k = x) := fun x => by
    by_cases h : k = x
    · subst h; simp
    · have h2 : ¬ x = k := fun z => h z.symm
      simp [h, h2]
  simp [inD, L2.inV, toV, Bool.or_assoc, L2.eqV, q]
abbrev drsD (x0 x1 x2 x3 x4 x5 x6 x7 : Int) : D := .lst [.int x0, .int x1, .int x2, .int x3, .int x4, .int x5, .int x6, .int x7]
def free (B : Bk) (lands : List Str) : List Str := lands.filter fun x => !decide (x ∈ B.known)
theorem row_ok (A : BookAt S n false false B) (Z : Sound B t tot) (ht : t < 60) (P : Pools men lands w) (dd : Int) : ∃ r : Rw, r.fit men lands B dd ∧ m__law_row [.obj (n + 8), poolsD men lands w, drsD x0 x1 x2 x3 x4 x5 x6 x7, .int dd] S = .ok r.D S := by
  have W := Z.W
  have hlen := Z.len
  have hl : B.L.ks.length < 64 := by omega
  have k5 : 5 ≤ most := by decide
  have k2 : 2 ≤ most := by decide
  have k1 : 1 ≤ most := by decide
  have k3 : 3 ≤ most := by decide
  have k4 : 4 ≤ most := by decide
  have k6 : 6 ≤ most := by decide
  have k7 : 7 ≤ most := by decide
  have lm := P.lm
  have ll := P.ll
  have hkl := Z.kl
  have ek : opSorted (.lst ((enc encO B.L.lords).map fun p => kD p.1)) = some (.lst ((srtS B.L.ks).map D.str)) := by
    rw [keys_kD]
    exact sortS_eq hl
  have hcr : ("" : Str) ∈ B.L.ks := aval_some_iff.mp (by rw [W.cr]; rfl)
  have es0 : srtS B.L.ks ≠ [] := List.ne_nil_of_mem (mem_srtS.mpr hcr)
  obtain ⟨e0, he0, pe0⟩ := picks (l := srtS B.L.ks) x1 es0
  have he0 := mem_srtS.mp he0
  have ep : 0 < (srtS B.L.ks).length := List.length_pos_iff.mpr es0
  obtain ⟨m, hm, pm⟩ := picks (l := men) x2 (fun z => by rw [z] at lm; cases lm)
  rw [lm] at pm
  have pm : L2.atI (men.map D.str) (x2 % 6) = some (.str m) := pm
  have m0 := nm_ne (P.nm m hm)
  have fl : (free B lands).length ≤ 9 := by rw [← ll]; exact List.length_filter_le ..
  obtain ⟨nw, hnw, pnw⟩ : ∃ y ∈ lands, L2.atI ((free B lands ++ lands).map D.str) (x3 % (if ((free B lands).length : Int) > 1 then ((free B lands).length : Int) else 1)) = some (.str y) := by
    have h1 : (0 : Int) < (if ((free B lands).length : Int) > 1 then ((free B lands).length : Int) else 1) := by split <;> omega
    obtain ⟨y, hy, ey⟩ := atIs (l := free B lands ++ lands) (i := x3 % (if ((free B lands).length : Int) > 1 then ((free B lands).length : Int) else 1)) (Int.emod_nonneg _ (by omega)) (by
      have := Int.emod_lt_of_pos x3 h1
      have hq : (if ((free B lands).length : Int) > 1 then ((free B lands).length : Int) else 1) ≤ ((free B lands).length : Int) + 9 := by split <;> omega
      rw [List.length_append, ll]
      generalize (if ((free B lands).length : Int) > 1 then ((free B lands).length : Int) else 1) = q at *
      omega)
    refine ⟨y, ?_, ey⟩
    rcases List.mem_append.mp hy with z | z
    · exact (List.mem_filter.mp z).1
    · exact z
  obtain ⟨nl, hnl, pnl⟩ := picks (l := lands) x3 (fun z => by rw [z] at ll; cases ll)
  rw [ll] at pnl
  have pnl : L2.atI (lands.map D.str) (x3 % 9) = some (.str nl) := pnl
  obtain ⟨el, hel, pel⟩ := picks (l := ("" : Str) :: lands) x1 (by simp)
  rw [List.length_cons, ll] at pel
  have pel : L2.atI (.str "" :: lands.map D.str) (x1 % 10) = some (.str el) := pel
  have hfr : ∀ s9 s10 s11 s12 s13 s14 s6 s7 s8, (dLc (iLst (dVar 5)) (gN 15) lt__law_row_1 le__law_row_2 [15]) [.val (.obj (n + 8)), .val (poolsD men lands w), .val (.lst [.int x0, .int x1, .int x2, .int x3, .int x4, .int x5, .int x6, .int x7]), .val (.int dd), .val (.lst (men.map D.str)), .val (.lst (lands.map D.str)), s6, s7, s8, s9, s10, s11, s12, s13, s14, .emp] S = .ok (.lst ((free B lands).map D.str)) [.val (.obj (n + 8)), .val (poolsD men lands w), .val (.lst [.int x0, .int x1, .int x2, .int x3, .int x4, .int x5, .int x6, .int x7]), .val (.int dd), .val (.lst (men.map D.str)), .val (.lst (lands.map D.str)), s6, s7, s8, s9, s10, s11, s12, s13, s14, .emp] S := by
    intro s9 s10 s11 s12 s13 s14 s6 s7 s8
    refine lc_strs (l := lands) (fun x => !decide (x ∈ B.known)) D.str (by simp) rfl (by rw [ll]; decide) (fun y hy => ?_)
    simp [wipeD, lt__law_row_1, le__law_row_2, A.d8, A.d4, bk4, opNotIn_strs]
  have hp : Ret (m__law_row [.obj (n + 8), poolsD men lands w, drsD x0 x1 x2 x3 x4 x5 x6 x7, .int dd] S) (fun v S' => S' = S ∧ ∃ r : Rw, r.fit men lands B dd ∧ v = r.D) := by
    unfold m__law_row
    rw [ret_dDef]
    show RunF (b__law_row [.val (.obj (n + 8)), .val (poolsD men lands w), .val (.lst [.int x0, .int x1, .int x2, .int x3, .int x4, .int x5, .int x6, .int x7]), .val (.int dd), .emp, .emp, .emp, .emp, .emp, .emp, .emp, .emp, .emp, .emp, .emp, .emp] S) _
    unfold b__law_row
    refine RunF_step (σ1 := [.val (.obj (n + 8)), .val (poolsD men lands w), .val (.lst [.int x0, .int x1, .int x2, .int x3, .int x4, .int x5, .int x6, .int x7]), .val (.int dd), .val (.lst (men.map D.str)), .emp, .emp, .emp, .emp, .emp, .emp, .emp, .emp, .emp, .emp, .emp]) (S1 := S) (by simp [atI0]) ?_
    refine RunF_step (σ1 := [.val (.obj (n + 8)), .val (poolsD men lands w), .val (.lst [.int x0, .int x1, .int x2, .int x3, .int x4, .int x5, .int x6, .int x7]), .val (.int dd), .val (.lst (men.map D.str)), .val (.lst (lands.map D.str)), .emp, .emp, .emp, .emp, .emp, .emp, .emp, .emp, .emp, .emp]) (S1 := S) (by simp [atI1]) ?_
    refine RunF_step (σ1 := [.val (.obj (n + 8)), .val (poolsD men lands w), .val (.lst [.int x0, .int x1, .int x2, .int x3, .int x4, .int x5, .int x6, .int x7]), .val (.int dd), .val (.lst (men.map D.str)), .val (.lst (lands.map D.str)), .val (.lst ((srtS B.L.ks).map D.str)), .emp, .emp, .emp, .emp, .emp, .emp, .emp, .emp, .emp]) (S1 := S) (by simp [A.d8, A.d0, bk0, ek]) ?_
    refine RunF_step (σ1 := [.val (.obj (n + 8)), .val (poolsD men lands w), .val (.lst [.int x0, .int x1, .int x2, .int x3, .int x4, .int x5, .int x6, .int x7]), .val (.int dd), .val (.lst (men.map D.str)), .val (.lst (lands.map D.str)), .val (.lst ((srtS B.L.ks).map D.str)), .val (.str e0), .emp, .emp, .emp, .emp, .emp, .emp, .emp, .emp]) (S1 := S) (by simp [atI1, pe0, ep]) ?_
    refine RunF_step (σ1 := [.val (.obj (n + 8)), .val (poolsD men lands w), .val (.lst [.int x0, .int x1, .int x2, .int x3, .int x4, .int x5, .int x6, .int x7]), .val (.int dd), .val (.lst (men.map D.str)), .val (.lst (lands.map D.str)), .val (.lst ((srtS B.L.ks).map D.str)), .val (.str e0), .val (.str m), .emp, .emp, .emp, .emp, .emp, .emp, .emp]) (S1 := S) (by simp [atI2, lm, pm]) ?_
    refine RunF_step (σ1 := [.val (.obj (n + 8)), .val (poolsD men lands w), .val (.lst [.int x0, .int x1, .int x2, .int x3, .int x4, .int x5, .int x6, .int x7]), .val (.int dd), .val (.lst (men.map D.str)), .val (.lst (lands.map D.str)), .val (.lst ((srtS B.L.ks).map D.str)), .val (.str e0), .val (.str m), .val (.lst ((free B lands).map D.str)), .emp, .emp, .emp, .emp, .emp, .emp]) (S1 := S) (by rw [sSet_def, dV_def, hfr]; rfl) ?_
    refine RunF_step (σ1 := [.val (.obj (n + 8)), .val (poolsD men lands w), .val (.lst [.int x0, .int x1, .int x2, .int x3, .int x4, .int x5, .int x6, .int x7]), .val (.int dd), .val (.lst (men.map D.str)), .val (.lst (lands.map D.str)), .val (.lst ((srtS B.L.ks).map D.str)), .val (.str e0), .val (.str m), .val (.lst ((free B lands).map D.str)), .val (.str nw), .emp, .emp, .emp, .emp, .emp]) (S1 := S) (by
      have q1 : (free B lands).length + lands.length ≤ most := by rw [ll]; unfold most; omega
      have q2 : (0 : Int) < (if ((free B lands).length : Int) > 1 then ((free B lands).length : Int) else 1) := by split <;> omega
      rw [List.map_append] at pnw
      simp only [gt_iff_lt] at pnw q2
      simp [atI3', q1, q2, pnw]) ?_
    obtain ⟨e, nx, he, hnx, est⟩ : ∃ e nx, (e ∈ B.L.ks ∨ e ∈ ("" : Str) :: lands) ∧ nx ∈ lands ∧ (sIf (tVal (d2 opGt (d2 opMod (d2 opIx (dVar 2) (dC (.int 7))) (dC (.int 12))) (dC (.int 9)))) (sSeq (sSet 10 (d2 opIx (dVar 5) (d2 opMod (d2 opIx (dVar 2) (dC (.int 3))) (d1 opLen (dVar 5))))) (sSet 7 (d2 opIx (d2 opAdd (dLst (aCons (dC (.str "")) aNil)) (dVar 5)) (d2 opMod (d2 opIx (dVar 2) (dC (.int 1))) (dC (.int 10)))))) sNil) [.val (.obj (n + 8)), .val (poolsD men lands w), .val (.lst [.int x0, .int x1, .int x2, .int x3, .int x4, .int x5, .int x6, .int x7]), .val (.int dd), .val (.lst (men.map D.str)), .val (.lst (lands.map D.str)), .val (.lst ((srtS B.L.ks).map D.str)), .val (.str e0), .val (.str m), .val (.lst ((free B lands).map D.str)), .val (.str nw), .emp, .emp, .emp, .emp, .emp] S = .ok .next [.val (.obj (n + 8)), .val (poolsD men lands w), .val (.lst [.int x0, .int x1, .int x2, .int x3, .int x4, .int x5, .int x6, .int x7]), .val (.int dd), .val (.lst (men.map D.str)), .val (.lst (lands.map D.str)), .val (.lst ((srtS B.L.ks).map D.str)), .val (.str e), .val (.str m), .val (.lst ((free B lands).map D.str)), .val (.str nx), .emp, .emp, .emp, .emp, .emp] S := by
      have q10 : 1 + 9 ≤ most := by decide
      have q9 : 9 + 1 ≤ most := by decide
      by_cases c : x7 % 12 > 9
      · refine ⟨el, nl, .inr hel, hnl, ?_⟩
        have c' : 9 < x7 % 12 := c
        simp [atI7, atI3', atI1, c', ll, pnl, k1, q10, q9, pel]
      · refine ⟨e0, nw, .inl he0, hnw, ?_⟩
        have c' : ¬ 9 < x7 % 12 := c
        simp [atI7, c']
    refine RunF_step est ?_
    have hac : B.L.ac e = (aval B.L.own e).getD 0 := rfl
    have ac0 := Z.N.ac0 e
    have ac1 : B.L.ac e ≤ 9999 := by
      have tt := Z.tt
      by_cases hk : e ∈ B.L.ks
      · have b1 := Z.N.br_le W (e := e)
        have b2 := Z.N.br_ge W hk
        omega
      · have : B.L.ac e = 0 := by unfold Ld.ac; rw [aval_none_iff.mpr (by rw [W.ko]; exact hk)]; rfl
        omega
    refine RunF_step (σ1 := [.val (.obj (n + 8)), .val (poolsD men lands w), .val (.lst [.int x0, .int x1, .int x2, .int x3, .int x4, .int x5, .int x6, .int x7]), .val (.int dd), .val (.lst (men.map D.str)), .val (.lst (lands.map D.str)), .val (.lst ((srtS B.L.ks).map D.str)), .val (.str e), .val (.str m), .val (.lst ((free B lands).map D.str)), .val (.str nx), .val (.int (B.L.ac e)), .emp, .emp, .emp, .emp]) (S1 := S) (by
      cases ho : aval B.L.own e with
      | none => rw [ho] at hac; simp [A.d8, A.d2, bk2, ho, hac]
      | some o => rw [ho] at hac; simp [A.d8, A.d2, bk2, ho, hac]) ?_
    generalize B.L.ac e = ac at *
    obtain ⟨a, a1, a2, fin⟩ : ∃ a : Int, 1 ≤ a ∧ a ≤ 9999 ∧ ∀ R : DS, RunF (R [.val (.obj (n + 8)), .val (poolsD men lands w), .val (.lst [.int x0, .int x1, .int x2, .int x3, .int x4, .int x5, .int x6, .int x7]), .val (.int dd), .val (.lst (men.map D.str)), .val (.lst (lands.map D.str)), .val (.lst ((srtS B.L.ks).map D.str)), .val (.str e), .val (.str m), .val (.lst ((free B lands).map D.str)), .val (.str nx), .val (.int ac), .val (.int a), .emp, .emp, .emp] S) (fun v S' => S' = S ∧ ∃ r : Rw, r.fit men lands B dd ∧ v = r.D) → RunF ((sSeq (sSet 12 (d2 opAdd (dC (.int 1)) (d2 opMod (d2 opIx (dVar 2) (dC (.int 4))) (d2 opMax (dC (.int 1)) (dVar 11))))) (sSeq (sIf (tVal (d2 opEq' (d2 opMod (d2 opIx (dVar 2) (dC (.int 7))) (dC (.int 12))) (dC (.int 9)))) (sSet 12 (d2 opMin (dC (.int 9999)) (d2 opAdd (d2 opAdd (dVar 11) (dC (.int 1))) (d2 opMod (d2 opIx (dVar 2) (dC (.int 4))) (dC (.int 2)))))) sNil) R)) [.val (.obj (n + 8)), .val (poolsD men lands w), .val (.lst [.int x0, .int x1, .int x2, .int x3, .int x4, .int x5, .int x6, .int x7]), .val (.int dd), .val (.lst (men.map D.str)), .val (.lst (lands.map D.str)), .val (.lst ((srtS B.L.ks).map D.str)), .val (.str e), .val (.str m), .val (.lst ((free B lands).map D.str)), .val (.str nx), .val (.int ac), .emp, .emp, .emp, .emp] S) (fun v S' => S' = S ∧ ∃ r : Rw, r.fit men lands B dd ∧ v = r.D) := by
      have q2 : (0 : Int) < (if 1 < ac then ac else 1) := by split <;> omega
      have u3 : (if 1 < ac then ac else 1) ≤ 9999 := by split <;> omega
      have u1 := Int.emod_nonneg x4 (show (if 1 < ac then ac else 1) ≠ 0 by omega)
      have u2 := Int.emod_lt_of_pos x4 q2
      have st1 : (sSet 12 (d2 opAdd (dC (.int 1)) (d2 opMod (d2 opIx (dVar 2) (dC (.int 4))) (d2 opMax (dC (.int 1)) (dVar 11))))) [.val (.obj (n + 8)), .val (poolsD men lands w), .val (.lst [.int x0, .int x1, .int x2, .int x3, .int x4, .int x5, .int x6, .int x7]), .val (.int dd), .val (.lst (men.map D.str)), .val (.lst (lands.map D.str)), .val (.lst ((srtS B.L.ks).map D.str)), .val (.str e), .val (.str m), .val (.lst ((free B lands).map D.str)), .val (.str nx), .val (.int ac), .emp, .emp, .emp, .emp] S = .ok .next [.val (.obj (n + 8)), .val (poolsD men lands w), .val (.lst [.int x0, .int x1, .int x2, .int x3, .int x4, .int x5, .int x6, .int x7]), .val (.int dd), .val (.lst (men.map D.str)), .val (.lst (lands.map D.str)), .val (.lst ((srtS B.L.ks).map D.str)), .val (.str e), .val (.str m), .val (.lst ((free B lands).map D.str)), .val (.str nx), .val (.int ac), .val (.int (1 + x4 % (if 1 < ac then ac else 1))), .emp, .emp, .emp] S := by simp [atI4, q2]
      by_cases c : x7 % 12 = 9
      · refine ⟨if ac + 1 + x4 % 2 < 9999 then ac + 1 + x4 % 2 else 9999, by split <;> omega, by split <;> omega, fun R hR => RunF_step st1 (RunF_step (σ1 := [.val (.obj (n + 8)), .val (poolsD men lands w), .val (.lst [.int x0, .int x1, .int x2, .int x3, .int x4, .int x5, .int x6, .int x7]), .val (.int dd), .val (.lst (men.map D.str)), .val (.lst (lands.map D.str)), .val (.lst ((srtS B.L.ks).map D.str)), .val (.str e), .val (.str m), .val (.lst ((free B lands).map D.str)), .val (.str nx), .val (.int ac), .val (.int (if ac + 1 + x4 % 2 < 9999 then ac + 1 + x4 % 2 else 9999)), .emp, .emp, .emp]) (S1 := S) (by simp [atI7, atI4, c]) hR)⟩
      · refine ⟨1 + x4 % (if 1 < ac then ac else 1), by omega, by generalize (if 1 < ac then ac else 1) = q at *; omega, fun R hR => RunF_step st1 (RunF_step (σ1 := [.val (.obj (n + 8)), .val (poolsD men lands w), .val (.lst [.int x0, .int x1, .int x2, .int x3, .int x4, .int x5, .int x6, .int x7]), .val (.int dd), .val (.lst (men.map D.str)), .val (.lst (lands.map D.str)), .val (.lst ((srtS B.L.ks).map D.str)), .val (.str e), .val (.str m), .val (.lst ((free B lands).map D.str)), .val (.str nx), .val (.int ac), .val (.int (1 + x4 % (if 1 < ac then ac else 1))), .emp, .emp, .emp]) (S1 := S) (by simp [atI7, c]) hR)⟩
    refine fin _ ?_
    have kb := Int.emod_nonneg x0 (show (13 : Int) ≠ 0 by decide)
    have kt := Int.emod_lt_of_pos x0 (show (0 : Int) < 13 by decide)
    obtain ⟨k, ek⟩ : ∃ k, k = x0 % 13 := ⟨_, rfl⟩
    rw [← ek] at kb kt
    refine RunF_step (σ1 := [.val (.obj (n + 8)), .val (poolsD men lands w), .val (.lst [.int x0, .int x1, .int x2, .int x3, .int x4, .int x5, .int x6, .int x7]), .val (.int dd), .val (.lst (men.map D.str)), .val (.lst (lands.map D.str)), .val (.lst ((srtS B.L.ks).map D.str)), .val (.str e), .val (.str m), .val (.lst ((free B lands).map D.str)), .val (.str nx), .val (.int ac), .val (.int a), .val (.int k), .emp, .emp]) (S1 := S) (by simp [atI0, ek]) ?_
    clear fin est ek
    obtain ⟨sv, sv0, sv1, esv⟩ : ∃ s : Int, 0 ≤ s ∧ s ≤ 9999 ∧ L2.atI [D.int 0, .int 1, .int (x5 % 30), .int (9999 - x5 % 9)] (x6 % 4) = some (.int s) := by
      obtain h | h | h | h : x6 % 4 = 0 ∨ x6 % 4 = 1 ∨ x6 % 4 = 2 ∨ x6 % 4 = 3 := by omega
      · exact ⟨0, by omega, by omega, by rw [h, atI0]⟩
      · exact ⟨1, by omega, by omega, by rw [h, atI1]⟩
      · exact ⟨x5 % 30, by omega, by omega, by rw [h, atI2]⟩
      · exact ⟨9999 - x5 % 9, by omega, by omega, by rw [h, atI3']⟩
    have hgr : (Rw.grant dd e nx m a sv).fit men lands B dd := ⟨rfl, he, hnx, hm, a1, a2, sv0, sv1⟩
    by_cases g1 : k < 4 ∨ (e = "" ∧ (k = 4 ∨ k = 5 ∨ k = 6 ∨ k = 9 ∨ k = 12))
    · refine RunF.of (r' := .ok (.ret (Rw.grant dd e nx m a sv).D) [.val (.obj (n + 8)), .val (poolsD men lands w), .val (.lst [.int x0, .int x1, .int x2, .int x3, .int x4, .int x5, .int x6, .int x7]), .val (.int dd), .val (.lst (men.map D.str)), .val (.lst (lands.map D.str)), .val (.lst ((srtS B.L.ks).map D.str)), .val (.str e), .val (.str m), .val (.lst ((free B lands).map D.str)), .val (.str nx), .val (.int ac), .val (.int a), .val (.int k), .emp, .emp] S) ?_ ⟨rfl, .grant dd e nx m a sv, hgr, rfl⟩
      by_cases g2 : k < 4
      · simp [g2, atI5, atI6, esv, k4, k7, Rw.D]
      · have g3 := (Or.resolve_left g1 g2)
        obtain ⟨g4, g5⟩ := g3
        subst g4
        simp [g2, inI5, g5, atI5, atI6, esv, k4, k5, k7, Rw.D]
    refine RunF_step (σ1 := [.val (.obj (n + 8)), .val (poolsD men lands w), .val (.lst [.int x0, .int x1, .int x2, .int x3, .int x4, .int x5, .int x6, .int x7]), .val (.int dd), .val (.lst (men.map D.str)), .val (.lst (lands.map D.str)), .val (.lst ((srtS B.L.ks).map D.str)), .val (.str e), .val (.str m), .val (.lst ((free B lands).map D.str)), .val (.str nx), .val (.int ac), .val (.int a), .val (.int k), .emp, .emp]) (S1 := S) (by
      by_cases g2 : e = ""
      · have g3 : ¬ k < 4 := fun z => g1 (.inl z)
        have g4 : ¬ (k = 4 ∨ k = 5 ∨ k = 6 ∨ k = 9 ∨ k = 12) := fun z => g1 (.inr ⟨g2, z⟩)
        simp [g2, g3, inI5, g4, k5]
      · have g3 : ¬ k < 4 := fun z => g1 (.inl z)
        simp [g2, g3]) ?_
    have g3 : 4 ≤ k := Classical.byContradiction fun z => g1 (.inl (by omega))
    by_cases c1 : k = 4 ∨ k = 12
    · have en : e ≠ "" := fun z => g1 (.inr ⟨z, by omega⟩)
      refine RunF.of (r' := .ok (.ret (Rw.part dd e nx m a).D) [.val (.obj (n + 8)), .val (poolsD men lands w), .val (.lst [.int x0, .int x1, .int x2, .int x3, .int x4, .int x5, .int x6, .int x7]), .val (.int dd), .val (.lst (men.map D.str)), .val (.lst (lands.map D.str)), .val (.lst ((srtS B.L.ks).map D.str)), .val (.str e), .val (.str m), .val (.lst ((free B lands).map D.str)), .val (.str nx), .val (.int ac), .val (.int a), .val (.int k), .emp, .emp] S) ?_ ⟨rfl, .part dd e nx m a, (⟨rfl, he, en, hnx, hm, a1, a2⟩ : (Rw.part dd e nx m a).fit men lands B dd), rfl⟩
      rcases c1 with rfl | rfl <;> simp [k6, Rw.D]
    have c1a : ¬ k = 4 := fun z => c1 (.inl z)
    have c1b : ¬ k = 12 := fun z => c1 (.inr z)
    refine RunF_step (σ1 := [.val (.obj (n + 8)), .val (poolsD men lands w), .val (.lst [.int x0, .int x1, .int x2, .int x3, .int x4, .int x5, .int x6, .int x7]), .val (.int dd), .val (.lst (men.map D.str)), .val (.lst (lands.map D.str)), .val (.lst ((srtS B.L.ks).map D.str)), .val (.str e), .val (.str m), .val (.lst ((free B lands).map D.str)), .val (.str nx), .val (.int ac), .val (.int a), .val (.int k), .emp, .emp]) (S1 := S) (by simp [c1a, c1b]) ?_
    by_cases c2 : k < 7
    · have en : e ≠ "" := fun z => g1 (.inr ⟨z, by omega⟩)
      refine RunF.of (r' := .ok (.ret (Rw.convey dd e m).D) [.val (.obj (n + 8)), .val (poolsD men lands w), .val (.lst [.int x0, .int x1, .int x2, .int x3, .int x4, .int x5, .int x6, .int x7]), .val (.int dd), .val (.lst (men.map D.str)), .val (.lst (lands.map D.str)), .val (.lst ((srtS B.L.ks).map D.str)), .val (.str e), .val (.str m), .val (.lst ((free B lands).map D.str)), .val (.str nx), .val (.int ac), .val (.int a), .val (.int k), .emp, .emp] S) ?_ ⟨rfl, .convey dd e m, (⟨rfl, he, en, hm⟩ : (Rw.convey dd e m).fit men lands B dd), rfl⟩
      simp [k4, c2, Rw.D]
    refine RunF_step (σ1 := [.val (.obj (n + 8)), .val (poolsD men lands w), .val (.lst [.int x0, .int x1, .int x2, .int x3, .int x4, .int x5, .int x6, .int x7]), .val (.int dd), .val (.lst (men.map D.str)), .val (.lst (lands.map D.str)), .val (.lst ((srtS B.L.ks).map D.str)), .val (.str e), .val (.str m), .val (.lst ((free B lands).map D.str)), .val (.str nx), .val (.int ac), .val (.int a), .val (.int k), .emp, .emp]) (S1 := S) (by simp [c2]) ?_
    by_cases c3 : k = 7 ∨ k = 11
    · have hot : (dLc (iLst (dVar 4)) (gN 15) lt__law_row_3 le__law_row_4 [15]) [.val (.obj (n + 8)), .val (poolsD men lands w), .val (.lst [.int x0, .int x1, .int x2, .int x3, .int x4, .int x5, .int x6, .int x7]), .val (.int dd), .val (.lst (men.map D.str)), .val (.lst (lands.map D.str)), .val (.lst ((srtS B.L.ks).map D.str)), .val (.str e), .val (.str m), .val (.lst ((free B lands).map D.str)), .val (.str nx), .val (.int ac), .val (.int a), .val (.int k), .emp, .emp] S = .ok (.lst ((men.filter fun y => !decide (y = m)).map D.str)) [.val (.obj (n + 8)), .val (poolsD men lands w), .val (.lst [.int x0, .int x1, .int x2, .int x3, .int x4, .int x5, .int x6, .int x7]), .val (.int dd), .val (.lst (men.map D.str)), .val (.lst (lands.map D.str)), .val (.lst ((srtS B.L.ks).map D.str)), .val (.str e), .val (.str m), .val (.lst ((free B lands).map D.str)), .val (.str nx), .val (.int ac), .val (.int a), .val (.int k), .emp, .emp] S := by
        refine lc_strs (l := men) (fun y => !decide (y = m)) D.str (by simp) rfl (by rw [lm]; decide) (fun y hy => ?_)
        simp [wipeD, lt__law_row_3, le__law_row_4]
      have hF : (men.filter fun y => !decide (y = m)) ≠ [] := by
        obtain ⟨y, hy, yn⟩ : ∃ y ∈ men, y ≠ m := by
          match men, lm, P.dm with
          | [a, b, c, d, e, f], _, dm =>
            by_cases z : a = m
            · refine ⟨b, by simp, fun z2 => ?_⟩
              simp only [List.nodup_cons, List.mem_cons, not_or] at dm
              exact dm.1.1 (z.trans z2.symm)
            · exact ⟨a, by simp, z⟩
        exact List.ne_nil_of_mem (List.mem_filter.mpr ⟨hy, by simp [yn]⟩)
      obtain ⟨h, hh, ph⟩ := picks (l := men.filter fun y => !decide (y = m)) x3 hF
      have hh2 := List.mem_filter.mp hh
      have hFl : 0 < (men.filter fun y => !decide (y = m)).length := List.length_pos_iff.mpr hF
      have ft : (Rw.heir dd m h).fit men lands B dd := ⟨rfl, hm, hh2.1, by simpa using hh2.2⟩
      generalize (men.filter fun y => !decide (y = m)) = FF at *
      have st1 : (sSet 14 (dLc (iLst (dVar 4)) (gN 15) lt__law_row_3 le__law_row_4 [15])) [.val (.obj (n + 8)), .val (poolsD men lands w), .val (.lst [.int x0, .int x1, .int x2, .int x3, .int x4, .int x5, .int x6, .int x7]), .val (.int dd), .val (.lst (men.map D.str)), .val (.lst (lands.map D.str)), .val (.lst ((srtS B.L.ks).map D.str)), .val (.str e), .val (.str m), .val (.lst ((free B lands).map D.str)), .val (.str nx), .val (.int ac), .val (.int a), .val (.int k), .emp, .emp] S = .ok .next [.val (.obj (n + 8)), .val (poolsD men lands w), .val (.lst [.int x0, .int x1, .int x2, .int x3, .int x4, .int x5, .int x6, .int x7]), .val (.int dd), .val (.lst (men.map D.str)), .val (.lst (lands.map D.str)), .val (.lst ((srtS B.L.ks).map D.str)), .val (.str e), .val (.str m), .val (.lst ((free B lands).map D.str)), .val (.str nx), .val (.int ac), .val (.int a), .val (.int k), .val (.lst (FF.map D.str)), .emp] S := by rw [sSet_def, dV_def, hot]; rfl
      refine RunF.of (r' := .ok (.ret (Rw.heir dd m h).D) [.val (.obj (n + 8)), .val (poolsD men lands w), .val (.lst [.int x0, .int x1, .int x2, .int x3, .int x4, .int x5, .int x6, .int x7]), .val (.int dd), .val (.lst (men.map D.str)), .val (.lst (lands.map D.str)), .val (.lst ((srtS B.L.ks).map D.str)), .val (.str e), .val (.str m), .val (.lst ((free B lands).map D.str)), .val (.str nx), .val (.int ac), .val (.int a), .val (.int k), .val (.lst (FF.map D.str)), .emp] S) ?_ ⟨rfl, .heir dd m h, ft, rfl⟩
      have st2 : (sSeq (sSet 14 (dLc (iLst (dVar 4)) (gN 15) lt__law_row_3 le__law_row_4 [15])) (sRet (dTup (aCons (dC (.str "heir")) (aCons (dVar 3) (aCons (dVar 8) (aCons (d2 opIx (dVar 14) (d2 opMod (d2 opIx (dVar 2) (dC (.int 3))) (d1 opLen (dVar 14)))) aNil))))))) [.val (.obj (n + 8)), .val (poolsD men lands w), .val (.lst [.int x0, .int x1, .int x2, .int x3, .int x4, .int x5, .int x6, .int x7]), .val (.int dd), .val (.lst (men.map D.str)), .val (.lst (lands.map D.str)), .val (.lst ((srtS B.L.ks).map D.str)), .val (.str e), .val (.str m), .val (.lst ((free B lands).map D.str)), .val (.str nx), .val (.int ac), .val (.int a), .val (.int k), .emp, .emp] S = .ok (.ret (Rw.heir dd m h).D) [.val (.obj (n + 8)), .val (poolsD men lands w), .val (.lst [.int x0, .int x1, .int x2, .int x3, .int x4, .int x5, .int x6, .int x7]), .val (.int dd), .val (.lst (men.map D.str)), .val (.lst (lands.map D.str)), .val (.lst ((srtS B.L.ks).map D.str)), .val (.str e), .val (.str m), .val (.lst ((free B lands).map D.str)), .val (.str nx), .val (.int ac), .val (.int a), .val (.int k), .val (.lst (FF.map D.str)), .emp] S := by
        rw [sSeq_next st1]
        simp [atI3', hFl, ph, k4, Rw.D]
      have st3 : (tOr (tVal (d2 opEq' (dVar 13) (dC (.int 7)))) (tVal (d2 opEq' (dVar 13) (dC (.int 11))))) [.val (.obj (n + 8)), .val (poolsD men lands w), .val (.lst [.int x0, .int x1, .int x2, .int x3, .int x4, .int x5, .int x6, .int x7]), .val (.int dd), .val (.lst (men.map D.str)), .val (.lst (lands.map D.str)), .val (.lst ((srtS B.L.ks).map D.str)), .val (.str e), .val (.str m), .val (.lst ((free B lands).map D.str)), .val (.str nx), .val (.int ac), .val (.int a), .val (.int k), .emp, .emp] S = .ok true [.val (.obj (n + 8)), .val (poolsD men lands w), .val (.lst [.int x0, .int x1, .int x2, .int x3, .int x4, .int x5, .int x6, .int x7]), .val (.int dd), .val (.lst (men.map D.str)), .val (.lst (lands.map D.str)), .val (.lst ((srtS B.L.ks).map D.str)), .val (.str e), .val (.str m), .val (.lst ((free B lands).map D.str)), .val (.str nx), .val (.int ac), .val (.int a), .val (.int k), .emp, .emp] S := by
        rcases c3 with rfl | rfl <;> simp
      rw [sSeq_def, sIf_def, st3]
      simp only [Res.bind_ok, if_true]
      rw [st2]
      rfl
    have c3a : ¬ k = 7 := fun z => c3 (.inl z)
    have c3b : ¬ k = 11 := fun z => c3 (.inr z)
    refine RunF_step (σ1 := [.val (.obj (n + 8)), .val (poolsD men lands w), .val (.lst [.int x0, .int x1, .int x2, .int x3, .int x4, .int x5, .int x6, .int x7]), .val (.int dd), .val (.lst (men.map D.str)), .val (.lst (lands.map D.str)), .val (.lst ((srtS B.L.ks).map D.str)), .val (.str e), .val (.str m), .val (.lst ((free B lands).map D.str)), .val (.str nx), .val (.int ac), .val (.int a), .val (.int k), .emp, .emp]) (S1 := S) (by simp [c3a, c3b]) ?_
    by_cases c4 : k = 8
    · obtain ⟨l, hl1, hl2, el⟩ := lord_for_ok A W hl P m0 x3
      refine RunF.of (r' := .ok (.ret (Rw.liege dd m l).D) [.val (.obj (n + 8)), .val (poolsD men lands w), .val (.lst [.int x0, .int x1, .int x2, .int x3, .int x4, .int x5, .int x6, .int x7]), .val (.int dd), .val (.lst (men.map D.str)), .val (.lst (lands.map D.str)), .val (.lst ((srtS B.L.ks).map D.str)), .val (.str e), .val (.str m), .val (.lst ((free B lands).map D.str)), .val (.str nx), .val (.int ac), .val (.int a), .val (.int k), .emp, .emp] S) ?_ ⟨rfl, .liege dd m l, (⟨rfl, hm, hl2, hl1⟩ : (Rw.liege dd m l).fit men lands B dd), rfl⟩
      simp [c4, atI3', el, k4, Rw.D]
    refine RunF_step (σ1 := [.val (.obj (n + 8)), .val (poolsD men lands w), .val (.lst [.int x0, .int x1, .int x2, .int x3, .int x4, .int x5, .int x6, .int x7]), .val (.int dd), .val (.lst (men.map D.str)), .val (.lst (lands.map D.str)), .val (.lst ((srtS B.L.ks).map D.str)), .val (.str e), .val (.str m), .val (.lst ((free B lands).map D.str)), .val (.str nx), .val (.int ac), .val (.int a), .val (.int k), .emp, .emp]) (S1 := S) (by simp [c4]) ?_
    by_cases c5 : k = 9
    · have en : e ≠ "" := fun z => g1 (.inr ⟨z, by omega⟩)
      refine RunF.of (r' := .ok (.ret (Rw.surr dd e).D) [.val (.obj (n + 8)), .val (poolsD men lands w), .val (.lst [.int x0, .int x1, .int x2, .int x3, .int x4, .int x5, .int x6, .int x7]), .val (.int dd), .val (.lst (men.map D.str)), .val (.lst (lands.map D.str)), .val (.lst ((srtS B.L.ks).map D.str)), .val (.str e), .val (.str m), .val (.lst ((free B lands).map D.str)), .val (.str nx), .val (.int ac), .val (.int a), .val (.int k), .emp, .emp] S) ?_ ⟨rfl, .surr dd e, (⟨rfl, he, en⟩ : (Rw.surr dd e).fit men lands B dd), rfl⟩
      simp [c5, k3, Rw.D]
    refine RunF.of (r' := .ok (.ret (Rw.death dd m).D) [.val (.obj (n + 8)), .val (poolsD men lands w), .val (.lst [.int x0, .int x1, .int x2, .int x3, .int x4, .int x5, .int x6, .int x7]), .val (.int dd), .val (.lst (men.map D.str)), .val (.lst (lands.map D.str)), .val (.lst ((srtS B.L.ks).map D.str)), .val (.str e), .val (.str m), .val (.lst ((free B lands).map D.str)), .val (.str nx), .val (.int ac), .val (.int a), .val (.int k), .emp, .emp] S) ?_ ⟨rfl, .death dd m, (⟨rfl, hm⟩ : (Rw.death dd m).fit men lands B dd), rfl⟩
    simp [c5, k3, Rw.D]
  obtain ⟨v, S', e, rfl, r, hr, rfl⟩ := hp.ex
  exact ⟨r, hr, e⟩
end
end MR
set_option Elab.async false
set_option linter.all false
set_option maxRecDepth 100000
set_option exponentiation.threshold 30000
namespace MR
open PySem
section
variable {S : Sto} {n t : Nat} {B : Bk} {tot : Int} {men lands : List Str} {w : Int} {x0 x1 x2 x3 x4 x5 x6 x7 : Int}
theorem frz_row (r : Rw) : frz r.D = fun σ S => .ok r.D σ S := by cases r <;> rfl
end
end MR
set_option Elab.async false
set_option linter.all false
set_option maxRecDepth 100000
set_option exponentiation.threshold 30000
namespace MR
open PySem
theorem eq_nil {l : List Str} (hs : ∀ x ∈ l, PyData.strOk x = true) : opEq' (.lst (l.map D.str)) (.lst []) = some (.bl (decide (l = []))) := by
  cases l with
  | nil => exact opEq_self (n := 1) rfl (by decide)
  | cons x l =>
    rw [opEq_ne (n := 1) (m := 1) (gr_strs hs) rfl (by decide) (by decide) (by intro z; cases z)]
    rfl
section
variable {S : Sto} {n t : Nat} {B : Bk} {tot : Int} {men lands kk : List Str} {w : Int} {x0 x1 x2 x3 x4 x5 x6 x7 : Int}
end
end MR
set_option Elab.async false
set_option linter.all false
set_option maxRecDepth 100000
set_option exponentiation.threshold 30000
namespace MR
open PySem
theorem ranGet {n : Nat} {i : Nat} {d : D} (hi : (ran 0 (n : Int))[i]? = some d) : i < n ∧ d = .int (i : Nat) := by
  have hin : i < n := by
    have := (List.getElem?_eq_some_iff.mp hi).1
    simp [ran] at this
    omega
  refine ⟨hin, ?_⟩
  unfold ran at hi
  rw [List.getElem?_map] at hi
  obtain ⟨k, hk, rfl⟩ := Option.map_eq_some_iff.mp hi
  rw [List.getElem?_range (by omega)] at hk
  cases hk
  simp
theorem ran_len (n : Nat) : (ran 0 (n : Int)).length = n := by simp [ran]
section
variable {S S' : Sto} {r a b c d n t : Nat} {B : Bk} {L : Ld} {tot : Int} {men lands kk : List Str} {w : Int}
theorem LandAt.off (A : LandAt S r a b c d false false L) {fp : List Nat} (o : Off fp S S') (h : ∀ i ∈ [r, a, b, c, d], i ∉ fp) : LandAt S' r a b c d false false L :=
  ⟨by rw [o.off _ (h _ (by simp))]; exact A.o, by rw [o.off _ (h _ (by simp))]; exact A.l, by rw [o.off _ (h _ (by simp))]; exact A.h, by rw [o.off _ (h _ (by simp))]; exact A.w, by rw [o.off _ (h _ (by simp))]; exact A.s, A.nd⟩
theorem BookAt.off (A : BookAt S n false false B) {fp : List Nat} (o : Off fp S S') (h : ∀ i ∈ fp9 n, i ∉ fp) : BookAt S' n false false B :=
  ⟨by rw [o.off _ (h _ (by simp))]; exact A.c0, by rw [o.off _ (h _ (by simp))]; exact A.c1, by rw [o.off _ (h _ (by simp))]; exact A.c2, by rw [o.off _ (h _ (by simp))]; exact A.c3, by rw [o.off _ (h _ (by simp))]; exact A.c4, by rw [o.off _ (h _ (by simp))]; exact A.c5, by rw [o.off _ (h _ (by simp))]; exact A.c6, by rw [o.off _ (h _ (by simp))]; exact A.c7, by rw [o.off _ (h _ (by simp))]; exact A.c8⟩
structure Wrld (S : Sto) (r a b c d n : Nat) (B : Bk) (t : Nat) (tot : Int) : Prop where
  A : LandAt S r a b c d false false B.L
  K : BookAt S n false false B
  Z : Sound B t tot
  dis : ∀ i ∈ [r, a, b, c, d], i ∉ fp9 n
theorem eight {ds : List Int} (h : ds.length = 8) : ∃ x0 x1 x2 x3 x4 x5 x6 x7, ds.map D.int = [.int x0, .int x1, .int x2, .int x3, .int x4, .int x5, .int x6, .int x7] := by
  match ds, h with
  | [x0, x1, x2, x3, x4, x5, x6, x7], _ => exact ⟨x0, x1, x2, x3, x4, x5, x6, x7, rfl⟩
theorem Sound.up (Z : Sound B t tot) : Sound B (t + 1) tot := ⟨Z.W, Z.N.mono (by omega), by have := Z.len; omega, Z.kn, by have := Z.kl; omega, Z.tt⟩
end
end MR
set_option Elab.async false
set_option linter.all false
set_option maxRecDepth 100000
set_option exponentiation.threshold 30000
namespace MR
open PySem
def L0 (w : Int) : Ld := ⟨[("", none)], [("", "")], [("", w)], [("", (0, 1))]⟩
def B0 (w : Int) : Bk := ⟨L0 w, [], [], [], []⟩
def bookC9 (k : Nat) (w : Int) : Sto := [.con false (.dK [(.inr "", .non)]), .con false (.dK [(.inr "", .str "")]), .con false (.dK [(.inr "", .int w)]), .con false (.dK [(.inr "", .tup [.int 0, .int 1])]), .con false (.lst []), .con false (.dK []), .con false (.lst []), .con false (.dK [])]
theorem book9_ok (w : Int) (S : Sto) : m__law_book_v2 [.int w] S = .ok (.dK (bkD S.length)) (S ++ bookC9 S.length w) := by
  refine dDef_ret (σ' := [.val (.int w)]) ?_
  have m0 : 0 ≤ most := by decide
  have m2 : 2 ≤ most := by decide
  have p : ∀ (k : Kk) (w : D), putD ([] : List (Kk × D)) k w = [(k, w)] := fun _ _ => rfl
  have e : bkD S.length = mergeD [] [(.inr "lords", .obj S.length), (.inr "holders", .obj (S.length + 1)), (.inr "own", .obj (S.length + 2)), (.inr "due", .obj (S.length + 3)), (.inr "known", .obj (S.length + 4)), (.inr "heirs", .obj (S.length + 5)), (.inr "dead", .obj (S.length + 6)), (.inr "lieges", .obj (S.length + 7))] := rfl
  rw [e]
  simp [b__law_book_v2, bookC9, m0, m2, p]
theorem wf0 (w : Int) : Wf (L0 w) := by
  refine ⟨rfl, rfl, rfl, ?_, rfl, ?_, ?_, ?_, ?_⟩
  · show ([("" : Str)]).Nodup
    simp
  · intro k h
    have := aval_some_iff.mp (show (aval (L0 w).lords k).isSome = true by rw [h]; rfl)
    exact List.mem_singleton.mp this
  · intro k p h
    have h1 := aval_some_iff.mp (show (aval (L0 w).lords k).isSome = true by rw [h]; rfl)
    rw [List.mem_singleton.mp h1] at h
    cases h
  · intro k hk
    rw [List.mem_singleton.mp hk]
    show PyData.strOk "" = true
    decide +kernel
  · intro k hk
    rw [List.mem_singleton.mp hk]
    show PyData.strOk "" = true
    decide +kernel
theorem sound0 {w : Int} (h1 : 1 ≤ w) (h2 : w ≤ 9999) : Sound (B0 w) 0 w := by
  refine ⟨wf0 w, ⟨?_, ?_, ?_⟩, Nat.le_refl _, ?_, Nat.le_refl _, by omega⟩
  · intro p hp
    rw [List.mem_singleton.mp hp]
    show 0 ≤ w
    omega
  · show ([w] : List Int).sum = w
    simp
  · intro p hp
    rw [List.mem_singleton.mp hp]
    exact ⟨by show (0 : Int).natAbs < 2 ^ 20; decide, by show (1 : Int).natAbs < 2 ^ 20; decide, by show (0 : Int) < 1; decide⟩
  · intro k hk k0
    exact absurd (List.mem_singleton.mp hk) k0
end MR
set_option Elab.async false
set_option linter.all false
set_option maxRecDepth 100000
set_option exponentiation.threshold 30000
namespace MR
open PySem
section
variable {L : Ld} {k : Nat} {tot : Int}
end
end MR
set_option Elab.async false
set_option linter.all false
set_option maxRecDepth 100000
set_option exponentiation.threshold 30000
namespace MR
open PySem
def seqK (g : DS) (r : Res Fl) : Res Fl := r.bind fun x σ S => match x with
  | .next => g σ S
  | x => .ok x σ S
@[simp] theorem seqK_next {g : DS} {σ : Sl} {S : Sto} : seqK g (.ok .next σ S) = g σ S := rfl
@[simp] theorem seqK_ret {g : DS} {w : D} {σ : Sl} {S : Sto} : seqK g (.ok (.ret w) σ S) = .ok (.ret w) σ S := rfl
@[simp] theorem seqK_exc {g : DS} {e : Exn} {σ : Sl} {S : Sto} : seqK g (.exc e σ S) = .exc e σ S := rfl
theorem RunF_seq {f g : DS} {σ : Sl} {S : Sto} {P : D → Sto → Prop} {r : Res Fl} (h : f σ S = r) (k : RunF (seqK g r) P) : RunF (sSeq f g σ S) P := by
  rw [sSeq_def, h]
  exact k
theorem run_seq {f g : DS} {σ : Sl} {S : Sto} {r r' : Res Fl} (h : f σ S = r) (k : seqK g r = r') : sSeq f g σ S = r' := by
  rw [sSeq_def, h]
  exact k
theorem Ret_def {n : Nat} {f : DS} {ws : List D} {S : Sto} {P : D → Sto → Prop} {σ : Sl} (e : ws.map Slot.val ++ List.replicate (n - ws.length) .emp = σ) (h : RunF (f σ S) P) : Ret (dDef n f ws S) P := by
  rw [ret_dDef, e]
  exact h
theorem dDef_exc {n : Nat} {f : DS} {ws : List D} {S S' : Sto} {e : Exn} {σ' : Sl} (h : f (ws.map Slot.val ++ List.replicate (n - ws.length) .emp) S = .exc e σ' S') : dDef n f ws S = .exc e S' := by
  unfold dDef
  rw [h]
end MR
set_option Elab.async false
set_option linter.all false
set_option maxRecDepth 100000
set_option exponentiation.threshold 30000
namespace MR
open PySem
section
variable {rs : List String} {fb : DS} {c k : String} {i : Nat} {fs : Addr → Exn → DS} {σ σ1 σ2 : Sl} {S S1 S2 : Sto} {f : Fl}
@[simp] theorem dIsE_at {a : Addr} {r : String} (h : σ[i]? = some (.exn a)) : dIsE a i r c σ S = .ok (.bl (excSub r c)) σ S := by
  unfold dIsE
  rw [h]
  exact if_pos rfl
end
theorem nodup_len {α : Type} [DecidableEq α] : ∀ {l m : List α}, l.Nodup → (∀ x ∈ l, x ∈ m) → l.length ≤ m.length
  | [], _, _, _ => Nat.zero_le _
  | x :: l, m, hn, hs => by
    have h := List.nodup_cons.mp hn
    have hx := hs x List.mem_cons_self
    have ih := nodup_len (l := l) (m := m.erase x) h.2 fun y hy => (List.mem_erase_of_ne (fun z : y = x => h.1 (z ▸ hy))).mpr (hs y (List.mem_cons_of_mem _ hy))
    rw [List.length_erase_of_mem hx] at ih
    have : 0 < m.length := List.length_pos_of_mem hx
    rw [List.length_cons]
    omega
section
variable {S : Sto} {r a b c d : Nat} {la lb : Bool} {L : Ld} {e : Str}
theorem LandAt.grow (A : LandAt S r a b c d la lb L) (X : Sto) : LandAt (S ++ X) r a b c d la lb L := by
  have g : ∀ {i : Nat} {o : Ob}, S[i]? = some o → (S ++ X)[i]? = some o := fun {i o} h => by
    rw [List.getElem?_append_left (List.getElem?_eq_some_iff.mp h).1]; exact h
  exact ⟨g A.o, g A.l, g A.h, g A.w, g A.s, A.nd⟩
end
theorem BookAt.grow {S : Sto} {n : Nat} {la lb : Bool} {B : Bk} (A : BookAt S n la lb B) (X : Sto) : BookAt (S ++ X) n la lb B := by
  have g : ∀ {i : Nat} {o : Ob}, S[i]? = some o → (S ++ X)[i]? = some o := fun {i o} h => by
    rw [List.getElem?_append_left (List.getElem?_eq_some_iff.mp h).1]; exact h
  exact ⟨g A.c0, g A.c1, g A.c2, g A.c3, g A.c4, g A.c5, g A.c6, g A.c7, g A.c8⟩
theorem Wrld.grow {S : Sto} {r a b c d n : Nat} {B : Bk} {t : Nat} {tot : Int} (A : Wrld S r a b c d n B t tot) (X : Sto) : Wrld (S ++ X) r a b c d n B t tot := ⟨A.A.grow X, A.K.grow X, A.Z, A.dis⟩
def HeldBy (men : List Str) (B : Bk) : Prop := ∀ m : Str, m ∈ B.L.hold.map (·.2) → m = "" ∨ m ∈ men
theorem vals_drop {l : List (Str × Str)} {k : Str} {P : Str → Prop} (h : ∀ x ∈ l.map (·.2), P x) : ∀ x ∈ (adrop l k).map (·.2), P x := fun x hx => by
  obtain ⟨p, hp, rfl⟩ := List.mem_map.mp hx
  exact h _ (List.mem_map.mpr ⟨p, (List.mem_filter.mp hp).1, rfl⟩)
theorem HeldBy.act {men lands : List Str} {B : Bk} {q : Rw} {dd : Int} (h : HeldBy men B) (f : q.fit men lands B dd) (hl : q.lands = true) : HeldBy men (B.actL q) := by
  cases q with
  | grant d e n m x s => obtain ⟨_, _, _, h2, _⟩ := f; exact vals_put (P := fun m => m = "" ∨ m ∈ men) h (.inr h2)
  | part d e n m x => obtain ⟨_, _, _, _, h2, _⟩ := f; exact vals_put (P := fun m => m = "" ∨ m ∈ men) h (.inr h2)
  | convey d e m => obtain ⟨_, _, _, h2⟩ := f; exact vals_put (P := fun m => m = "" ∨ m ∈ men) h (.inr h2)
  | surr d e =>
    exact vals_drop (P := fun m => m = "" ∨ m ∈ men) h
  | _ => cases hl
end MR
set_option Elab.async false
set_option linter.all false
set_option maxRecDepth 100000
set_option exponentiation.threshold 30000
namespace MR
open PySem
def Rw.day : Rw → Int
  | .heir d _ _ => d | .grant d _ _ _ _ _ => d | .part d _ _ _ _ => d | .convey d _ _ => d | .liege d _ _ => d | .surr d _ => d | .death d _ => d
def Rw.kd : Rw → Str
  | .heir .. => "heir" | .grant .. => "grant" | .part .. => "part" | .convey .. => "convey" | .liege .. => "liege" | .surr .. => "surrender" | .death .. => "death"
def Rw.ix : Rw → Nat
  | .heir .. => 0 | .grant .. => 1 | .part .. => 2 | .convey .. => 3 | .liege .. => 4 | .surr .. => 5 | .death .. => 6
theorem Rw.D_inj {a b : Rw} (h : a.D = b.D) : a = b := by
  cases a <;> cases b <;> simp [Rw.D] at h <;> first | (simp [h]; done) | skip
def Rw.dat : Rw → List PyData
  | .heir d m h => [.str "heir", .int d, .str m, .str h]
  | .grant d e n m a s => [.str "grant", .int d, .str e, .str n, .str m, .int a, .int s]
  | .part d e n m a => [.str "part", .int d, .str e, .str n, .str m, .int a]
  | .convey d e m => [.str "convey", .int d, .str e, .str m]
  | .liege d m l => [.str "liege", .int d, .str m, .str l]
  | .surr d e => [.str "surrender", .int d, .str e]
  | .death d m => [.str "death", .int d, .str m]
theorem Rw.dat_eq (r : Rw) : toData r.D = some (.tuple r.dat) := by cases r <;> rfl
def Rw.key (r : Rw) : PyData := .tuple [.int r.day, .int r.ix, .tuple r.dat]
def Rw.lt (r q : Rw) : Bool := PySem.W.dataLt r.key q.key
theorem alike_dat (a b : Rw) : PySem.W.alike (.tuple a.dat) (.tuple b.dat) = true := by
  cases a <;> cases b <;> simp [Rw.dat, PySem.W.alike, PySem.W.alikeAll]
theorem alike_key (a b : Rw) : PySem.W.alike a.key b.key = true := by
  have := alike_dat a b
  simp only [Rw.key, PySem.W.alike, PySem.W.alikeAll] at this ⊢
  simp [this]
theorem Rw.lt_irrefl (a : Rw) : a.lt a = false := PyProof.Rows.lex_irrefl _
theorem Rw.lt_trans {a b c : Rw} (h : a.lt b = true) (h2 : b.lt c = true) : a.lt c = true := PyProof.Rows.lex_trans _ _ _ h h2
theorem toks_eq {x y : PyData} (ha : PySem.W.alike x y = true) (h : PySem.W.keyToks x = PySem.W.keyToks y) : PyData.eqv x y = true := by
  cases e : PyData.eqv x y with
  | true => rfl
  | false =>
    have q := (PySem.W.toks_eqv x y ha).2 e [] [Sum.inl 0]
    rw [h, PySem.W.lex_pre] at q
    have q2 : PyProof.Rows.lexLt PyProof.Rows.itemOrd (PySem.W.keyToks y) (PySem.W.keyToks y) = false := PyProof.Rows.lex_irrefl _
    rw [q2] at q
    exact absurd q (by decide)
theorem dataLt_tail {x y : PyData} (h : PySem.W.alike x y = true) : PyProof.Rows.lexLt PyProof.Rows.itemOrd (PySem.W.keyToksAll [x]) (PySem.W.keyToksAll [y]) = PySem.W.dataLt x y := by
  rw [PySem.W.dataLt_cons h]
  split
  · rename_i e
    have q := (PySem.W.toks_eqv x y h).1 e
    unfold PySem.W.dataLt
    rw [q, PyProof.Rows.lex_irrefl, PyProof.Rows.lex_irrefl]
  · rfl
theorem lt_eq (a b : Rw) : a.lt b = if a.day = b.day then (if a.ix = b.ix then PySem.W.dataLt (.tuple a.dat) (.tuple b.dat) else decide (a.ix < b.ix)) else decide (a.day < b.day) := by
  unfold Rw.lt Rw.key
  rw [PySem.W.dataLt_tuple, PySem.W.dataLt_cons (by simp [PySem.W.alike]), PySem.W.dataLt_cons (by simp [PySem.W.alike]), dataLt_tail (alike_dat a b)]
  simp only [PySem.W.dataLt_int, PyData.eqv, beq_iff_eq, Int.natCast_inj, Int.ofNat_lt]
def Rw.sok (r : Rw) : Prop := gr 1 r.D = true
theorem Rw.total {a b : Rw} (ha : a.sok) (hb : b.sok) (h1 : a.lt b = false) (h2 : b.lt a = false) : a = b := by
  have e := PyProof.Rows.lex_total _ _ h1 h2
  have q := toks_eq (alike_key a b) e
  have q2 : PyData.eqv (.tuple a.dat) (.tuple b.dat) = true := by
    unfold Rw.key at q
    simp only [PyData.eqv, PyData.eqvAll, Bool.and_eq_true] at q ⊢
    exact q.2.2.1
  obtain ⟨z, hz, hi⟩ := deepEq_gr ha hb (by decide) (by decide)
  unfold deepEq at hz
  rw [Rw.dat_eq, Rw.dat_eq] at hz
  simp only [Option.bind_some] at hz
  split at hz
  · cases hz
    exact Rw.D_inj (hi.mp q2)
  · cases hz
def Asc (l : List Rw) : Prop := l.Pairwise fun a b => b.lt a = false
theorem asc_uniq : ∀ {l m : List Rw}, (∀ r ∈ l, r.sok) → Asc l → Asc m → l.Perm m → l = m
  | [], m, _, _, _, p => (List.Perm.eq_nil p.symm).symm
  | a :: l, [], _, _, _, p => absurd p.length_eq (by simp)
  | a :: l, b :: m, hs, ha, hb, p => by
    have ha' := List.pairwise_cons.mp ha
    have hb' := List.pairwise_cons.mp hb
    have e : a = b := by
      rcases List.mem_cons.mp (p.mem_iff.mp (List.mem_cons_self (a := a) (l := l))) with z | z
      · exact z
      · rcases List.mem_cons.mp (p.mem_iff.mpr (List.mem_cons_self (a := b) (l := m))) with y | y
        · exact y.symm
        · exact Rw.total (hs a List.mem_cons_self) (hs b (List.mem_cons_of_mem _ y)) (hb'.1 a z) (ha'.1 b y)
    subst e
    rw [asc_uniq (fun r hr => hs r (List.mem_cons_of_mem _ hr)) ha'.2 hb'.2 (List.Perm.cons_inv p)]
noncomputable def srtR (l : List Rw) : List Rw := l.mergeSort fun a b => !b.lt a
theorem srtR_perm (l : List Rw) : (srtR l).Perm l := List.mergeSort_perm _ _
theorem lt_asym {a b : Rw} (h : a.lt b = true) : b.lt a = false := by
  cases e : b.lt a with
  | false => rfl
  | true =>
    have := Rw.lt_trans h e
    rw [Rw.lt_irrefl] at this
    cases this
theorem lt_ntrans {a b c : Rw} (ha : a.sok) (hb : b.sok) (h1 : b.lt a = false) (h2 : c.lt b = false) : c.lt a = false := by
  cases e : c.lt a with
  | false => rfl
  | true =>
    cases e2 : a.lt b with
    | true => have := Rw.lt_trans e e2; rw [h2] at this; cases this
    | false => rw [Rw.total ha hb e2 h1] at e; rw [h2] at e; cases e
theorem srtR_asc {l : List Rw} (hs : ∀ r ∈ l, r.sok) : Asc (srtR l) := by
  have key : ∀ m : List {r : Rw // r.sok}, (m.mergeSort fun a b => !b.1.lt a.1).Pairwise fun a b => b.1.lt a.1 = false := fun m => by
    have h := List.pairwise_mergeSort (le := fun a b : {r : Rw // r.sok} => !b.1.lt a.1) (fun a b c h1 h2 => by
      simp only [Bool.not_eq_true'] at h1 h2 ⊢
      exact lt_ntrans a.2 b.2 h1 h2) (fun a b => by
      cases e : b.1.lt a.1 with
      | false => simp [e]
      | true => simp [e, lt_asym e]) m
    exact h.imp fun {a b} q => by simpa using q
  have e := sort_map (fun r : {r : Rw // r.sok} => r.1) (fun a b => !b.lt a) (l.attach.map fun x => ⟨x.1, hs x.1 x.2⟩)
  have e2 : (l.attach.map fun x => (⟨x.1, hs x.1 x.2⟩ : {r : Rw // r.sok})).map (fun r => r.1) = l := by
    rw [List.map_map]
    exact List.attach_map_subtype_val l
  rw [e2] at e
  unfold Asc srtR
  rw [← e]
  exact List.pairwise_map.mpr (key _)
def kinds7 : List Str := ["heir", "grant", "part", "convey", "liege", "surrender", "death"]
theorem deref_row (r : Rw) (σ : Sl) (S : Sto) : deref σ S r.D = some r.D := by cases r <;> rfl
theorem kinds_eq (S : Sto) : m__law_kinds [] S = .ok (.lst (kinds7.map D.str)) S := by
  have k7 : 7 ≤ most := by decide
  refine dDef_ret (σ' := []) ?_
  simp [b__law_kinds, k7, kinds7]
end MR
set_option Elab.async false
set_option linter.all false
set_option maxRecDepth 100000
set_option exponentiation.threshold 30000
namespace MR
open PySem
structure BkAt2 (S : Sto) (bk a : Nat) (wd : D) (bd h : List (Kk × D)) (dl : List Str) : Prop where
  o : S[bk]? = some (.con false (.dK bd))
  vh : valD bd (.inr "heirs") = some (.obj a)
  vd : valD bd (.inr "dead") = some wd
  dd : ∀ σ, deref σ S wd = some (.lst (dl.map D.str))
  h : S[a]? = some (.con false (.dK h))
section
variable {S : Sto} {bk a : Nat} {wd : D} {bd h : List (Kk × D)} {dl : List Str}
theorem BkAt2.d (B : BkAt2 S bk a wd bd h dl) (σ : Sl) : deref σ S (.obj bk) = some (.dK bd) := deref_obj B.o
theorem BkAt2.dh (B : BkAt2 S bk a wd bd h dl) (σ : Sl) : deref σ S (.obj a) = some (.dK h) := deref_obj B.h
theorem ltaker2_loop (B : BkAt2 S bk a wd bd h dl) (hs : SV' h) {man : Str} : ∀ (n : Nat) (pre : List Str) (last : Str) (res : Option Str) (s3 : Slot), tkF (nxt h) (fun x => decide (x ∈ dl)) n (pre ++ [last]) last = some res → pre.length + n ≤ 10000000 →
    ∃ σ' fl, sWhile wc__law_taker_1 wb__law_taker_2 n [.val (.obj bk), .val (.str man), .own (.lst ((pre ++ [last]).map D.str)), s3] S = .ok fl σ' S ∧ ((fl = .next ∧ res = none) ∨ fl = .ret (encO res))
  | 0, pre, last, res, _, e, _ => by cases e
  | n + 1, pre, last, res, s3, e, hn => by
    rw [tkF] at e
    have hat : L2.atI ((pre ++ [last]).map D.str) (-1) = some (.str last) := by rw [List.map_append]; exact L2.atI_last _ _
    have hml : ((pre ++ [last]).map D.str).length < most := by rw [List.length_map, List.length_append, List.length_singleton]; unfold most; omega
    have hin := fun x => opIn_strs x (pre ++ [last])
    have hmap : ∀ one, (pre ++ [last]).map D.str ++ [.str one] = ((pre ++ [last]) ++ [one]).map D.str := fun one => by rw [List.map_append (l₂ := [one])]; rfl
    have hnd := fun x => opNotIn_strs x dl
    have vh := B.vh
    have vd := B.vd
    have ns := nxt_some hs last
    cases ho : nxt h last with
    | none =>
      rw [ho] at e ns
      cases e
      generalize (pre ++ [last]).map D.str = ml at *
      exact ⟨[.val (.obj bk), .val (.str man), .own (.lst ml), s3], .next, sWhile_false (by simp [wc__law_taker_1, hat, B.d, vh, B.dh, ns]), .inl ⟨rfl, rfl⟩⟩
    | some one =>
      have hv := nxt_val ho
      rw [ho] at e ns
      have e : (if one ∈ pre ++ [last] then some none else if decide (one ∈ dl) = true then tkF (nxt h) (fun x => decide (x ∈ dl)) n ((pre ++ [last]) ++ [one]) one else some (some one)) = some res := e
      have hin := hin one
      have hnd := hnd one
      have hmap := hmap one
      have hc : wc__law_taker_1 [.val (.obj bk), .val (.str man), .own (.lst ((pre ++ [last]).map D.str)), s3] S = .ok true [.val (.obj bk), .val (.str man), .own (.lst ((pre ++ [last]).map D.str)), s3] S := by
        generalize (pre ++ [last]).map D.str = ml at *
        simp [wc__law_taker_1, hat, B.d, vh, B.dh, ns]
      by_cases hm : one ∈ pre ++ [last]
      · rw [if_pos hm] at e
        cases e
        refine ⟨[.val (.obj bk), .val (.str man), .own (.lst ((pre ++ [last]).map D.str)), .val (.str one)], .ret .non, sWhile_ret hc ?_, .inr rfl⟩
        rw [decide_eq_true hm] at hin
        clear hc hm
        generalize (pre ++ [last]).map D.str = ml at *
        simp [wb__law_taker_2, hat, B.d, vh, B.dh, hv, hin]
      · rw [if_neg hm] at e
        rw [decide_eq_false hm] at hin
        by_cases hd : one ∈ dl
        · rw [if_pos (decide_eq_true hd)] at e
          rw [decide_eq_true hd] at hnd
          obtain ⟨σ', fl, e2, q⟩ := ltaker2_loop B hs (man := man) n (pre ++ [last]) one res (.val (.str one)) e (by rw [List.length_append, List.length_singleton]; omega)
          refine ⟨σ', fl, ?_, q⟩
          rw [← e2]
          refine sWhile_next hc ?_
          rw [← hmap]
          clear hc hm e2 hmap e
          generalize (pre ++ [last]).map D.str = ml at *
          simp [wb__law_taker_2, hat, B.d, vh, B.dh, hv, hin, vd, B.dd, hnd, hml]
        · rw [if_neg (by simp [hd])] at e
          rw [decide_eq_false hd] at hnd
          cases e
          refine ⟨[.val (.obj bk), .val (.str man), .own (.lst ((pre ++ [last]).map D.str)), .val (.str one)], .ret (.str one), sWhile_ret hc ?_, .inr rfl⟩
          clear hc hm hmap
          generalize (pre ++ [last]).map D.str = ml at *
          simp [wb__law_taker_2, hat, B.d, vh, B.dh, hv, hin, vd, B.dd, hnd]
theorem ltaker2_eq (B : BkAt2 S bk a wd bd h dl) (hs : SV' h) {man : Str} {n : Nat} {res : Option Str} (e : tkF (nxt h) (fun x => decide (x ∈ dl)) n [man] man = some res) (hn : n ≤ 9999999) : m__law_taker [.obj bk, .str man] S = .ok (encO res) S := by
  obtain ⟨σ', fl, e2, q⟩ := ltaker2_loop B hs (man := man) n [] man res .emp e (by simp; omega)
  have e3 := sWhile_more e2 (Nat.le_trans (by omega : n ≤ 10000000) fuel_big)
  have e3 : sWhile wc__law_taker_1 wb__law_taker_2 fuel [.val (.obj bk), .val (.str man), .own (.lst [.str man]), .emp] S = .ok fl σ' S := e3
  have m1 : 1 ≤ most := by decide
  refine dDef_ex (w := encO res) ?_
  show ∃ σ', b__law_taker [.val (.obj bk), .val (.str man), .emp, .emp] S = _
  rcases q with ⟨rfl, rfl⟩ | rfl
  · exact ⟨σ', by simp [b__law_taker, m1, e3]; rfl⟩
  · exact ⟨σ', by simp [b__law_taker, m1, e3]⟩
end
theorem nxt_enc2 {hs : List (Str × Str)} : nxt (enc D.str hs) = fun x => aval hs x := by
  funext x
  unfold nxt
  rw [valD_enc]
  cases aval hs x <;> rfl
theorem sv_enc (hs : List (Str × Str)) : SV' (enc D.str hs) := fun k w e => by
  have hm : ∀ l : List (Str × Str), valD (enc D.str l) k = some w → ∃ y, w = .str y := by
    intro l
    induction l with
    | nil => intro e; cases e
    | cons p l ih =>
      intro e
      have e : valD ((.inr p.1, .str p.2) :: enc D.str l) k = some w := e
      rw [valD_cons] at e
      split at e
      · cases e; exact ⟨_, rfl⟩
      · exact ih e
  exact hm hs e
def tkr (hs : List (Str × Str)) (dead : List Str) (m : Str) : Option Str := (tkF (fun x => aval hs x) (fun x => decide (x ∈ dead)) (hs.length + 1) [m] m).getD none
theorem tkr_ok (hs : List (Str × Str)) (dead : List Str) (m : Str) : tkF (fun x => aval hs x) (fun x => decide (x ∈ dead)) (hs.length + 1) [m] m = some (tkr hs dead m) := by
  obtain ⟨res, e⟩ := tkF_ends (nx := fun x => aval hs x) (dead := fun x => decide (x ∈ dead)) (vs := hs.map (·.2)) (fun x y h => List.mem_map.mpr ⟨_, aval_mem h, rfl⟩) (hs.length + 1) [m] m (fun _ _ _ => trivial) (Nat.lt_succ_of_le (Nat.le_trans (List.length_filter_le ..) (by rw [List.length_map]; exact Nat.le_refl _)))
  unfold tkr
  rw [e]
  rfl
theorem tkF_in {nx : Str → Option Str} {dead : Str → Bool} {P : Str → Prop} (hv : ∀ x y, nx x = some y → P y) : ∀ (n : Nat) (met : List Str) (last : Str) (x : Str), tkF nx dead n met last = some (some x) → P x
  | 0, _, _, _, e => by cases e
  | n + 1, met, last, x, e => by
    rw [tkF] at e
    cases h : nx last with
    | none => rw [h] at e; cases e
    | some one =>
      rw [h] at e
      dsimp only at e
      split at e
      · cases e
      · split at e
        · exact tkF_in hv n _ _ x e
        · cases e; exact hv _ _ h
theorem tkr_in {hs : List (Str × Str)} {dead : List Str} {m x : Str} (e : tkr hs dead m = some x) : x ∈ hs.map (·.2) := by
  have h := tkr_ok hs dead m
  rw [e] at h
  exact tkF_in (P := fun x => x ∈ hs.map (·.2)) (fun a b q => List.mem_map.mpr ⟨_, aval_mem q, rfl⟩) _ _ _ _ h
def Ld.leave (t : Option Str) (L : Ld) (e : Str) : Ld := match t with
  | none => L.fall e ((L.lord e).getD "")
  | some x => L.convey e x
def Ld.bury (t : Option Str) : List Str → Ld → Ld
  | [], L => L
  | e :: es, L => Ld.bury t es (L.leave t e)
def Bk.act (B : Bk) : Rw → Bk
  | .heir _ m h => { B with heirs := aput B.heirs m h }
  | .liege _ m l => { B with lieges := aput B.lieges m l }
  | .death _ m => { B with dead := B.dead ++ [m], L := B.L.bury (tkr B.heirs (B.dead ++ [m]) m) (B.L.held m) }
  | r => B.actL r
theorem fall_ks {L : Ld} {e p : Str} : (L.fall e p).ks = L.ks.filter fun x => decide (x ≠ e) := by
  show keys (adrop (setAll L.lords (L.under e) (some p)) e) = _
  rw [keys_drop, setAll_keys]
structure LGood (L : Ld) (k : Nat) (tot : Int) : Prop where
  W : Wf L
  N : Nu L k tot
  hc : aval L.hold "" = some ""
theorem leave_good {L : Ld} {k : Nat} {tot : Int} (G : LGood L k tot) {t : Option Str} {e : Str} (he : e ∈ L.ks) (e0 : e ≠ "") (st : ∀ x, t = some x → PyData.strOk x = true) : LGood (L.leave t e) k tot ∧ ((L.leave t e).ks = L.ks ∨ (L.leave t e).ks = L.ks.filter fun x => decide (x ≠ e)) := by
  cases t with
  | none =>
    obtain ⟨p, hp, _⟩ := G.W.lord_ne he e0
    have ep : L.leave none e = L.fall e p := by show L.fall e ((L.lord e).getD "") = _; rw [hp]; rfl
    rw [ep]
    refine ⟨⟨G.W.fall hp, G.N.fall G.W hp, ?_⟩, .inr fall_ks⟩
    show aval (adrop L.hold e) "" = _
    rw [aval_drop, if_neg e0]
    exact G.hc
  | some x =>
    refine ⟨⟨G.W.convey he (st x rfl), G.N.convey, ?_⟩, .inl rfl⟩
    show aval (aput L.hold e x) "" = _
    rw [aval_put, if_neg e0]
    exact G.hc
theorem leave_in {L : Ld} {k : Nat} {tot : Int} (G : LGood L k tot) {t : Option Str} {e x : Str} (he : e ∈ L.ks) (e0 : e ≠ "") (st : ∀ x, t = some x → PyData.strOk x = true) (hx : x ∈ L.ks) (ne : x ≠ e) : x ∈ (L.leave t e).ks := by
  rcases (leave_good G he e0 st).2 with z | z
  · rw [z]; exact hx
  · rw [z, List.mem_filter]; exact ⟨hx, by simp [ne]⟩
theorem leave_sub {L : Ld} {k : Nat} {tot : Int} (G : LGood L k tot) {t : Option Str} {e : Str} (he : e ∈ L.ks) (e0 : e ≠ "") (st : ∀ x, t = some x → PyData.strOk x = true) : (∀ x ∈ (L.leave t e).ks, x ∈ L.ks) ∧ (L.leave t e).ks.length ≤ L.ks.length := by
  rcases (leave_good G he e0 st).2 with z | z
  · rw [z]; exact ⟨fun _ h => h, Nat.le_refl _⟩
  · rw [z]; exact ⟨fun x h => (List.mem_filter.mp h).1, List.length_filter_le ..⟩
theorem bury_good {k : Nat} {tot : Int} {t : Option Str} (st : ∀ x, t = some x → PyData.strOk x = true) : ∀ (es : List Str) (L : Ld), LGood L k tot → (∀ e ∈ es, e ∈ L.ks ∧ e ≠ "") → es.Nodup → LGood (L.bury t es) k tot ∧ (∀ x ∈ (L.bury t es).ks, x ∈ L.ks) ∧ (L.bury t es).ks.length ≤ L.ks.length
  | [], L, G, _, _ => ⟨G, fun _ h => h, Nat.le_refl _⟩
  | e :: es, L, G, h, hn => by
    have hn' := List.nodup_cons.mp hn
    obtain ⟨he, e0⟩ := h e List.mem_cons_self
    have G2 := (leave_good G he e0 st).1
    obtain ⟨s1, s2⟩ := leave_sub G he e0 st
    obtain ⟨q1, q2, q3⟩ := bury_good st es (L.leave t e) G2 (fun x hx => ⟨leave_in G he e0 st (h x (List.mem_cons_of_mem _ hx)).1 (fun z => hn'.1 (z ▸ hx)), (h x (List.mem_cons_of_mem _ hx)).2⟩) hn'.2
    exact ⟨q1, fun x hx => s1 x (q2 x hx), Nat.le_trans q3 s2⟩
structure Snd (B : Bk) (t : Nat) (tot : Int) : Prop where
  Z : Sound B t tot
  hc : aval B.L.hold "" = some ""
  dn : ("" : Str) ∉ B.dead
  dd : B.dead.Nodup
  kd : B.known.Nodup
  hl : B.heirs.length ≤ t
  dl : B.dead.length ≤ t
  ll : B.lieges.length ≤ t
  sh : ∀ p ∈ B.heirs, PyData.strOk p.2 = true
theorem aput_len {α : Type} {l : List (Str × α)} {k : Str} {v : α} : (aput l k v).length ≤ l.length + 1 := by
  unfold aput
  split
  · rw [List.length_map]; omega
  · rw [List.length_append]; simp
theorem held_nodup {L : Ld} (W : Wf L) (m : Str) : (L.held m).Nodup := by
  unfold Ld.held
  refine (srtS_perm _).nodup_iff.mpr (List.Pairwise.filter _ ?_)
  rw [W.kh]
  exact W.nd
theorem held_ks {L : Ld} (W : Wf L) {m k : Str} (h : k ∈ L.held m) : k ∈ L.ks := by
  rw [← W.kh]
  exact aval_some_iff.mp (by rw [mem_held.mp h]; rfl)
structure Rw.fine (r : Rw) : Prop where
  ok : r.ok
  dm : ∀ d m, r = .death d m → m ≠ ""
theorem held_ne {L : Ld} (hc : aval L.hold "" = some "") {m k : Str} (m0 : m ≠ "") (h : k ∈ L.held m) : k ≠ "" := fun z => by
  have := mem_held.mp h
  rw [z, hc] at this
  exact m0 (Option.some.inj this).symm
theorem Snd.up {B : Bk} {t : Nat} {tot : Int} (Z : Snd B t tot) : Snd B (t + 1) tot := ⟨Z.Z.up, Z.hc, Z.dn, Z.dd, Z.kd, by have := Z.hl; omega, by have := Z.dl; omega, by have := Z.ll; omega, Z.sh⟩
theorem Snd.act {B : Bk} {t : Nat} {tot : Int} (Z : Snd B t tot) {r : Rw} (f : r.fine) (h : B.why r = "stands") (ht : t < 60) : Snd (B.act r) (t + 1) tot := by
  have hl := Z.hl
  have dl := Z.dl
  have ll := Z.ll
  cases r with
  | heir d m x =>
    refine ⟨⟨Z.Z.up.W, Z.Z.up.N, Z.Z.up.len, Z.Z.up.kn, Z.Z.up.kl, Z.Z.up.tt⟩, Z.hc, Z.dn, Z.dd, Z.kd, ?_, by show B.dead.length ≤ _; omega, by show B.lieges.length ≤ _; omega, ?_⟩
    · show (aput B.heirs m x).length ≤ _
      have := aput_len (l := B.heirs) (k := m) (v := x)
      omega
    · exact mem_put (P := fun y => PyData.strOk y = true) Z.sh f.ok.h.2
  | liege d m x =>
    refine ⟨⟨Z.Z.up.W, Z.Z.up.N, Z.Z.up.len, Z.Z.up.kn, Z.Z.up.kl, Z.Z.up.tt⟩, Z.hc, Z.dn, Z.dd, Z.kd, by show B.heirs.length ≤ _; omega, by show B.dead.length ≤ _; omega, ?_, Z.sh⟩
    show (aput B.lieges m x).length ≤ _
    have := aput_len (l := B.lieges) (k := m) (v := x)
    omega
  | death d m =>
    have m0 := f.dm d m rfl
    unfold Bk.why at h
    obtain ⟨h1, _⟩ := stands_cases h (by decide)
    have G : LGood B.L (20 + 20 * (t + 1)) tot := ⟨Z.Z.W, Z.Z.up.N, Z.hc⟩
    obtain ⟨q1, q2, q3⟩ := bury_good (t := tkr B.heirs (B.dead ++ [m]) m) (fun x e => by
      obtain ⟨p, hp, rfl⟩ := List.mem_map.mp (tkr_in e)
      exact Z.sh p hp) (B.L.held m) B.L G (fun e he => ⟨held_ks Z.Z.W he, held_ne Z.hc m0 he⟩) (held_nodup Z.Z.W m)
    refine ⟨⟨q1.W, q1.N, ?_, ?_, ?_, Z.Z.tt⟩, q1.hc, ?_, ?_, Z.kd, by show B.heirs.length ≤ _; omega, ?_, by show B.lieges.length ≤ _; omega, Z.sh⟩
    · have := Z.Z.len
      show (B.L.bury _ _).ks.length ≤ _
      omega
    · exact fun k hk k0 => Z.Z.kn k (q2 k hk) k0
    · have := Z.Z.kl
      show B.known.length ≤ _
      omega
    · show ("" : Str) ∉ B.dead ++ [m]
      intro z
      rcases List.mem_append.mp z with z | z
      · exact Z.dn z
      · exact m0 (List.mem_singleton.mp z).symm
    · show (B.dead ++ [m]).Nodup
      refine List.nodup_append.mpr ⟨Z.dd, by simp, fun a ha b hb => ?_⟩
      rw [List.mem_singleton.mp hb]
      exact fun z => h1 (z ▸ ha)
    · show (B.dead ++ [m]).length ≤ _
      rw [List.length_append, List.length_singleton]
      omega
  | grant d e n m a s =>
    have q := Z.Z.act (r := .grant d e n m a s) rfl f.ok h ht
    obtain ⟨n0, _⟩ := f.ok.h
    obtain ⟨he, hn, hk, hae⟩ := new_facts Z.Z h n0
    refine ⟨q, ?_, Z.dn, Z.dd, ?_, by show B.heirs.length ≤ _; omega, by show B.dead.length ≤ _; omega, by show B.lieges.length ≤ _; omega, Z.sh⟩
    · show aval (aput B.L.hold n m) "" = _
      rw [aval_put, if_neg n0]; exact Z.hc
    · show (B.known ++ [n]).Nodup
      refine List.nodup_append.mpr ⟨Z.kd, by simp, fun a ha b hb => ?_⟩
      rw [List.mem_singleton.mp hb]
      exact fun z => hk (z ▸ ha)
  | part d e n m a =>
    have q := Z.Z.act (r := .part d e n m a) rfl f.ok h ht
    obtain ⟨e0, n0, _⟩ := f.ok.h
    obtain ⟨he, hn, hk, hae⟩ := new_facts (s := 0) Z.Z (show B.why (.grant d e n m a 0) = "stands" from h) n0
    refine ⟨q, ?_, Z.dn, Z.dd, ?_, by show B.heirs.length ≤ _; omega, by show B.dead.length ≤ _; omega, by show B.lieges.length ≤ _; omega, Z.sh⟩
    · show aval (aput B.L.hold n m) "" = _
      rw [aval_put, if_neg n0]; exact Z.hc
    · show (B.known ++ [n]).Nodup
      refine List.nodup_append.mpr ⟨Z.kd, by simp, fun a ha b hb => ?_⟩
      rw [List.mem_singleton.mp hb]
      exact fun z => hk (z ▸ ha)
  | convey d e m =>
    have q := Z.Z.act (r := .convey d e m) rfl f.ok h ht
    obtain ⟨e0, _⟩ := f.ok.h
    refine ⟨q, ?_, Z.dn, Z.dd, ?_, by show B.heirs.length ≤ _; omega, by show B.dead.length ≤ _; omega, by show B.lieges.length ≤ _; omega, Z.sh⟩
    · show aval (aput B.L.hold e m) "" = _
      rw [aval_put, if_neg e0]; exact Z.hc
    · show (B.known ++ []).Nodup
      rw [List.append_nil]; exact Z.kd
  | surr d e =>
    have q := Z.Z.act (r := .surr d e) rfl f.ok h ht
    have e0 := f.ok.h
    refine ⟨q, ?_, Z.dn, Z.dd, ?_, by show B.heirs.length ≤ _; omega, by show B.dead.length ≤ _; omega, by show B.lieges.length ≤ _; omega, Z.sh⟩
    · show aval (adrop B.L.hold e) "" = _
      rw [aval_drop, if_neg e0]; exact Z.hc
    · show (B.known ++ []).Nodup
      rw [List.append_nil]; exact Z.kd
end MR
set_option Elab.async false
set_option linter.all false
set_option maxRecDepth 100000
set_option exponentiation.threshold 30000
namespace MR
open PySem
def Bk.step (B : Bk) (r : Rw) : Bk := if B.why r = "stands" then B.act r else B
section
variable {S : Sto} {n t : Nat} {B : Bk} {tot : Int}
theorem Snd.step (Z : Snd B t tot) {r : Rw} (f : r.fine) (ht : t < 60) : Snd (B.step r) (t + 1) tot := by
  unfold Bk.step
  split
  · rename_i h; exact Z.act f h ht
  · exact Z.up
theorem BookAt.dead_put (A : BookAt S n false false B) (m : Str) : BookAt (S.set (n + 6) (.con false (.lst ((B.dead ++ [m]).map D.str)))) n false false { B with dead := B.dead ++ [m] } := by
  refine ⟨?_, ?_, ?_, ?_, ?_, ?_, ?_, ?_, ?_⟩ <;> simp [setG, A.c0, A.c1, A.c2, A.c3, A.c4, A.c5, A.c6, A.c7, A.c8]
theorem lbury_loop {k : Nat} {tk : Option Str} (st : ∀ x, tk = some x → PyData.strOk x = true) {p1 : D} {s2 s3 : Slot} : ∀ (es : List Str) (S : Sto) (B : Bk) (s5 : Slot), BookAt S n false false B → LGood B.L k tot → B.L.ks.length < 64 → (∀ e ∈ es, e ∈ B.L.ks ∧ e ≠ "") → es.Nodup →
    ∃ S' u5, forL (gN 5) fb__law_do_1 (es.map D.str) [.val (.obj (n + 8)), .val p1, s2, s3, .val (encO tk), s5] S = .ok .next [.val (.obj (n + 8)), .val p1, s2, s3, .val (encO tk), u5] S' ∧ BookAt S' n false false { B with L := B.L.bury tk es } ∧ Off (fp9 n) S S' := by
  intro es
  induction es with
  | nil => intro S B s5 A _ _ _ _; exact ⟨S, s5, rfl, A, Off.refl⟩
  | cons e es ih =>
    intro S B s5 A G hl h hn
    have hn' := List.nodup_cons.mp hn
    obtain ⟨he, e0⟩ := h e List.mem_cons_self
    have G2 := (leave_good G he e0 st).1
    obtain ⟨s1, sl⟩ := leave_sub G he e0 st
    have turn : ∃ S1, fb__law_do_1 [.val (.obj (n + 8)), .val p1, s2, s3, .val (encO tk), .val (.str e)] S = .ok .next [.val (.obj (n + 8)), .val p1, s2, s3, .val (encO tk), .val (.str e)] S1 ∧ BookAt S1 n false false { B with L := B.L.leave tk e } ∧ Off (fp9 n) S S1 := by
      cases tk with
      | none =>
        obtain ⟨p, hp, _⟩ := G.W.lord_ne he e0
        obtain ⟨v, S1, e1, rfl, A1, o1⟩ := (lfall_ok A G.W hl hp).ex
        have ep : B.L.leave none e = B.L.fall e p := by show B.L.fall e ((B.L.lord e).getD "") = _; rw [hp]; rfl
        rw [ep]
        exact ⟨S1, by simp [fb__law_do_1, encO, e1], A1, o1⟩
      | some x =>
        have ln := G.W.lens hl
        have hm : B.L.hold.length < most := Nat.lt_trans ln.h (by decide)
        refine ⟨S.set (n + 1) (.con false (.dK (enc D.str (aput B.L.hold e x)))), ?_, ?_, Off.refl.set (by simp)⟩
        · simp [fb__law_do_1, encO, derefU, chgU, A.c8, A.c1, bk1, hm, putD_encS]
        · refine ⟨?_, ?_, ?_, ?_, ?_, ?_, ?_, ?_, ?_⟩ <;> simp [setG, A.c0, A.c1, A.c2, A.c3, A.c4, A.c5, A.c6, A.c7, A.c8, Ld.leave, Ld.convey]
    obtain ⟨S1, e1, A1, o1⟩ := turn
    obtain ⟨S2, u5, e2, A2, o2⟩ := ih S1 { B with L := B.L.leave tk e } (.val (.str e)) A1 G2 (by show (B.L.leave tk e).ks.length < 64; omega) (fun x hx => ⟨leave_in G he e0 st (h x (List.mem_cons_of_mem _ hx)).1 (fun z => hn'.1 (z ▸ hx)), (h x (List.mem_cons_of_mem _ hx)).2⟩) hn'.2
    exact ⟨S2, u5, by rw [List.map_cons, forL_cons rfl e1]; exact e2, A2, o1.trans o2⟩
theorem ldo2_ok (A : BookAt S n false false B) (Z : Snd B t tot) (ht : t < 60) {r : Rw} (f : r.fine) (h : B.why r = "stands") : Ret (m__law_do [.obj (n + 8), r.D] S) (BDone S n (B.act r)) := by
  have hl1 := Z.hl
  have dl1 := Z.dl
  have ll1 := Z.ll
  have hlen := Z.Z.len
  cases r with
  | heir d m x =>
    have hm : B.heirs.length < most := by unfold most; omega
    refine Ret_def rfl ?_
    show RunF (b__law_do [.val (.obj (n + 8)), .val (Rw.heir d m x).D, .emp, .emp, .emp, .emp] S) _
    simp [b__law_do, Rw.D, atI0, atI2, atI3', derefU, chgU, A.c8, A.c5, bk5, hm, putD_encS]
    refine ⟨rfl, ?_, Off.refl.set (by simp)⟩
    refine ⟨?_, ?_, ?_, ?_, ?_, ?_, ?_, ?_, ?_⟩ <;> simp [setG, A.c0, A.c1, A.c2, A.c3, A.c4, A.c5, A.c6, A.c7, A.c8, Bk.act]
  | liege d m x =>
    have hm : B.lieges.length < most := by unfold most; omega
    refine Ret_def rfl ?_
    show RunF (b__law_do [.val (.obj (n + 8)), .val (Rw.liege d m x).D, .emp, .emp, .emp, .emp] S) _
    simp [b__law_do, Rw.D, atI0, atI2, atI3', derefU, chgU, A.c8, A.c7, bk7, hm, putD_encS]
    refine ⟨rfl, ?_, Off.refl.set (by simp)⟩
    refine ⟨?_, ?_, ?_, ?_, ?_, ?_, ?_, ?_, ?_⟩ <;> simp [setG, A.c0, A.c1, A.c2, A.c3, A.c4, A.c5, A.c6, A.c7, A.c8, Bk.act]
  | death d m =>
    have m0 := f.dm d m rfl
    have hm : B.dead.length < most := by unfold most; omega
    have A1 := A.dead_put m
    have st : ∀ x, tkr B.heirs (B.dead ++ [m]) m = some x → PyData.strOk x = true := fun x e => by
      obtain ⟨p, hp, rfl⟩ := List.mem_map.mp (tkr_in e)
      exact Z.sh p hp
    have T : BkAt2 (S.set (n + 6) (.con false (.lst ((B.dead ++ [m]).map D.str)))) (n + 8) (n + 5) (.obj (n + 6)) (bkD n) (enc D.str B.heirs) (B.dead ++ [m]) := ⟨A1.c8, bk5 n, bk6 n, A1.d6, A1.c5⟩
    have etk := ltaker2_eq T (sv_enc B.heirs) (man := m) (n := B.heirs.length + 1) (res := tkr B.heirs (B.dead ++ [m]) m) (by rw [nxt_enc2]; exact tkr_ok B.heirs (B.dead ++ [m]) m) (by omega)
    have ln := Z.Z.W.lens (show B.L.ks.length < 64 by omega)
    have eh := lheld_eq (m := m) A1 (show B.L.hold.length < 64 from ln.h)
    have eh : m__law_held [.obj (n + 8), .str m] (S.set (n + 6) (.con false (.lst ((B.dead ++ [m]).map D.str)))) = .ok (.lst ((B.L.held m).map D.str)) (S.set (n + 6) (.con false (.lst ((B.dead ++ [m]).map D.str)))) := eh
    obtain ⟨S', u5, el, A2, o2⟩ := lbury_loop (k := 20 + 20 * t) (tot := tot) (tk := tkr B.heirs (B.dead ++ [m]) m) st (p1 := (Rw.death d m).D) (s2 := .emp) (s3 := .emp) (B.L.held m) _ { B with dead := B.dead ++ [m] } .emp A1 ⟨Z.Z.W, Z.Z.N, Z.hc⟩ (by show B.L.ks.length < 64; omega) (fun e he => ⟨held_ks Z.Z.W he, held_ne Z.hc m0 he⟩) (held_nodup Z.Z.W m)
    have hS : S.set (n + 6) (.con false (.lst ((B.dead ++ [m]).map D.str))) = S.set (n + 6) (.con false (.lst (B.dead.map D.str ++ [.str m]))) := by rw [List.map_append]; rfl
    rw [hS] at etk eh el
    have o1 : Off (fp9 n) S (S.set (n + 6) (.con false (.lst (B.dead.map D.str ++ [.str m])))) := Off.refl.set (by simp)
    refine Ret_def rfl ?_
    show RunF (b__law_do [.val (.obj (n + 8)), .val (Rw.death d m).D, .emp, .emp, .emp, .emp] S) _
    have el : forL (gN 5) fb__law_do_1 ((B.L.held m).map D.str) [.val (.obj (n + 8)), .val (.tup [.str "death", .int d, .str m]), .emp, .emp, .val (encO (tkr B.heirs (B.dead ++ [m]) m)), .emp] _ = _ := el
    rw [hS] at o2
    generalize hS1 : S.set (n + 6) (.con false (.lst (B.dead.map D.str ++ [.str m]))) = S1 at *
    generalize (B.L.held m).map D.str = hh at *
    simp [b__law_do, Rw.D, atI0, atI2, derefU, chgU, A.c8, A.c6, bk6, hm, hS1, etk, eh, frz_enc, el]
    exact ⟨rfl, A2, o1.trans o2⟩
  | grant d e nw m a s => exact ldo_ok A Z.Z ht (r := .grant d e nw m a s) rfl f.ok h
  | part d e nw m a => exact ldo_ok A Z.Z ht (r := .part d e nw m a) rfl f.ok h
  | convey d e m => exact ldo_ok A Z.Z ht (r := .convey d e m) rfl f.ok h
  | surr d e => exact ldo_ok A Z.Z ht (r := .surr d e) rfl f.ok h
theorem lword_ok (A : BookAt S n false false B) (Z : Snd B t tot) (ht : t < 60) {r : Rw} (f : r.fine) : ∃ S', m__law_word [.obj (n + 8), r.D] S = .ok (.str (B.why r)) S' ∧ BookAt S' n false false (B.step r) ∧ Off (fp9 n) S S' := by
  have hlen := Z.Z.len
  have ew := lwhy_eq A Z.Z.W (by omega) r
  have hp : Ret (m__law_word [.obj (n + 8), r.D] S) (fun v S' => v = .str (B.why r) ∧ BookAt S' n false false (B.step r) ∧ Off (fp9 n) S S') := by
    refine Ret_def rfl ?_
    show RunF (b__law_word [.val (.obj (n + 8)), .val r.D, .emp] S) _
    unfold Bk.step
    by_cases h : B.why r = "stands"
    · obtain ⟨v, S1, e1, rfl, A1, o1⟩ := (ldo2_ok A Z ht f h).ex
      simp [b__law_word, frz_row, ew, h, e1]
      exact ⟨A1, o1⟩
    · simp [b__law_word, frz_row, ew, h]
      exact ⟨A, Off.refl⟩
  obtain ⟨v, S', e, rfl, q⟩ := hp.ex
  exact ⟨S', e, q⟩
end
end MR
set_option Elab.async false
set_option linter.all false
set_option maxRecDepth 100000
set_option exponentiation.threshold 30000
namespace MR
open PySem
structure BenchAt (S : Sto) (q : Nat) (B : Bk) : Prop where
  c0 : S[q]? = some (.ins "Bench" [("judge", .obj (q + 1)), ("known", .obj (q + 11))])
  c1 : S[q + 1]? = some (.ins "Judge" [("ground", .obj (q + 2)), ("kin", .obj (q + 7)), ("lieges", .obj (q + 10))])
  c2 : S[q + 2]? = some (.ins "Land" [("lords", .obj (q + 3)), ("holders", .obj (q + 4)), ("acres_of", .obj (q + 5)), ("services", .obj (q + 6))])
  c3 : S[q + 3]? = some (.con false (.dK (enc encO B.L.lords)))
  c4 : S[q + 4]? = some (.con false (.dK (enc D.str B.L.hold)))
  c5 : S[q + 5]? = some (.con false (.dK (enc D.int B.L.own)))
  c6 : S[q + 6]? = some (.con false (.dK (enc encF B.L.due)))
  c7 : S[q + 7]? = some (.ins "Kin" [("heirs", .obj (q + 8)), ("gone", .obj (q + 9))])
  c8 : S[q + 8]? = some (.con false (.dK (enc D.str B.heirs)))
  c9 : S[q + 9]? = some (.con false (.dK (seenD B.dead)))
  c10 : S[q + 10]? = some (.con false (.dK (enc D.str B.lieges)))
  c11 : S[q + 11]? = some (.con false (.dK (seenD B.known)))
abbrev fp12 (q : Nat) : List Nat := [q, q + 1, q + 2, q + 3, q + 4, q + 5, q + 6, q + 7, q + 8, q + 9, q + 10, q + 11]
section
variable {S S' : Sto} {q t : Nat} {B : Bk} {tot : Int}
theorem BenchAt.A (H : BenchAt S q B) : LandAt S (q + 2) (q + 3) (q + 4) (q + 5) (q + 6) false false B.L := ⟨H.c2, H.c3, H.c4, H.c5, H.c6, by simp⟩
theorem BenchAt.K (H : BenchAt S q B) : KinAt S (q + 7) (q + 8) (q + 9) (enc D.str B.heirs) (seenD B.dead) := ⟨H.c7, H.c8, H.c9⟩
theorem BenchAt.ob (H : BenchAt S q B) : objAt ["Bench"] S (.obj q) = some (q, "Bench", [("judge", .obj (q + 1)), ("known", .obj (q + 11))]) := by rw [objAtU, H.c0]; simp
theorem BenchAt.off (H : BenchAt S q B) {fp : List Nat} (o : Off fp S S') (h : ∀ i ∈ fp12 q, i ∉ fp) : BenchAt S' q B :=
  ⟨by rw [o.off _ (h _ (by simp))]; exact H.c0, by rw [o.off _ (h _ (by simp))]; exact H.c1, by rw [o.off _ (h _ (by simp))]; exact H.c2, by rw [o.off _ (h _ (by simp))]; exact H.c3, by rw [o.off _ (h _ (by simp))]; exact H.c4, by rw [o.off _ (h _ (by simp))]; exact H.c5, by rw [o.off _ (h _ (by simp))]; exact H.c6, by rw [o.off _ (h _ (by simp))]; exact H.c7, by rw [o.off _ (h _ (by simp))]; exact H.c8, by rw [o.off _ (h _ (by simp))]; exact H.c9, by rw [o.off _ (h _ (by simp))]; exact H.c10, by rw [o.off _ (h _ (by simp))]; exact H.c11⟩
end
end MR
set_option Elab.async false
set_option linter.all false
set_option maxRecDepth 100000
set_option exponentiation.threshold 30000
namespace MR
open PySem
section
variable {S S' : Sto} {q t : Nat} {B : Bk} {tot : Int}
theorem BenchAt.known (H : BenchAt S q B) (x : Str) : BenchAt (S.set (q + 11) (.con false (.dK (seenD (B.known ++ [x]))))) q { B with known := B.known ++ [x] } := by
  refine ⟨?_, ?_, ?_, ?_, ?_, ?_, ?_, ?_, ?_, ?_, ?_, ?_⟩ <;> simp [setG, H.c0, H.c1, H.c2, H.c3, H.c4, H.c5, H.c6, H.c7, H.c8, H.c9, H.c10, H.c11]
end
end MR
set_option Elab.async false
set_option linter.all false
set_option maxRecDepth 100000
set_option exponentiation.threshold 30000
namespace MR
open PySem
structure Grow (fp : List Nat) (S S' : Sto) : Prop where
  len : S.length ≤ S'.length
  off : ∀ j, j < S.length → j ∉ fp → S'[j]? = S[j]?
section
variable {fp fp' : List Nat} {S S' S'' : Sto}
theorem Grow.refl : Grow fp S S := ⟨Nat.le_refl _, fun _ _ _ => rfl⟩
theorem Grow.trans (a : Grow fp S S') (b : Grow fp S' S'') : Grow fp S S'' := ⟨Nat.le_trans a.len b.len, fun j h n => (b.off j (Nat.lt_of_lt_of_le h a.len) n).trans (a.off j h n)⟩
theorem Off.grow (a : Off fp S S') : Grow fp S S' := ⟨Nat.le_of_eq a.len.symm, fun j _ n => a.off j n⟩
theorem Grow.app (X : Sto) : Grow fp S (S ++ X) := ⟨by rw [List.length_append]; omega, fun j h _ => List.getElem?_append_left h⟩
theorem Grow.mono (a : Grow fp S S') (h : ∀ i ∈ fp, i ∈ fp') : Grow fp' S S' := ⟨a.len, fun j l n => a.off j l fun z => n (h j z)⟩
end
end MR
set_option Elab.async false
set_option linter.all false
set_option maxRecDepth 100000
set_option exponentiation.threshold 30000
namespace MR
open PySem
structure Rw.fine2 (r : Rw) : Prop where
  f : r.fine
  lm : ∀ d m l, r = .liege d m l → m ≠ ""
structure St where
  i : Nat
  r : Nat
  a : Nat
  b : Nat
  c : Nat
  d : Nat
  day : Int
  B : Bk
  gd : MR.D
  ld : MR.D
def objs : D → List Nat
  | .obj k => [k]
  | _ => []
def St.cells (s : St) : List Nat := [s.i, s.r, s.a, s.b, s.c, s.d] ++ objs s.gd ++ objs s.ld
def DictAt (S : Sto) (w : D) (l : List (Kk × D)) : Prop := w = .dK l ∨ ∃ k, w = .obj k ∧ S[k]? = some (.con false (.dK l))
structure StAt (S : Sto) (s : St) : Prop where
  o : S[s.i]? = some (.ins "Stand" [("since", .int s.day), ("ground_then", .obj s.r), ("gone_then", s.gd), ("lieges_then", s.ld)])
  A : LandAt S s.r s.a s.b s.c s.d false false s.B.L
  g : DictAt S s.gd (seenD s.B.dead)
  l : DictAt S s.ld (enc D.str s.B.lieges)
section
variable {S S' : Sto} {fp : List Nat} {s : St} {n q t : Nat} {B : Bk} {tot : Int} {w : D} {l : List (Kk × D)}
theorem DictAt.de (A : DictAt S w l) (σ : Sl) : deref σ S w = some (.dK l) := by
  rcases A with rfl | ⟨k, rfl, e⟩
  · rfl
  · rw [derefU, e]
abbrev fpC (n : Nat) : List Nat := [n, n + 1, n + 10] ++ fp12 (n + 11)
abbrev wdD (ws : List (Rw × Str)) : List D := ws.map fun p => .tup [p.1.D, .str p.2]
structure CtAt (S : Sto) (n : Nat) (w b : Int) (ws : List (Rw × Str)) (st : List St) : Prop where
  o : S[n]? = some (.ins "Court" [("wide", .int w), ("rich", .int b), ("words", .obj (n + 1)), ("stands", .obj (n + 10))])
  wd : S[n + 1]? = some (.con false (.lst (wdD ws)))
  sd : S[n + 10]? = some (.con false (.lst (st.map fun s => .obj s.i)))
  each : ∀ s ∈ st, StAt S s
  out : ∀ s ∈ st, ∀ x ∈ s.cells, x ∉ fpC n
  ne : st ≠ []
theorem CtAt.ob {w b : Int} {ws : List (Rw × Str)} {st : List St} (C : CtAt S n w b ws st) : objAt ["Court"] S (.obj n) = some (n, "Court", [("wide", .int w), ("rich", .int b), ("words", .obj (n + 1)), ("stands", .obj (n + 10))]) := by rw [objAtU, C.o]; simp
def vds (B : Bk) : List Rw → List (Rw × Str)
  | [] => []
  | r :: rs => (r, B.why r) :: vds (B.step r) rs
def fin (B : Bk) (rs : List Rw) : Bk := rs.foldl Bk.step B
def noteV (st : List (Int × Bk)) (d : Int) (B : Bk) : List (Int × Bk) := (if (st.getLast?.map (·.1)) = some d then st.dropLast else st) ++ [(d, B)]
def stds (B : Bk) (st : List (Int × Bk)) : List Rw → List (Int × Bk)
  | [] => st
  | r :: rs => stds (B.step r) (if B.why r = "stands" then noteV st r.day (B.step r) else st) rs
abbrev St.v (s : St) : Int × Bk := (s.day, s.B)
end
end MR
set_option Elab.async false
set_option linter.all false
set_option maxRecDepth 100000
set_option exponentiation.threshold 30000
namespace MR
open PySem
theorem snd0 {w : Int} (h1 : 1 ≤ w) (h2 : w ≤ 9999) : Snd (B0 w) 0 w := ⟨sound0 h1 h2, rfl, by simp [B0], by simp [B0], by simp [B0], Nat.le_refl _, Nat.le_refl _, Nat.le_refl _, by simp [B0]⟩
end MR
set_option Elab.async false
set_option linter.all false
set_option maxRecDepth 100000
set_option exponentiation.threshold 30000
namespace MR
open PySem
theorem lockL_for {fe : DE} {g : DG} {f : DS} {σ σ' : Sl} {S : Sto} {r : Nat} {l : List D} {x : Fl} (hs : S[r]? = some (.con false (.lst l))) (h1 : fe σ S = .ok (.obj r) σ S) (h2 : fe σ (S.set r (.con true (.lst l))) = .ok (.obj r) σ (S.set r (.con true (.lst l))))
    (h : forL g f l σ (S.set r (.con true (.lst l))) = .ok x σ' (S.set r (.con true (.lst l)))) : sLockL fe (sFor (iLstL fe) g f) σ S = .ok x σ' S := by
  have lt : r < S.length := (List.getElem?_eq_some_iff.mp hs).1
  have hlk : (S.set r (.con true (.lst l)))[r]? = some (.con true (.lst l)) := List.getElem?_set_self lt
  have ep : pickO fe σ S = some (r, l) := by
    unfold pickO
    rw [h1]
    simp only [hs]
  have hi : iLstL fe σ (S.set r (.con true (.lst l))) = .ok l σ (S.set r (.con true (.lst l))) := by
    show (fe σ _).bind _ = _
    rw [h2]
    show (match lockdL σ (S.set r (.con true (.lst l))) (.obj r) with
      | some l' => Res.ok l' σ (S.set r (.con true (.lst l)))
      | none => .fail) = _
    unfold lockdL
    simp only [hlk]
  unfold sLockL
  rw [ep]
  dsimp only
  rw [sFor_def, hi]
  dsimp only [Res.bind]
  rw [h]
  dsimp only [unlkL]
  unfold openL
  simp only [hlk]
  rw [set_back hs]
noncomputable instance : DecidableEq Rw := fun _ _ => Classical.propDecidable _
section
variable {S : Sto} {n : Nat} {w b : Int} {ws : List (Rw × Str)} {st : List St}
theorem CtAt.obL (C : CtAt S n w b ws st) {r : Nat} {o : Ob} (h : r = n + 1 ∨ r = n + 10) : objAt ["Court"] (S.set r o) (.obj n) = some (n, "Court", [("wide", .int w), ("rich", .int b), ("words", .obj (n + 1)), ("stands", .obj (n + 10))]) := by
  rw [objAtU, setG, if_neg (by omega), C.o]
  simp
def pickS (f : St) (st : List St) (day : Int) : St := st.foldl (fun f s => if s.day ≤ day then s else f) f
theorem stand_loop {day : Int} {p0 : D} : ∀ (l : List St) (f : St) (s3 : Slot) (T : Sto), (∀ s ∈ l, T[s.i]? = some (.ins "Stand" [("since", .int s.day), ("ground_then", .obj s.r), ("gone_then", s.gd), ("lieges_then", s.ld)])) →
    ∃ u3, forL (gN 3) fb_Court_stand_1 (l.map fun s => .obj s.i) [.val p0, .val (.int day), .val (.obj f.i), s3] T = .ok .next [.val p0, .val (.int day), .val (.obj (pickS f l day).i), u3] T
  | [], f, s3, T, _ => ⟨s3, rfl⟩
  | s :: l, f, s3, T, h => by
    have o : objAt ["Stand"] T (.obj s.i) = some (s.i, "Stand", [("since", .int s.day), ("ground_then", .obj s.r), ("gone_then", s.gd), ("lieges_then", s.ld)]) := by rw [objAtU, h s List.mem_cons_self]; simp
    obtain ⟨u3, e⟩ := stand_loop (day := day) (p0 := p0) l (if s.day ≤ day then s else f) (.val (.obj s.i)) T (fun x hx => h x (List.mem_cons_of_mem _ hx))
    refine ⟨u3, ?_⟩
    rw [List.map_cons, forL_cons rfl (σ2 := [.val p0, .val (.int day), .val (.obj (if s.day ≤ day then s else f).i), .val (.obj s.i)]) (S2 := T)]
    · exact e
    · by_cases c : s.day ≤ day
      · simp [fb_Court_stand_1, o, c]
      · simp [fb_Court_stand_1, o, c]
theorem stand_eq (C : CtAt S n w b ws st) (day : Int) : ∃ f rest, st = f :: rest ∧ m_Court_stand [.obj n, .int day] S = .ok (.obj (pickS f st day).i) S := by
  obtain ⟨f, rest, est⟩ : ∃ f rest, st = f :: rest := by
    cases st with
    | nil => exact absurd rfl C.ne
    | cons f rest => exact ⟨f, rest, rfl⟩
  refine ⟨f, rest, est, ?_⟩
  obtain ⟨u3, e⟩ := stand_loop (day := day) (p0 := .obj n) st f .emp (S.set (n + 10) (.con true (.lst (st.map fun s => .obj s.i)))) (fun s hs => by
    rw [setG, if_neg (fun z => C.out s hs s.i (by simp [St.cells]) (by rw [← z]; simp))]
    exact (C.each s hs).o)
  have o1 := C.ob
  have o2 := C.obL (r := n + 10) (o := .con true (.lst (st.map fun s => .obj s.i))) (.inr rfl)
  have lk := lockL_for (fe := dFld ["Court"] "stands" (dVar 0)) (g := gN 3) (f := fb_Court_stand_1) (σ := [.val (.obj n), .val (.int day), .val (.obj f.i), .emp]) C.sd (by simp [o1]) (by simp [o2]) e
  have at0 : L2.atI (st.map fun s => D.obj s.i) 0 = some (.obj f.i) := by rw [est]; exact atI0
  have sd := C.sd
  refine dDef_ret (σ' := [.val (.obj n), .val (.int day), .val (.obj (pickS f st day).i), u3]) ?_
  unfold b_Court_stand
  refine run_seq (r := .ok .next [.val (.obj n), .val (.int day), .val (.obj f.i), .emp] S) ?_ ?_
  · generalize (st.map fun s => D.obj s.i) = l at *
    simp [o1, derefU, sd, at0]
  · rw [seqK_next]
    refine run_seq lk ?_
    simp
theorem pickS_mem {day : Int} : ∀ (l : List St) (f : St), pickS f l day = f ∨ pickS f l day ∈ l
  | [], f => .inl rfl
  | s :: l, f => by
    rcases pickS_mem (day := day) l (if s.day ≤ day then s else f) with z | z
    · by_cases c : s.day ≤ day
      · rw [if_pos c] at z
        exact .inr (by show pickS (if s.day ≤ day then s else f) l day ∈ _; rw [if_pos c, z]; exact List.mem_cons_self)
      · rw [if_neg c] at z
        exact .inl (by show pickS (if s.day ≤ day then s else f) l day = _; rw [if_neg c, z])
    · exact .inr (List.mem_cons_of_mem _ z)
def bookOn (f : Bk) (st : List (Int × Bk)) (day : Int) : Bk := st.foldl (fun f s => if s.1 ≤ day then s.2 else f) f
theorem pickS_B {day : Int} : ∀ (l : List St) (f : St), (pickS f l day).B = bookOn f.B (l.map St.v) day
  | [], f => rfl
  | s :: l, f => by
    show (pickS (if s.day ≤ day then s else f) l day).B = bookOn (if s.day ≤ day then s.B else f.B) (l.map St.v) day
    rw [pickS_B l]
    congr 1
    split <;> rfl
theorem stand_at (C : CtAt S n w b ws st) (day : Int) : ∃ s ∈ st, m_Court_stand [.obj n, .int day] S = .ok (.obj s.i) S ∧ ∃ f, (st.map St.v).head? = some f ∧ s.B = bookOn f.2 (st.map St.v) day := by
  obtain ⟨f, rest, est, e⟩ := stand_eq C day
  refine ⟨pickS f st day, ?_, e, f.v, by rw [est]; rfl, pickS_B st f⟩
  rcases pickS_mem (day := day) st f with z | z
  · rw [z, est]; exact List.mem_cons_self
  · exact z
theorem StAt.ob {s : St} (A : StAt S s) : objAt ["Stand"] S (.obj s.i) = some (s.i, "Stand", [("since", .int s.day), ("ground_then", .obj s.r), ("gone_then", s.gd), ("lieges_then", s.ld)]) := by rw [objAtU, A.o]; simp
end
end MR
set_option Elab.async false
set_option linter.all false
set_option maxRecDepth 100000
set_option exponentiation.threshold 30000
namespace MR
open PySem
theorem book_new (w : Int) (S : Sto) : m__law_book_v2 [.int w] S = .ok (.dK (bkD S.length)) (S ++ bookC9 S.length w) ∧ BookAt (S ++ bookC9 S.length w ++ [.con false (.dK (bkD S.length))]) S.length false false (B0 w) := by
  refine ⟨book9_ok w S, ?_⟩
  have cat : ∀ {k : Nat} {o : Ob}, (bookC9 S.length w ++ [.con false (.dK (bkD S.length))])[k]? = some o → (S ++ bookC9 S.length w ++ [.con false (.dK (bkD S.length))])[S.length + k]? = some o := fun {k o} h => by
    rw [List.append_assoc, List.getElem?_append_right (by omega), Nat.add_sub_cancel_left]
    exact h
  exact ⟨cat (k := 0) rfl, cat (k := 1) rfl, cat (k := 2) rfl, cat (k := 3) rfl, cat (k := 4) rfl, cat (k := 5) rfl, cat (k := 6) rfl, cat (k := 7) rfl, cat (k := 8) rfl⟩
section
variable {S : Sto} {n t : Nat} {B : Bk} {tot : Int}
end
end MR
set_option Elab.async false
set_option linter.all false
set_option maxRecDepth 100000
set_option exponentiation.threshold 30000
namespace MR
open PySem
theorem notIn_rows {r : Rw} {rows : List Rw} (hr : r.sok) (hs : ∀ q ∈ rows, q.sok) : opNotInD r.D (.lst (rows.map Rw.D)) = some (.bl (!decide (r ∈ rows))) := by
  have ed : toData.toDatas (rows.map Rw.D) = some (rows.map fun q => .tuple q.dat) := by
    clear hs
    induction rows with
    | nil => rfl
    | cons q rows ih =>
      rw [List.map_cons, toDatas_cons, Rw.dat_eq, ih]
      rfl
  obtain ⟨x, x1, x2, x3⟩ := gr_data 1 r.D hr
  rw [Rw.dat_eq] at x1
  cases x1
  have gl : gr 2 (.lst (rows.map Rw.D)) = true := by
    show (rows.map Rw.D).all (gr 1) = true
    rw [List.all_map, List.all_eq_true]
    exact hs
  obtain ⟨y, y1, y2, y3⟩ := gr_data 2 _ gl
  have ey : y = .list (rows.map fun q => .tuple q.dat) := by
    have : toData (.lst (rows.map Rw.D)) = (toData.toDatas (rows.map Rw.D)).map .list := rfl
    rw [this, ed] at y1
    exact (Option.some.inj y1).symm
  subst ey
  have sh : (SeqAt.shaped (.tuple r.dat) && SeqAt.shaped (.list (rows.map fun q => .tuple q.dat))) = true := by
    unfold SeqAt.shaped
    rw [x2, y2]
    simp
    omega
  have ei : inDD r.D (.lst (rows.map Rw.D)) = some (decide (r ∈ rows)) := by
    show (toData r.D).bind _ = _
    rw [Rw.dat_eq]
    show (toData.toDatas (rows.map Rw.D)).bind _ = _
    rw [ed]
    show (if _ then _ else _) = _
    rw [if_pos sh, List.any_map]
    congr 1
    rw [Bool.eq_iff_iff, List.any_eq_true, decide_eq_true_iff]
    have key : ∀ q ∈ rows, (PyData.eqv (.tuple q.dat) (.tuple r.dat) = true ↔ q = r) := fun q hq => by
      obtain ⟨z, hz, hi⟩ := deepEq_gr (hs q hq) hr (by decide) (by decide)
      unfold deepEq at hz
      rw [Rw.dat_eq, Rw.dat_eq] at hz
      simp only [Option.bind_some] at hz
      split at hz
      · cases hz
        exact ⟨fun h => Rw.D_inj (hi.mp h), fun h => hi.mpr (by rw [h])⟩
      · cases hz
    constructor
    · rintro ⟨q, hq, h⟩
      rw [(key q hq).mp h] at hq
      exact hq
    · intro h
      exact ⟨r, h, (key r h).mpr rfl⟩
  unfold opNotInD
  rw [ei]
  rfl
theorem strOk_empty : PyData.strOk "" = true := by decide +kernel
theorem bound_ok {L : Ld} (W : Wf L) {m l : Str} (h : l ∈ L.bound m) : PyData.strOk l = true := by
  unfold Ld.bound at h
  obtain ⟨k, hk, rfl⟩ := List.mem_map.mp h
  cases e : (L.lord k).bind fun p => aval L.hold p with
  | none => exact strOk_empty
  | some x =>
    obtain ⟨p, _, hp⟩ := Option.bind_eq_some_iff.mp e
    exact W.sh x (List.mem_map.mpr ⟨_, aval_mem hp, rfl⟩)
theorem fit_fine {men lands : List Str} {w dd : Int} {B : Bk} (P : Pools men lands w) (W : Wf B.L) {r : Rw} (f : r.fit men lands B dd) : r.fine2 ∧ r.sok ∧ r.day = dd := by
  have nl : ∀ e, e ∈ B.L.ks ∨ e ∈ ("" : Str) :: lands → PyData.strOk e = true := fun e h => by
    rcases h with h | h
    · exact W.sk e h
    · rcases List.mem_cons.mp h with rfl | h
      · exact strOk_empty
      · exact nm_ok (P.nl e h)
  have s0 : ∀ k : String, k ∈ ["heir", "grant", "part", "convey", "liege", "surrender", "death"] → PyData.strOk (Str.ofString k) = true := by decide +kernel
  cases r with
  | grant d e n m a s =>
    obtain ⟨h0, h1, h2, h3, h4, h5, h6, h7⟩ := f
    refine ⟨⟨⟨⟨⟨nm_ne (P.nl _ h2), nm_ok (P.nl _ h2), nm_ok (P.nm _ h3), h4, h6, by omega⟩⟩, fun _ _ z => by cases z⟩, fun _ _ _ z => by cases z⟩, ?_, h0⟩
    show gr 1 (.tup [_, _, _, _, _, _, _]) = true
    simp [gr, s0 "grant" (by simp), nl e h1, nm_ok (P.nl _ h2), nm_ok (P.nm _ h3)]
  | part d e n m a =>
    obtain ⟨h0, h1, e0, h2, h3, h4, h5⟩ := f
    refine ⟨⟨⟨⟨⟨e0, nm_ne (P.nl _ h2), nm_ok (P.nl _ h2), nm_ok (P.nm _ h3), h4⟩⟩, fun _ _ z => by cases z⟩, fun _ _ _ z => by cases z⟩, ?_, h0⟩
    show gr 1 (.tup [_, _, _, _, _, _]) = true
    simp [gr, s0 "part" (by simp), nl e h1, nm_ok (P.nl _ h2), nm_ok (P.nm _ h3)]
  | convey d e m =>
    obtain ⟨h0, h1, e0, h3⟩ := f
    refine ⟨⟨⟨⟨⟨e0, nm_ok (P.nm _ h3)⟩⟩, fun _ _ z => by cases z⟩, fun _ _ _ z => by cases z⟩, ?_, h0⟩
    show gr 1 (.tup [_, _, _, _]) = true
    simp [gr, s0 "convey" (by simp), nl e h1, nm_ok (P.nm _ h3)]
  | surr d e =>
    obtain ⟨h0, h1, e0⟩ := f
    refine ⟨⟨⟨⟨e0⟩, fun _ _ z => by cases z⟩, fun _ _ _ z => by cases z⟩, ?_, h0⟩
    show gr 1 (.tup [_, _, _]) = true
    simp [gr, s0 "surrender" (by simp), nl e h1]
  | heir d m h =>
    obtain ⟨h0, h1, h2, h3⟩ := f
    refine ⟨⟨⟨⟨⟨nm_ok (P.nm _ h1), nm_ok (P.nm _ h2)⟩⟩, fun _ _ z => by cases z⟩, fun _ _ _ z => by cases z⟩, ?_, h0⟩
    show gr 1 (.tup [_, _, _, _]) = true
    simp [gr, s0 "heir" (by simp), nm_ok (P.nm _ h1), nm_ok (P.nm _ h2)]
  | liege d m l =>
    obtain ⟨h0, h1, h2, h3⟩ := f
    have hl : PyData.strOk l = true := by
      rcases h3 with rfl | h3 | h3
      · exact strOk_empty
      · exact nm_ok (P.nm _ h3)
      · exact bound_ok W h3
    refine ⟨⟨⟨⟨⟨nm_ok (P.nm _ h1), hl⟩⟩, fun _ _ z => by cases z⟩, fun _ _ _ z => by cases z; exact nm_ne (P.nm _ h1)⟩, ?_, h0⟩
    show gr 1 (.tup [_, _, _, _]) = true
    simp [gr, s0 "liege" (by simp), nm_ok (P.nm _ h1), hl]
  | death d m =>
    obtain ⟨h0, h1⟩ := f
    refine ⟨⟨⟨⟨nm_ok (P.nm _ h1)⟩, fun _ _ z => by cases z; exact nm_ne (P.nm _ h1)⟩, fun _ _ _ z => by cases z⟩, ?_, h0⟩
    show gr 1 (.tup [_, _, _]) = true
    simp [gr, s0 "death" (by simp), nm_ok (P.nm _ h1)]
end MR
set_option Elab.async false
set_option linter.all false
set_option maxRecDepth 100000
set_option exponentiation.threshold 30000
namespace MR
open PySem
structure Rows (rows : List Rw) : Prop where
  f : ∀ r ∈ rows, r.fine2
  s : ∀ r ∈ rows, r.sok
  nd : rows.Nodup
  d0 : ∀ r ∈ rows, 0 ≤ r.day
  d1 : ∀ r ∈ rows, r.day ≤ 9999
theorem ints_at {l : List Int} (x : Int) (h : l ≠ []) : ∃ y ∈ l, L2.atI (l.map D.int) (x % (l.length : Int)) = some (.int y) := by
  have hp : 0 < l.length := List.length_pos_iff.mpr h
  have h0 := Int.emod_nonneg x (show (l.length : Int) ≠ 0 by omega)
  have h1 := Int.emod_lt_of_pos x (show (0 : Int) < (l.length : Int) by omega)
  obtain ⟨k, hk, e⟩ : ∃ k : Nat, k < l.length ∧ x % (l.length : Int) = (k : Int) := ⟨(x % (l.length : Int)).toNat, by omega, by omega⟩
  refine ⟨l[k], List.getElem_mem hk, ?_⟩
  rw [e]
  exact atI_map hk
theorem five_at (v : Int) : ∃ y : Int, 0 ≤ y ∧ y ≤ 300 ∧ L2.atI [.int 1, .int 1, .int 0, .int 5, .int 300] (v % 5) = some (D.int y) := by
  obtain ⟨y, hy, e⟩ := ints_at (l := [1, 1, 0, 5, 300]) v (by simp)
  refine ⟨y, ?_, ?_, e⟩
  · simp at hy; omega
  · simp at hy; omega
def Rw.inP (men lands : List Str) : Rw → Prop
  | .grant _ _ n m _ _ => n ∈ lands ∧ m ∈ men
  | .part _ _ n m _ => n ∈ lands ∧ m ∈ men
  | .convey _ _ m => m ∈ men
  | .surr _ _ => True
  | .heir _ m h => m ∈ men ∧ h ∈ men
  | .liege _ m _ => m ∈ men
  | .death _ m => m ∈ men
theorem fit_in {men lands : List Str} {B : Bk} {dd : Int} {r : Rw} (f : r.fit men lands B dd) : r.inP men lands := by
  cases r with
  | grant d e n m a s => exact ⟨f.2.2.1, f.2.2.2.1⟩
  | part d e n m a => exact ⟨f.2.2.2.1, f.2.2.2.2.1⟩
  | convey d e m => exact f.2.2.2
  | surr d e => trivial
  | heir d m h => exact ⟨f.2.1, f.2.2.1⟩
  | liege d m l => exact f.2.1
  | death d m => exact f.2
section
variable {S : Sto} {n : Nat} {B : Bk} {tot w : Int} {men lands : List Str} {fs ways : List Int}
theorem rows_end {p0 p1 p3 p4 : D} {m day x14 : Int} {n8 : Nat} {rl : List D} {S S1 S2 S' : Sto} {u7 u8 u9 u10 : Slot} (sm : small m) (bk : (sSet 5 (dAlloc (dCall m__law_book_v2 (aCons (d2 opIx (dVar 3) (dC (.int 2))) aNil)))) [.val p0, .val p1, .val (.int m), .val p3, .val p4, .emp, .emp, .emp, .emp, .emp, .emp] S = .ok .next [.val p0, .val p1, .val (.int m), .val p3, .val p4, .val (.obj n8), .emp, .emp, .emp, .emp, .emp] S1)
    (a14 : ∀ σ S, deref σ S p0 = some p0) (e14 : opIx p0 (.int 14) = some (.int x14)) (hd : day = if x14.fdiv 40 % 8 = 7 then 9985 + x14 % 15 else x14 % 40)
    (el : forL (gN 8) fb__law_rows_1 (ran 0 m) [.val p0, .val p1, .val (.int m), .val p3, .val p4, .val (.obj n8), .own (.lst []), .val (.int day), .emp, .emp, .emp] S1 = .ok .next [.val p0, .val p1, .val (.int m), .val p3, .val p4, .val (.obj n8), .own (.lst rl), u7, u8, u9, u10] S') :
    m__law_rows [p0, p1, .int m, p3, p4] S = .ok (.lst rl) S' := by
  have k0 : 0 ≤ most := by decide
  have d40 : divOk 40 := by decide
  refine dDef_ret (σ' := [.val p0, .val p1, .val (.int m), .val p3, .val p4, .val (.obj n8), .own (.lst rl), u7, u8, u9, u10]) ?_
  unfold b__law_rows
  refine run_seq bk ?_
  rw [seqK_next]
  by_cases c : x14.fdiv 40 % 8 = 7
  · rw [if_pos c] at hd
    subst hd
    simp [k0, a14, e14, d40, c, sm, el]
  · rw [if_neg c] at hd
    subst hd
    simp [k0, a14, e14, d40, c, sm, el]
end
end MR
set_option Elab.async false
set_option linter.all false
set_option maxRecDepth 100000
namespace MR
open PySem
noncomputable section
end
end MR
set_option Elab.async false
set_option linter.all false
set_option maxRecDepth 100000
set_option exponentiation.threshold 30000
namespace MR
open PySem
section
variable {S S' : Sto} {n hi : Nat} {w b : Int} {rows : List Rw} {st : List St} {men lands : List Str} {fs : List Int}
structure Ct (S : Sto) (n hi : Nat) (w b : Int) (rows : List Rw) (st : List St) : Prop where
  C : CtAt S n w b (vds (B0 w) (srtR rows)) st
  v : st.map St.v = stds (B0 w) [(0, B0 w)] (srtR rows)
  Z : Snd (fin (B0 w) (srtR rows)) rows.length w
  R : Rows rows
  hl : rows.length < 59
  w1 : 1 ≤ w
  w2 : w ≤ 9999
  low : ∀ s ∈ st, ∀ x ∈ s.cells, x < hi
  h10 : n + 10 < hi
def Pre (m : Nat) (S S' : Sto) : Prop := m ≤ S.length ∧ m ≤ S'.length ∧ ∀ j < m, S'[j]? = S[j]?
theorem Pre.mono {m m' : Nat} (p : Pre m S S') (h : m' ≤ m) : Pre m' S S' := ⟨Nat.le_trans h p.1, Nat.le_trans h p.2.1, fun j hj => p.2.2 j (Nat.lt_of_lt_of_le hj h)⟩
theorem Pre.trans {m : Nat} {S'' : Sto} (p : Pre m S S') (q : Pre m S' S'') : Pre m S S'' := ⟨p.1, q.2.1, fun j hj => (q.2.2 j hj).trans (p.2.2 j hj)⟩
theorem StAt.lt {s : St} (A : StAt S s) : ∀ x ∈ s.cells, x < S.length := by
  have lt : ∀ {j : Nat} {o : Ob}, S[j]? = some o → j < S.length := fun e => (List.getElem?_eq_some_iff.mp e).1
  intro x hx
  simp only [St.cells, List.mem_append, List.mem_cons, List.not_mem_nil, or_false] at hx
  rcases hx with (hx | hx) | hx
  · rcases hx with rfl | rfl | rfl | rfl | rfl | rfl
    · exact lt A.o
    · exact lt A.A.o
    · exact lt A.A.l
    · exact lt A.A.h
    · exact lt A.A.w
    · exact lt A.A.s
  · rcases A.g with z | ⟨k, z, e⟩
    · rw [z] at hx; cases hx
    · rw [z] at hx; rw [List.mem_singleton.mp hx]; exact lt e
  · rcases A.l with z | ⟨k, z, e⟩
    · rw [z] at hx; cases hx
    · rw [z] at hx; rw [List.mem_singleton.mp hx]; exact lt e
end
end MR
set_option Elab.async false
set_option linter.all false
set_option maxRecDepth 100000
set_option exponentiation.threshold 30000
namespace MR
open PySem
theorem asc_days {l : List Rw} (h : Asc l) : l.Pairwise fun a b => a.day ≤ b.day := by
  refine h.imp fun {a b} h => ?_
  rw [lt_eq] at h
  by_cases c : b.day = a.day
  · omega
  · rw [if_neg c] at h
    have := of_decide_eq_false h
    omega
def unt (d : Int) (l : List Rw) : List Rw := l.filter fun r => decide (r.day ≤ d)
theorem srtR_unt {l : List Rw} (hs : ∀ r ∈ l, r.sok) (d : Int) : srtR (unt d l) = unt d (srtR l) := by
  have hs' : ∀ r ∈ unt d l, r.sok := fun r hr => hs r (List.mem_filter.mp hr).1
  refine asc_uniq (fun r hr => hs' r ((srtR_perm _).mem_iff.mp hr)) (srtR_asc hs') ?_ ?_
  · exact List.Pairwise.sublist List.filter_sublist (srtR_asc hs)
  · exact (srtR_perm _).trans ((srtR_perm l).filter _).symm
theorem Rows.unt {rows : List Rw} (R : Rows rows) (d : Int) : Rows (unt d rows) :=
  ⟨fun r hr => R.f r (List.mem_filter.mp hr).1, fun r hr => R.s r (List.mem_filter.mp hr).1, R.nd.filter _, fun r hr => R.d0 r (List.mem_filter.mp hr).1, fun r hr => R.d1 r (List.mem_filter.mp hr).1⟩
theorem unt_len (d : Int) (rows : List Rw) : (unt d rows).length ≤ rows.length := List.length_filter_le ..
def onV (d : Int) (st : List (Int × Bk)) : Option Bk := (st.filter fun s => decide (s.1 ≤ d)).getLast?.map (·.2)
theorem bookOn_onV (d : Int) : ∀ (st : List (Int × Bk)) (f : Bk), bookOn f st d = (onV d st).getD f
  | [], f => rfl
  | s :: st, f => by
    have ih := bookOn_onV d st
    unfold bookOn at ih ⊢
    rw [List.foldl_cons, ih]
    unfold onV
    rw [List.filter_cons]
    by_cases c : s.1 ≤ d
    · rw [if_pos c, if_pos (decide_eq_true c)]
      cases h : st.filter fun s => decide (s.1 ≤ d) with
      | nil => rfl
      | cons a b => rw [List.getLast?_cons_cons]; rfl
    · rw [if_neg c, if_neg (by simpa using c)]
theorem onV_app {d : Int} {st : List (Int × Bk)} {s : Int × Bk} (h : ¬ s.1 ≤ d) : onV d (st ++ [s]) = onV d st := by
  unfold onV
  rw [List.filter_append, List.filter_cons, if_neg (by simpa using h)]
  simp
theorem onV_note {d e : Int} {st : List (Int × Bk)} {B : Bk} (h : ¬ e ≤ d) : onV d (noteV st e B) = onV d st := by
  unfold noteV
  rw [onV_app h]
  split
  · rename_i z
    cases hl : st.getLast? with
    | none => rw [hl] at z; cases z
    | some s =>
      rw [hl] at z
      have : s.1 = e := by simpa using z
      have e2 : st = st.dropLast ++ [s] := by obtain ⟨h0, rfl⟩ := List.getLast?_eq_some_iff.mp hl; simp
      rw [e2, List.dropLast_concat, onV_app (by rw [this]; exact h)]
  · rfl
theorem onV_late {d : Int} : ∀ (rs : List Rw) (B : Bk) (st : List (Int × Bk)), (∀ r ∈ rs, ¬ r.day ≤ d) → onV d (stds B st rs) = onV d st
  | [], _, _, _ => rfl
  | r :: rs, B, st, h => by
    rw [stds, onV_late rs _ _ fun q hq => h q (List.mem_cons_of_mem _ hq)]
    split
    · exact onV_note (h r List.mem_cons_self)
    · rfl
theorem onV_last {d : Int} {st : List (Int × Bk)} {s : Int × Bk} (h : s.1 ≤ d) : onV d (st ++ [s]) = some s.2 := by
  unfold onV
  rw [List.filter_append, List.filter_cons, if_pos (decide_eq_true h)]
  simp
theorem onV_stds {d : Int} : ∀ (rs : List Rw) (B : Bk) (st : List (Int × Bk)), onV d st = some B → (rs.Pairwise fun a b => a.day ≤ b.day) → onV d (stds B st rs) = some (fin B (unt d rs))
  | [], _, _, h, _ => h
  | r :: rs, B, st, h, hp => by
    obtain ⟨h1, h2⟩ := List.pairwise_cons.mp hp
    by_cases c : r.day ≤ d
    · rw [stds, onV_stds rs (B.step r) _ ?_ h2]
      · unfold unt
        rw [List.filter_cons, if_pos (decide_eq_true c)]
        rfl
      · by_cases z : B.why r = "stands"
        · rw [if_pos z]
          exact onV_last c
        · rw [if_neg z]
          unfold Bk.step
          rw [if_neg z]
          exact h
    · have late : ∀ q ∈ r :: rs, ¬ q.day ≤ d := fun q hq => by
        rcases List.mem_cons.mp hq with rfl | hq
        · exact c
        · have := h1 q hq
          omega
      rw [onV_late _ _ _ late, h]
      have : unt d (r :: rs) = [] := List.filter_eq_nil_iff.mpr fun q hq => by simpa using late q hq
      rw [this]
      rfl
section
variable {S S' : Sto} {n hi : Nat} {w b : Int} {rows : List Rw} {st : List St} {men lands : List Str} {fs : List Int}
theorem Ct.book (K : Ct S n hi w b rows st) {d : Int} (h : 0 ≤ d) (f : Bk) : bookOn f (st.map St.v) d = fin (B0 w) (srtR (unt d rows)) := by
  rw [bookOn_onV, K.v, onV_stds _ _ _ (by unfold onV; rw [List.filter_cons, if_pos (decide_eq_true h)]; rfl) (asc_days (srtR_asc K.R.s)), srtR_unt K.R.s]
  rfl
end
end MR
set_option Elab.async false
set_option linter.all false
set_option maxRecDepth 100000
namespace MR
open PySem
noncomputable section
def b_Court_liege : DS := (sRet (dMeth isDct kGet (dFld ["Stand"] "lieges_then" (dMet "stand" [("Court", m_Court_stand)] (dVar 0) (aCons (dVar 1) aNil))) (aCons (dVar 2) aNil)))
def m_Court_liege : Den := dDef 3 b_Court_liege
def b_Court_dead : DS := (sRet (d2 opInG (dVar 2) (dFld ["Stand"] "gone_then" (dMet "stand" [("Court", m_Court_stand)] (dVar 0) (aCons (dVar 1) aNil)))))
def m_Court_dead : Den := dDef 3 b_Court_dead
end
end MR
set_option Elab.async false
set_option linter.all false
set_option maxRecDepth 100000
set_option exponentiation.threshold 30000
namespace MR
open PySem
theorem get_encO (l : List (Str × Str)) (m : Str) : (valD (enc D.str l) (.inr m)).getD .non = encO (aval l m) := by rw [valD_enc]; cases aval l m <;> rfl
section
variable {S S' : Sto} {n hi : Nat} {w b : Int} {rows : List Rw} {st : List St} {men lands : List Str} {fs : List Int}
theorem Ct.stand (K : Ct S n hi w b rows st) {d : Int} (h : 0 ≤ d) : ∃ s, StAt S s ∧ m_Court_stand [.obj n, .int d] S = .ok (.obj s.i) S ∧ s.B = fin (B0 w) (srtR (unt d rows)) := by
  obtain ⟨s, hs, e, f, _, eB⟩ := stand_at K.C d
  rw [K.book h] at eB
  exact ⟨s, K.C.each s hs, e, eB⟩
theorem Ct.liege (K : Ct S n hi w b rows st) {d : Int} (h : 0 ≤ d) (m : Str) : m_Court_liege [.obj n, .int d, .str m] S = .ok (encO (aval (fin (B0 w) (srtR (unt d rows))).lieges m)) S := by
  obtain ⟨s, A, e, eB⟩ := K.stand h
  have ob := K.C.ob
  have so := A.ob
  have dl := A.l
  rw [eB] at dl
  refine dDef_ret (σ' := [.val (.obj n), .val (.int d), .val (.str m)]) ?_
  have ge := get_encO (fin (B0 w) (srtR (unt d rows))).lieges m
  generalize enc D.str (fin (B0 w) (srtR (unt d rows))).lieges = ll at *
  simp [b_Court_liege, ob, e, so, dl.de, ge, frz_enc]
theorem Ct.dead (K : Ct S n hi w b rows st) {d : Int} (h : 0 ≤ d) (m : Str) : m_Court_dead [.obj n, .int d, .str m] S = .ok (.bl (decide (m ∈ (fin (B0 w) (srtR (unt d rows))).dead))) S := by
  obtain ⟨s, A, e, eB⟩ := K.stand h
  have ob := K.C.ob
  have so := A.ob
  have dg := A.g
  rw [eB] at dg
  have sv := seenD_val (fin (B0 w) (srtR (unt d rows))).dead m
  refine dDef_ret (σ' := [.val (.obj n), .val (.int d), .val (.str m)]) ?_
  generalize seenD (fin (B0 w) (srtR (unt d rows))).dead = ll at *
  simp [b_Court_dead, ob, e, so, dg.de, sv]
end
end MR
set_option Elab.async false
set_option linter.all false
set_option maxRecDepth 100000
set_option exponentiation.threshold 30000
namespace MR
open PySem
theorem five_any (a b c d e v : Int) (lo hi : Int) (hb : ∀ z ∈ [a, b, c, d, e], lo ≤ z ∧ z ≤ hi) : ∃ y : Int, (lo ≤ y ∧ y ≤ hi) ∧ L2.atI [.int a, .int b, .int c, .int d, .int e] (v % 5) = some (D.int y) := by
  obtain ⟨y, hy, h⟩ := ints_at (l := [a, b, c, d, e]) v (by simp)
  exact ⟨y, hb y hy, h⟩
theorem five_nums (x v : Int) : ∃ y : Int, (0 ≤ y ∧ y ≤ 9999) ∧ L2.atI [.int (x % 10000), .int (x % 10000), .int 9999, .int 1, .int 0] (v % 5) = some (D.int y) :=
  five_any _ _ _ _ _ v 0 9999 fun z hz => by
    simp only [List.mem_cons, List.not_mem_nil, or_false] at hz
    rcases hz with rfl | rfl | rfl | rfl | rfl <;> omega
theorem strs_at {l : List Str} (x : Int) (h : l ≠ []) : ∃ y ∈ l, L2.atI (l.map D.str) (x % (l.length : Int)) = some (.str y) := by
  have hp : 0 < l.length := List.length_pos_iff.mpr h
  have i0 : 0 ≤ x % (l.length : Int) := Int.emod_nonneg _ (by omega)
  have i1 : x % (l.length : Int) < l.length := Int.emod_lt_of_pos _ (by omega)
  obtain ⟨k, hk, e⟩ : ∃ k : Nat, k < l.length ∧ x % (l.length : Int) = (k : Int) := ⟨(x % (l.length : Int)).toNat, by omega, by omega⟩
  refine ⟨l[k], List.getElem_mem hk, ?_⟩
  rw [e, atI_lit, List.getElem?_map, List.getElem?_eq_getElem hk]
  rfl
theorem opIntS_bl {b : Bool} : opIntS (.bl b) = some (.int (if b then 1 else 0)) := by cases b <;> rfl
section
variable {S : Sto} {fs : List Int} {names : List Str}
theorem num_turn (hg : Good fs) (hl : 14 ≤ fs.length) {i : Nat} (hi : i < 6) {c : Nat} (hc : c = 100 ∨ c = 97 ∨ c = 115) {p1 p2 : D} {acc : List D} (ha : acc.length < 100) {s6 : Slot} :
    ∃ (y : Int) (u6 : Slot), (0 ≤ y ∧ y ≤ 9999 ∧ (c = 97 → 1 ≤ y)) ∧ fb__law_any_row_1 [.val (.lst (fs.map D.int)), .val p1, .val p2, .own (.lst acc), .val (.int (i : Nat)), .val (.str ⟨#[c]⟩), s6, .emp] S = .ok .next [.val (.lst (fs.map D.int)), .val p1, .val p2, .own (.lst (acc ++ [.int y])), .val (.int (i : Nat)), .val (.str ⟨#[c]⟩), u6, .emp] S := by
  obtain ⟨x, a1, _, _⟩ := int_at (1 + i) hg (by omega)
  obtain ⟨v, a8, _, _⟩ := int_at (8 + i) hg (by omega)
  obtain ⟨y, hy, ey⟩ := five_nums x v
  have e1 : (1 : Int) + (i : Int) = ((1 + i : Nat) : Int) := by omega
  have e8 : (8 : Int) + (i : Int) = ((8 + i : Nat) : Int) := by omega
  have hin : hasC "das" c = true := by rcases hc with rfl | rfl | rfl <;> decide
  have k5 : 5 ≤ most := by decide
  have ka : acc.length < most := Nat.lt_trans ha (by decide)
  rw [← e1] at a1
  rw [← e8] at a8
  refine ⟨if y < (if decide ((⟨#[c]⟩ : Str) = "a") then 1 else 0) then (if decide ((⟨#[c]⟩ : Str) = "a") then 1 else 0) else y, .val (.int y), ?_, ?_⟩
  · have h97 : c = 97 → decide ((⟨#[c]⟩ : Str) = "a") = true := fun z => by subst z; decide
    generalize decide ((⟨#[c]⟩ : Str) = "a") = b at *
    cases b with
    | true =>
      rw [show (if true = true then (1 : Int) else 0) = 1 from rfl]
      exact ⟨by split <;> omega, by split <;> omega, fun _ => by split <;> omega⟩
    | false =>
      rw [show (if false = true then (1 : Int) else 0) = 0 from rfl]
      exact ⟨by split <;> omega, by split <;> omega, fun z => absurd (h97 z) (by decide)⟩
  unfold fb__law_any_row_1
  generalize fs.map D.int = fl at *
  refine run_seq (r := .ok .next [.val (.lst fl), .val p1, .val p2, .own (.lst acc), .val (.int (i : Nat)), .val (.str ⟨#[c]⟩), .val (.int y), .emp] S) ?_ ?_
  · simp [a1, a8, k5, ey]
  rw [seqK_next]
  generalize hb : decide ((⟨#[c]⟩ : Str) = "a") = b
  simp [opIn_sign, hin, hb, opIntS_bl, kApp, ka]
theorem txt_turn (hg : Good fs) (hl : 14 ≤ fs.length) (hn : names ≠ []) {i : Nat} (hi : i < 6) {c : Nat} (hc : c = 99 ∨ c = 110) {p2 : D} {acc : List D} (ha : acc.length < 100) {s6 : Slot} :
    ∃ (z : Str) (u6 : Slot), (z ∈ names ∨ c = 99 ∧ z = "") ∧ fb__law_any_row_1 [.val (.lst (fs.map D.int)), .val (.lst (names.map D.str)), .val p2, .own (.lst acc), .val (.int (i : Nat)), .val (.str ⟨#[c]⟩), s6, .emp] S = .ok .next [.val (.lst (fs.map D.int)), .val (.lst (names.map D.str)), .val p2, .own (.lst (acc ++ [.str z])), .val (.int (i : Nat)), .val (.str ⟨#[c]⟩), u6, .emp] S := by
  obtain ⟨x, a1, _, _⟩ := int_at (1 + i) hg (by omega)
  obtain ⟨v, a8, _, _⟩ := int_at (8 + i) hg (by omega)
  obtain ⟨y, _, ey⟩ := five_nums x v
  obtain ⟨z, hz, ez⟩ := strs_at x hn
  have e1 : (1 : Int) + (i : Int) = ((1 + i : Nat) : Int) := by omega
  have e8 : (8 : Int) + (i : Int) = ((8 + i : Nat) : Int) := by omega
  have hin : hasC "das" c = false := by rcases hc with rfl | rfl <;> decide
  have k5 : 5 ≤ most := by decide
  have ka : acc.length < most := Nat.lt_trans ha (by decide)
  have np : (0 : Int) < names.length := by have := List.length_pos_iff.mpr hn; omega
  have ll : ((names.map D.str).length : Int) = names.length := by rw [List.length_map]
  rw [← e1] at a1
  rw [← e8] at a8
  have st1 : ∀ (nl : List D), (sSet 6 (d2 opIx (dLst (aCons (d2 opMod (d2 opIx (dVar 0) (d2 opAdd (dC (.int 1)) (dVar 4))) (dC (.int 10000))) (aCons (d2 opMod (d2 opIx (dVar 0) (d2 opAdd (dC (.int 1)) (dVar 4))) (dC (.int 10000))) (aCons (dC (.int 9999)) (aCons (dC (.int 1)) (aCons (dC (.int 0)) aNil)))))) (d2 opMod (d2 opIx (dVar 0) (d2 opAdd (dC (.int 8)) (dVar 4))) (dC (.int 5))))) [.val (.lst (fs.map D.int)), .val (.lst nl), .val p2, .own (.lst acc), .val (.int (i : Nat)), .val (.str ⟨#[c]⟩), s6, .emp] S = .ok .next [.val (.lst (fs.map D.int)), .val (.lst nl), .val p2, .own (.lst acc), .val (.int (i : Nat)), .val (.str ⟨#[c]⟩), .val (.int y), .emp] S := fun nl => by
    generalize fs.map D.int = fl at *
    simp [a1, a8, k5, ey]
  by_cases q : c = 99 ∧ v % 3 = 0
  · refine ⟨"", .val (.int y), .inr ⟨q.1, rfl⟩, ?_⟩
    obtain ⟨rfl, qv⟩ := q
    have ec : (⟨#[99]⟩ : Str) = "c" := by decide
    unfold fb__law_any_row_1
    refine run_seq (st1 _) ?_
    rw [seqK_next]
    generalize fs.map D.int = fl at *
    generalize names.map D.str = nl at *
    simp [opIn_sign, hin, show ((⟨#[99]⟩ : Str) = "c") = True from eq_true ec, a8, qv, kApp, ka]
  · refine ⟨z, .val (.int y), .inl hz, ?_⟩
    unfold fb__law_any_row_1
    refine run_seq (st1 _) ?_
    rw [seqK_next]
    generalize fs.map D.int = fl at *
    generalize hL : (names.length : Int) = L at *
    generalize names.map D.str = nl at *
    rcases hc with rfl | rfl
    · have ec : ((⟨#[99]⟩ : Str) = "c") = True := eq_true (by decide)
      have qv : ¬ v % 3 = 0 := fun z => q ⟨rfl, z⟩
      simp [opIn_sign, hin, ec, a8, qv, a1, ll, np, ez, kApp, ka]
    · have ec : ((⟨#[110]⟩ : Str) = "c") = False := eq_false (by decide)
      simp [opIn_sign, hin, ec, a1, ll, np, ez, kApp, ka]
def okC (names : List Str) (c : Nat) (x : D) : Prop := ((c = 100 ∨ c = 97 ∨ c = 115) ∧ ∃ y : Int, (0 ≤ y ∧ y ≤ 9999 ∧ (c = 97 → 1 ≤ y)) ∧ x = .int y) ∨ ((c = 99 ∨ c = 110) ∧ ∃ z : Str, x = .str z ∧ (z ∈ names ∨ c = 99 ∧ z = ""))
def OkL (names : List Str) : List Nat → List D → Prop
  | [], [] => True
  | c :: cs, x :: xs => okC names c x ∧ OkL names cs xs
  | _, _ => False
def vc (c : Nat) : Bool := c == 100 || c == 97 || c == 115 || c == 99 || c == 110
theorem row_loop (hg : Good fs) (hl : 14 ≤ fs.length) (hn : names ≠ []) {p2 : D} : ∀ (cs : List Nat) (i : Nat) (acc : List D) (s4 s5 s6 : Slot), cs.all vc = true → i + cs.length ≤ 6 → acc.length + cs.length < 100 →
    ∃ (xs : List D) (u4 u5 u6 : Slot), forL (gT 2 (gsCons (gN 4) (gsCons (gN 5) gsNil))) fb__law_any_row_1 (enum (i : Nat) (cs.map fun c => .str ⟨#[c]⟩)) [.val (.lst (fs.map D.int)), .val (.lst (names.map D.str)), .val p2, .own (.lst acc), s4, s5, s6, .emp] S = .ok .next [.val (.lst (fs.map D.int)), .val (.lst (names.map D.str)), .val p2, .own (.lst (acc ++ xs)), u4, u5, u6, .emp] S ∧ OkL names cs xs
  | [], i, acc, s4, s5, s6, _, _, _ => ⟨[], s4, s5, s6, by simp [enum], trivial⟩
  | c :: cs, i, acc, s4, s5, s6, hv, hi, ha => by
    rw [List.all_cons, Bool.and_eq_true] at hv
    rw [List.length_cons] at hi ha
    have hg4 : ∀ σ4 σ5 σ6 : Slot, gT 2 (gsCons (gN 4) (gsCons (gN 5) gsNil)) (.tup [.int (i : Nat), .str ⟨#[c]⟩]) [.val (.lst (fs.map D.int)), .val (.lst (names.map D.str)), .val p2, .own (.lst acc), σ4, σ5, σ6, .emp] = some [.val (.lst (fs.map D.int)), .val (.lst (names.map D.str)), .val p2, .own (.lst acc), .val (.int (i : Nat)), .val (.str ⟨#[c]⟩), σ6, .emp] := fun _ _ _ => by simp [gT, gsCons, gsNil]
    have e1 : (i : Int) + 1 = ((i + 1 : Nat) : Int) := by omega
    have vv : (c = 100 ∨ c = 97 ∨ c = 115) ∨ (c = 99 ∨ c = 110) := by
      have := hv.1
      simp only [vc, Bool.or_eq_true, beq_iff_eq] at this
      omega
    obtain ⟨x, u6, st, ok⟩ : ∃ (x : D) (u6 : Slot), fb__law_any_row_1 [.val (.lst (fs.map D.int)), .val (.lst (names.map D.str)), .val p2, .own (.lst acc), .val (.int (i : Nat)), .val (.str ⟨#[c]⟩), s6, .emp] S = .ok .next [.val (.lst (fs.map D.int)), .val (.lst (names.map D.str)), .val p2, .own (.lst (acc ++ [x])), .val (.int (i : Nat)), .val (.str ⟨#[c]⟩), u6, .emp] S ∧ okC names c x := by
      rcases vv with vv | vv
      · obtain ⟨y, u6, hy, st⟩ := num_turn (S := S) hg hl (i := i) (by omega) vv (p1 := .lst (names.map D.str)) (p2 := p2) (acc := acc) (by omega) (s6 := s6)
        exact ⟨_, u6, st, .inl ⟨vv, y, hy, rfl⟩⟩
      · obtain ⟨z, u6, hz, st⟩ := txt_turn (S := S) hg hl hn (i := i) (by omega) vv (p2 := p2) (acc := acc) (by omega) (s6 := s6)
        exact ⟨_, u6, st, .inr ⟨vv, z, rfl, hz⟩⟩
    obtain ⟨xs, u4, u5, u6', e, oks⟩ := row_loop hg hl hn cs (i + 1) (acc ++ [x]) (.val (.int (i : Nat))) (.val (.str ⟨#[c]⟩)) u6 hv.2 (by omega) (by rw [List.length_append, List.length_singleton]; omega)
    refine ⟨x :: xs, u4, u5, u6', ?_, ok, oks⟩
    rw [List.map_cons, enum, forL_cons (hg4 s4 s5 s6) st, e1, e, List.append_assoc]
    rfl
def shapesD : List (Kk × D) := [(.inr "heir", .str "dnn"), (.inr "grant", .str "dcnnas"), (.inr "part", .str "dnnna"), (.inr "convey", .str "dnn"), (.inr "liege", .str "dnc"), (.inr "surrender", .str "dn"), (.inr "death", .str "dn")]
theorem shapes_eq (S : Sto) : m__law_shapes [] S = .ok (.dK shapesD) S := by
  refine dDef_ret (σ' := []) ?_
  simp [b__law_shapes]
  rfl
theorem row_list (hg : Good fs) (hl : 14 ≤ fs.length) (hn : names ≠ []) {x0 : Int} (a0 : L2.atI (fs.map D.int) 0 = some (.int x0)) {kd z : Str} {cs : List Nat} (ek : L2.atI (kinds7.map D.str) (x0 % 7) = some (.str kd)) (ez : valD shapesD (.inr kd) = some (.str z)) (es : signs z = cs.map fun c => .str ⟨#[c]⟩) (hv : cs.all vc = true) (hc : cs.length ≤ 6) {g : DS} :
    ∃ (xs : List D) (u4 u5 u6 : Slot), OkL names cs xs ∧ (sSeq (sSet 2 (d2 opIx (dCall0 m__law_kinds) (d2 opMod (d2 opIx (dVar 0) (dC (.int 0))) (dC (.int 7))))) (sSeq (sSetO 3 (dLst (aCons (dVar 2) aNil))) (sSeq (sFor (iEnumS (d2 opGet (dCall0 m__law_shapes) (dVar 2))) (gT 2 (gsCons (gN 4) (gsCons (gN 5) gsNil))) fb__law_any_row_1) g))) [.val (.lst (fs.map D.int)), .val (.lst (names.map D.str)), .emp, .emp, .emp, .emp, .emp, .emp] S = g [.val (.lst (fs.map D.int)), .val (.lst (names.map D.str)), .val (.str kd), .own (.lst (.str kd :: xs)), u4, u5, u6, .emp] S := by
  obtain ⟨xs, u4, u5, u6, e, ok⟩ := row_loop (S := S) hg hl hn (p2 := .str kd) cs 0 [.str kd] .emp .emp .emp hv (by omega) (by simp; omega)
  refine ⟨xs, u4, u5, u6, ok, ?_⟩
  have e : forL (gT 2 (gsCons (gN 4) (gsCons (gN 5) gsNil))) fb__law_any_row_1 (enum 0 (cs.map fun c => .str ⟨#[c]⟩)) [.val (.lst (fs.map D.int)), .val (.lst (names.map D.str)), .val (.str kd), .own (.lst [.str kd]), .emp, .emp, .emp, .emp] S = .ok .next [.val (.lst (fs.map D.int)), .val (.lst (names.map D.str)), .val (.str kd), .own (.lst (.str kd :: xs)), u4, u5, u6, .emp] S := e
  have kq := kinds_eq S
  have sq := shapes_eq S
  have k1 : 1 ≤ most := by decide
  rw [← es] at e
  generalize fs.map D.int = fl at *
  generalize names.map D.str = nl at *
  generalize kinds7.map D.str = kl at *
  generalize shapesD = sd at *
  refine run_seq (r := .ok .next [.val (.lst fl), .val (.lst nl), .val (.str kd), .emp, .emp, .emp, .emp, .emp] S) (by simp [dCall0, kq, a0, ek]) ?_
  rw [seqK_next]
  refine run_seq (r := .ok .next [.val (.lst fl), .val (.lst nl), .val (.str kd), .own (.lst [.str kd]), .emp, .emp, .emp, .emp] S) (by simp [k1]) ?_
  rw [seqK_next]
  refine run_seq (r := .ok .next [.val (.lst fl), .val (.lst nl), .val (.str kd), .own (.lst (.str kd :: xs)), u4, u5, u6, .emp] S) (by
    simp [dCall0, sq, ez, iEnumS, e]) ?_
  rw [seqK_next]
abbrev fixS : DS := (sIf (tAnd (tVal (d2 opInG (dVar 2) (dTup (aCons (dC (.str "heir")) (aCons (dC (.str "liege")) aNil))))) (tVal (d2 opEq' (d2 opIx (dVar 3) (dC (.int 2))) (d2 opIx (dVar 3) (dC (.int 3)))))) (sLPut (dVar 3) (dC (.int 3)) (d2 opIx (dLc (iLst (dVar 1)) (gN 7) lt__law_any_row_2 le__law_any_row_3 [7]) (d2 opMod (d2 opIx (dVar 0) (dC (.int 7))) (d2 opSub (d1 opLen (dVar 1)) (dC (.int 1)))))) sNil)
theorem fix_no {kd : Str} {row : List D} {p0 p1 : D} {u4 u5 u6 : Slot} (h : kd ∉ [("heir" : Str), "liege"]) : fixS [.val p0, .val p1, .val (.str kd), .own (.lst row), u4, u5, u6, .emp] S = .ok .next [.val p0, .val p1, .val (.str kd), .own (.lst row), u4, u5, u6, .emp] S := by
  have k2 : 2 ≤ most := by decide
  have hin := inT2 (x := kd) (a := "heir") (b := "liege")
  rw [decide_eq_false h] at hin
  simp [k2, hin]
theorem filter_ne_len {l : List Str} (hd : l.Nodup) (x : Str) : l.length - 1 ≤ (l.filter fun y => !decide (y = x)).length := by
  induction l with
  | nil => simp
  | cons y l ih =>
    obtain ⟨h1, h2⟩ := List.nodup_cons.mp hd
    by_cases c : y = x
    · subst c
      rw [List.filter_cons, if_neg (by simp)]
      have : l.filter (fun z => !decide (z = y)) = l := List.filter_eq_self.mpr fun z hz => by simpa using fun q => h1 (by rw [← q]; exact hz)
      rw [this]
      simp
    · rw [List.filter_cons, if_pos (by simpa using c), List.length_cons, List.length_cons]
      have := ih h2
      omega
theorem fix_yes (hg : Good fs) (hl : 14 ≤ fs.length) {n : Nat} (N : Nms n names) (hn : 2 ≤ n) (hn2 : n ≤ 100) {kd a b : Str} {y : Int} {u4 u5 u6 : Slot} (h : kd ∈ [("heir" : Str), "liege"]) (hb : b ∈ names ∨ b = "") :
    ∃ b' : Str, ((b' ∈ names ∨ b' = b) ∧ a ≠ b') ∧ fixS [.val (.lst (fs.map D.int)), .val (.lst (names.map D.str)), .val (.str kd), .own (.lst [.str kd, .int y, .str a, .str b]), u4, u5, u6, .emp] S = .ok .next [.val (.lst (fs.map D.int)), .val (.lst (names.map D.str)), .val (.str kd), .own (.lst [.str kd, .int y, .str a, .str b']), u4, u5, u6, .emp] S := by
  have k2 : 2 ≤ most := by decide
  have hin := inT2 (x := kd) (a := "heir") (b := "liege")
  rw [decide_eq_true h] at hin
  have at2 : ∀ (x w z q : D), L2.atI [x, w, z, q] 2 = some z := fun x w z q => atI_lit [x, w, z, q] 2
  have at3 : ∀ (x w z q : D), L2.atI [x, w, z, q] 3 = some q := fun x w z q => atI_lit [x, w, z, q] 3
  by_cases c : a = b
  · subst c
    obtain ⟨x, a7, g0, _⟩ := int_at 7 hg (by omega)
    have a7 : L2.atI (fs.map D.int) 7 = some (.int x) := a7
    have hlen := N.len
    have fl := filter_ne_len N.nd a
    have np : (0 : Int) < (names.length : Int) - 1 := by omega
    have i0 : 0 ≤ x % ((names.length : Int) - 1) := Int.emod_nonneg _ (by omega)
    have i1 : x % ((names.length : Int) - 1) < (names.length : Int) - 1 := Int.emod_lt_of_pos _ np
    obtain ⟨k, hk, e⟩ : ∃ k : Nat, k < (names.filter fun y => !decide (y = a)).length ∧ x % ((names.length : Int) - 1) = (k : Int) := ⟨(x % ((names.length : Int) - 1)).toNat, by omega, by omega⟩
    have ea : L2.atI ((names.filter fun y => !decide (y = a)).map D.str) (x % ((names.length : Int) - 1)) = some (.str (names.filter fun y => !decide (y = a))[k]) := by
      rw [e, atI_lit, List.getElem?_map, List.getElem?_eq_getElem hk]
      rfl
    have hm : (names.filter fun y => !decide (y = a))[k] ∈ names := (List.mem_filter.mp (List.getElem_mem hk)).1
    have hm2 : a ≠ (names.filter fun y => !decide (y = a))[k] := fun z => by
      have q := (List.mem_filter.mp (List.getElem_mem hk)).2
      rw [← z] at q
      simp at q
    refine ⟨(names.filter fun y => !decide (y = a))[k], ⟨.inl hm, hm2⟩, ?_⟩
    generalize (names.filter fun y => !decide (y = a))[k] = z at *
    have key := lc_strs (it := iLst (dVar 1)) (i := 7) (c := lt__law_any_row_2) (e := le__law_any_row_3) (σ := [.val (.lst (fs.map D.int)), .val (.lst (names.map D.str)), .val (.str kd), .own (.lst [.str kd, .int y, .str a, .str a]), u4, u5, u6, .emp]) (σ' := [.val (.lst (fs.map D.int)), .val (.lst (names.map D.str)), .val (.str kd), .own (.lst [.str kd, .int y, .str a, .str a]), u4, u5, u6, .emp]) (S := S) (l := names) (fun x => !decide (x = a)) D.str (by simp) rfl (by rw [hlen]; exact Nat.le_trans hn2 (by decide)) (fun x _ => ⟨by
      simp [wipeD, lt__law_any_row_2, at2], fun _ => by simp [wipeD, le__law_any_row_3]⟩)
    have ll : ((names.map D.str).length : Int) = names.length := by rw [List.length_map]
    generalize (names.filter fun y => !decide (y = a)).map D.str = ql at *
    generalize fs.map D.int = fl at *
    have om : opMod (.int x) (.int ((names.length : Int) - 1)) = some (.int (x % ((names.length : Int) - 1))) := opMod_int np
    generalize (names.length : Int) = L at *
    generalize names.map D.str = nl at *
    simp [k2, hin, at2, at3, sLPut, key, a7, ll, om, ea, ofMutS]
  · refine ⟨b, ⟨.inr rfl, c⟩, ?_⟩
    generalize fs.map D.int = fl at *
    generalize names.map D.str = nl at *
    simp [k2, hin, at2, at3, c]
theorem OkL_cons {c : Nat} {cs : List Nat} {xs : List D} (h : OkL names (c :: cs) xs) : ∃ x xs', xs = x :: xs' ∧ okC names c x ∧ OkL names cs xs' := by
  cases xs with
  | nil => exact h.elim
  | cons x xs => exact ⟨x, xs, rfl, h.1, h.2⟩
theorem OkL_nil {xs : List D} (h : OkL names [] xs) : xs = [] := by
  cases xs with
  | nil => rfl
  | cons x xs => exact h.elim
theorem strs_ok {n : Nat} (N : Nms n names) {z : Str} (h : z ∈ names ∨ z = "") : PyData.strOk z = true := by
  rcases h with h | rfl
  · exact nm_ok (N.nm z h)
  · exact strOk_empty
theorem nm_len8 {z : Str} (h : isNm z = true) : z.length ≤ 8 := by
  unfold isNm at h
  rw [Bool.and_eq_true, Bool.and_eq_true, decide_eq_true_iff, decide_eq_true_iff] at h
  exact h.1.2
theorem strs_len {n : Nat} (N : Nms n names) {z : Str} (h : z ∈ names ∨ z = "") : z.length ≤ 8 := by
  rcases h with h | rfl
  · exact nm_len8 (N.nm z h)
  · decide
theorem okN {c : Nat} {x : D} (h : okC names c x) (hc : c = 99 ∨ c = 110) : ∃ z : Str, x = .str z ∧ (z ∈ names ∨ c = 99 ∧ z = "") := by
  rcases h with ⟨h, _⟩ | ⟨_, z, rfl, h⟩
  · omega
  · exact ⟨z, rfl, h⟩
theorem okD {c : Nat} {x : D} (h : okC names c x) (hc : c = 100 ∨ c = 97 ∨ c = 115) : ∃ y : Int, x = .int y ∧ (0 ≤ y ∧ y ≤ 9999 ∧ (c = 97 → 1 ≤ y)) := by
  rcases h with ⟨_, y, h, e⟩ | ⟨h, _⟩
  · exact ⟨y, e, h⟩
  · omega
def Rw.okv : Rw → Prop
  | .heir d m h => (0 ≤ d ∧ d ≤ 9999) ∧ isNm m = true ∧ isNm h = true ∧ m ≠ h
  | .grant d e n m a s => (0 ≤ d ∧ d ≤ 9999) ∧ (e = "" ∨ isNm e = true) ∧ isNm n = true ∧ isNm m = true ∧ (1 ≤ a ∧ a ≤ 9999) ∧ (0 ≤ s ∧ s ≤ 9999)
  | .part d e n m a => (0 ≤ d ∧ d ≤ 9999) ∧ isNm e = true ∧ isNm n = true ∧ isNm m = true ∧ (1 ≤ a ∧ a ≤ 9999)
  | .convey d e m => (0 ≤ d ∧ d ≤ 9999) ∧ isNm e = true ∧ isNm m = true
  | .liege d m l => (0 ≤ d ∧ d ≤ 9999) ∧ isNm m = true ∧ (l = "" ∨ isNm l = true) ∧ m ≠ l
  | .surr d e => (0 ≤ d ∧ d ≤ 9999) ∧ isNm e = true
  | .death d m => (0 ≤ d ∧ d ≤ 9999) ∧ isNm m = true
def Rw.sh : Rw → Prop
  | .heir _ m h => m.length ≤ 8 ∧ h.length ≤ 8
  | .grant _ e n m _ _ => e.length ≤ 8 ∧ n.length ≤ 8 ∧ m.length ≤ 8
  | .part _ e n m _ => e.length ≤ 8 ∧ n.length ≤ 8 ∧ m.length ≤ 8
  | .convey _ e m => e.length ≤ 8 ∧ m.length ≤ 8
  | .liege _ m l => m.length ≤ 8 ∧ l.length ≤ 8
  | .surr _ e => e.length ≤ 8
  | .death _ m => m.length ≤ 8
theorem nmv {n : Nat} (N : Nms n names) {z : Str} (h : z ∈ names ∨ (110 : Nat) = 99 ∧ z = "") : isNm z = true := N.nm z (h.resolve_right fun q => absurd q.1 (by decide))
theorem nmc {n : Nat} (N : Nms n names) {z : Str} (h : z ∈ names ∨ (99 : Nat) = 99 ∧ z = "") : z = "" ∨ isNm z = true := h.elim (fun h => .inr (N.nm z h)) fun h => .inl h.2
theorem any_row_ok3 (hg : Good fs) (hl : 14 ≤ fs.length) {n : Nat} (N : Nms n names) (hn : 2 ≤ n) (hn2 : n ≤ 100) (S : Sto) : ∃ r : Rw, (r.sok ∧ r.sh ∧ r.okv) ∧ m__law_any_row [.lst (fs.map D.int), .lst (names.map D.str)] S = .ok r.D S := by
  have hne : names ≠ [] := fun z => by have := N.len; rw [z] at this; simp at this; omega
  obtain ⟨x0, a0, g0, _⟩ := int_at 0 hg (by omega)
  have a0 : L2.atI (fs.map D.int) 0 = some (.int x0) := a0
  obtain ⟨i, hi, ei⟩ : ∃ i : Nat, i < 7 ∧ x0 % 7 = (i : Int) := ⟨(x0 % 7).toNat, by omega, by omega⟩
  have s0 : ∀ k : String, k ∈ ["heir", "grant", "part", "convey", "liege", "surrender", "death"] → PyData.strOk (Str.ofString k) = true := by decide +kernel
  have fin : ∀ {kd : Str} {row : List D} {u4 u5 u6 : Slot} {xs : List D} {v4 v5 v6 : Slot} {r : Rw}, fixS [.val (.lst (fs.map D.int)), .val (.lst (names.map D.str)), .val (.str kd), .own (.lst (.str kd :: xs)), u4, u5, u6, .emp] S = .ok .next [.val (.lst (fs.map D.int)), .val (.lst (names.map D.str)), .val (.str kd), .own (.lst row), u4, u5, u6, .emp] S → row.length ≤ 10 → r.D = .tup row →
      b__law_any_row [.val (.lst (fs.map D.int)), .val (.lst (names.map D.str)), .emp, .emp, .emp, .emp, .emp, .emp] S = (sSeq fixS (sRet (d1 opTuple (dVar 3)))) [.val (.lst (fs.map D.int)), .val (.lst (names.map D.str)), .val (.str kd), .own (.lst (.str kd :: xs)), u4, u5, u6, .emp] S →
      m__law_any_row [.lst (fs.map D.int), .lst (names.map D.str)] S = .ok r.D S := by
    intro kd row u4 u5 u6 xs v4 v5 v6 r ef hr er eb
    refine dDef_ret (σ' := [.val (.lst (fs.map D.int)), .val (.lst (names.map D.str)), .val (.str kd), .own (.lst row), u4, u5, u6, .emp]) ?_
    refine Eq.trans eb ?_
    refine run_seq ef ?_
    rw [seqK_next, er]
    have k10 : row.length ≤ most := Nat.le_trans hr (by decide)
    generalize fs.map D.int = fl at *
    generalize names.map D.str = nl at *
    simp [opTuple, k10]
  have go : ∀ (kd z : Str) (cs : List Nat), L2.atI (kinds7.map D.str) (x0 % 7) = some (.str kd) → valD shapesD (.inr kd) = some (.str z) → signs z = (cs.map fun c => .str ⟨#[c]⟩) → cs.all vc = true → cs.length ≤ 6 →
      ∃ (xs : List D) (u4 u5 u6 : Slot), OkL names cs xs ∧ b__law_any_row [.val (.lst (fs.map D.int)), .val (.lst (names.map D.str)), .emp, .emp, .emp, .emp, .emp, .emp] S = (sSeq fixS (sRet (d1 opTuple (dVar 3)))) [.val (.lst (fs.map D.int)), .val (.lst (names.map D.str)), .val (.str kd), .own (.lst (.str kd :: xs)), u4, u5, u6, .emp] S := fun kd z cs ek ez es hv hc => row_list hg hl hne a0 ek ez es hv hc
  have K : ∀ (i : Nat), i < 7 → x0 % 7 = (i : Int) → ∀ kd : Str, kinds7[i]? = some kd → L2.atI (kinds7.map D.str) (x0 % 7) = some (.str kd) := fun i _ e kd h => by rw [e, atI_lit, List.getElem?_map, h]; rfl
  rcases (show i = 0 ∨ i = 1 ∨ i = 2 ∨ i = 3 ∨ i = 4 ∨ i = 5 ∨ i = 6 by omega) with rfl | rfl | rfl | rfl | rfl | rfl | rfl
  · obtain ⟨xs, u4, u5, u6, ok, eb⟩ := go "heir" "dnn" [100, 110, 110] (K 0 (by omega) ei _ rfl) (by rfl) (by rfl) (by decide) (by decide)
    obtain ⟨x0, xs, rfl, o0, ok⟩ := OkL_cons ok
    obtain ⟨x1, xs, rfl, o1, ok⟩ := OkL_cons ok
    obtain ⟨x2, xs, rfl, o2, ok⟩ := OkL_cons ok
    obtain rfl := OkL_nil ok
    obtain ⟨y0, rfl, b0⟩ := okD o0 (by omega)
    obtain ⟨z1, rfl, g1⟩ := okN o1 (by omega)
    have h1 : z1 ∈ names ∨ z1 = "" := g1.imp id And.right
    obtain ⟨z2, rfl, g2⟩ := okN o2 (by omega)
    have h2 : z2 ∈ names ∨ z2 = "" := g2.imp id And.right
    obtain ⟨z2', ⟨g2', n2'⟩, ef⟩ := fix_yes (S := S) hg hl N hn hn2 (kd := "heir") (a := z1) (b := z2) (y := y0) (u4 := u4) (u5 := u5) (u6 := u6) (by simp) h2
    have h2' : z2' ∈ names ∨ z2' = "" := g2'.elim .inl fun e => by rw [e]; exact h2
    refine ⟨.heir y0 z1 z2', ⟨?_, ?_, ?_⟩, fin (v4 := .emp) (v5 := .emp) (v6 := .emp) ef (by simp) rfl eb⟩
    · have q := s0 "heir" (by simp)
      have q1 := strs_ok N h1
      have q2 := strs_ok N h2'
      simp [Rw.sok, Rw.D, gr, q, q1, q2]
    · have q1 := strs_len N h1
      have q2 := strs_len N h2'
      exact ⟨q1, q2⟩
    · exact ⟨⟨b0.1, b0.2.1⟩, nmv N g1, g2'.elim (N.nm _) (fun e => by rw [e]; exact nmv N g2), n2'⟩
  · obtain ⟨xs, u4, u5, u6, ok, eb⟩ := go "grant" "dcnnas" [100, 99, 110, 110, 97, 115] (K 1 (by omega) ei _ rfl) (by rfl) (by rfl) (by decide) (by decide)
    obtain ⟨x0, xs, rfl, o0, ok⟩ := OkL_cons ok
    obtain ⟨x1, xs, rfl, o1, ok⟩ := OkL_cons ok
    obtain ⟨x2, xs, rfl, o2, ok⟩ := OkL_cons ok
    obtain ⟨x3, xs, rfl, o3, ok⟩ := OkL_cons ok
    obtain ⟨x4, xs, rfl, o4, ok⟩ := OkL_cons ok
    obtain ⟨x5, xs, rfl, o5, ok⟩ := OkL_cons ok
    obtain rfl := OkL_nil ok
    obtain ⟨y0, rfl, b0⟩ := okD o0 (by omega)
    obtain ⟨z1, rfl, g1⟩ := okN o1 (by omega)
    have h1 : z1 ∈ names ∨ z1 = "" := g1.imp id And.right
    obtain ⟨z2, rfl, g2⟩ := okN o2 (by omega)
    have h2 : z2 ∈ names ∨ z2 = "" := g2.imp id And.right
    obtain ⟨z3, rfl, g3⟩ := okN o3 (by omega)
    have h3 : z3 ∈ names ∨ z3 = "" := g3.imp id And.right
    obtain ⟨y4, rfl, b4⟩ := okD o4 (by omega)
    obtain ⟨y5, rfl, b5⟩ := okD o5 (by omega)
    refine ⟨.grant y0 z1 z2 z3 y4 y5, ⟨?_, ?_, ?_⟩, fin (v4 := .emp) (v5 := .emp) (v6 := .emp) (fix_no (by decide)) (by simp) rfl eb⟩
    · have q := s0 "grant" (by simp)
      have q1 := strs_ok N h1
      have q2 := strs_ok N h2
      have q3 := strs_ok N h3
      simp [Rw.sok, Rw.D, gr, q, q1, q2, q3]
    · have q1 := strs_len N h1
      have q2 := strs_len N h2
      have q3 := strs_len N h3
      exact ⟨q1, q2, q3⟩
    · exact ⟨⟨b0.1, b0.2.1⟩, nmc N g1, nmv N g2, nmv N g3, ⟨b4.2.2 rfl, b4.2.1⟩, ⟨b5.1, b5.2.1⟩⟩
  · obtain ⟨xs, u4, u5, u6, ok, eb⟩ := go "part" "dnnna" [100, 110, 110, 110, 97] (K 2 (by omega) ei _ rfl) (by rfl) (by rfl) (by decide) (by decide)
    obtain ⟨x0, xs, rfl, o0, ok⟩ := OkL_cons ok
    obtain ⟨x1, xs, rfl, o1, ok⟩ := OkL_cons ok
    obtain ⟨x2, xs, rfl, o2, ok⟩ := OkL_cons ok
    obtain ⟨x3, xs, rfl, o3, ok⟩ := OkL_cons ok
    obtain ⟨x4, xs, rfl, o4, ok⟩ := OkL_cons ok
    obtain rfl := OkL_nil ok
    obtain ⟨y0, rfl, b0⟩ := okD o0 (by omega)
    obtain ⟨z1, rfl, g1⟩ := okN o1 (by omega)
    have h1 : z1 ∈ names ∨ z1 = "" := g1.imp id And.right
    obtain ⟨z2, rfl, g2⟩ := okN o2 (by omega)
    have h2 : z2 ∈ names ∨ z2 = "" := g2.imp id And.right
    obtain ⟨z3, rfl, g3⟩ := okN o3 (by omega)
    have h3 : z3 ∈ names ∨ z3 = "" := g3.imp id And.right
    obtain ⟨y4, rfl, b4⟩ := okD o4 (by omega)
    refine ⟨.part y0 z1 z2 z3 y4, ⟨?_, ?_, ?_⟩, fin (v4 := .emp) (v5 := .emp) (v6 := .emp) (fix_no (by decide)) (by simp) rfl eb⟩
    · have q := s0 "part" (by simp)
      have q1 := strs_ok N h1
      have q2 := strs_ok N h2
      have q3 := strs_ok N h3
      simp [Rw.sok, Rw.D, gr, q, q1, q2, q3]
    · have q1 := strs_len N h1
      have q2 := strs_len N h2
      have q3 := strs_len N h3
      exact ⟨q1, q2, q3⟩
    · exact ⟨⟨b0.1, b0.2.1⟩, nmv N g1, nmv N g2, nmv N g3, ⟨b4.2.2 rfl, b4.2.1⟩⟩
  · obtain ⟨xs, u4, u5, u6, ok, eb⟩ := go "convey" "dnn" [100, 110, 110] (K 3 (by omega) ei _ rfl) (by rfl) (by rfl) (by decide) (by decide)
    obtain ⟨x0, xs, rfl, o0, ok⟩ := OkL_cons ok
    obtain ⟨x1, xs, rfl, o1, ok⟩ := OkL_cons ok
    obtain ⟨x2, xs, rfl, o2, ok⟩ := OkL_cons ok
    obtain rfl := OkL_nil ok
    obtain ⟨y0, rfl, b0⟩ := okD o0 (by omega)
    obtain ⟨z1, rfl, g1⟩ := okN o1 (by omega)
    have h1 : z1 ∈ names ∨ z1 = "" := g1.imp id And.right
    obtain ⟨z2, rfl, g2⟩ := okN o2 (by omega)
    have h2 : z2 ∈ names ∨ z2 = "" := g2.imp id And.right
    refine ⟨.convey y0 z1 z2, ⟨?_, ?_, ?_⟩, fin (v4 := .emp) (v5 := .emp) (v6 := .emp) (fix_no (by decide)) (by simp) rfl eb⟩
    · have q := s0 "convey" (by simp)
      have q1 := strs_ok N h1
      have q2 := strs_ok N h2
      simp [Rw.sok, Rw.D, gr, q, q1, q2]
    · have q1 := strs_len N h1
      have q2 := strs_len N h2
      exact ⟨q1, q2⟩
    · exact ⟨⟨b0.1, b0.2.1⟩, nmv N g1, nmv N g2⟩
  · obtain ⟨xs, u4, u5, u6, ok, eb⟩ := go "liege" "dnc" [100, 110, 99] (K 4 (by omega) ei _ rfl) (by rfl) (by rfl) (by decide) (by decide)
    obtain ⟨x0, xs, rfl, o0, ok⟩ := OkL_cons ok
    obtain ⟨x1, xs, rfl, o1, ok⟩ := OkL_cons ok
    obtain ⟨x2, xs, rfl, o2, ok⟩ := OkL_cons ok
    obtain rfl := OkL_nil ok
    obtain ⟨y0, rfl, b0⟩ := okD o0 (by omega)
    obtain ⟨z1, rfl, g1⟩ := okN o1 (by omega)
    have h1 : z1 ∈ names ∨ z1 = "" := g1.imp id And.right
    obtain ⟨z2, rfl, g2⟩ := okN o2 (by omega)
    have h2 : z2 ∈ names ∨ z2 = "" := g2.imp id And.right
    obtain ⟨z2', ⟨g2', n2'⟩, ef⟩ := fix_yes (S := S) hg hl N hn hn2 (kd := "liege") (a := z1) (b := z2) (y := y0) (u4 := u4) (u5 := u5) (u6 := u6) (by simp) h2
    have h2' : z2' ∈ names ∨ z2' = "" := g2'.elim .inl fun e => by rw [e]; exact h2
    refine ⟨.liege y0 z1 z2', ⟨?_, ?_, ?_⟩, fin (v4 := .emp) (v5 := .emp) (v6 := .emp) ef (by simp) rfl eb⟩
    · have q := s0 "liege" (by simp)
      have q1 := strs_ok N h1
      have q2 := strs_ok N h2'
      simp [Rw.sok, Rw.D, gr, q, q1, q2]
    · have q1 := strs_len N h1
      have q2 := strs_len N h2'
      exact ⟨q1, q2⟩
    · exact ⟨⟨b0.1, b0.2.1⟩, nmv N g1, g2'.elim (fun h => .inr (N.nm _ h)) (fun e => by rw [e]; exact nmc N g2), n2'⟩
  · obtain ⟨xs, u4, u5, u6, ok, eb⟩ := go "surrender" "dn" [100, 110] (K 5 (by omega) ei _ rfl) (by rfl) (by rfl) (by decide) (by decide)
    obtain ⟨x0, xs, rfl, o0, ok⟩ := OkL_cons ok
    obtain ⟨x1, xs, rfl, o1, ok⟩ := OkL_cons ok
    obtain rfl := OkL_nil ok
    obtain ⟨y0, rfl, b0⟩ := okD o0 (by omega)
    obtain ⟨z1, rfl, g1⟩ := okN o1 (by omega)
    have h1 : z1 ∈ names ∨ z1 = "" := g1.imp id And.right
    refine ⟨.surr y0 z1, ⟨?_, ?_, ?_⟩, fin (v4 := .emp) (v5 := .emp) (v6 := .emp) (fix_no (by decide)) (by simp) rfl eb⟩
    · have q := s0 "surrender" (by simp)
      have q1 := strs_ok N h1
      simp [Rw.sok, Rw.D, gr, q, q1]
    · have q1 := strs_len N h1
      exact q1
    · exact ⟨⟨b0.1, b0.2.1⟩, nmv N g1⟩
  · obtain ⟨xs, u4, u5, u6, ok, eb⟩ := go "death" "dn" [100, 110] (K 6 (by omega) ei _ rfl) (by rfl) (by rfl) (by decide) (by decide)
    obtain ⟨x0, xs, rfl, o0, ok⟩ := OkL_cons ok
    obtain ⟨x1, xs, rfl, o1, ok⟩ := OkL_cons ok
    obtain rfl := OkL_nil ok
    obtain ⟨y0, rfl, b0⟩ := okD o0 (by omega)
    obtain ⟨z1, rfl, g1⟩ := okN o1 (by omega)
    have h1 : z1 ∈ names ∨ z1 = "" := g1.imp id And.right
    refine ⟨.death y0 z1, ⟨?_, ?_, ?_⟩, fin (v4 := .emp) (v5 := .emp) (v6 := .emp) (fix_no (by decide)) (by simp) rfl eb⟩
    · have q := s0 "death" (by simp)
      have q1 := strs_ok N h1
      simp [Rw.sok, Rw.D, gr, q, q1]
    · have q1 := strs_len N h1
      exact q1
    · exact ⟨⟨b0.1, b0.2.1⟩, nmv N g1⟩
end
end MR
set_option Elab.async false
set_option linter.all false
set_option maxRecDepth 100000
namespace MR
open PySem
inductive Tg where
  | d | c | n | a | s
deriving DecidableEq
def Tg.ch : Tg → Nat
  | .d => 100 | .c => 99 | .n => 110 | .a => 97 | .s => 115
def Tg.wd : Tg → Str
  | .d => "day" | .c => "crowned" | .n => "name" | .a => "acres" | .s => "service"
def Tg.num : Tg → Bool
  | .d => true | .a => true | .s => true | _ => false
def Tg.fit : Tg → Kk → Bool
  | .d, .inl i => decide (0 ≤ i) && decide (i ≤ 9999)
  | .s, .inl i => decide (0 ≤ i) && decide (i ≤ 9999)
  | .a, .inl i => decide (1 ≤ i) && decide (i ≤ 9999)
  | .c, .inr z => decide (z = "") || isNm z
  | .n, .inr z => isNm z
  | _, _ => false
def Tg.typ : Tg → Kk → Bool
  | g, .inl _ => g.num
  | g, .inr _ => !g.num
def fitL : List Tg → List Kk → Bool
  | t :: ts, x :: xs => t.fit x && fitL ts xs
  | _, _ => true
def typL : List Tg → List Kk → Bool
  | t :: ts, x :: xs => t.typ x && typL ts xs
  | _, _ => true
def shpL : List (Str × List Tg) := [("heir", [.d, .n, .n]), ("grant", [.d, .c, .n, .n, .a, .s]), ("part", [.d, .n, .n, .n, .a]), ("convey", [.d, .n, .n]), ("liege", [.d, .n, .c]), ("surrender", [.d, .n]), ("death", [.d, .n])]
def shp (k : Str) : Option (List Tg) := aval shpL k
def ltrs (ts : List Tg) : Str := txt (ts.map Tg.ch)
theorem shapes_enc : shapesD = enc (fun ts => D.str (ltrs ts)) shpL := by
  unfold shapesD shpL enc ltrs
  simp only [List.map_cons, List.map_nil, Tg.ch]
  congr
theorem tab_enc : tab_SHAPES = shpL.map fun p => (p.1, p.2.map fun t => D.str t.wd) := by
  unfold tab_SHAPES shpL
  simp only [List.map_cons, List.map_nil, Tg.wd]
theorem lookup_map {α : Type} {f : α → List D} (k : Str) : ∀ l : List (Str × α), (l.map fun p => (p.1, f p.2)).lookup k = (aval l k).map f
  | [] => rfl
  | (a, v) :: l => by
    rw [List.map_cons, List.lookup_cons]
    unfold aval
    rw [List.find?_cons]
    by_cases h : a = k
    · subst h
      simp
    · have h1 : (k == a) = false := by simpa using fun e => h e.symm
      have h2 : decide (a = k) = false := by simpa using h
      rw [h1]
      simp only [h2]
      exact lookup_map k l
theorem tab_look (k : Str) : tab_SHAPES.lookup k = (shp k).map fun ts => ts.map fun t => D.str t.wd := by
  rw [tab_enc]
  exact lookup_map k shpL
theorem shp_len {k : Str} {ts : List Tg} (h : shp k = some ts) : ts.length ≤ 6 := by
  have := aval_mem h
  simp only [shpL, List.mem_cons, Prod.mk.injEq, List.not_mem_nil, or_false] at this
  rcases this with ⟨_, rfl⟩ | ⟨_, rfl⟩ | ⟨_, rfl⟩ | ⟨_, rfl⟩ | ⟨_, rfl⟩ | ⟨_, rfl⟩ | ⟨_, rfl⟩ <;> decide
def ShortL (xs : List Kk) : Prop := ∀ z : Str, (Sum.inr z : Kk) ∈ xs → z.length ≤ 1000
def likeB (k : Str) (xs : List Kk) : Bool := decide (k ∈ [("heir" : Str), "liege"]) && decide (xs[1]? = xs[2]?)
def goodK (k : Str) (xs : List Kk) : Bool := match shp k with
  | none => false
  | some ts => decide (xs.length = ts.length) && (fitL ts xs && !likeB k xs)
section
variable {S : Sto}
theorem lnamed_eq {t : Str} (h : t.length ≤ most) (S : Sto) : m__law_named [.str t] S = .ok (.bl (isNm t)) S := is_name_eq h S
theorem short_most {z : Str} (h : z.length ≤ 1000) : z.length ≤ most := Nat.le_trans h (by decide)
theorem fits_eq (t : Tg) (x : Kk) (h : t.typ x = true) (hs : ∀ z, x = .inr z → z.length ≤ 1000) (S : Sto) : m_fits [kD x, .str t.wd] S = .ok (.bl (t.fit x)) S := by
  have k2 : 2 ≤ most := by decide
  have inn : ∀ z : Str, opInG (.str z) (.tup [.str "day", .str "service"]) = some (.bl (decide (z ∈ [("day" : Str), "service"]))) := fun z => inT2
  cases x with
  | inl i =>
    cases t with
    | d => exact dDef_ret (σ' := [.val (.int i), .val (.str "day")]) (by simp [b_fits, kD, Tg.wd, Tg.fit, k2, inn]; by_cases q : 0 ≤ i <;> simp [q])
    | s => exact dDef_ret (σ' := [.val (.int i), .val (.str "service")]) (by simp [b_fits, kD, Tg.wd, Tg.fit, k2, inn]; by_cases q : 0 ≤ i <;> simp [q])
    | a => exact dDef_ret (σ' := [.val (.int i), .val (.str "acres")]) (by simp [b_fits, kD, Tg.wd, Tg.fit, k2, inn]; by_cases q : 1 ≤ i <;> simp [q])
    | c => cases h
    | n => cases h
  | inr z =>
    have hz := is_name_eq (short_most (hs z rfl)) S
    cases t with
    | n => exact dDef_ret (σ' := [.val (.str z), .val (.str "name")]) (by simp [b_fits, kD, Tg.wd, Tg.fit, k2, inn, hz])
    | c =>
      refine dDef_ret (σ' := [.val (.str z), .val (.str "crowned")]) ?_
      by_cases q : z = ""
      · simp [b_fits, kD, Tg.wd, Tg.fit, k2, inn, q]
      · simp [b_fits, kD, Tg.wd, Tg.fit, k2, inn, hz, q]
    | d => cases h
    | a => cases h
    | s => cases h
theorem pairs_cons {x y : D} {xs ys : List D} : pairs (x :: xs) (y :: ys) = .tup [x, y] :: pairs xs ys := rfl
theorem good_turn (t : Tg) (x : Kk) (h : t.typ x = true) (hs : ∀ z, x = .inr z → z.length ≤ 1000) {a b : D} : fb__law_good_1 [.val a, .val b, .val (kD x), .val (.str ⟨#[t.ch]⟩)] S = .ok (if t.fit x then .next else .ret (.bl false)) [.val a, .val b, .val (kD x), .val (.str ⟨#[t.ch]⟩)] S := by
  have inn : opIn (.str ⟨#[t.ch]⟩) (.str "das") = some (.bl t.num) := by
    have q : hasC "das" t.ch = t.num := by cases t <;> decide
    rw [opIn_sign, q]
  have ea : decide ((⟨#[t.ch]⟩ : Str) = "a") = decide (t = .a) := by cases t <;> decide
  have ec : decide ((⟨#[t.ch]⟩ : Str) = "c") = decide (t = .c) := by cases t <;> decide
  generalize hch : (⟨#[t.ch]⟩ : Str) = ch at *
  cases x with
  | inl i =>
    have hn : t.num = true := h
    rw [hn] at inn
    by_cases q : t = .a
    · subst q
      by_cases q1 : 1 ≤ i <;> by_cases q2 : i ≤ 9999 <;> simp [fb__law_good_1, kD, inn, ea, opIntS_bl, Tg.fit, q1, q2]
    · have q0 : t = .d ∨ t = .s := by cases t <;> simp_all [Tg.num]
      have ef : t.fit (.inl i) = (decide (0 ≤ i) && decide (i ≤ 9999)) := by rcases q0 with rfl | rfl <;> rfl
      rw [decide_eq_false q] at ea
      by_cases q1 : 0 ≤ i <;> by_cases q2 : i ≤ 9999 <;> simp [fb__law_good_1, kD, inn, ea, opIntS_bl, ef, q1, q2]
  | inr z =>
    have hn : t.num = false := by
      have : (!t.num) = true := h
      simpa using this
    have hz := lnamed_eq (short_most (hs z rfl)) S
    rw [hn] at inn
    by_cases q : t = .c
    · subst q
      cases hb : isNm z <;> rw [hb] at hz <;> by_cases q1 : z = ""
      · simp [fb__law_good_1, kD, inn, ec, hz, Tg.fit, hb, show (z = "") = True from eq_true q1]
      · simp [fb__law_good_1, kD, inn, ec, hz, Tg.fit, hb, q1]
      · simp [fb__law_good_1, kD, inn, ec, hz, Tg.fit, hb, show (z = "") = True from eq_true q1]
      · simp [fb__law_good_1, kD, inn, ec, hz, Tg.fit, hb, q1]
    · have q0 : t = .n := by cases t <;> simp_all [Tg.num]
      subst q0
      rw [decide_eq_false q] at ec
      cases hb : isNm z <;> rw [hb] at hz <;> simp [fb__law_good_1, kD, inn, ec, hz, Tg.fit, hb]
theorem good_loop {a b : D} : ∀ (ts : List Tg) (xs : List Kk) (s2 s3 : Slot), typL ts xs = true → ShortL xs → ∃ u2 u3, forL (gT 2 (gsCons (gN 2) (gsCons (gN 3) gsNil))) fb__law_good_1 (pairs (xs.map kD) (ts.map fun t => D.str ⟨#[t.ch]⟩)) [.val a, .val b, s2, s3] S = .ok (if fitL ts xs then .next else .ret (.bl false)) [.val a, .val b, u2, u3] S
  | [], xs, s2, s3, _, _ => ⟨s2, s3, by cases xs <;> rfl⟩
  | t :: ts, [], s2, s3, _, _ => ⟨s2, s3, rfl⟩
  | t :: ts, x :: xs, s2, s3, h, hs => by
    obtain ⟨h1, h2⟩ := Bool.and_eq_true_iff.mp (show (t.typ x && typL ts xs) = true from h)
    have tr := good_turn (S := S) t x h1 (fun z e => hs z (by rw [e]; exact List.mem_cons_self ..)) (a := a) (b := b)
    have hg : gT 2 (gsCons (gN 2) (gsCons (gN 3) gsNil)) (.tup [kD x, .str ⟨#[t.ch]⟩]) [.val a, .val b, s2, s3] = some [.val a, .val b, .val (kD x), .val (.str ⟨#[t.ch]⟩)] := by simp [gT, gsCons, gsNil]
    cases hf : t.fit x with
    | true =>
      rw [hf] at tr
      obtain ⟨u2, u3, e⟩ := good_loop ts xs (.val (kD x)) (.val (.str ⟨#[t.ch]⟩)) h2 fun z hz => hs z (List.mem_cons_of_mem _ hz)
      refine ⟨u2, u3, ?_⟩
      rw [List.map_cons, List.map_cons, pairs_cons, forL_cons hg tr, e]
      show _ = Res.ok (if (t.fit x && fitL ts xs) then _ else _) _ _
      rw [hf, Bool.true_and]
    | false =>
      rw [hf] at tr
      refine ⟨.val (kD x), .val (.str ⟨#[t.ch]⟩), ?_⟩
      rw [List.map_cons, List.map_cons, pairs_cons, forL]
      dsimp only
      rw [hg]
      dsimp only
      rw [tr]
      show _ = Res.ok (if (t.fit x && fitL ts xs) then _ else _) _ _
      rw [hf, Bool.false_and]
      rfl
theorem check_turn (t : Tg) (x : Kk) (h : t.typ x = true) (hs : ∀ z, x = .inr z → z.length ≤ 1000) {a b : D} : fb_check_row_1 [.val a, .val b, .val (kD x), .val (.str t.wd)] S = if t.fit x then .ok .next [.val a, .val b, .val (kD x), .val (.str t.wd)] S else .exc ⟨"NoForm", none⟩ [.val a, .val b, .val (kD x), .val (.str t.wd)] S := by
  have e := fits_eq t x h hs S
  have fx : frz (kD x) [.val a, .val b, .val (kD x), .val (.str t.wd)] S = .ok (kD x) [.val a, .val b, .val (kD x), .val (.str t.wd)] S := by cases x <;> rfl
  cases hf : t.fit x <;> rw [hf] at e <;> simp [fb_check_row_1, fx, e, sRaise]
theorem check_loop {a b : D} : ∀ (ts : List Tg) (xs : List Kk) (s2 s3 : Slot), typL ts xs = true → ShortL xs → ∃ u2 u3, forL (gT 2 (gsCons (gN 2) (gsCons (gN 3) gsNil))) fb_check_row_1 (pairs (xs.map kD) (ts.map fun t => D.str t.wd)) [.val a, .val b, s2, s3] S = if fitL ts xs then .ok .next [.val a, .val b, u2, u3] S else .exc ⟨"NoForm", none⟩ [.val a, .val b, u2, u3] S
  | [], xs, s2, s3, _, _ => ⟨s2, s3, by cases xs <;> rfl⟩
  | t :: ts, [], s2, s3, _, _ => ⟨s2, s3, rfl⟩
  | t :: ts, x :: xs, s2, s3, h, hs => by
    obtain ⟨h1, h2⟩ := Bool.and_eq_true_iff.mp (show (t.typ x && typL ts xs) = true from h)
    have tr := check_turn (S := S) t x h1 (fun z e => hs z (by rw [e]; exact List.mem_cons_self ..)) (a := a) (b := b)
    have hg : gT 2 (gsCons (gN 2) (gsCons (gN 3) gsNil)) (.tup [kD x, .str t.wd]) [.val a, .val b, s2, s3] = some [.val a, .val b, .val (kD x), .val (.str t.wd)] := by simp [gT, gsCons, gsNil]
    cases hf : t.fit x with
    | true =>
      rw [hf] at tr
      obtain ⟨u2, u3, e⟩ := check_loop ts xs (.val (kD x)) (.val (.str t.wd)) h2 fun z hz => hs z (List.mem_cons_of_mem _ hz)
      refine ⟨u2, u3, ?_⟩
      rw [List.map_cons, List.map_cons, pairs_cons, forL_cons hg tr, e]
      show _ = if (t.fit x && fitL ts xs) = true then _ else _
      rw [hf, Bool.true_and]
    | false =>
      rw [hf] at tr
      refine ⟨.val (kD x), .val (.str t.wd), ?_⟩
      rw [List.map_cons, List.map_cons, pairs_cons, forL]
      dsimp only
      rw [hg]
      dsimp only
      rw [tr]
      show _ = if (t.fit x && fitL ts xs) = true then _ else _
      rw [hf, Bool.false_and]
      rfl
@[simp] theorem deref_cst {σ : Sl} {l : List D} : deref σ S (.cst l) = some (.cst l) := rfl
@[simp] theorem frz_cst {σ : Sl} {l : List D} : frz (.cst l) σ S = .ok (.cst l) σ S := rfl
@[simp] theorem opLenC_cst {l : List D} : opLenC (.cst l) = some (.int l.length) := rfl
theorem opSl_tail {a : D} {l : List D} : opSl (.tup (a :: l)) (some 1) none = some (.tup l) := by
  have h1 : HT.sIx (a :: l).length 0 (some 1) = 1 := by
    rw [show (1 : Int) = ((1 : Nat) : Int) from rfl, HT.sIx_nat, List.length_cons]
    omega
  have e0 : opSl (.tup (a :: l)) (some 1) none = if HT.sIx (a :: l).length 0 (some 1) = 0 ∧ HT.sIx (a :: l).length (a :: l).length none = (a :: l).length then none else some (.tup (cutL (a :: l) (some 1) none)) := rfl
  rw [e0, if_neg (by rw [h1]; omega)]
  unfold cutL
  rw [h1]
  show some (D.tup (List.take ((a :: l).length - 1) (List.drop 1 (a :: l)))) = _
  rw [List.drop_one, List.tail_cons, List.length_cons, Nat.add_sub_cancel, List.take_length]
theorem kD_frz {σ : Sl} (x : Kk) : frz (kD x) σ S = .ok (kD x) σ S := by cases x <;> rfl
theorem kD_str (z : Str) : kD (.inr z) = .str z := rfl
theorem three {xs : List Kk} (h : xs.length = 3) : ∃ x y z, xs = [x, y, z] := match xs, h with
  | [x, y, z], _ => ⟨x, y, z, rfl⟩
theorem like_shp {k : Str} (h : k ∈ [("heir" : Str), "liege"]) : ∃ t, shp k = some [.d, .n, t] ∧ (t = .n ∨ t = .c) := by
  rcases List.mem_cons.mp h with rfl | h
  · exact ⟨.n, by decide, .inl rfl⟩
  · rcases List.mem_cons.mp h with rfl | h
    · exact ⟨.c, by decide, .inr rfl⟩
    · cases h
theorem like_texts {k : Str} {xs : List Kk} {ts : List Tg} (h : k ∈ [("heir" : Str), "liege"]) (e : shp k = some ts) (hl : xs.length = ts.length) (ht : typL ts xs = true) : ∃ x a b, xs = [x, .inr a, .inr b] := by
  obtain ⟨t, e2, q⟩ := like_shp h
  rw [e] at e2
  cases e2
  obtain ⟨x, y, z, rfl⟩ := three hl
  cases y with
  | inl i => rcases q with rfl | rfl <;> simp [typL, Tg.typ, Tg.num] at ht
  | inr a => cases z with
    | inl i => rcases q with rfl | rfl <;> simp [typL, Tg.typ, Tg.num] at ht
    | inr b => exact ⟨x, a, b, rfl⟩
theorem check_row_eq {k : Str} {xs : List Kk} (ht : ∀ ts, shp k = some ts → xs.length = ts.length → typL ts xs = true) (hs : ShortL xs) : m_check_row [.tup (.str k :: xs.map kD)] S = if goodK k xs then .ok .non S else .exc ⟨"NoForm", none⟩ S := by
  have a0 : ∀ l : List D, L2.atI (D.str k :: l) 0 = some (.str k) := fun l => L2.atI_nat (j := 0) rfl
  unfold goodK
  have lk := tab_look k
  generalize hT : tab_SHAPES = T at lk
  cases e : shp k with
  | none =>
    rw [e] at lk
    refine dDef_exc (σ' := [.val (.tup (.str k :: xs.map kD)), .emp, .emp, .emp]) ?_
    simp [b_check_row, hT, a0, opNotInTab, lk, sRaise]
  | some ts =>
    rw [e] at lk
    have lk : T.lookup k = some (ts.map fun t => D.str t.wd) := lk
    have lx : ((D.str k :: xs.map kD).length : Int) = 1 + (xs.length : Int) := by rw [List.length_cons, List.length_map]; omega
    have lt : ((ts.map fun t => D.str t.wd).length : Int) = ts.length := by rw [List.length_map]
    show m_check_row _ S = if (decide (xs.length = ts.length) && (fitL ts xs && !likeB k xs)) = true then _ else _
    by_cases hl : xs.length = ts.length
    · rw [decide_eq_true hl]
      obtain ⟨u2, u3, lp⟩ := check_loop (S := S) (a := .tup (.str k :: xs.map kD)) (b := .cst (ts.map fun t => D.str t.wd)) ts xs .emp .emp (ht ts e hl) hs
      have hi : (1 : Int) + (xs.length : Int) = 1 + ts.length := by omega
      cases hf : fitL ts xs with
      | false =>
        rw [hf] at lp
        have lp : forL (gT 2 (gsCons (gN 2) (gsCons (gN 3) gsNil))) fb_check_row_1 (pairs (xs.map kD) (ts.map fun t => D.str t.wd)) [.val (.tup (.str k :: xs.map kD)), .val (.cst (ts.map fun t => D.str t.wd)), .emp, .emp] S = .exc ⟨"NoForm", none⟩ [.val (.tup (.str k :: xs.map kD)), .val (.cst (ts.map fun t => D.str t.wd)), u2, u3] S := lp
        have sl := opSl_tail (a := .str k) (l := xs.map kD)
        have ax := a0 (xs.map kD)
        rw [if_neg (by simp)]
        refine dDef_exc (σ' := [.val (.tup (.str k :: xs.map kD)), .val (.cst (ts.map fun t => D.str t.wd)), u2, u3]) ?_
        generalize hr : (D.str k :: xs.map kD) = row at *
        generalize hc : (ts.map fun t => D.str t.wd) = cs at *
        generalize xs.map kD = xd at *
        simp [b_check_row, hT, ax, opNotInTab, opTab, lk, lx, lt, hi, iZipC, sl, lp]
      | true =>
        rw [hf] at lp
        have lp : forL (gT 2 (gsCons (gN 2) (gsCons (gN 3) gsNil))) fb_check_row_1 (pairs (xs.map kD) (ts.map fun t => D.str t.wd)) [.val (.tup (.str k :: xs.map kD)), .val (.cst (ts.map fun t => D.str t.wd)), .emp, .emp] S = .ok .next [.val (.tup (.str k :: xs.map kD)), .val (.cst (ts.map fun t => D.str t.wd)), u2, u3] S := lp
        have sl := opSl_tail (a := .str k) (l := xs.map kD)
        have ax := a0 (xs.map kD)
        have k2 : 2 ≤ most := by decide
        have hin := inT2 (x := k) (a := "heir") (b := "liege")
        have step : ∀ r', (sIf (tAnd (tVal (d2 opInG (d2 opIx (dVar 0) (dC (.int 0))) (dTup (aCons (dC (.str "heir")) (aCons (dC (.str "liege")) aNil))))) (tVal (d2 opEq' (d2 opIx (dVar 0) (dC (.int 2))) (d2 opIx (dVar 0) (dC (.int 3)))))) (sRaise "NoForm") sNil) [.val (.tup (.str k :: xs.map kD)), .val (.cst (ts.map fun t => D.str t.wd)), u2, u3] S = r' →
            b_check_row [.val (.tup (.str k :: xs.map kD)), .emp, .emp, .emp] S = r' := fun r' h => by
          generalize hr : (D.str k :: xs.map kD) = row at *
          generalize hc : (ts.map fun t => D.str t.wd) = cs at *
          generalize xs.map kD = xd at *
          rw [← h]
          simp [b_check_row, hT, ax, opNotInTab, opTab, lk, lx, lt, hi, iZipC, sl, lp]
        by_cases hk : k ∈ [("heir" : Str), "liege"]
        · rw [decide_eq_true hk] at hin
          obtain ⟨x, a, b, rfl⟩ := like_texts hk e hl (ht ts e hl)
          have at2 : ∀ (x w z q : D), L2.atI [x, w, z, q] 2 = some z := fun x w z q => atI_lit [x, w, z, q] 2
          have at3 : ∀ (x w z q : D), L2.atI [x, w, z, q] 3 = some q := fun x w z q => atI_lit [x, w, z, q] 3
          by_cases hab : a = b
          · subst hab
            have lb : likeB k [x, .inr a, .inr a] = true := by unfold likeB; rw [decide_eq_true hk]; simp
            rw [lb, if_neg (by simp)]
            refine dDef_exc (σ' := [.val (.tup [.str k, kD x, .str a, .str a]), .val (.cst (ts.map fun t => D.str t.wd)), u2, u3]) (step _ ?_)
            simp only [List.map_cons, List.map_nil, kD_str] at ax ⊢
            simp [ax, hin, k2, at2, at3, sRaise]
          · have lb : likeB k [x, .inr a, .inr b] = false := by unfold likeB; simp [hab]
            rw [lb, if_pos (by simp)]
            refine dDef_next (σ' := [.val (.tup [.str k, kD x, .str a, .str b]), .val (.cst (ts.map fun t => D.str t.wd)), u2, u3]) (step _ ?_)
            simp only [List.map_cons, List.map_nil, kD_str] at ax ⊢
            simp [ax, hin, k2, at2, at3, hab]
        · rw [decide_eq_false hk] at hin
          have lb : likeB k xs = false := by unfold likeB; rw [decide_eq_false hk]; rfl
          rw [lb, if_pos (by simp)]
          refine dDef_next (σ' := [.val (.tup (.str k :: xs.map kD)), .val (.cst (ts.map fun t => D.str t.wd)), u2, u3]) (step _ ?_)
          generalize hr : (D.str k :: xs.map kD) = row at *
          simp [ax, hin, k2]
    · have hi : ¬ (1 : Int) + (xs.length : Int) = 1 + ts.length := by omega
      rw [decide_eq_false hl, if_neg (by simp)]
      refine dDef_exc (σ' := [.val (.tup (.str k :: xs.map kD)), .val (.cst (ts.map fun t => D.str t.wd)), .emp, .emp]) ?_
      have ax := a0 (xs.map kD)
      generalize hr : (D.str k :: xs.map kD) = row at *
      generalize hc : (ts.map fun t => D.str t.wd) = cs at *
      simp [b_check_row, hT, ax, opNotInTab, opTab, lk, lx, lt, hi, sRaise]
theorem signs_ltrs (ts : List Tg) : signs (ltrs ts) = ts.map fun t => D.str ⟨#[t.ch]⟩ := by
  unfold signs ltrs
  rw [txt_cps, List.map_map]
  rfl
theorem ltrs_len (ts : List Tg) : (ltrs ts).length = ts.length := by
  unfold ltrs
  rw [txt_len, List.length_map]
theorem ltrs_ne {k : Str} {ts : List Tg} (h : shp k = some ts) : decide (ltrs ts = "?") = false := by
  have := aval_mem h
  simp only [shpL, List.mem_cons, Prod.mk.injEq, List.not_mem_nil, or_false] at this
  rcases this with ⟨_, rfl⟩ | ⟨_, rfl⟩ | ⟨_, rfl⟩ | ⟨_, rfl⟩ | ⟨_, rfl⟩ | ⟨_, rfl⟩ | ⟨_, rfl⟩ <;> decide
theorem law_good_eq {k : Str} {xs : List Kk} (ht : ∀ ts, shp k = some ts → xs.length = ts.length → typL ts xs = true) (hs : ShortL xs) (S : Sto) : m__law_good [.tup (.str k :: xs.map kD)] S = .ok (.bl (goodK k xs)) S := by
  have a0 : ∀ l : List D, L2.atI (D.str k :: l) 0 = some (.str k) := fun l => L2.atI_nat (j := 0) rfl
  have ax := a0 (xs.map kD)
  have k2 : 2 ≤ most := by decide
  have sq := shapes_eq S
  have vl : valD shapesD (.inr k) = (shp k).map fun ts => D.str (ltrs ts) := by rw [shapes_enc]; exact valD_enc
  have eo : opLen (.str "?") = some (.int 1) := by
    have k1 : ("?" : Str).length = 1 := by decide
    rw [opLen_str (by rw [k1]; decide), k1]
    rfl
  unfold goodK
  have lx : ((D.str k :: xs.map kD).length : Int) = 1 + (xs.length : Int) := by rw [List.length_cons, List.length_map]; omega
  generalize shapesD = sd at *
  cases e : shp k with
  | none =>
    rw [e] at vl
    have vl : valD sd (.inr k) = none := vl
    refine dDef_ret (σ' := [.val (.tup (.str k :: xs.map kD)), .val (.str "?"), .emp, .emp]) ?_
    generalize hr : (D.str k :: xs.map kD) = row at *
    by_cases q : (1 : Int) + (xs.length : Int) = 1 + 1 <;> simp [b__law_good, ax, dCall0, sq, isDct, kGet, keyD, vl, lx, eo, q]
  | some ts =>
    rw [e] at vl
    have vl : valD sd (.inr k) = some (.str (ltrs ts)) := vl
    have ne := ltrs_ne e
    have zl : (ltrs ts).length ≤ most := by rw [ltrs_len]; exact Nat.le_trans (shp_len e) (by decide)
    have el : opLen (.str (ltrs ts)) = some (.int ts.length) := by rw [opLen_str zl, ltrs_len ts]
    have es := signs_ltrs ts
    show m__law_good _ S = .ok (.bl (decide (xs.length = ts.length) && (fitL ts xs && !likeB k xs))) S
    by_cases hl : xs.length = ts.length
    · rw [decide_eq_true hl]
      obtain ⟨u2, u3, lp⟩ := good_loop (S := S) (a := .tup (.str k :: xs.map kD)) (b := .str (ltrs ts)) ts xs .emp .emp (ht ts e hl) hs
      have hi : (1 : Int) + (xs.length : Int) = 1 + ts.length := by omega
      have sl := opSl_tail (a := .str k) (l := xs.map kD)
      rw [← es] at lp
      generalize ltrs ts = z at *
      cases hf : fitL ts xs with
      | false =>
        rw [hf] at lp
        have lp : forL (gT 2 (gsCons (gN 2) (gsCons (gN 3) gsNil))) fb__law_good_1 (pairs (xs.map kD) (signs z)) [.val (.tup (.str k :: xs.map kD)), .val (.str z), .emp, .emp] S = .ok (.ret (.bl false)) [.val (.tup (.str k :: xs.map kD)), .val (.str z), u2, u3] S := lp
        refine dDef_ret (σ' := [.val (.tup (.str k :: xs.map kD)), .val (.str z), u2, u3]) ?_
        generalize hr : (D.str k :: xs.map kD) = row at *
        generalize xs.map kD = xd at *
        simp [b__law_good, ax, dCall0, sq, isDct, kGet, keyD, vl, lx, el, hi, ne, iZipX, seqD, sl, lp]
      | true =>
        rw [hf] at lp
        have lp : forL (gT 2 (gsCons (gN 2) (gsCons (gN 3) gsNil))) fb__law_good_1 (pairs (xs.map kD) (signs z)) [.val (.tup (.str k :: xs.map kD)), .val (.str z), .emp, .emp] S = .ok .next [.val (.tup (.str k :: xs.map kD)), .val (.str z), u2, u3] S := lp
        have hin := inT2 (x := k) (a := "heir") (b := "liege")
        have step : ∀ r', (sRet (vNot (vAnd (d2 opInG (d2 opIx (dVar 0) (dC (.int 0))) (dTup (aCons (dC (.str "heir")) (aCons (dC (.str "liege")) aNil)))) (d2 opEq' (d2 opIx (dVar 0) (dC (.int 2))) (d2 opIx (dVar 0) (dC (.int 3))))))) [.val (.tup (.str k :: xs.map kD)), .val (.str z), u2, u3] S = r' →
            b__law_good [.val (.tup (.str k :: xs.map kD)), .emp, .emp, .emp] S = r' := fun r' h => by
          generalize hr : (D.str k :: xs.map kD) = row at *
          generalize xs.map kD = xd at *
          rw [← h]
          simp [b__law_good, ax, dCall0, sq, isDct, kGet, keyD, vl, lx, el, hi, ne, iZipX, seqD, sl, lp]
        by_cases hk : k ∈ [("heir" : Str), "liege"]
        · rw [decide_eq_true hk] at hin
          obtain ⟨x, a, b, rfl⟩ := like_texts hk e hl (ht ts e hl)
          have at2 : ∀ (x w z q : D), L2.atI [x, w, z, q] 2 = some z := fun x w z q => atI_lit [x, w, z, q] 2
          have at3 : ∀ (x w z q : D), L2.atI [x, w, z, q] 3 = some q := fun x w z q => atI_lit [x, w, z, q] 3
          have lb : likeB k [x, .inr a, .inr b] = decide (a = b) := by
            unfold likeB
            rw [decide_eq_true hk, Bool.true_and]
            simp
          rw [lb]
          refine dDef_ret (σ' := [.val (.tup [.str k, kD x, .str a, .str b]), .val (.str z), u2, u3]) (step _ ?_)
          simp only [List.map_cons, List.map_nil, kD_str] at ax ⊢
          simp [ax, hin, k2, at2, at3]
        · rw [decide_eq_false hk] at hin
          have lb : likeB k xs = false := by unfold likeB; rw [decide_eq_false hk]; rfl
          rw [lb]
          refine dDef_ret (σ' := [.val (.tup (.str k :: xs.map kD)), .val (.str z), u2, u3]) (step _ ?_)
          generalize hr : (D.str k :: xs.map kD) = row at *
          simp [ax, hin, k2]
    · have hi : ¬ (1 : Int) + (xs.length : Int) = 1 + ts.length := by omega
      rw [decide_eq_false hl]
      refine dDef_ret (σ' := [.val (.tup (.str k :: xs.map kD)), .val (.str (ltrs ts)), .emp, .emp]) ?_
      generalize hr : (D.str k :: xs.map kD) = row at *
      generalize ltrs ts = z at *
      simp [b__law_good, ax, dCall0, sq, isDct, kGet, keyD, vl, lx, el, hi]
end
end MR
set_option Elab.async false
set_option linter.all false
set_option maxRecDepth 100000
namespace MR
open PySem
noncomputable section
end
end MR
set_option Elab.async false
set_option linter.all false
set_option maxRecDepth 100000
namespace MR
open PySem
noncomputable section
end
end MR
set_option Elab.async false
set_option linter.all false
set_option maxRecDepth 100000
namespace MR
open PySem
noncomputable section
end
end MR
set_option Elab.async false
set_option linter.all false
set_option maxRecDepth 100000
namespace MR
open PySem
noncomputable section
end
end MR
set_option Elab.async false
set_option linter.all false
set_option maxRecDepth 100000
namespace MR
open PySem
abbrev Row := List Kk
abbrev Ents := List (Int × Row)
abbrev Stt := Ents × Int
def rd (r : Row) : D := .tup (r.map kD)
def enD (e : Int × Row) : D := .tup [.int e.1, rd e.2]
def esD (es : Ents) : List D := es.map enD
def stD (s : Stt) : D := .tup [.tup (esD s.1), .int s.2]
structure RollAt (S : Sto) (r e u : Nat) (a b : Int) (s : Stt) (bh ah : List Stt) : Prop where
  ho : S[r]? = some (.ins "Roll" [("wide", .int a), ("rich", .int b), ("state", stD s), ("earlier", .obj e), ("undone", .obj u)])
  he : S[e]? = some (.con false (.lst (bh.map stD)))
  hu : S[u]? = some (.con false (.lst (ah.map stD)))
  ne : e ≠ u
section
variable {S : Sto} {r e u : Nat} {a b : Int} {s : Stt} {bh ah : List Stt}
theorem RollAt.ob (R : RollAt S r e u a b s bh ah) : objAt ["Roll"] S (.obj r) = some (r, "Roll", [("wide", .int a), ("rich", .int b), ("state", stD s), ("earlier", .obj e), ("undone", .obj u)]) := objAt_obj R.ho (by simp)
theorem RollAt.lt (R : RollAt S r e u a b s bh ah) : r < S.length ∧ e < S.length ∧ u < S.length := ⟨(List.getElem?_eq_some_iff.mp R.ho).1, (List.getElem?_eq_some_iff.mp R.he).1, (List.getElem?_eq_some_iff.mp R.hu).1⟩
theorem RollAt.grow {S' : Sto} {fp : List Nat} (R : RollAt S r e u a b s bh ah) (g : Grow fp S S') (h1 : r ∉ fp) (h2 : e ∉ fp) (h3 : u ∉ fp) : RollAt S' r e u a b s bh ah :=
  ⟨(g.off r R.lt.1 h1).trans R.ho, (g.off e R.lt.2.1 h2).trans R.he, (g.off u R.lt.2.2 h3).trans R.hu, R.ne⟩
theorem RollAt.app (R : RollAt S r e u a b s bh ah) (X : Sto) : RollAt (S ++ X) r e u a b s bh ah := R.grow (fp := []) (Grow.app X) (by simp) (by simp) (by simp)
end
end MR
set_option Elab.async false
set_option linter.all false
set_option maxRecDepth 100000
namespace MR
open PySem
def goodR : Row → Bool
  | .inr k :: xs => goodK k xs
  | _ => false
def FitR (r : Row) : Prop := ∃ k xs, r = .inr k :: xs ∧ (∀ ts, shp k = some ts → xs.length = ts.length → typL ts xs = true) ∧ ShortL xs
def nw (f : Int) : List Row → Ents
  | [] => []
  | r :: rs => (f, r) :: nw (f + 1) rs
section
variable {S : Sto} {r e u : Nat} {a b : Int} {s s' : Stt} {bh ah : List Stt}
end
end MR
set_option Elab.async false
set_option linter.all false
set_option maxRecDepth 100000
namespace MR
open PySem
section
variable {S : Sto} {r e u : Nat} {a b : Int} {s : Stt} {bh ah : List Stt}
end
end MR
set_option Elab.async false
set_option linter.all false
set_option maxRecDepth 100000
namespace MR
open PySem
structure Md where
  s : Stt
  bh : List Stt
  ah : List Stt
inductive Tn where
  | enter (x : Row) | all (rs : List Row) | strike (n : Int) | correct (n : Int) (x : Row) | back | again
def ne (s : Stt) : Tn → Stt
  | .enter x => (s.1 ++ [(s.2, x)], s.2 + 1)
  | .all rs => (s.1 ++ nw s.2 rs, s.2 + rs.length)
  | .strike n => (s.1.filter fun e => !decide (e.1 = n), s.2)
  | .correct n x => (s.1.map fun e => (e.1, if e.1 = n then x else e.2), s.2)
  | .back => s
  | .again => s
section
variable {S : Sto} {M : Md}
end
end MR
set_option Elab.async false
set_option linter.all false
set_option maxRecDepth 100000
namespace MR
open PySem
def hs : Tn → List Row
  | .enter x => [x]
  | .all rs => rs
  | .correct _ x => [x]
  | _ => []
def nothing (M : Md) : Tn → Bool
  | .back => M.bh.isEmpty
  | .again => M.ah.isEmpty
  | _ => false
section
variable {S : Sto} {M : Md}
def kd : Tn → Str
  | .enter _ => "enter" | .all _ => "all" | .strike _ => "strike" | .correct _ _ => "correct" | .back => "back" | .again => "again"
end
end MR
set_option Elab.async false
set_option linter.all false
set_option maxRecDepth 100000
namespace MR
open PySem
section
variable {S : Sto} {M : Md}
def act (M : Md) : Tn → Md
  | .back => ⟨(M.bh.getLast?).getD M.s, M.bh.dropLast, M.ah ++ [M.s]⟩
  | .again => ⟨(M.ah.getLast?).getD M.s, M.bh ++ [M.s], M.ah.dropLast⟩
  | t => ⟨ne M.s t, M.bh ++ [M.s], []⟩
end
end MR
set_option Elab.async false
set_option linter.all false
set_option maxRecDepth 100000
namespace MR
open PySem
section
variable {S : Sto} {M : Md}
end
end MR
set_option Elab.async false
set_option linter.all false
set_option maxRecDepth 100000
namespace MR
open PySem
structure OkS (pool : List Row) (s : Stt) : Prop where
  num : (s.1.map (·.1)).Nodup
  lt : ∀ x ∈ s.1, x.1 < s.2
  nd : (s.1.map (·.2)).Nodup
  sub : ∀ x ∈ s.1, x.2 ∈ pool
theorem OkS.len {pool : List Row} {s : Stt} (O : OkS pool s) : s.1.length ≤ pool.length := by
  have := nodup_len O.nd fun x hx => by
    obtain ⟨y, hy, rfl⟩ := List.mem_map.mp hx
    exact O.sub y hy
  rwa [List.length_map] at this
structure OkM (pool : List Row) (n : Nat) (M : Md) : Prop where
  s : OkS pool M.s
  bh : ∀ x ∈ M.bh, OkS pool x
  ah : ∀ x ∈ M.ah, OkS pool x
  lb : M.bh.length ≤ n
  la : M.ah.length ≤ n
structure TnOk (pool : List Row) (t : Tn) : Prop where
  fit : ∀ x ∈ hs t, FitR x
  gr : ∀ x ∈ hs t, gr 1 (rd x) = true
  pool : ∀ x ∈ hs t, goodR x = true → x ∈ pool
  len : (hs t).length ≤ 3
section
variable {S : Sto} {r e u : Nat} {a b : Int} {M : Md} {pool : List Row} {t : Tn}
end
end MR
set_option Elab.async false
set_option linter.all false
set_option maxRecDepth 100000
namespace MR
open PySem
section
variable {S : Sto} {r e u : Nat} {a b : Int} {M : Md} {pool : List Row} {t : Tn}
end
end MR
set_option Elab.async false
set_option linter.all false
set_option maxRecDepth 100000
namespace MR
open PySem
section
variable {S S' : Sto}
end
end MR
set_option Elab.async false
set_option linter.all false
set_option maxRecDepth 100000
namespace MR
open PySem
section
variable {pool : List Row} {n : Nat} {M : Md} {t : Tn}
theorem OkM.le {m : Nat} (O : OkM pool n M) (h : n ≤ m) : OkM pool m M := ⟨O.s, O.bh, O.ah, Nat.le_trans O.lb h, Nat.le_trans O.la h⟩
end
structure PoolOk (pool : List Row) : Prop where
  len : pool.length ≤ 16
  short : ∀ x ∈ pool, x.length ≤ 8
section
variable {S : Sto} {r e u : Nat} {a b : Int} {M : Md} {pool : List Row} {t : Tn} {n : Nat}
end
end MR
set_option Elab.async false
set_option linter.all false
set_option maxRecDepth 100000
namespace MR
open PySem
def Rw.kw : Rw → Str
  | .heir .. => "heir" | .grant .. => "grant" | .part .. => "part" | .convey .. => "convey" | .liege .. => "liege" | .surr .. => "surrender" | .death .. => "death"
def Rw.ps : Rw → List Kk
  | .heir d m h => [.inl d, .inr m, .inr h]
  | .grant d e n m a s => [.inl d, .inr e, .inr n, .inr m, .inl a, .inl s]
  | .part d e n m a => [.inl d, .inr e, .inr n, .inr m, .inl a]
  | .convey d e m => [.inl d, .inr e, .inr m]
  | .liege d m l => [.inl d, .inr m, .inr l]
  | .surr d e => [.inl d, .inr e]
  | .death d m => [.inl d, .inr m]
def Rw.row (r : Rw) : Row := .inr r.kw :: r.ps
theorem Rw.rd_eq (r : Rw) : r.D = rd r.row := by cases r <;> rfl
structure Pk (pool : List Row) (x : Row) : Prop where
  fit : FitR x
  gr : gr 1 (rd x) = true
  pool : goodR x = true → x ∈ pool
end MR
set_option Elab.async false
set_option linter.all false
set_option maxRecDepth 100000
namespace MR
open PySem
structure RwsOk (rows : List Rw) : Prop where
  ne : rows ≠ []
  len : rows.length ≤ 16
  ok : ∀ r ∈ rows, r.sok ∧ r.sh
section
variable {S : Sto} {rows : List Rw} {fs : List Int} {M : Md}
end
end MR
set_option Elab.async false
set_option linter.all false
set_option maxRecDepth 100000
namespace MR
open PySem
end MR
set_option Elab.async false
set_option linter.all false
set_option maxRecDepth 100000
namespace MR
open PySem
section
variable {S : Sto} {rows : List Rw} {fs : List Int} {M : Md} {names ways : List Str} {r e u n : Nat} {a b : Int}
end
end MR
set_option Elab.async false
set_option linter.all false
set_option maxRecDepth 100000
namespace MR
open PySem
end MR
set_option Elab.async false
set_option linter.all false
set_option maxRecDepth 100000
set_option exponentiation.threshold 30000
namespace MR
open PySem
def nmE (z : Str) : Prop := z = "" ∨ isNm z = true
structure NB (B : Bk) : Prop where
  kn : ∀ k ∈ B.known, isNm k = true
  ho : ∀ p ∈ B.L.hold, nmE p.2
  he : ∀ p ∈ B.heirs, nmE p.2
def Rw.nms : Rw → Prop
  | .grant _ _ n m _ _ => isNm n = true ∧ isNm m = true
  | .part _ _ n m _ => isNm n = true ∧ isNm m = true
  | .convey _ _ m => isNm m = true
  | .heir _ _ h => isNm h = true
  | _ => True
def Rw.Gd (r : Rw) : Prop := r.sh ∧ goodR r.row = true
theorem nb0 (w : Int) : NB (B0 w) := ⟨(fun k hk => nomatch hk), (fun p hp => by rw [List.mem_singleton.mp hp]; exact .inl rfl), (fun p hp => nomatch hp)⟩
theorem hold_bury {t : Option Str} (ht : ∀ x, t = some x → nmE x) : ∀ (es : List Str) (L : Ld), (∀ p ∈ L.hold, nmE p.2) → ∀ p ∈ (L.bury t es).hold, nmE p.2
  | [], L, h => h
  | e :: es, L, h => by
    refine hold_bury ht es (L.leave t e) ?_
    cases t with
    | none => exact mem_drop (P := nmE) h
    | some x => exact mem_put (P := nmE) h (ht x rfl)
theorem NB.act {B : Bk} (K : NB B) {r : Rw} (h : r.nms) : NB (B.act r) := by
  have app : ∀ n : Str, isNm n = true → ∀ k ∈ B.known ++ [n], isNm k = true := fun n hn k hk => by
    rcases List.mem_append.mp hk with hk | hk
    · exact K.kn k hk
    · rw [List.mem_singleton.mp hk]; exact hn
  have app0 : ∀ k ∈ B.known ++ [], isNm k = true := fun k hk => K.kn k (by simpa using hk)
  cases r with
  | heir d m x => exact ⟨K.kn, K.ho, mem_put (P := nmE) K.he (.inr h)⟩
  | liege d m x => exact ⟨K.kn, K.ho, K.he⟩
  | death d m => exact ⟨K.kn, hold_bury (fun x e => by obtain ⟨p, hp, rfl⟩ := List.mem_map.mp (tkr_in e); exact K.he p hp) _ _ K.ho, K.he⟩
  | grant d e n m a s => exact ⟨app n h.1, mem_put (P := nmE) K.ho (.inr h.2), K.he⟩
  | part d e n m a => exact ⟨app n h.1, mem_put (P := nmE) K.ho (.inr h.2), K.he⟩
  | convey d e m => exact ⟨app0, mem_put (P := nmE) K.ho (.inr h), K.he⟩
  | surr d e => exact ⟨app0, mem_drop (P := nmE) K.ho, K.he⟩
theorem NB.step {B : Bk} (K : NB B) {r : Rw} (h : r.nms) : NB (B.step r) := by
  unfold Bk.step
  split
  · exact K.act h
  · exact K
theorem nm_len {z : Str} (h : isNm z = true) : z.length ≤ 8 := by
  unfold isNm at h
  rw [Bool.and_eq_true, Bool.and_eq_true] at h
  exact of_decide_eq_true h.1.2
theorem nmE_len {z : Str} (h : nmE z) : z.length ≤ 8 := by
  rcases h with rfl | h
  · decide
  · exact nm_len h
theorem nmE_fit {z : Str} (h : nmE z) : (decide (z = "") || isNm z) = true := by
  rcases h with rfl | h
  · rfl
  · rw [h, Bool.or_true]
section
variable {men lands : List Str} {w : Int} {B : Bk} {t : Nat} {tot dd : Int} {r : Rw}
theorem nms_of (P : Pools men lands w) (f : r.fit men lands B dd) : r.nms := by
  cases r with
  | grant d e n m a s => exact ⟨P.nl n f.2.2.1, P.nm m f.2.2.2.1⟩
  | part d e n m a => exact ⟨P.nl n f.2.2.2.1, P.nm m f.2.2.2.2.1⟩
  | convey d e m => exact P.nm m f.2.2.2
  | heir d m h => exact P.nm h f.2.2.1
  | _ => trivial
theorem gd_of (P : Pools men lands w) (K : NB B) (Z : Snd B t tot) (f : r.fit men lands B dd) (d0 : 0 ≤ r.day) (d1 : r.day ≤ 9999) : r.Gd := by
  have est : ∀ {e : Str}, (e ∈ B.L.ks ∨ e ∈ ("" : Str) :: lands) → nmE e := fun {e} h => by
    by_cases e0 : e = ""
    · exact .inl e0
    · rcases h with h | h
      · exact .inr (K.kn e (Z.Z.kn e h e0))
      · rcases List.mem_cons.mp h with h | h
        · exact .inl h
        · exact .inr (P.nl e h)
  have est1 : ∀ {e : Str}, (e ∈ B.L.ks ∨ e ∈ ("" : Str) :: lands) → e ≠ "" → isNm e = true := fun {e} h e0 => (est h).resolve_left e0
  have bd : ∀ m l, l ∈ B.L.bound m → nmE l := fun m l h => by
    unfold Ld.bound at h
    obtain ⟨k, _, rfl⟩ := List.mem_map.mp h
    cases e : (B.L.lord k).bind fun p => aval B.L.hold p with
    | none => exact .inl rfl
    | some x =>
      obtain ⟨p, _, q⟩ := Option.bind_eq_some_iff.mp e
      exact K.ho _ (aval_mem q)
  have lk : ∀ (k : Str) (xs : List Kk), k ∉ [("heir" : Str), "liege"] → likeB k xs = false := fun k xs h => by unfold likeB; rw [decide_eq_false h]; rfl
  cases r with
  | grant d e n m a s =>
    obtain ⟨_, h1, h2, h3, h4, h5, h6, h7⟩ := f
    have q1 := est h1
    have q2 := P.nl n h2
    have q3 := P.nm m h3
    refine ⟨⟨nmE_len q1, nm_len q2, nm_len q3⟩, ?_⟩
    show goodK "grant" [.inl d, .inr e, .inr n, .inr m, .inl a, .inl s] = true
    have d0 : 0 ≤ d := d0
    have d1 : d ≤ 9999 := d1
    have e1 := nmE_fit q1
    have ss : shp "grant" = some [.d, .c, .n, .n, .a, .s] := rfl
    unfold goodK
    rw [ss]
    simp [fitL, Tg.fit, d0, d1, q2, q3, h4, h5, h6, h7, lk "grant" _ (by decide)]
    simpa using e1
  | part d e n m a =>
    obtain ⟨_, h1, h10, h2, h3, h4, h5⟩ := f
    have q1 := est1 h1 h10
    have q2 := P.nl n h2
    have q3 := P.nm m h3
    refine ⟨⟨nm_len q1, nm_len q2, nm_len q3⟩, ?_⟩
    show goodK "part" [.inl d, .inr e, .inr n, .inr m, .inl a] = true
    have d0 : 0 ≤ d := d0
    have d1 : d ≤ 9999 := d1
    have ss : shp "part" = some [.d, .n, .n, .n, .a] := rfl
    unfold goodK
    rw [ss]
    simp [fitL, Tg.fit, d0, d1, q1, q2, q3, h4, h5, lk "part" _ (by decide)]
  | convey d e m =>
    obtain ⟨_, h1, h10, h2⟩ := f
    have q1 := est1 h1 h10
    have q2 := P.nm m h2
    refine ⟨⟨nm_len q1, nm_len q2⟩, ?_⟩
    show goodK "convey" [.inl d, .inr e, .inr m] = true
    have d0 : 0 ≤ d := d0
    have d1 : d ≤ 9999 := d1
    have ss : shp "convey" = some [.d, .n, .n] := rfl
    unfold goodK
    rw [ss]
    simp [fitL, Tg.fit, d0, d1, q1, q2, lk "convey" _ (by decide)]
  | surr d e =>
    obtain ⟨_, h1, h10⟩ := f
    have q1 := est1 h1 h10
    refine ⟨nm_len q1, ?_⟩
    show goodK "surrender" [.inl d, .inr e] = true
    have d0 : 0 ≤ d := d0
    have d1 : d ≤ 9999 := d1
    have ss : shp "surrender" = some [.d, .n] := rfl
    unfold goodK
    rw [ss]
    simp [fitL, Tg.fit, d0, d1, q1, lk "surrender" _ (by decide)]
  | death d m =>
    obtain ⟨_, h1⟩ := f
    have q1 := P.nm m h1
    refine ⟨nm_len q1, ?_⟩
    show goodK "death" [.inl d, .inr m] = true
    have d0 : 0 ≤ d := d0
    have d1 : d ≤ 9999 := d1
    have ss : shp "death" = some [.d, .n] := rfl
    unfold goodK
    rw [ss]
    simp [fitL, Tg.fit, d0, d1, q1, lk "death" _ (by decide)]
  | heir d m h =>
    obtain ⟨_, h1, h2, h3⟩ := f
    have q1 := P.nm m h1
    have q2 := P.nm h h2
    refine ⟨⟨nm_len q1, nm_len q2⟩, ?_⟩
    show goodK "heir" [.inl d, .inr m, .inr h] = true
    have d0 : 0 ≤ d := d0
    have d1 : d ≤ 9999 := d1
    have ss : shp "heir" = some [.d, .n, .n] := rfl
    have h3 : ¬ m = h := fun z => h3 z.symm
    unfold goodK
    rw [ss]
    simp [fitL, Tg.fit, d0, d1, q1, q2, likeB, h3]
  | liege d m l =>
    obtain ⟨_, h1, h2, h3⟩ := f
    have q1 := P.nm m h1
    have q2 : nmE l := by
      rcases h3 with h | h | h
      · exact .inl h
      · exact .inr (P.nm l h)
      · exact bd m l h
    refine ⟨⟨nm_len q1, nmE_len q2⟩, ?_⟩
    show goodK "liege" [.inl d, .inr m, .inr l] = true
    have d0 : 0 ≤ d := d0
    have d1 : d ≤ 9999 := d1
    have ss : shp "liege" = some [.d, .n, .c] := rfl
    have h3 : ¬ m = l := fun z => h2 z.symm
    have e1 := nmE_fit q2
    unfold goodK
    rw [ss]
    simp [fitL, Tg.fit, d0, d1, q1, likeB, h3]
    simpa using e1
end
section
variable {S : Sto} {n : Nat} {B : Bk} {tot w : Int} {men lands : List Str} {fs ways : List Int}
theorem rows_turnG (NB0 : NB B) (A : BookAt S n false false B) {i : Nat} (Z : Snd B i tot) (hi : i < 59) (P : Pools men lands w) (hg : Good fs) {at_ : Nat} (hf : at_ + 8 * i + 8 ≤ fs.length) (hfl : fs.length ≤ 10000) (hw : ways ≠ []) (hwl : ways.length ≤ 1000) {rows : List Rw} (R : Rows rows) (M : ∀ r ∈ rows, r.inP men lands ∧ r.Gd) (hr : rows.length ≤ i) {day : Int} (day0 : 0 ≤ day) (day1 : day ≤ 9999) {s2 s9 s10 : Slot} :
    ∃ S' B' rows' day' u9 u10, fb__law_rows_1 [.val (.lst (fs.map D.int)), .val (.int (at_ : Nat)), s2, .val (poolsD men lands w), .val (.lst (ways.map D.int)), .val (.obj (n + 8)), .own (.lst (rows.map Rw.D)), .val (.int day), .val (.int (i : Nat)), s9, s10] S =
      .ok .next [.val (.lst (fs.map D.int)), .val (.int (at_ : Nat)), s2, .val (poolsD men lands w), .val (.lst (ways.map D.int)), .val (.obj (n + 8)), .own (.lst (rows'.map Rw.D)), .val (.int day'), .val (.int (i : Nat)), u9, u10] S' ∧
      BookAt S' n false false B' ∧ Snd B' (i + 1) tot ∧ Rows rows' ∧ (∀ r ∈ rows', r.inP men lands ∧ r.Gd) ∧ NB B' ∧ rows' ≠ [] ∧ rows'.length ≤ i + 1 ∧ 0 ≤ day' ∧ day' ≤ 9999 ∧ day' ≤ day + 300 ∧ Off (fp9 n) S S' := by
  obtain ⟨ds, c1, l1, g1⟩ := cut_ok hg (at_ + 8 * i) (at_ + 8 * i + 8) (by omega) (by omega)
  have c1 : cutL (fs.map D.int) (some ((at_ : Int) + 8 * (i : Int))) (some ((at_ : Int) + 8 * (i : Int) + 8)) = ds.map D.int := by
    rw [← c1]; congr 2
  obtain ⟨x0, x1, x2, x3, x4, x5, x6, x7, e8⟩ := eight (by omega : ds.length = 8)
  rw [e8] at c1
  have m8 : mulOk 8 (i : Int) := mulS ⟨by omega, by omega⟩ ⟨by omega, by omega⟩
  obtain ⟨y, hy, ey⟩ := ints_at x0 hw
  have wp : (0 : Int) < (ways.length : Int) := by have := List.length_pos_iff.mpr hw; omega
  obtain ⟨r, fit, er⟩ := row_ok (x0 := y) (x1 := x1) (x2 := x2) (x3 := x3) (x4 := x4) (x5 := x5) (x6 := x6) (x7 := x7) A Z.Z (by omega) P day
  obtain ⟨ff, sk, dd⟩ := fit_fine P Z.Z.W fit
  have hcut : cutL [D.int x0, .int x1, .int x2, .int x3, .int x4, .int x5, .int x6, .int x7] (some 1) none = [.int x1, .int x2, .int x3, .int x4, .int x5, .int x6, .int x7] := rfl
  have k1 : 1 ≤ most := by decide
  have k5 : 5 ≤ most := by decide
  have k8 : 1 + 7 ≤ most := by decide
  have d4 : divOk 4 := by decide
  obtain ⟨z, z0, z1, ez⟩ := five_at (x6.fdiv 4)
  have ni := notIn_rows sk R.s
  have hrm : (rows.map Rw.D).length < most := by rw [List.length_map]; unfold most; omega
  have lw : (ways.map D.int).length = ways.length := List.length_map ..
  have er : m__law_row [.obj (n + 8), poolsD men lands w, .lst [.int y, .int x1, .int x2, .int x3, .int x4, .int x5, .int x6, .int x7], .int day] S = .ok r.D S := er
  have st1 : (sSet 9 (dSl (dVar 0) (oSome (d2 opAdd (dVar 1) (d2 opMul' (dC (.int 8)) (dVar 8)))) (oSome (d2 opAdd (d2 opAdd (dVar 1) (d2 opMul' (dC (.int 8)) (dVar 8))) (dC (.int 8)))))) [.val (.lst (fs.map D.int)), .val (.int (at_ : Nat)), s2, .val (poolsD men lands w), .val (.lst (ways.map D.int)), .val (.obj (n + 8)), .own (.lst (rows.map Rw.D)), .val (.int day), .val (.int (i : Nat)), s9, s10] S = .ok .next [.val (.lst (fs.map D.int)), .val (.int (at_ : Nat)), s2, .val (poolsD men lands w), .val (.lst (ways.map D.int)), .val (.obj (n + 8)), .own (.lst (rows.map Rw.D)), .val (.int day), .val (.int (i : Nat)), .val (.lst [.int x0, .int x1, .int x2, .int x3, .int x4, .int x5, .int x6, .int x7]), s10] S := by
    generalize fs.map D.int = fl at *
    simp [m8, c1]
  have st2 : (sSet 10 (dCall m__law_row (aCons (dVar 5) (aCons (dVar 3) (aCons (d2 opAdd (dLst (aCons (d2 opIx (dVar 4) (d2 opMod (d2 opIx (dVar 9) (dC (.int 0))) (d1 opLen (dVar 4)))) aNil)) (dSl (dVar 9) (oSome (dC (.int 1))) oNone)) (aCons (dVar 7) aNil)))))) [.val (.lst (fs.map D.int)), .val (.int (at_ : Nat)), s2, .val (poolsD men lands w), .val (.lst (ways.map D.int)), .val (.obj (n + 8)), .own (.lst (rows.map Rw.D)), .val (.int day), .val (.int (i : Nat)), .val (.lst [.int x0, .int x1, .int x2, .int x3, .int x4, .int x5, .int x6, .int x7]), s10] S = .ok .next [.val (.lst (fs.map D.int)), .val (.int (at_ : Nat)), s2, .val (poolsD men lands w), .val (.lst (ways.map D.int)), .val (.obj (n + 8)), .own (.lst (rows.map Rw.D)), .val (.int day), .val (.int (i : Nat)), .val (.lst [.int x0, .int x1, .int x2, .int x3, .int x4, .int x5, .int x6, .int x7]), .val r.D] S := by
    generalize ways.map D.int = wl at *
    have wpN : 0 < ways.length := List.length_pos_iff.mpr hw
    have k8' : 8 ≤ most := by decide
    simp [atI0, lw, wp, wpN, ey, hcut, k1, k8, k8', er, frz_row]
  have hday : (if (day + z : Int) < 9999 then day + z else 9999 : Int) = (if (day + z : Int) < 9999 then day + z else 9999) := rfl
  have st4 : ∀ (S' : Sto) (rl : List D) (u10 : Slot), (sSet 7 (d2 opMin (dC (.int 9999)) (d2 opAdd (dVar 7) (d2 opIx (dLst (aCons (dC (.int 1)) (aCons (dC (.int 1)) (aCons (dC (.int 0)) (aCons (dC (.int 5)) (aCons (dC (.int 300)) aNil)))))) (d2 opMod (d2 opDiv (d2 opIx (dVar 9) (dC (.int 6))) (dC (.int 4))) (dC (.int 5))))))) [.val (.lst (fs.map D.int)), .val (.int (at_ : Nat)), s2, .val (poolsD men lands w), .val (.lst (ways.map D.int)), .val (.obj (n + 8)), .own (.lst rl), .val (.int day), .val (.int (i : Nat)), .val (.lst [.int x0, .int x1, .int x2, .int x3, .int x4, .int x5, .int x6, .int x7]), u10] S' = .ok .next [.val (.lst (fs.map D.int)), .val (.int (at_ : Nat)), s2, .val (poolsD men lands w), .val (.lst (ways.map D.int)), .val (.obj (n + 8)), .own (.lst rl), .val (.int (if (day + z : Int) < 9999 then day + z else 9999)), .val (.int (i : Nat)), .val (.lst [.int x0, .int x1, .int x2, .int x3, .int x4, .int x5, .int x6, .int x7]), u10] S' := fun S' rl u10 => by
    simp [k5, atI6, d4, ez]
  have dl0 : (0 : Int) ≤ (if (day + z : Int) < 9999 then day + z else 9999) := by split <;> omega
  have dl1 : (if (day + z : Int) < 9999 then day + z else 9999 : Int) ≤ 9999 := by split <;> omega
  have dl2 : (if (day + z : Int) < 9999 then day + z else 9999 : Int) ≤ day + 300 := by split <;> omega
  unfold fb__law_rows_1
  by_cases c : r ∈ rows
  · refine ⟨S, B, rows, (if (day + z : Int) < 9999 then day + z else 9999), .val (.lst [.int x0, .int x1, .int x2, .int x3, .int x4, .int x5, .int x6, .int x7]), .val r.D, ?_, A, Z.up, R, M, NB0, List.ne_nil_of_mem c, by omega, dl0, dl1, dl2, Off.refl⟩
    refine run_seq st1 ?_
    rw [seqK_next]
    refine run_seq st2 ?_
    rw [seqK_next]
    refine run_seq (r := .ok .next [.val (.lst (fs.map D.int)), .val (.int (at_ : Nat)), s2, .val (poolsD men lands w), .val (.lst (ways.map D.int)), .val (.obj (n + 8)), .own (.lst (rows.map Rw.D)), .val (.int day), .val (.int (i : Nat)), .val (.lst [.int x0, .int x1, .int x2, .int x3, .int x4, .int x5, .int x6, .int x7]), .val r.D] S) ?_ ?_
    · rw [decide_eq_true c] at ni
      generalize rows.map Rw.D = rl at *
      simp [deref_row, ni]
    rw [seqK_next]
    exact st4 S _ _
  · obtain ⟨S1, e1, A1, o1⟩ := lword_ok A Z (by omega) ff.f
    have R2 : Rows (rows ++ [r]) := ⟨fun q hq => by
        rcases List.mem_append.mp hq with h | h
        · exact R.f q h
        · rw [List.mem_singleton.mp h]; exact ff, fun q hq => by
        rcases List.mem_append.mp hq with h | h
        · exact R.s q h
        · rw [List.mem_singleton.mp h]; exact sk, List.nodup_append.mpr ⟨R.nd, by simp, fun a ha b hb => by rw [List.mem_singleton.mp hb]; exact fun z => c (z ▸ ha)⟩, fun q hq => by
        rcases List.mem_append.mp hq with h | h
        · exact R.d0 q h
        · rw [List.mem_singleton.mp h, dd]; exact day0, fun q hq => by
        rcases List.mem_append.mp hq with h | h
        · exact R.d1 q h
        · rw [List.mem_singleton.mp h, dd]; exact day1⟩
    refine ⟨S1, B.step r, rows ++ [r], (if (day + z : Int) < 9999 then day + z else 9999), .val (.lst [.int x0, .int x1, .int x2, .int x3, .int x4, .int x5, .int x6, .int x7]), .val r.D, ?_, A1, Z.step ff.f (by omega), R2, fun q hq => by
        rcases List.mem_append.mp hq with h | h
        · exact M q h
        · rw [List.mem_singleton.mp h]; exact ⟨fit_in fit, gd_of P NB0 Z fit (by rw [dd]; exact day0) (by rw [dd]; exact day1)⟩, NB0.step (nms_of P fit), by simp, by rw [List.length_append, List.length_singleton]; omega, dl0, dl1, dl2, o1⟩
    refine run_seq st1 ?_
    rw [seqK_next]
    refine run_seq st2 ?_
    rw [seqK_next]
    refine run_seq (r := .ok .next [.val (.lst (fs.map D.int)), .val (.int (at_ : Nat)), s2, .val (poolsD men lands w), .val (.lst (ways.map D.int)), .val (.obj (n + 8)), .own (.lst ((rows ++ [r]).map Rw.D)), .val (.int day), .val (.int (i : Nat)), .val (.lst [.int x0, .int x1, .int x2, .int x3, .int x4, .int x5, .int x6, .int x7]), .val r.D] S1) ?_ ?_
    · rw [decide_eq_false c] at ni
      rw [List.map_append, show [r].map Rw.D = [r.D] from rfl]
      generalize rows.map Rw.D = rl at *
      simp [deref_row, ni, frz_row, hrm, e1]
    rw [seqK_next]
    exact st4 S1 _ _
theorem lrows_okG (P : Pools men lands w) (hg : Good fs) {N at_ : Nat} (hN : N ≤ 40) (hf : at_ + 8 * N ≤ fs.length) (h15 : 15 ≤ fs.length) (hfl : fs.length ≤ 10000) (hw : ways ≠ []) (hwl : ways.length ≤ 1000) (S : Sto) :
    ∃ S' rows, m__law_rows [.lst (fs.map D.int), .int (at_ : Nat), .int (N : Nat), poolsD men lands w, .lst (ways.map D.int)] S = .ok (.lst (rows.map Rw.D)) S' ∧ Rows rows ∧ rows.length ≤ N ∧ Grow [] S S' ∧ (∀ r ∈ rows, r.inP men lands) ∧ (∀ r ∈ rows, r.Gd) ∧ (0 < N → rows ≠ []) := by
  obtain ⟨bk, A0⟩ := book_new w S
  have lb : (S ++ bookC9 S.length w).length = S.length + 8 := by simp [bookC9]
  obtain ⟨x14, a14, g0, g1⟩ := int_at 14 hg (by omega)
  have a14 : L2.atI (fs.map D.int) 14 = some (.int x14) := a14
  have dd0 : (0 : Int) ≤ if x14.fdiv 40 % 8 = 7 then 9985 + x14 % 15 else x14 % 40 := by split <;> omega
  have dd1 : (if x14.fdiv 40 % 8 = 7 then 9985 + x14 % 15 else x14 % 40 : Int) ≤ 9999 := by split <;> omega
  generalize hday : (if x14.fdiv 40 % 8 = 7 then 9985 + x14 % 15 else x14 % 40 : Int) = day at *
  obtain ⟨σ', S', e, B', rows, day', u8, u9, u10, rfl, A', Z', R', M', _, ne', hl', _, _, _, o'⟩ := forL_inv (g := gN 8) (f := fb__law_rows_1) (fun i σ S' => ∃ (B' : Bk) (rows : List Rw) (day' : Int) (s8 s9 s10 : Slot), σ = [.val (.lst (fs.map D.int)), .val (.int (at_ : Nat)), .val (.int (N : Nat)), .val (poolsD men lands w), .val (.lst (ways.map D.int)), .val (.obj (S.length + 8)), .own (.lst (rows.map Rw.D)), .val (.int day'), s8, s9, s10] ∧ BookAt S' S.length false false B' ∧ Snd B' i w ∧ Rows rows ∧ (∀ r ∈ rows, r.inP men lands ∧ r.Gd) ∧ NB B' ∧ (0 < i → rows ≠ []) ∧ rows.length ≤ i ∧ 0 ≤ day' ∧ day' ≤ 9999 ∧ day' ≤ day + 300 * (i : Int) ∧ Off (fp9 S.length) (S ++ bookC9 S.length w ++ [.con false (.dK (bkD S.length))]) S') (ran 0 (N : Int)) 0
    [.val (.lst (fs.map D.int)), .val (.int (at_ : Nat)), .val (.int (N : Nat)), .val (poolsD men lands w), .val (.lst (ways.map D.int)), .val (.obj (S.length + 8)), .own (.lst []), .val (.int day), .emp, .emp, .emp] (S ++ bookC9 S.length w ++ [.con false (.dK (bkD S.length))]) ⟨B0 w, [], day, .emp, .emp, .emp, rfl, A0, snd0 P.w1 P.w2, ⟨by simp, by simp, by simp, by simp, by simp⟩, (fun r hr => by cases hr), nb0 w, (fun h => absurd h (Nat.lt_irrefl 0)), Nat.le_refl _, dd0, dd1, by omega, Off.refl⟩ (by
    rintro i d' σ S1 hi ⟨B1, rows, day1, s8, s9, s10, rfl, A1, Z1, R1, M1, NB1, _, hl1, h0, h1, h2, o1⟩
    obtain ⟨hiN, rfl⟩ := ranGet hi
    rw [Nat.zero_add] at Z1 hl1 h2 ⊢
    obtain ⟨S2, B2, rows2, day2, u9, u10, e2, A2, Z2, R2, M2, NB2, ne2, hl2, h20, h21, h22, o2⟩ := rows_turnG NB1 A1 Z1 (by omega) P hg (at_ := at_) (by omega) hfl hw hwl R1 M1 hl1 h0 h1 (s2 := .val (.int (N : Nat))) (s9 := s9) (s10 := s10)
    exact ⟨_, rfl, _, S2, e2, B2, rows2, day2, _, u9, u10, rfl, A2, Z2, R2, M2, NB2, fun _ => ne2, hl2, h20, h21, by omega, o1.trans o2⟩)
  rw [Nat.zero_add, ran_len] at hl' ne'
  have g0 : Grow [] S (S ++ bookC9 S.length w ++ [.con false (.dK (bkD S.length))]) := by rw [List.append_assoc]; exact Grow.app _
  refine ⟨S', rows, ?_, R', hl', ⟨Nat.le_trans g0.len o'.grow.len, fun j h n => ?_⟩, fun r hr => (M' r hr).1, fun r hr => (M' r hr).2, ne'⟩
  · refine rows_end (S1 := S ++ bookC9 S.length w ++ [.con false (.dK (bkD S.length))]) (S2 := S) ⟨by omega, by omega⟩ ?_ (fun _ _ => rfl) a14 hday.symm e
    generalize fs.map D.int = fl at *
    generalize ways.map D.int = wl at *
    generalize hT : S ++ bookC9 S.length w = T at *
    simp [atI2, bk, lb]
  · rw [o'.off j (by simp; omega), g0.off j h n]
end
end MR
set_option Elab.async false
set_option linter.all false
set_option maxRecDepth 100000
namespace MR
open PySem
theorem okv_good {r : Rw} (h : r.okv) : goodR r.row = true := by
  have lk : ∀ (k : Str) (xs : List Kk), k ∉ [("heir" : Str), "liege"] → likeB k xs = false := fun k xs h => by unfold likeB; rw [decide_eq_false h]; rfl
  have cr : ∀ {e : Str}, (e = "" ∨ isNm e = true) → (decide (e = "") || isNm e) = true := fun {e} h => by
    rcases h with rfl | h
    · rfl
    · rw [h, Bool.or_true]
  cases r with
  | heir d m x =>
    obtain ⟨⟨d0, d1⟩, h1, h2, h3⟩ := h
    show goodK "heir" [.inl d, .inr m, .inr x] = true
    have ss : shp "heir" = some [.d, .n, .n] := rfl
    unfold goodK
    rw [ss]
    simp [fitL, Tg.fit, d0, d1, h1, h2, likeB, h3]
  | grant d e n m a s =>
    obtain ⟨⟨d0, d1⟩, h1, h2, h3, ⟨a0, a1⟩, ⟨s0, s1⟩⟩ := h
    show goodK "grant" [.inl d, .inr e, .inr n, .inr m, .inl a, .inl s] = true
    have ss : shp "grant" = some [.d, .c, .n, .n, .a, .s] := rfl
    have e1 := cr h1
    unfold goodK
    rw [ss]
    simp [fitL, Tg.fit, d0, d1, h2, h3, a0, a1, s0, s1, lk "grant" _ (by decide)]
    simpa using e1
  | part d e n m a =>
    obtain ⟨⟨d0, d1⟩, h1, h2, h3, ⟨a0, a1⟩⟩ := h
    show goodK "part" [.inl d, .inr e, .inr n, .inr m, .inl a] = true
    have ss : shp "part" = some [.d, .n, .n, .n, .a] := rfl
    unfold goodK
    rw [ss]
    simp [fitL, Tg.fit, d0, d1, h1, h2, h3, a0, a1, lk "part" _ (by decide)]
  | convey d e m =>
    obtain ⟨⟨d0, d1⟩, h1, h2⟩ := h
    show goodK "convey" [.inl d, .inr e, .inr m] = true
    have ss : shp "convey" = some [.d, .n, .n] := rfl
    unfold goodK
    rw [ss]
    simp [fitL, Tg.fit, d0, d1, h1, h2, lk "convey" _ (by decide)]
  | liege d m l =>
    obtain ⟨⟨d0, d1⟩, h1, h2, h3⟩ := h
    show goodK "liege" [.inl d, .inr m, .inr l] = true
    have ss : shp "liege" = some [.d, .n, .c] := rfl
    have e1 := cr h2
    unfold goodK
    rw [ss]
    simp [fitL, Tg.fit, d0, d1, h1, likeB, h3]
    simpa using e1
  | surr d e =>
    obtain ⟨⟨d0, d1⟩, h1⟩ := h
    show goodK "surrender" [.inl d, .inr e] = true
    have ss : shp "surrender" = some [.d, .n] := rfl
    unfold goodK
    rw [ss]
    simp [fitL, Tg.fit, d0, d1, h1, lk "surrender" _ (by decide)]
  | death d m =>
    obtain ⟨⟨d0, d1⟩, h1⟩ := h
    show goodK "death" [.inl d, .inr m] = true
    have ss : shp "death" = some [.d, .n] := rfl
    unfold goodK
    rw [ss]
    simp [fitL, Tg.fit, d0, d1, h1, lk "death" _ (by decide)]
def numT (i : Int) : Str := Str.ofString (toString i)
def wordK : Kk → Str
  | .inl i => numT i
  | .inr z => if z = "" then "-" else z
def textR (r : Row) : Str := Txt.join " " (r.map wordK)
def smallK : Kk → Prop
  | .inl i => i.natAbs.log2 < 1920
  | .inr _ => True
theorem log_small {i : Int} (h0 : 0 ≤ i) (h1 : i < 2 ^ 40) : i.natAbs.log2 < 1920 := by
  by_cases e : i.natAbs = 0
  · rw [e]; decide
  · have : i.natAbs < 2 ^ 40 := by omega
    have := (Nat.log2_lt e).mpr this
    omega
section
variable {S : Sto}
@[simp] theorem opEq_int_str {i : Int} {y : Str} : opEq' (.int i) (.str y) = some (.bl false) := rfl
@[simp] theorem opEq_str_int {i : Int} {y : Str} : opEq' (.str y) (.int i) = some (.bl false) := rfl
theorem opStr_int {i : Int} (h : i.natAbs.log2 < 1920) : opStr (.int i) = some (.str (numT i)) := if_pos h
@[simp] theorem opStr_str {x : Str} : opStr (.str x) = some (.str x) := rfl
theorem lword_of_eq {k : Kk} (h : smallK k) (S : Sto) : m__law_word_of [kD k] S = .ok (.str (wordK k)) S := by
  cases k with
  | inl i =>
    have h : i.natAbs.log2 < 1920 := h
    refine dDef_ret (σ' := [.val (.int i)]) ?_
    simp [b__law_word_of, kD, opStr_int h, wordK]
  | inr z =>
    refine dDef_ret (σ' := [.val (.str z)]) ?_
    by_cases q : z = ""
    · subst q
      simp [b__law_word_of, kD, wordK]
    · simp [b__law_word_of, kD, wordK, q]
def fitsT (r : Row) : Prop := ((r.map wordK).map (·.length)).sum + r.length ≤ most
theorem strs_map {α : Type} (f : α → Str) : ∀ l : List α, strsD (l.map fun x => D.str (f x)) = some (l.map f)
  | [] => rfl
  | x :: l => by
    rw [List.map_cons, List.map_cons]
    show (strsD (l.map fun x => D.str (f x))).map _ = _
    rw [strs_map f l]
    rfl
theorem opJoin_row {r : Row} (h : fitsT r) : opJoin (.str " ") (.lst (r.map fun k => D.str (wordK k))) = some (.str (textR r)) := by
  show (strsD _).bind _ = _
  rw [strs_map]
  show (if _ then _ else _) = _
  rw [if_pos (by
    have e : (" " : Str).length = 1 := by decide
    rw [e, Nat.mul_one, List.length_map]
    exact h)]
  rfl
def figs (cs : List Nat) : Bool := cs.all fun c => decide (48 ≤ c) && decide (c ≤ 57)
def isNum (t : Str) : Bool := (decide (1 ≤ t.length) && decide (t.length ≤ 6)) && figs (TL.tl t) && !(decide (1 < t.length) && decide ((TL.tl t).head? = some 48))
def numW (w : Str) : Option Int := if isNum w = true then some ((NumText.digitsVal (TL.tl w) : Nat) : Int) else none
theorem hasC_fig (c : Nat) : hasC "0123456789" c = (decide (48 ≤ c) && decide (c ≤ 57)) := by
  have e : ("0123456789" : Str).cps.toList = [48, 49, 50, 51, 52, 53, 54, 55, 56, 57] := by decide
  unfold hasC
  rw [e]
  by_cases h : 48 ≤ c ∧ c ≤ 57
  · have : c ∈ [48, 49, 50, 51, 52, 53, 54, 55, 56, 57] := by
      simp only [List.mem_cons, List.not_mem_nil, or_false]
      omega
    rw [decide_eq_true this, decide_eq_true h.1, decide_eq_true h.2]
    rfl
  · have : c ∉ [48, 49, 50, 51, 52, 53, 54, 55, 56, 57] := by
      simp only [List.mem_cons, List.not_mem_nil, or_false]
      omega
    rw [decide_eq_false this]
    by_cases q : 48 ≤ c
    · rw [decide_eq_true q, decide_eq_false (fun z => h ⟨q, z⟩)]
      rfl
    · rw [decide_eq_false q]
      rfl
theorem figs_digits {cs : List Nat} (h : figs cs = true) : NumText.AllDigits cs := fun c hc => by
  have q := List.all_eq_true.mp h c hc
  rw [Bool.and_eq_true] at q
  exact ⟨of_decide_eq_true q.1, of_decide_eq_true q.2⟩
theorem numT_tl (n : Nat) : TL.tl (numT (n : Int)) = TL.numL n := TL.tl_num n
def thingW (kd w : Str) : Option Kk := if kd ∈ [("day" : Str), "acres", "service"] then (numW w).map .inl else if kd = "crowned" ∧ w = "-" then some (.inr "") else if w = "" then none else some (.inr w)
def thingsW : List Tg → List Str → Option (List Kk)
  | [], [] => some []
  | t :: ts, w :: ws => (thingW t.wd w).bind fun x => (thingsW ts ws).map fun xs => x :: xs
  | _, _ => none
theorem things_len : ∀ {ts : List Tg} {ws : List Str} {xs : List Kk}, thingsW ts ws = some xs → ws.length = ts.length ∧ xs.length = ts.length
  | [], [], _, h => by cases h; exact ⟨rfl, rfl⟩
  | [], _ :: _, _, h => by cases h
  | _ :: _, [], _, h => by cases h
  | t :: ts, w :: ws, _, h => by
    obtain ⟨x, _, h2⟩ := Option.bind_eq_some_iff.mp h
    obtain ⟨xs, h3, rfl⟩ := Option.map_eq_some_iff.mp h2
    obtain ⟨q1, q2⟩ := things_len h3
    exact ⟨by rw [List.length_cons, List.length_cons, q1], by rw [List.length_cons, List.length_cons, q2]⟩
theorem thing_typ {t : Tg} {w : Str} {x : Kk} (h : thingW t.wd w = some x) : t.typ x = true ∧ ∀ z, x = .inr z → z.length ≤ w.length := by
  have hw : decide (t.wd ∈ [("day" : Str), "acres", "service"]) = t.num := by cases t <;> decide
  unfold thingW at h
  cases hn : t.num with
  | true =>
    rw [hn] at hw
    rw [if_pos (of_decide_eq_true hw)] at h
    obtain ⟨i, _, rfl⟩ := Option.map_eq_some_iff.mp h
    exact ⟨hn, fun z e => by cases e⟩
  | false =>
    rw [hn] at hw
    rw [if_neg (of_decide_eq_false hw)] at h
    split at h
    · cases h
      exact ⟨by show (!t.num) = true; rw [hn]; rfl, fun z e => by cases e; exact Nat.zero_le _⟩
    · split at h
      · cases h
      · cases h
        exact ⟨by show (!t.num) = true; rw [hn]; rfl, fun z e => by cases e; exact Nat.le_refl _⟩
theorem things_typ : ∀ {ts : List Tg} {ws : List Str} {xs : List Kk} {b : Nat}, thingsW ts ws = some xs → (∀ w ∈ ws, w.length ≤ b) → typL ts xs = true ∧ ∀ z, (Sum.inr z : Kk) ∈ xs → z.length ≤ b
  | [], [], _, _, h, _ => by cases h; exact ⟨rfl, fun z hz => nomatch hz⟩
  | [], _ :: _, _, _, h, _ => by cases h
  | _ :: _, [], _, _, h, _ => by cases h
  | t :: ts, w :: ws, _, b, h, hb => by
    obtain ⟨x, h1, h2⟩ := Option.bind_eq_some_iff.mp h
    obtain ⟨xs, h3, rfl⟩ := Option.map_eq_some_iff.mp h2
    obtain ⟨q1, q2⟩ := things_typ h3 fun w hw => hb w (List.mem_cons_of_mem _ hw)
    obtain ⟨p1, p2⟩ := thing_typ h1
    refine ⟨by show (t.typ x && typL ts xs) = true; rw [p1, q1]; rfl, fun z hz => ?_⟩
    rcases List.mem_cons.mp hz with e | hz
    · exact Nat.le_trans (p2 z e.symm) (hb w (List.mem_cons_self ..))
    · exact q2 z hz
def readR (ws : List Str) : Option Row := match ws with
  | [] => none
  | k :: ws => (shp k).bind fun ts => (thingsW ts ws).bind fun xs => if goodK k xs = true then some (.inr k :: xs) else none
theorem shp_pos {k : Str} {ts : List Tg} (h : shp k = some ts) : ts.length ≠ 0 := by
  have := aval_mem h
  simp only [shpL, List.mem_cons, Prod.mk.injEq, List.not_mem_nil, or_false] at this
  rcases this with ⟨_, rfl⟩ | ⟨_, rfl⟩ | ⟨_, rfl⟩ | ⟨_, rfl⟩ | ⟨_, rfl⟩ | ⟨_, rfl⟩ | ⟨_, rfl⟩ <;> decide
theorem joinL_len (S : List Nat) : ∀ ps : List (List Nat), (TL.joinL S ps).length ≤ (ps.map List.length).sum + ps.length * S.length
  | [] => Nat.zero_le _
  | [p] => by simp [TL.joinL]
  | p :: q :: r => by
    have := joinL_len S (q :: r)
    show (p ++ (S ++ TL.joinL S (q :: r))).length ≤ _
    rw [List.length_append, List.length_append, List.map_cons, List.sum_cons]
    rw [show (p :: q :: r).length = (q :: r).length + 1 from rfl, Nat.add_mul]
    omega
theorem sum_le_mul {l : List Nat} {b : Nat} (h : ∀ x ∈ l, x ≤ b) : l.sum ≤ l.length * b := by
  induction l with
  | nil => exact Nat.zero_le _
  | cons x l ih =>
    have h1 := h x (List.mem_cons_self ..)
    have h2 := ih fun y hy => h y (List.mem_cons_of_mem _ hy)
    rw [List.sum_cons, List.length_cons, Nat.add_mul]
    omega
theorem join_len {y : Str} {ps : List Str} {b : Nat} (h : ∀ p ∈ ps, p.length ≤ b) : (Txt.join y ps).length ≤ ps.length * b + ps.length * y.length := by
  rw [TL.join_eq, TL.len_tl, TL.tl_join]
  refine Nat.le_trans (joinL_len _ _) ?_
  rw [List.length_map, ← TL.len_tl]
  refine Nat.add_le_add_right ?_ _
  have := sum_le_mul (l := (ps.map TL.tl).map List.length) (b := b) fun x hx => by
    obtain ⟨q, hq, rfl⟩ := List.mem_map.mp hx
    obtain ⟨z, hz, rfl⟩ := List.mem_map.mp hq
    rw [← TL.len_tl]
    exact h z hz
  rw [List.length_map, List.length_map] at this
  exact this
def WordOk (w : Str) : Prop := (∀ c ∈ TL.tl w, 33 ≤ c) ∧ w.length ≤ 9
theorem WordOk.no {w : Str} (h : WordOk w) {c : Nat} (hc : c < 33) : c ∉ TL.tl w := fun z => absurd (h.1 c z) (by omega)
theorem nm_word {z : Str} (h : isNm z = true) : WordOk z := by
  refine ⟨fun c hc => ?_, Nat.le_trans (nm_len8 h) (by decide)⟩
  unfold isNm letters at h
  rw [Bool.and_eq_true] at h
  have q := List.all_eq_true.mp h.2 c hc
  have al : ∀ d ∈ abc.cps.toList, 33 ≤ d := by decide
  exact al c (of_decide_eq_true q)
theorem num_word {i : Int} (h0 : 0 ≤ i) (h1 : i ≤ 99999999) : WordOk (numT i) := by
  obtain ⟨n, rfl⟩ := Int.eq_ofNat_of_zero_le h0
  refine ⟨?_, ?_⟩
  · rw [numT_tl]
    exact fun c hc => Nat.le_trans (by decide) (TL.numL_digits n c hc).1
  · rw [TL.len_tl, numT_tl]
    exact Nat.le_trans (TL.numL_len (k := 8) (by decide) (by omega)) (by decide)
theorem fit_word {t : Tg} {x : Kk} (h : t.fit x = true) : WordOk (wordK x) ∧ smallK x := by
  cases x with
  | inl i =>
    have b : 0 ≤ i ∧ i ≤ 9999 := by
      cases t <;> simp [Tg.fit] at h <;> omega
    exact ⟨num_word b.1 (by omega), log_small b.1 (by omega)⟩
  | inr z =>
    refine ⟨?_, trivial⟩
    by_cases q : z = ""
    · subst q
      exact (by decide : (∀ c ∈ TL.tl (wordK (.inr "")), 33 ≤ c) ∧ (wordK (.inr "")).length ≤ 9)
    · have ew : wordK (.inr z) = z := if_neg q
      have nm : isNm z = true := by
        cases t with
        | c =>
          have h : (decide (z = "") || isNm z) = true := h
          rw [decide_eq_false q] at h
          simpa using h
        | n => exact h
        | d => cases h
        | a => cases h
        | s => cases h
      rw [ew]
      exact nm_word nm
theorem fitL_words : ∀ {ts : List Tg} {xs : List Kk}, fitL ts xs = true → xs.length = ts.length → ∀ x ∈ xs, WordOk (wordK x) ∧ smallK x
  | [], [], _, _, x, hx => nomatch hx
  | [], _ :: _, _, h, _, _ => by cases h
  | _ :: _, [], _, h, _, _ => by cases h
  | t :: ts, y :: ys, h, hl, x, hx => by
    obtain ⟨h1, h2⟩ := Bool.and_eq_true_iff.mp (show (t.fit y && fitL ts ys) = true from h)
    rcases List.mem_cons.mp hx with rfl | hx
    · exact fit_word h1
    · exact fitL_words h2 (by simpa using hl) x hx
theorem shp_word {k : Str} {ts : List Tg} (h : shp k = some ts) : WordOk k ∧ k ≠ "" := by
  have := aval_mem h
  simp only [shpL, List.mem_cons, Prod.mk.injEq, List.not_mem_nil, or_false] at this
  unfold WordOk
  rcases this with ⟨rfl, _⟩ | ⟨rfl, _⟩ | ⟨rfl, _⟩ | ⟨rfl, _⟩ | ⟨rfl, _⟩ | ⟨rfl, _⟩ | ⟨rfl, _⟩ <;> decide
theorem good_parts {r : Row} (h : goodR r = true) : ∃ k xs ts, r = .inr k :: xs ∧ shp k = some ts ∧ xs.length = ts.length ∧ fitL ts xs = true ∧ goodK k xs = true := by
  cases r with
  | nil => cases h
  | cons a xs => cases a with
    | inl i => cases h
    | inr k =>
      have h : goodK k xs = true := h
      have h' := h
      unfold goodK at h
      cases e : shp k with
      | none => rw [e] at h; cases h
      | some ts =>
        rw [e] at h
        rw [Bool.and_eq_true, Bool.and_eq_true] at h
        exact ⟨k, xs, ts, rfl, e, of_decide_eq_true h.1, h.2.1, h'⟩
theorem good_words {r : Row} (h : goodR r = true) : (∀ x ∈ r, WordOk (wordK x) ∧ smallK x) ∧ r.length ≤ 7 ∧ r ≠ [] := by
  obtain ⟨k, xs, ts, rfl, e, hl, hf, _⟩ := good_parts h
  have := shp_len e
  refine ⟨fun x hx => ?_, by rw [List.length_cons, hl]; omega, by simp⟩
  rcases List.mem_cons.mp hx with rfl | hx
  · obtain ⟨w, ne⟩ := shp_word e
    have ew : wordK (.inr k) = k := if_neg ne
    rw [ew]
    exact ⟨w, trivial⟩
  · exact fitL_words hf hl x hx
theorem good_fitsT {r : Row} (h : goodR r = true) : fitsT r := by
  obtain ⟨hw, hl, _⟩ := good_words h
  unfold fitsT
  have := sum_le_mul (l := (r.map wordK).map (·.length)) (b := 9) fun x hx => by
    obtain ⟨q, hq, rfl⟩ := List.mem_map.mp hx
    obtain ⟨z, hz, rfl⟩ := List.mem_map.mp hq
    exact (hw z hz).1.2
  rw [List.length_map, List.length_map] at this
  have : r.length * 9 ≤ 7 * 9 := Nat.mul_le_mul_right 9 hl
  have m : most = 16777216 := rfl
  omega
theorem textR_len {r : Row} (h : goodR r = true) : (textR r).length ≤ 70 := by
  obtain ⟨hw, hl, _⟩ := good_words h
  have := join_len (y := " ") (ps := r.map wordK) (b := 9) fun x hx => by
    obtain ⟨z, hz, rfl⟩ := List.mem_map.mp hx
    exact (hw z hz).1.2
  have e1 : (" " : Str).length = 1 := by decide
  rw [e1, List.length_map] at this
  have : r.length * 9 ≤ 7 * 9 := Nat.mul_le_mul_right 9 hl
  unfold textR
  omega
theorem ltext_of_eq {r : Row} (h : goodR r = true) (S : Sto) : m__law_text_of [rd r] S = .ok (.str (textR r)) S := by
  have hs : ∀ k ∈ r, smallK k := fun k hk => ((good_words h).1 k hk).2
  have hf := good_fitsT h
  have hl : r.length ≤ most := Nat.le_trans (Nat.le_add_left ..) hf
  have e := dLc_map (it := iTup (dVar 0)) (g := gN 1) (e := le__law_text_of_1) (vs := [1]) (S := S) (σ := [.val (rd r), .emp]) (σ' := [.val (rd r), .emp]) (items := r.map kD) (fun d => [.val (rd r), .val d]) (fun d => match d with
      | .int i => .str (wordK (.inl i))
      | .str z => .str (wordK (.inr z))
      | _ => .non) (by simp [rd]) rfl (by rw [List.length_map]; exact hl) fun d hd => by
    obtain ⟨k, hk, rfl⟩ := List.mem_map.mp hd
    have q := lword_of_eq (hs k hk) S
    have fk := kD_frz (S := S) (σ := [.val (rd r), .val (kD k)]) k
    refine ⟨by simp [gN, wipeD], by simp [wipeD], ?_⟩
    cases k <;> simp [le__law_text_of_1, kD, wipeD] at * <;> simp [q]
  rw [List.map_map] at e
  have ee : (r.map ((fun d => match d with
      | .int i => .str (wordK (.inl i))
      | .str z => .str (wordK (.inr z))
      | _ => .non) ∘ kD)) = r.map fun k => D.str (wordK k) := List.map_congr_left fun k _ => by cases k <;> rfl
  rw [ee] at e
  refine dDef_ret (σ' := [.val (rd r), .emp]) ?_
  have j := opJoin_row hf
  generalize (r.map fun k => D.str (wordK k)) = l at *
  simp [b__law_text_of, dS1, e, j]
end
end MR
set_option Elab.async false
set_option linter.all false
set_option maxRecDepth 100000
namespace MR
open PySem
theorem isNum_cases (w : Str) : isNum w = ((decide (1 ≤ w.length) && decide (w.length ≤ 6)) && figs (TL.tl w) && !(decide (1 < w.length) && decide ((TL.tl w).head? = some 48))) := rfl
section
variable {S : Sto}
theorem num_facts {w : Str} (hl : w.length ≤ 1000) : w.length ≤ most ∧ opAll (.lst (w.cps.toList.map fun c => D.bl (decide (48 ≤ c) && decide (c ≤ 57)))) = some (.bl (figs (TL.tl w))) ∧
    (1 ≤ w.length → ∃ c, opIx (.str w) (.int 0) = some (.str ⟨#[c]⟩) ∧ (TL.tl w).head? = some c ∧ decide ((⟨#[c]⟩ : Str) = "0") = decide (c = 48)) ∧
    (1 ≤ w.length → w.length ≤ 6 → figs (TL.tl w) = true → opIntS (.str w) = some (.int ((NumText.digitsVal (TL.tl w) : Nat) : Int))) := by
  have hm : w.length ≤ most := Nat.le_trans hl (by decide)
  refine ⟨hm, by rw [opAll_map]; rfl, fun h1 => ?_, fun h1 h2 h3 => ?_⟩
  · obtain ⟨c, cs, ec⟩ : ∃ c cs, TL.tl w = c :: cs := by
      cases ew : TL.tl w with
      | nil =>
        have : w.length = (TL.tl w).length := TL.len_tl w
        rw [ew] at this
        simp at this
        omega
      | cons c cs => exact ⟨c, cs, rfl⟩
    refine ⟨c, ?_, by rw [ec]; rfl, ?_⟩
    · show (if w.length ≤ most then (L2.atI w.cps.toList 0).map (fun c => D.str ⟨#[c]⟩) else none) = _
      rw [if_pos hm, show w.cps.toList = c :: cs from ec, show L2.atI (c :: cs) 0 = some c from L2.atI_nat (j := 0) rfl]
      rfl
    · by_cases q : c = 48
      · subst q
        rfl
      · rw [decide_eq_false q]
        refine decide_eq_false fun z => q ?_
        have := congrArg (fun x : Str => x.cps.toList) z
        have e0 : ("0" : Str).cps.toList = [48] := by decide
        rw [e0] at this
        simpa using this
  · have nt : PySem.intText? w = some ((NumText.digitsVal (TL.tl w) : Nat) : Int) := intText_digits (figs_digits h3) (fun z => by
      have : w.length = (TL.tl w).length := TL.len_tl w
      have z : TL.tl w = [] := z
      rw [z] at this
      simp at this
      omega) (Nat.le_trans h2 (by decide))
    show (if w.length ≤ 640 then (PySem.intText? w).map D.int else none) = _
    rw [if_pos (Nat.le_trans h2 (by decide)), nt]
    rfl
theorem number_v2 {w : Str} (hl : w.length ≤ 1000) (S : Sto) : m_number_of_v2 [.str w] S = match numW w with
    | some i => .ok (.int i) S
    | none => .exc ⟨"NoText", some 1⟩ S := by
  obtain ⟨hm, ha, hix, hit⟩ := num_facts hl
  have e : dLc (iStr (dVar 0)) (gN 1) tTrue le_number_of_v2_1 [1] [.val (.str w), .emp] S = .ok (.lst (w.cps.toList.map fun c => .bl (decide (48 ≤ c) && decide (c ≤ 57)))) [.val (.str w), .emp] S :=
    signs_lc (fun c => decide (48 ≤ c) && decide (c ≤ 57)) (fun d => [.val (.str w), .val d]) (by simp) rfl hm fun c => ⟨rfl, rfl, by simp [le_number_of_v2_1, opIn_sign, hasC_fig]⟩
  have hn := isNum_cases w
  unfold numW
  generalize (w.cps.toList.map fun c => D.bl (decide (48 ≤ c) && decide (c ≤ 57))) = bl at *
  generalize ((NumText.digitsVal (TL.tl w) : Nat) : Int) = v at *
  generalize figs (TL.tl w) = fg at *
  have c1 : decide ((1 : Int) ≤ (w.length : Int)) = decide (1 ≤ w.length) := by simp only [decide_eq_decide]; omega
  have c6 : decide ((w.length : Int) ≤ 6) = decide (w.length ≤ 6) := by simp only [decide_eq_decide]; omega
  have c2 : decide ((1 : Int) < (w.length : Int)) = decide (1 < w.length) := by simp only [decide_eq_decide]; omega
  by_cases h1 : 1 ≤ w.length
  · obtain ⟨c, ix, hd, h0⟩ := hix h1
    rw [hd] at hn
    have hn : isNum w = ((decide (1 ≤ w.length) && decide (w.length ≤ 6)) && fg && !(decide (1 < w.length) && decide (c = 48))) := by rw [hn]; simp
    rw [← h0] at hn
    generalize (⟨#[c]⟩ : Str) = z at *
    rw [decide_eq_true h1] at hn c1
    by_cases h6 : w.length ≤ 6
    · rw [decide_eq_true h6] at hn c6
      cases fg with
      | false =>
        rw [hn]
        refine dDef_exc (σ' := [.val (.str w), .emp]) ?_
        simp [b_number_of_v2, hm, c1, c6, e, ha, sRaiseI]
      | true =>
        have it := hit h1 h6 rfl
        by_cases q : 1 < w.length
        · rw [decide_eq_true q] at hn c2
          by_cases z0 : z = "0"
          · rw [decide_eq_true z0] at hn
            rw [hn]
            refine dDef_exc (σ' := [.val (.str w), .emp]) ?_
            simp [b_number_of_v2, hm, c1, c6, c2, e, ha, ix, z0, sRaiseI]
          · rw [decide_eq_false z0] at hn
            rw [hn]
            refine dDef_ret (σ' := [.val (.str w), .emp]) ?_
            simp [b_number_of_v2, hm, c1, c6, c2, e, ha, ix, z0, it]
        · rw [decide_eq_false q] at hn c2
          rw [hn]
          refine dDef_ret (σ' := [.val (.str w), .emp]) ?_
          simp [b_number_of_v2, hm, c1, c6, c2, e, ha, it]
    · rw [decide_eq_false h6] at hn c6
      rw [hn]
      refine dDef_exc (σ' := [.val (.str w), .emp]) ?_
      simp [b_number_of_v2, hm, c1, c6, e, ha, sRaiseI]
  · rw [decide_eq_false h1] at hn c1
    rw [hn]
    refine dDef_exc (σ' := [.val (.str w), .emp]) ?_
    simp [b_number_of_v2, hm, c1, e, ha, sRaiseI]
theorem lnumber_eq {w : Str} (hl : w.length ≤ 1000) (S : Sto) : m__law_number [.str w] S = .ok (.int ((numW w).getD (-1))) S := by
  obtain ⟨hm, ha, hix, hit⟩ := num_facts hl
  have e : dLc (iStr (dVar 0)) (gN 1) tTrue le__law_number_1 [1] [.val (.str w), .emp] S = .ok (.lst (w.cps.toList.map fun c => .bl (decide (48 ≤ c) && decide (c ≤ 57)))) [.val (.str w), .emp] S :=
    signs_lc (fun c => decide (48 ≤ c) && decide (c ≤ 57)) (fun d => [.val (.str w), .val d]) (by simp) rfl hm fun c => ⟨rfl, rfl, by simp [le__law_number_1, opIn_sign, hasC_fig]⟩
  have hn := isNum_cases w
  unfold numW
  refine dDef_ret (σ' := [.val (.str w), .emp]) ?_
  generalize (w.cps.toList.map fun c => D.bl (decide (48 ≤ c) && decide (c ≤ 57))) = bl at *
  generalize ((NumText.digitsVal (TL.tl w) : Nat) : Int) = v at *
  generalize figs (TL.tl w) = fg at *
  have c1 : decide ((1 : Int) ≤ (w.length : Int)) = decide (1 ≤ w.length) := by simp only [decide_eq_decide]; omega
  have c6 : decide ((w.length : Int) ≤ 6) = decide (w.length ≤ 6) := by simp only [decide_eq_decide]; omega
  have c2 : decide ((1 : Int) < (w.length : Int)) = decide (1 < w.length) := by simp only [decide_eq_decide]; omega
  by_cases h1 : 1 ≤ w.length
  · obtain ⟨c, ix, hd, h0⟩ := hix h1
    rw [hd] at hn
    have hn : isNum w = ((decide (1 ≤ w.length) && decide (w.length ≤ 6)) && fg && !(decide (1 < w.length) && decide (c = 48))) := by rw [hn]; simp
    rw [← h0] at hn
    generalize (⟨#[c]⟩ : Str) = z at *
    rw [decide_eq_true h1] at hn c1
    by_cases h6 : w.length ≤ 6
    · rw [decide_eq_true h6] at hn c6
      cases fg with
      | false =>
        rw [hn]
        simp [b__law_number, hm, c1, c6, e, ha]
      | true =>
        have it := hit h1 h6 rfl
        by_cases q : 1 < w.length
        · rw [decide_eq_true q] at hn c2
          by_cases z0 : z = "0"
          · rw [decide_eq_true z0] at hn
            rw [hn]
            simp [b__law_number, hm, c1, c6, c2, e, ha, ix, z0]
          · rw [decide_eq_false z0] at hn
            rw [hn]
            simp [b__law_number, hm, c1, c6, c2, e, ha, ix, z0, it]
        · rw [decide_eq_false q] at hn c2
          rw [hn]
          simp [b__law_number, hm, c1, c6, c2, e, ha, it]
    · rw [decide_eq_false h6] at hn c6
      rw [hn]
      simp [b__law_number, hm, c1, c6, e, ha]
  · rw [decide_eq_false h1] at hn c1
    rw [hn]
    simp [b__law_number, hm, c1, e, ha]
theorem inn3 (kd : Str) : opIn (.str kd) (.tup [.str "day", .str "acres", .str "service"]) = some (.bl (decide (kd ∈ [("day" : Str), "acres", "service"]))) := by
  have h : opIn (.str kd) (.tup [.str "day", .str "acres", .str "service"]) = opInG (.str kd) (.tup [.str "day", .str "acres", .str "service"]) := by unfold opInG opIn; rfl
  rw [h, inT3]
theorem thing_v2 {kd w : Str} (hl : w.length ≤ 1000) (S : Sto) : m_thing_of_v2 [.str w, .str kd] S = match thingW kd w with
    | some x => .ok (kD x) S
    | none => .exc ⟨"NoText", some 1⟩ S := by
  have inn := inn3 kd
  unfold thingW
  by_cases q : kd ∈ [("day" : Str), "acres", "service"]
  · rw [if_pos q]
    have hn := number_v2 hl S
    rw [decide_eq_true q] at inn
    cases e : numW w with
    | some i =>
      rw [e] at hn
      refine dDef_ret (σ' := [.val (.str w), .val (.str kd)]) ?_
      simp [b_thing_of_v2, inn, hn, kD]
    | none =>
      rw [e] at hn
      refine dDef_exc (σ' := [.val (.str w), .val (.str kd)]) ?_
      simp [b_thing_of_v2, inn, hn]
  · rw [if_neg q]
    rw [decide_eq_false q] at inn
    by_cases q2 : kd = "crowned" ∧ w = "-"
    · rw [if_pos q2]
      obtain ⟨rfl, rfl⟩ := q2
      refine dDef_ret (σ' := [.val (.str "-"), .val (.str "crowned")]) ?_
      simp [b_thing_of_v2, inn, kD]
    · rw [if_neg q2]
      by_cases q3 : w = ""
      · rw [if_pos q3]
        subst q3
        refine dDef_exc (σ' := [.val (.str ""), .val (.str kd)]) ?_
        by_cases q4 : kd = "crowned"
        · subst q4
          simp [b_thing_of_v2, inn, sRaiseI]
        · simp [b_thing_of_v2, inn, q4, sRaiseI]
      · rw [if_neg q3]
        refine dDef_ret (σ' := [.val (.str w), .val (.str kd)]) ?_
        by_cases q4 : kd = "crowned"
        · have q5 : ¬ w = "-" := fun z => q2 ⟨q4, z⟩
          subst q4
          simp [b_thing_of_v2, inn, q5, q3, kD]
        · simp [b_thing_of_v2, inn, q4, q3, kD]
def optL (f : D → Option D) : List D → Option (List D)
  | [] => some []
  | d :: ds => (f d).bind fun x => (optL f ds).map fun xs => x :: xs
theorem lcX_run {g : DG} {e : DE} {vs : List Nat} {σw : Sl} {S : Sto} (a : D → Sl) (f : D → Option D) (x : Exn) : ∀ (items acc : List D), (∀ d ∈ items, g d σw = some (a d) ∧ wipeD (a d) vs = σw ∧ dV e (a d) S = match f d with
      | some w => .ok w (a d) S
      | none => .exc x (a d) S) → acc.length + items.length ≤ most → lcX g e vs items acc σw S = match optL f items with
      | some ws => .ok (acc ++ ws) σw S
      | none => .exc x σw S
  | [], acc, _, _ => by
    show Res.ok acc σw S = Res.ok (acc ++ []) σw S
    rw [List.append_nil]
  | d :: ds, acc, st, hl => by
    obtain ⟨h1, h2, h3⟩ := st d (List.mem_cons_self ..)
    rw [List.length_cons] at hl
    unfold lcX optL
    rw [h1]
    dsimp only
    rw [h3]
    cases e : f d with
    | none => dsimp only [Option.bind]; rw [h2]
    | some w =>
      dsimp only [Option.bind]
      rw [if_pos (by omega), h2, lcX_run a f x ds (acc ++ [w]) (fun d hd => st d (List.mem_cons_of_mem _ hd)) (by rw [List.length_append]; show acc.length + 1 + ds.length ≤ most; omega)]
      cases optL f ds with
      | none => rfl
      | some ws => show Res.ok (acc ++ [w] ++ ws) σw S = _; rw [List.append_assoc]; rfl
theorem rest_of_wipe (σ : Sl) (vs : List Nat) : restD σ (wipeD σ vs) vs = σ := by
  apply List.ext_getElem?
  intro j
  rw [restD_get, wipeD_get]
  by_cases h : j ∈ vs
  · rw [if_pos h, if_pos h, Option.map_map]
    cases σ[j]? <;> rfl
  · rw [if_neg h, if_neg h]
theorem dLcX_run {it : DI} {g : DG} {e : DE} {vs : List Nat} {σ σ' : Sl} {S : Sto} {items : List D} (a : D → Sl) (f : D → Option D) (x : Exn) (hi : it σ S = .ok items σ' S) (hno : noOwn σ' vs = true) (hl : items.length ≤ most)
    (st : ∀ d ∈ items, g d (wipeD σ' vs) = some (a d) ∧ wipeD (a d) vs = wipeD σ' vs ∧ dV e (a d) S = match f d with
      | some w => .ok w (a d) S
      | none => .exc x (a d) S) : dLcX it g e vs σ S = match optL f items with
      | some ws => .ok (.lst ws) σ' S
      | none => .exc x σ' S := by
  unfold dLcX
  rw [hi]
  dsimp only [Res.bind]
  rw [if_pos hno, lcX_run a f x items [] st (by simpa using hl)]
  cases optL f items with
  | none => show Res.exc x (restD σ' (wipeD σ' vs) vs) S = _; rw [rest_of_wipe]
  | some ws => show Res.ok (D.lst ([] ++ ws)) (restD σ' (wipeD σ' vs) vs) S = _; rw [rest_of_wipe]; rfl
def thO : D → Option D
  | .tup [.str w, .str kd] => (thingW kd w).map kD
  | _ => none
theorem opt_things : ∀ (ts : List Tg) (ws : List Str), ws.length = ts.length → optL thO (pairs (ws.map D.str) (ts.map fun t => D.str t.wd)) = (thingsW ts ws).map fun xs => xs.map kD
  | [], [], _ => rfl
  | [], _ :: _, h => by cases h
  | _ :: _, [], h => by cases h
  | t :: ts, w :: ws, h => by
    rw [List.map_cons, List.map_cons, pairs_cons]
    show ((thingW t.wd w).map kD).bind _ = ((thingW t.wd w).bind _).map _
    rw [opt_things ts ws (by simpa using h)]
    cases thingW t.wd w with
    | none => rfl
    | some x =>
      show ((thingsW ts ws).map _).map _ = ((thingsW ts ws).map _).map _
      cases thingsW ts ws <;> rfl
theorem pairs_mem : ∀ {ts : List Tg} {ws : List Str} {d : D}, d ∈ pairs (ws.map D.str) (ts.map fun t => D.str t.wd) → ∃ w kd, w ∈ ws ∧ d = .tup [.str w, .str kd]
  | [], ws, d, h => by cases ws <;> cases h
  | _ :: _, [], d, h => by cases h
  | t :: ts, w :: ws, d, h => by
    rw [List.map_cons, List.map_cons, pairs_cons] at h
    rcases List.mem_cons.mp h with rfl | h
    · exact ⟨w, t.wd, List.mem_cons_self .., rfl⟩
    · obtain ⟨w', kd, h1, h2⟩ := pairs_mem h
      exact ⟨w', kd, List.mem_cons_of_mem _ h1, h2⟩
theorem read_row_v2 {t : Str} (hl : t.length + 2 ≤ most) (hn : Txt.split t " " ≠ []) (hw : ∀ w ∈ Txt.split t " ", w.length ≤ 1000) (hm : (Txt.split t " ").length ≤ 2000) (S : Sto) : m_read_row_v2 [.str t] S = match readR (Txt.split t " ") with
    | some r => .ok (rd r) S
    | none => .exc ⟨"NoText", some 1⟩ S := by
  have sp : opSplit (.str t) (.str " ") = some (.lst ((Txt.split t " ").map D.str)) := by
    show (if _ then _ else _) = _
    rw [if_pos ⟨by decide, hl⟩]
  generalize Txt.split t " " = ws at *
  cases ws with
  | nil => exact absurd rfl hn
  | cons k ws =>
    have a0 : ∀ l : List D, L2.atI (D.str k :: l) 0 = some (.str k) := fun l => L2.atI_nat (j := 0) rfl
    have ax := a0 (ws.map D.str)
    have k1 : 1 ≤ most := by decide
    have lk := tab_look k
    have sl : opSl (.lst (D.str k :: ws.map D.str)) (some 1) none = some (.lst (ws.map D.str)) := by
      show some (D.lst (cutL (D.str k :: ws.map D.str) (some ((1 : Nat) : Int)) none)) = _
      rw [cutL_from]
      rfl
    have sp' : opSplit (.str t) (.str " ") = some (.lst (D.str k :: ws.map D.str)) := sp
    show _ = match (shp k).bind fun ts => (thingsW ts ws).bind fun xs => if goodK k xs = true then some (.inr k :: xs) else none with
      | some r => Out.ok (rd r) S
      | none => Out.exc ⟨"NoText", some 1⟩ S
    have s0 : ∀ (u v : Slot) (row : List D), row = D.str k :: ws.map D.str → sSet 1 (dS1 opSplit (dVar 0) (dC (.str " "))) [.val (.str t), u, v, .emp, .emp, .emp] S = .ok .next [.val (.str t), .val (.lst row), v, .emp, .emp, .emp] S := fun u v row h => by
      subst h
      simp [dS1, sp']
    cases es : shp k with
    | none =>
      rw [es] at lk
      have lk : tab_SHAPES.lookup k = none := lk
      have tg : ∀ (f g : DE) (σ : Sl) (S : Sto), f σ S = .ok (.str k) σ S → g σ S = .ok (.tup []) σ S → dTabGet tab_SHAPES f g σ S = .ok (.cst []) σ S := fun f g σ S e1 e2 => by
        simp [dTabGet, e1, e2, lk]
      refine dDef_exc (σ' := [.val (.str t), .val (.lst (D.str k :: ws.map D.str)), .val (.cst []), .emp, .emp, .emp]) ?_
      unfold b_read_row_v2
      refine run_seq (s0 _ _ _ rfl) ?_
      rw [seqK_next]
      generalize (D.str k :: ws.map D.str) = row at *
      refine run_seq (r := .ok .next [.val (.str t), .val (.lst row), .val (.cst []), .emp, .emp, .emp] S) (by
        simp only [sSet, dV]
        rw [tg _ _ _ _ (by simp [ax]) (by simp)]
        simp) ?_
      rw [seqK_next]
      refine run_seq (r := .exc ⟨"NoText", some 1⟩ [.val (.str t), .val (.lst row), .val (.cst []), .emp, .emp, .emp] S) (by simp [sRaiseI]) ?_
      rfl
    | some ts =>
      rw [es] at lk
      have lk : tab_SHAPES.lookup k = some (ts.map fun t => D.str t.wd) := lk
      have t6 := shp_len es
      have tp := shp_pos es
      have tg : ∀ (f g : DE) (σ : Sl) (S : Sto), f σ S = .ok (.str k) σ S → g σ S = .ok (.tup []) σ S → dTabGet tab_SHAPES f g σ S = .ok (.cst (ts.map fun t => D.str t.wd)) σ S := fun f g σ S e1 e2 => by
        simp [dTabGet, e1, e2, lk]
      have n0 : ¬ (ts.map fun t => D.str t.wd) = [] := fun z => tp (by have := congrArg List.length z; rw [List.length_map] at this; exact this)
      have n1 : ¬ ((ts.map fun t => D.str t.wd).length : Int) = 0 := by rw [List.length_map]; omega
      show _ = match (thingsW ts ws).bind fun xs => if goodK k xs = true then some (.inr k :: xs) else none with
        | some r => Out.ok (rd r) S
        | none => Out.exc ⟨"NoText", some 1⟩ S
      have s1 : ∀ (v : Slot) (row : List D), row = D.str k :: ws.map D.str → sSet 2 (dTabGet tab_SHAPES (d2 opIx (dVar 1) (dC (.int 0))) (dTup aNil)) [.val (.str t), .val (.lst row), v, .emp, .emp, .emp] S = .ok .next [.val (.str t), .val (.lst row), .val (.cst (ts.map fun t => D.str t.wd)), .emp, .emp, .emp] S := fun v row h => by
        subst h
        simp only [sSet, dV]
        rw [tg _ _ _ _ (by simp [ax]) (by simp)]
        simp
      by_cases l1 : ws.length = ts.length
      · have n2 : (((D.str k :: ws.map D.str).length : Nat) : Int) = 1 + ((ts.map fun t => D.str t.wd).length : Int) := by
          rw [List.length_cons, List.length_map, List.length_map, l1]
          omega
        have e := dLcX_run (it := iZipX (dSl (dVar 1) (oSome (dC (.int 1))) oNone) (dVar 2)) (g := gT 2 (gsCons (gN 5) (gsCons (gN 4) gsNil))) (e := le_read_row_v2_1) (vs := [5, 4]) (S := S) (σ := [.val (.str t), .val (.lst (D.str k :: ws.map D.str)), .val (.cst (ts.map fun t => D.str t.wd)), .emp, .emp, .emp]) (σ' := [.val (.str t), .val (.lst (D.str k :: ws.map D.str)), .val (.cst (ts.map fun t => D.str t.wd)), .emp, .emp, .emp]) (items := pairs (ws.map D.str) (ts.map fun t => D.str t.wd)) (fun d => match d with
          | .tup [a, b] => [.val (.str t), .val (.lst (D.str k :: ws.map D.str)), .val (.cst (ts.map fun t => D.str t.wd)), .emp, .val b, .val a]
          | _ => []) thO ⟨"NoText", some 1⟩ (by
            generalize (D.str k :: ws.map D.str) = row at *
            simp [iZipX, seqD, sl]) rfl (by
            have h1 : ∀ (xs ys : List D), (pairs xs ys).length ≤ xs.length := by
              intro xs
              induction xs with
              | nil => intro ys; cases ys <;> exact Nat.zero_le _
              | cons x xs ih => intro ys; cases ys with
                | nil => exact Nat.zero_le _
                | cons y ys => exact Nat.succ_le_succ (ih ys)
            refine Nat.le_trans (h1 _ _) ?_
            rw [List.length_map, l1]
            exact Nat.le_trans t6 (by decide)) fun d hd => by
            obtain ⟨w, kd, hwm, rfl⟩ := pairs_mem hd
            have q := thing_v2 (kd := kd) (hw w (List.mem_cons_of_mem _ hwm)) S
            generalize (D.str k :: ws.map D.str) = row at *
            refine ⟨by simp [gT, gsCons, gsNil, wipeD], by simp [wipeD], ?_⟩
            show _ = match (thingW kd w).map kD with
              | some w' => _
              | none => _
            cases ex : thingW kd w with
            | none =>
              rw [ex] at q
              simp [le_read_row_v2_1, q]
            | some x =>
              rw [ex] at q
              have fk : ∀ σ, frz (kD x) σ S = .ok (kD x) σ S := fun σ => kD_frz x
              simp [le_read_row_v2_1, q, fk]
        rw [opt_things ts ws l1] at e
        cases et : thingsW ts ws with
        | none =>
          rw [et] at e
          refine dDef_exc (σ' := [.val (.str t), .val (.lst (D.str k :: ws.map D.str)), .val (.cst (ts.map fun t => D.str t.wd)), .emp, .emp, .emp]) ?_
          unfold b_read_row_v2
          refine run_seq (s0 _ _ _ rfl) ?_
          rw [seqK_next]
          refine run_seq (s1 _ _ rfl) ?_
          rw [seqK_next]
          generalize (D.str k :: ws.map D.str) = row at *
          generalize (ts.map fun t => D.str t.wd) = cs at *
          refine run_seq (r := .ok .next [.val (.str t), .val (.lst row), .val (.cst cs), .emp, .emp, .emp] S) (by simp [n0, n1, n2]) ?_
          rw [seqK_next]
          refine run_seq (r := .exc ⟨"NoText", some 1⟩ [.val (.str t), .val (.lst row), .val (.cst cs), .emp, .emp, .emp] S) ?_ rfl
          have e : dLcX _ _ _ _ _ S = Res.exc _ _ S := e
          simp [ax, k1, e]
        | some xs =>
          rw [et] at e
          have e : dLcX _ _ _ _ _ S = Res.ok (D.lst (xs.map kD)) _ S := e
          obtain ⟨_, l2⟩ := things_len et
          obtain ⟨ty, sh⟩ := things_typ et fun w hh => hw w (List.mem_cons_of_mem _ hh)
          have ck := check_row_eq (S := S) (k := k) (xs := xs) (fun ts' e' _ => by rw [es] at e'; cases e'; exact ty) sh
          have tu : opTuple (.lst (D.str k :: xs.map kD)) = some (rd (.inr k :: xs)) := rfl
          have cat : opAdd (.lst [D.str k]) (.lst (xs.map kD)) = some (.lst (D.str k :: xs.map kD)) := by
            show (if ([D.str k] : List D).length + (xs.map kD).length ≤ most then some (D.lst ([D.str k] ++ xs.map kD)) else none) = _
            rw [if_pos (by
              rw [List.length_map, l2]
              have : ([D.str k] : List D).length = 1 := rfl
              rw [this]
              exact Nat.le_trans (Nat.add_le_add_left t6 1) (by decide))]
            rfl
          have ck2 : m_check_row [rd (.inr k :: xs)] S = if goodK k xs then .ok .non S else .exc ⟨"NoForm", none⟩ S := ck
          have rq : ∀ σ, frz (rd (.inr k :: xs)) σ S = .ok (rd (.inr k :: xs)) σ S := fun σ => rfl
          have pre : ∀ (r : Res Fl), seqK (sSeq (sTryX ["NoForm"] tb_read_row_v2_2 "NoForm" "NoText" (dC (.int 1))) (sRet (dVar 3))) (.ok .next [.val (.str t), .val (.lst (D.str k :: ws.map D.str)), .val (.cst (ts.map fun t => D.str t.wd)), .val (rd (.inr k :: xs)), .emp, .emp] S) = r → b_read_row_v2 [.val (.str t), .emp, .emp, .emp, .emp, .emp] S = r := fun r h => by
            unfold b_read_row_v2
            refine run_seq (s0 _ _ _ rfl) ?_
            rw [seqK_next]
            refine run_seq (s1 _ _ rfl) ?_
            rw [seqK_next]
            generalize rd (.inr k :: xs) = rr at *
            generalize (D.str k :: ws.map D.str) = row at *
            generalize (ts.map fun t => D.str t.wd) = cs at *
            generalize xs.map kD = xd at *
            refine run_seq (r := .ok .next [.val (.str t), .val (.lst row), .val (.cst cs), .emp, .emp, .emp] S) (by simp [n0, n1, n2]) ?_
            rw [seqK_next]
            exact run_seq (r := .ok .next [.val (.str t), .val (.lst row), .val (.cst cs), .val rr, .emp, .emp] S) (by simp [ax, k1, e, cat, tu, rq]) h
          show _ = match (if goodK k xs = true then some (Sum.inr k :: xs) else none : Option Row) with
            | some r => Out.ok (rd r) S
            | none => Out.exc ⟨"NoText", some 1⟩ S
          by_cases hg : goodK k xs = true
          · rw [if_pos hg] at ck2 ⊢
            refine dDef_ret (σ' := [.val (.str t), .val (.lst (D.str k :: ws.map D.str)), .val (.cst (ts.map fun t => D.str t.wd)), .val (rd (.inr k :: xs)), .emp, .emp]) (pre _ ?_)
            rw [seqK_next]
            generalize rd (.inr k :: xs) = rr at *
            generalize (D.str k :: ws.map D.str) = row at *
            generalize (ts.map fun t => D.str t.wd) = cs at *
            refine run_seq (r := .ok .next [.val (.str t), .val (.lst row), .val (.cst cs), .val rr, .emp, .emp] S) (by simp [sTryX, tb_read_row_v2_2, rq, ck2]) ?_
            rw [seqK_next]
            simp [rq]
          · rw [if_neg hg] at ck2 ⊢
            refine dDef_exc (σ' := [.val (.str t), .val (.lst (D.str k :: ws.map D.str)), .val (.cst (ts.map fun t => D.str t.wd)), .val (rd (.inr k :: xs)), .emp, .emp]) (pre _ ?_)
            rw [seqK_next]
            generalize rd (.inr k :: xs) = rr at *
            generalize (D.str k :: ws.map D.str) = row at *
            generalize (ts.map fun t => D.str t.wd) = cs at *
            refine run_seq (r := .exc ⟨"NoText", some 1⟩ [.val (.str t), .val (.lst row), .val (.cst cs), .val rr, .emp, .emp] S) (by simp [sTryX, tb_read_row_v2_2, rq, ck2, sRaiseI, excSub]) rfl
      · have n2 : ¬ (((D.str k :: ws.map D.str).length : Nat) : Int) = 1 + ((ts.map fun t => D.str t.wd).length : Int) := by
          rw [List.length_cons, List.length_map, List.length_map]
          omega
        have et : thingsW ts ws = none := by
          cases e : thingsW ts ws with
          | none => rfl
          | some xs => exact absurd (things_len e).1 l1
        rw [et]
        refine dDef_exc (σ' := [.val (.str t), .val (.lst (D.str k :: ws.map D.str)), .val (.cst (ts.map fun t => D.str t.wd)), .emp, .emp, .emp]) ?_
        unfold b_read_row_v2
        refine run_seq (s0 _ _ _ rfl) ?_
        rw [seqK_next]
        refine run_seq (s1 _ _ rfl) ?_
        rw [seqK_next]
        generalize (D.str k :: ws.map D.str) = row at *
        generalize (ts.map fun t => D.str t.wd) = cs at *
        refine run_seq (r := .exc ⟨"NoText", some 1⟩ [.val (.str t), .val (.lst row), .val (.cst cs), .emp, .emp, .emp] S) (by simp [n0, n1, n2, sRaiseI]) rfl
end
end MR
set_option Elab.async false
set_option linter.all false
set_option maxRecDepth 100000
namespace MR
open PySem
def lthing (t : Tg) (w : Str) : Option Kk := if t.num = true then some (.inl ((numW w).getD (-1))) else if t = .c ∧ w = "-" then some (.inr "") else if w = "" then none else some (.inr w)
def lthings : List Tg → List Str → Option (List Kk)
  | [], [] => some []
  | t :: ts, w :: ws => (lthing t w).bind fun x => (lthings ts ws).map fun xs => x :: xs
  | _, _ => none
theorem wd_num (t : Tg) : decide (t.wd ∈ [("day" : Str), "acres", "service"]) = t.num := by cases t <;> decide
theorem thingW_num {t : Tg} {w : Str} (h : t.num = true) : thingW t.wd w = (numW w).map .inl := by
  unfold thingW
  have q := wd_num t
  rw [h] at q
  rw [if_pos (of_decide_eq_true q)]
theorem thingW_txt {t : Tg} {w : Str} (h : t.num = false) : thingW t.wd w = lthing t w := by
  unfold thingW lthing
  cases t with
  | c =>
    rw [if_neg (show ¬ Tg.c.wd ∈ [("day" : Str), "acres", "service"] by decide), if_neg (show ¬ Tg.c.num = true by decide)]
    by_cases z : w = "-"
    · rw [if_pos (show Tg.c.wd = "crowned" ∧ w = "-" from ⟨rfl, z⟩), if_pos (show Tg.c = Tg.c ∧ w = "-" from ⟨rfl, z⟩)]
    · rw [if_neg (show ¬ (Tg.c.wd = "crowned" ∧ w = "-") from fun q => z q.2), if_neg (show ¬ (Tg.c = Tg.c ∧ w = "-") from fun q => z q.2)]
  | n =>
    rw [if_neg (show ¬ Tg.n.wd ∈ [("day" : Str), "acres", "service"] by decide), if_neg (show ¬ Tg.n.num = true by decide)]
    rw [if_neg (show ¬ (Tg.n.wd = "crowned" ∧ w = "-") from fun q => absurd q.1 (by decide)), if_neg (show ¬ (Tg.n = Tg.c ∧ w = "-") from fun q => absurd q.1 (by decide))]
  | d => cases h
  | a => cases h
  | s => cases h
theorem lthing_typ {t : Tg} {w : Str} {x : Kk} (h : lthing t w = some x) : t.typ x = true ∧ ∀ z, x = .inr z → z.length ≤ w.length := by
  unfold lthing at h
  cases hn : t.num with
  | true =>
    rw [if_pos hn] at h
    cases h
    exact ⟨hn, fun z e => by cases e⟩
  | false =>
    rw [if_neg (by rw [hn]; decide)] at h
    split at h
    · cases h
      exact ⟨by show (!t.num) = true; rw [hn]; rfl, fun z e => by cases e; exact Nat.zero_le _⟩
    · split at h
      · cases h
      · cases h
        exact ⟨by show (!t.num) = true; rw [hn]; rfl, fun z e => by cases e; exact Nat.le_refl _⟩
theorem lthings_typ : ∀ {ts : List Tg} {ws : List Str} {xs : List Kk} {b : Nat}, lthings ts ws = some xs → (∀ w ∈ ws, w.length ≤ b) → (typL ts xs = true ∧ xs.length = ts.length) ∧ ∀ z, (Sum.inr z : Kk) ∈ xs → z.length ≤ b
  | [], [], _, _, h, _ => by cases h; exact ⟨⟨rfl, rfl⟩, fun z hz => nomatch hz⟩
  | [], _ :: _, _, _, h, _ => by cases h
  | _ :: _, [], _, _, h, _ => by cases h
  | t :: ts, w :: ws, _, b, h, hb => by
    obtain ⟨x, h1, h2⟩ := Option.bind_eq_some_iff.mp h
    obtain ⟨xs, h3, rfl⟩ := Option.map_eq_some_iff.mp h2
    obtain ⟨⟨q1, ql⟩, q2⟩ := lthings_typ h3 fun w hw => hb w (List.mem_cons_of_mem _ hw)
    obtain ⟨p1, p2⟩ := lthing_typ h1
    refine ⟨⟨by show (t.typ x && typL ts xs) = true; rw [p1, q1]; rfl, by rw [List.length_cons, List.length_cons, ql]⟩, fun z hz => ?_⟩
    rcases List.mem_cons.mp hz with e | hz
    · exact Nat.le_trans (p2 z e.symm) (hb w (List.mem_cons_self ..))
    · exact q2 z hz
theorem things_lthings : ∀ (ts : List Tg) (ws : List Str), (∀ xs, thingsW ts ws = some xs → lthings ts ws = some xs) ∧ (thingsW ts ws = none → ∀ xs, lthings ts ws = some xs → fitL ts xs = false)
  | [], [] => ⟨fun xs h => h, fun h => (by cases h)⟩
  | [], _ :: _ => ⟨fun xs h => (by cases h), fun _ xs h => (by cases h)⟩
  | _ :: _, [] => ⟨fun xs h => (by cases h), fun _ xs h => (by cases h)⟩
  | t :: ts, w :: ws => by
    obtain ⟨i1, i2⟩ := things_lthings ts ws
    show (∀ xs, (thingW t.wd w).bind _ = some xs → (lthing t w).bind _ = some xs) ∧ ((thingW t.wd w).bind _ = none → ∀ xs, (lthing t w).bind _ = some xs → _)
    cases hn : t.num with
    | false =>
      rw [thingW_txt hn]
      cases e : lthing t w with
      | none => exact ⟨fun xs h => (by cases h), fun _ xs h => (by cases h)⟩
      | some x =>
        refine ⟨fun xs h => ?_, fun h xs h2 => ?_⟩
        · obtain ⟨ys, h3, rfl⟩ := Option.map_eq_some_iff.mp (show (thingsW ts ws).map _ = some xs from h)
          show (lthings ts ws).map _ = _
          rw [i1 ys h3]
          rfl
        · have h0 : thingsW ts ws = none := Option.map_eq_none_iff.mp (show (thingsW ts ws).map _ = none from h)
          obtain ⟨ys, h3, rfl⟩ := Option.map_eq_some_iff.mp (show (lthings ts ws).map _ = some xs from h2)
          show (t.fit x && fitL ts ys) = false
          rw [i2 h0 ys h3, Bool.and_false]
    | true =>
      rw [thingW_num hn]
      have el : lthing t w = some (.inl ((numW w).getD (-1))) := if_pos hn
      rw [el]
      cases e : numW w with
      | some i =>
        refine ⟨fun xs h => ?_, fun h xs h2 => ?_⟩
        · obtain ⟨ys, h3, rfl⟩ := Option.map_eq_some_iff.mp (show (thingsW ts ws).map _ = some xs from h)
          show (lthings ts ws).map _ = _
          rw [i1 ys h3]
          rfl
        · have h0 : thingsW ts ws = none := Option.map_eq_none_iff.mp (show (thingsW ts ws).map _ = none from h)
          obtain ⟨ys, h3, rfl⟩ := Option.map_eq_some_iff.mp (show (lthings ts ws).map _ = some xs from h2)
          show (t.fit _ && fitL ts ys) = false
          rw [i2 h0 ys h3, Bool.and_false]
      | none =>
        refine ⟨fun xs h => (by cases h), fun _ xs h2 => ?_⟩
        obtain ⟨ys, h3, rfl⟩ := Option.map_eq_some_iff.mp (show (lthings ts ws).map _ = some xs from h2)
        show (t.fit (.inl (-1)) && fitL ts ys) = false
        have : t.fit (.inl (-1)) = false := by cases t <;> first | rfl | (exact absurd hn (by decide))
        rw [this, Bool.false_and]
section
variable {S : Sto}
theorem lread_turn {t : Tg} {w : Str} (hw : w.length ≤ 1000) {row : List D} (hr : row.length < most) {a b c : Slot} : fb__law_read_1 [a, b, c, .own (.lst row), .val (.str w), .val (.str ⟨#[t.ch]⟩)] S = match lthing t w with
    | some x => .ok .next [a, b, c, .own (.lst (row ++ [kD x])), .val (.str w), .val (.str ⟨#[t.ch]⟩)] S
    | none => .ok (.ret .non) [a, b, c, .own (.lst row), .val (.str w), .val (.str ⟨#[t.ch]⟩)] S := by
  have inn : opIn (.str ⟨#[t.ch]⟩) (.str "das") = some (.bl t.num) := by
    have q : hasC "das" t.ch = t.num := by cases t <;> decide
    rw [opIn_sign, q]
  have ec : decide ((⟨#[t.ch]⟩ : Str) = "c") = decide (t = .c) := by cases t <;> decide
  generalize hch : (⟨#[t.ch]⟩ : Str) = ch at *
  unfold lthing
  cases hn : t.num with
  | true =>
    rw [hn] at inn
    have hx := lnumber_eq hw S
    rw [if_pos rfl]
    simp [fb__law_read_1, inn, hx, dMeth, isLst, kApp, kD, hr, chg, ofMut]
  | false =>
    rw [hn] at inn
    rw [if_neg (by decide)]
    by_cases q1 : t = .c
    · rw [decide_eq_true q1] at ec
      have ec := of_decide_eq_true ec
      subst ec
      by_cases q2 : w = "-"
      · rw [if_pos ⟨q1, q2⟩]
        subst q2
        simp [fb__law_read_1, inn, dMeth, isLst, kApp, kD, hr, chg, ofMut]
      · rw [if_neg fun z => q2 z.2]
        by_cases q3 : w = ""
        · rw [if_pos q3]
          subst q3
          simp [fb__law_read_1, inn]
        · rw [if_neg q3]
          simp [fb__law_read_1, inn, q2, q3, dMeth, isLst, kApp, kD, hr, chg, ofMut]
    · rw [if_neg fun z => q1 z.1]
      rw [decide_eq_false q1] at ec
      have ec := of_decide_eq_false ec
      by_cases q3 : w = ""
      · rw [if_pos q3]
        subst q3
        simp [fb__law_read_1, inn, ec]
      · rw [if_neg q3]
        simp [fb__law_read_1, inn, ec, q3, dMeth, isLst, kApp, kD, hr, chg, ofMut]
theorem lread_loop {a b c : Slot} : ∀ (ts : List Tg) (ws : List Str) (row : List D) (s4 s5 : Slot), ws.length = ts.length → (∀ w ∈ ws, w.length ≤ 1000) → row.length + ts.length ≤ most →
    (∀ xs, lthings ts ws = some xs → ∃ u4 u5, forL (gT 2 (gsCons (gN 4) (gsCons (gN 5) gsNil))) fb__law_read_1 (pairs (ws.map D.str) (ts.map fun t => D.str ⟨#[t.ch]⟩)) [a, b, c, .own (.lst row), s4, s5] S = .ok .next [a, b, c, .own (.lst (row ++ xs.map kD)), u4, u5] S) ∧
    (lthings ts ws = none → ∃ σ', forL (gT 2 (gsCons (gN 4) (gsCons (gN 5) gsNil))) fb__law_read_1 (pairs (ws.map D.str) (ts.map fun t => D.str ⟨#[t.ch]⟩)) [a, b, c, .own (.lst row), s4, s5] S = .ok (.ret .non) σ' S)
  | [], [], row, s4, s5, _, _, _ => ⟨fun xs h => (by cases h; exact ⟨s4, s5, by show _ = Res.ok Fl.next [a, b, c, .own (.lst (row ++ [])), s4, s5] S; rw [List.append_nil]; rfl⟩), fun h => (by cases h)⟩
  | [], _ :: _, _, _, _, h, _, _ => by cases h
  | _ :: _, [], _, _, _, h, _, _ => by cases h
  | t :: ts, w :: ws, row, s4, s5, h, hw, hl => by
    rw [List.length_cons] at hl
    have tr := lread_turn (S := S) (t := t) (hw w (List.mem_cons_self ..)) (row := row) (by omega) (a := a) (b := b) (c := c)
    have hg : gT 2 (gsCons (gN 4) (gsCons (gN 5) gsNil)) (.tup [.str w, .str ⟨#[t.ch]⟩]) [a, b, c, .own (.lst row), s4, s5] = some [a, b, c, .own (.lst row), .val (.str w), .val (.str ⟨#[t.ch]⟩)] := by simp [gT, gsCons, gsNil]
    rw [List.map_cons, List.map_cons, pairs_cons]
    show (∀ xs, (lthing t w).bind _ = some xs → _) ∧ ((lthing t w).bind _ = none → _)
    cases e : lthing t w with
    | none =>
      rw [e] at tr
      refine ⟨fun xs z => (by cases z), fun _ => ⟨[a, b, c, .own (.lst row), .val (.str w), .val (.str ⟨#[t.ch]⟩)], ?_⟩⟩
      rw [forL]
      dsimp only
      rw [hg]
      dsimp only
      rw [tr]
      rfl
    | some x =>
      rw [e] at tr
      obtain ⟨i1, i2⟩ := lread_loop (a := a) (b := b) (c := c) ts ws (row ++ [kD x]) (.val (.str w)) (.val (.str ⟨#[t.ch]⟩)) (by simpa using h) (fun w hw' => hw w (List.mem_cons_of_mem _ hw')) (by rw [List.length_append]; show row.length + 1 + ts.length ≤ most; omega)
      refine ⟨fun xs z => ?_, fun z => ?_⟩
      · obtain ⟨ys, h3, rfl⟩ := Option.map_eq_some_iff.mp (show (lthings ts ws).map _ = some xs from z)
        obtain ⟨u4, u5, q⟩ := i1 ys h3
        refine ⟨u4, u5, ?_⟩
        rw [forL_cons hg tr, q, List.map_cons, List.append_assoc]
        rfl
      · obtain ⟨σ', q⟩ := i2 (Option.map_eq_none_iff.mp (show (lthings ts ws).map _ = none from z))
        exact ⟨σ', by rw [forL_cons hg tr, q]⟩
theorem law_read_eq {t : Str} (hl : t.length + 2 ≤ most) (hn : Txt.split t " " ≠ []) (hw : ∀ w ∈ Txt.split t " ", w.length ≤ 1000) (S : Sto) : m__law_read [.str t] S = .ok (match readR (Txt.split t " ") with
    | some r => rd r
    | none => .non) S := by
  have sp : opSplit (.str t) (.str " ") = some (.lst ((Txt.split t " ").map D.str)) := by
    show (if _ then _ else _) = _
    rw [if_pos ⟨by decide, hl⟩]
  generalize Txt.split t " " = ws at *
  cases ws with
  | nil => exact absurd rfl hn
  | cons k ws =>
    have a0 : ∀ l : List D, L2.atI (D.str k :: l) 0 = some (.str k) := fun l => L2.atI_nat (j := 0) rfl
    have ax := a0 (ws.map D.str)
    have k1 : 1 ≤ most := by decide
    have sl : opSl (.lst (D.str k :: ws.map D.str)) (some 1) none = some (.lst (ws.map D.str)) := by
      show some (D.lst (cutL (D.str k :: ws.map D.str) (some ((1 : Nat) : Int)) none)) = _
      rw [cutL_from]
      rfl
    have sp' : opSplit (.str t) (.str " ") = some (.lst (D.str k :: ws.map D.str)) := sp
    have lx : ((D.str k :: ws.map D.str).length : Int) = 1 + (ws.length : Int) := by rw [List.length_cons, List.length_map]; omega
    have sq := shapes_eq S
    have vl : valD shapesD (.inr k) = (shp k).map fun ts => D.str (ltrs ts) := by rw [shapes_enc]; exact valD_enc
    show _ = Out.ok (match (shp k).bind fun ts => (thingsW ts ws).bind fun xs => if goodK k xs = true then some (.inr k :: xs) else none with
      | some r => rd r
      | none => .non) S
    generalize shapesD = sd at *
    cases es : shp k with
    | none =>
      rw [es] at vl
      have vl : valD sd (.inr k) = none := vl
      refine dDef_ret (σ' := [.val (.str t), .val (.lst (D.str k :: ws.map D.str)), .val (.str "?"), .emp, .emp, .emp]) ?_
      generalize (D.str k :: ws.map D.str) = row at *
      simp [b__law_read, dS1, sp', ax, dCall0, sq, isDct, kGet, keyD, vl, dMeth]
    | some ts =>
      rw [es] at vl
      have vl : valD sd (.inr k) = some (.str (ltrs ts)) := vl
      have ne := ltrs_ne es
      have zl : (ltrs ts).length ≤ most := by rw [ltrs_len]; exact Nat.le_trans (shp_len es) (by decide)
      have el : opLen (.str (ltrs ts)) = some (.int ts.length) := by rw [opLen_str zl, ltrs_len ts]
      have sg := signs_ltrs ts
      show _ = Out.ok (match (thingsW ts ws).bind fun xs => if goodK k xs = true then some (.inr k :: xs) else none with
        | some r => rd r
        | none => .non) S
      by_cases l1 : ws.length = ts.length
      · have hi : (1 : Int) + (ws.length : Int) = 1 + ts.length := by omega
        obtain ⟨lp1, lp2⟩ := lread_loop (S := S) (a := .val (.str t)) (b := .val (.lst (D.str k :: ws.map D.str))) (c := .val (.str (ltrs ts))) ts ws [.str k] .emp .emp l1 (fun w h => hw w (List.mem_cons_of_mem _ h)) (Nat.le_trans (Nat.add_le_add_left (shp_len es) _) (by show 1 + 6 ≤ most; decide))
        obtain ⟨t1, t2⟩ := things_lthings ts ws
        rw [← sg] at lp1 lp2
        have due : (match (thingsW ts ws).bind fun xs => if goodK k xs = true then some (Sum.inr k :: xs) else none with
          | some r => rd r
          | none => .non) = match lthings ts ws with
          | some xs => if goodK k xs = true then rd (.inr k :: xs) else .non
          | none => .non := by
          cases e : thingsW ts ws with
          | some xs =>
            rw [t1 xs e]
            show (match (if goodK k xs = true then some (Sum.inr k :: xs) else none : Option Row) with
              | some r => rd r
              | none => .non) = if goodK k xs = true then rd (.inr k :: xs) else .non
            split <;> simp_all
          | none =>
            cases e2 : lthings ts ws with
            | none => rfl
            | some xs =>
              have hf := t2 e xs e2
              have hg : goodK k xs = false := by
                unfold goodK
                rw [es]
                simp [hf]
              show D.non = if goodK k xs = true then rd (.inr k :: xs) else .non
              rw [hg]
              rfl
        refine Eq.trans ?_ (congrArg (fun d => Out.ok d S) due.symm)
        clear due
        have rowl : ∀ xs : List Kk, xs.length = ts.length → opTuple (.lst (.str k :: xs.map kD)) = some (rd (.inr k :: xs)) := fun xs _ => rfl
        have o1 : (1 : Nat) ≤ most := by decide
        cases e2 : lthings ts ws with
        | none =>
          obtain ⟨σ', lp⟩ := lp2 e2
          refine dDef_ret (σ' := σ') ?_
          generalize ltrs ts = z at *
          generalize (D.str k :: ws.map D.str) = row at *
          generalize ws.map D.str = wl at *
          simp [b__law_read, dS1, sp', ax, dCall0, sq, isDct, kGet, keyD, vl, dMeth, lx, el, hi, ne, iZipX, seqD, sl, lp, o1]
        | some xs =>
          obtain ⟨u4, u5, lp⟩ := lp1 xs e2
          obtain ⟨⟨ty, l2⟩, sh⟩ := lthings_typ e2 fun w hh => hw w (List.mem_cons_of_mem _ hh)
          have gd := law_good_eq (k := k) (xs := xs) (fun ts' e' _ => by rw [es] at e'; cases e'; exact ty) sh S
          have gd2 : m__law_good [rd (.inr k :: xs)] S = .ok (.bl (goodK k xs)) S := gd
          have tu := rowl xs l2
          have lp : forL _ _ _ _ S = Res.ok .next [_, _, _, .own (.lst (.str k :: xs.map kD)), u4, u5] S := lp
          have rq : ∀ σ, frz (rd (.inr k :: xs)) σ S = .ok (rd (.inr k :: xs)) σ S := fun σ => rfl
          refine dDef_ret (σ' := [.val (.str t), .val (.lst (D.str k :: ws.map D.str)), .val (.str (ltrs ts)), .own (.lst (.str k :: xs.map kD)), u4, u5]) ?_
          have due2 : (match some xs with
            | some xs => if goodK k xs = true then rd (.inr k :: xs) else .non
            | none => D.non) = if goodK k xs = true then rd (.inr k :: xs) else .non := rfl
          refine Eq.trans ?_ (congrArg (fun d => Res.ok (Fl.ret d) _ S) due2.symm)
          clear due2
          generalize goodK k xs = gk at *
          generalize rd (.inr k :: xs) = rr at *
          generalize (D.str k :: xs.map kD) = xr at *
          generalize ltrs ts = z at *
          generalize (D.str k :: ws.map D.str) = row at *
          generalize ws.map D.str = wl at *
          cases gk <;> simp [b__law_read, dS1, sp', ax, dCall0, sq, isDct, kGet, keyD, vl, dMeth, lx, el, hi, ne, iZipX, seqD, sl, lp, o1, tu, rq, gd, gd2]
      · have hi : ¬ (1 : Int) + (ws.length : Int) = 1 + ts.length := by omega
        have et : thingsW ts ws = none := by
          cases e : thingsW ts ws with
          | none => rfl
          | some xs => exact absurd (things_len e).1 l1
        rw [et]
        refine dDef_ret (σ' := [.val (.str t), .val (.lst (D.str k :: ws.map D.str)), .val (.str (ltrs ts)), .emp, .emp, .emp]) ?_
        generalize ltrs ts = z at *
        generalize (D.str k :: ws.map D.str) = row at *
        simp [b__law_read, dS1, sp', ax, dCall0, sq, isDct, kGet, keyD, vl, dMeth, lx, el, hi, ne]
end
end MR
set_option Elab.async false
set_option linter.all false
set_option maxRecDepth 100000
namespace MR
open PySem
theorem spl_sum (s : Nat) : ∀ (l acc : List Nat), ((TL.spl [s] 0 acc l).map List.length).sum + (TL.spl [s] 0 acc l).length = acc.length + l.length + 1
  | [], acc => by simp [TL.spl_nil]
  | c :: r, acc => by
    have lc : (c :: r).length = r.length + 1 := rfl
    cases h : TL.pre [s] (c :: r) with
    | true =>
      have this : ((TL.spl [s] 0 [] r).map List.length).sum + (TL.spl [s] 0 [] r).length = r.length + 1 := by
        have := spl_sum s r []
        rw [List.length_nil, Nat.zero_add] at this
        exact this
      rw [TL.spl_hit h]
      have e : TL.spl [s] ([s].length - 1) [] r = TL.spl [s] 0 [] r := rfl
      rw [e, List.map_cons, List.sum_cons, List.length_cons (a := acc), lc]
      omega
    | false =>
      rw [TL.spl_miss h, spl_sum s r (acc ++ [c]), List.length_append, lc]
      show acc.length + 1 + r.length + 1 = _
      omega
theorem split_sum (t : Str) : ((Txt.split t " ").map (·.length)).sum + (Txt.split t " ").length = t.length + 1 := by
  have e1 : TL.tl (" " : Str) = [32] := by decide
  have h := TL.split_spl t " " (by rw [e1]; simp) (TL.kind_ok (by decide +kernel))
  rw [e1] at h
  have q := spl_sum 32 (TL.tl t) []
  rw [← h] at q
  rw [List.map_map, List.length_map] at q
  have e2 : ((Txt.split t " ").map (List.length ∘ TL.tl)) = (Txt.split t " ").map (·.length) := List.map_congr_left fun x _ => (TL.len_tl x).symm
  rw [e2] at q
  rw [TL.len_tl t]
  simpa using q
theorem split_ne (t : Str) : Txt.split t " " ≠ [] := fun h => by
  have := split_sum t
  rw [h] at this
  simp at this
theorem sum_mem : ∀ {l : List Nat} {x : Nat}, x ∈ l → x ≤ l.sum
  | y :: l, x, h => by
    rw [List.sum_cons]
    rcases List.mem_cons.mp h with rfl | h
    · omega
    · have := sum_mem h; omega
theorem split_word {t w : Str} (h : w ∈ Txt.split t " ") : w.length ≤ t.length := by
  have h1 := split_sum t
  have h2 := sum_mem (List.mem_map_of_mem (f := fun x : Str => x.length) h)
  have h3 : 0 < (Txt.split t " ").length := List.length_pos_of_mem h
  omega
theorem split_many (t : Str) : (Txt.split t " ").length ≤ t.length + 1 := by
  have h1 := split_sum t
  omega
theorem strs_str (l : List Str) : strsD (l.map D.str) = some l := by
  have := strs_map (fun x : Str => x) l
  rw [List.map_id'] at this
  exact this
def wsz (l : List Str) : Nat := (l.map (·.length)).sum + l.length
theorem wsz_app (a b : List Str) : wsz (a ++ b) = wsz a + wsz b := by
  unfold wsz
  rw [List.map_append, List.sum_append, List.length_append]
  omega
theorem wsz_cut (l : List Str) (n m : Nat) : wsz ((l.drop n).take m) ≤ wsz l := by
  have h1 : wsz l = wsz (l.take n) + wsz (l.drop n) := by rw [← wsz_app, List.take_append_drop]
  have h2 : wsz (l.drop n) = wsz ((l.drop n).take m) + wsz ((l.drop n).drop m) := by rw [← wsz_app, List.take_append_drop]
  omega
theorem wsz_cutL (l : List Str) (a b : Option Int) : wsz (cutL l a b) ≤ wsz l := wsz_cut l _ _
theorem wsz_one (x : Str) : wsz [x] = x.length + 1 := by simp [wsz]
theorem wsz_split (t : Str) : wsz (Txt.split t " ") = t.length + 1 := split_sum t
theorem opJoin_str {l : List Str} (h : wsz l ≤ most) : opJoin (.str " ") (.lst (l.map D.str)) = some (.str (Txt.join " " l)) := by
  show (strsD _).bind _ = _
  rw [strs_str]
  show (if _ then _ else _) = _
  rw [if_pos (by
    have e : (" " : Str).length = 1 := by decide
    rw [e, Nat.mul_one]
    exact h)]
theorem join_wsz (l : List Str) : (Txt.join " " l).length ≤ wsz l := by
  rw [TL.join_eq, TL.len_tl, TL.tl_join]
  refine Nat.le_trans (joinL_len _ _) ?_
  have e : (TL.tl (" " : Str)).length = 1 := by decide
  rw [e, Nat.mul_one, List.length_map, List.map_map]
  have e2 : (l.map (List.length ∘ TL.tl)) = l.map (·.length) := List.map_congr_left fun x _ => (TL.len_tl x).symm
  rw [e2]
  exact Nat.le_refl _
theorem app_len (x y : Str) : (x ++ y).length = x.length + y.length := by rw [TL.len_tl, TL.tl_append, List.length_append, ← TL.len_tl, ← TL.len_tl]
section
variable {S : Sto}
theorem sign_of_ok (c : Int) (S : Sto) : ∃ z : Str, m__law_sign_of [.int c] S = .ok (.str z) S ∧ z.length = 1 := by
  have ln : (" -0123456789abcdefghijklmnopqrstuvwxyzAZ/.,~\n" : Str).length = 45 := by decide
  have el : opLen (.str " -0123456789abcdefghijklmnopqrstuvwxyzAZ/.,~\n") = some (.int 45) := by
    rw [opLen_str (by rw [ln]; decide), ln]
    rfl
  have b0 : 0 ≤ c % 45 := Int.emod_nonneg _ (by decide)
  have b1 : c % 45 < 45 := Int.emod_lt_of_pos _ (by decide)
  generalize hT : (" -0123456789abcdefghijklmnopqrstuvwxyzAZ/.,~\n" : Str) = T at *
  have lt : T.cps.toList.length = 45 := by rw [← ln]; exact (TL.len_tl T).symm
  obtain ⟨k, hk⟩ := Int.eq_ofNat_of_zero_le b0
  have hk2 : k < 45 := by omega
  obtain ⟨x, hx⟩ : ∃ x, T.cps.toList[k]? = some x := ⟨_, List.getElem?_eq_getElem (by rw [lt]; exact hk2)⟩
  have ix : opIx (.str T) (.int (c % 45)) = some (.str ⟨#[x]⟩) := by
    show (if T.length ≤ most then (L2.atI T.cps.toList (c % 45)).map (fun c => D.str ⟨#[c]⟩) else none) = _
    rw [if_pos (by rw [ln]; decide), hk, L2.atI_nat (j := k) hx]
    rfl
  refine ⟨⟨#[x]⟩, dDef_ret (σ' := [.val (.int c), .val (.str T)]) ?_, rfl⟩
  have md : opMod (.int c) (.int 45) = some (.int (c % 45)) := rfl
  simp [b__law_sign_of, hT, el, md, ix]
theorem atI_mod {α : Type} {l : List α} {i : Int} {n : Nat} (hn : l.length = n) (h0 : 0 < n) : ∃ x, (∀ {β : Type} (f : α → β), L2.atI (l.map f) (i % (n : Int)) = some (f x)) ∧ x ∈ l := by
  have b0 : 0 ≤ i % (n : Int) := Int.emod_nonneg _ (by omega)
  have b1 : i % (n : Int) < n := Int.emod_lt_of_pos _ (by omega)
  obtain ⟨k, hk⟩ := Int.eq_ofNat_of_zero_le b0
  have hk2 : k < l.length := by omega
  refine ⟨l[k], fun f => ?_, List.getElem_mem _⟩
  rw [hk, L2.atI_nat (j := k) (by rw [List.getElem?_map, List.getElem?_eq_getElem hk2]; rfl)]
theorem bent_ok {t : Str} (hl : t.length ≤ 500) {ds : List D} {y0 y1 y2 y3 : Int} (a0 : L2.atI ds 0 = some (.int y0)) (a1 : L2.atI ds 1 = some (.int y1)) (a2 : L2.atI ds 2 = some (.int y2)) (a3 : L2.atI ds 3 = some (.int y3)) (S : Sto) :
    ∃ t' : Str, m__law_bent_text [.str t, .lst ds] S = .ok (.str t') S ∧ t'.length ≤ 2 * t.length + 20 := by
  have hm : t.length ≤ most := Nat.le_trans hl (by decide)
  have hM : most = 16777216 := rfl
  have sp : opSplit (.str t) (.str " ") = some (.lst ((Txt.split t " ").map D.str)) := by
    show (if _ then _ else _) = _
    rw [if_pos ⟨by decide, by omega⟩]
  have ws1 := wsz_split t
  have wne := split_ne t
  have ww : ∀ w ∈ Txt.split t " ", w.length ≤ t.length := fun w h => split_word h
  have lt : opLen (.str t) = some (.int t.length) := opLen_str hm
  generalize Txt.split t " " = ws at *
  have n0 : 0 < ws.length := List.length_pos_iff.mpr wne
  have lw : ((ws.map D.str).length : Int) = (ws.length : Int) := by rw [List.length_map]
  have m1 : opMod (.int y1) (.int ((t.length : Int) + 1)) = some (.int (y1 % ((t.length : Int) + 1))) := by show (if (0 : Int) < (t.length : Int) + 1 then some (D.int (y1 % ((t.length : Int) + 1))) else none) = _; rw [if_pos (by omega)]
  have m2 : opMod (.int y1) (.int (ws.length : Int)) = some (.int (y1 % (ws.length : Int))) := by show (if (0 : Int) < (ws.length : Int) then some (D.int (y1 % (ws.length : Int))) else none) = _; rw [if_pos (by omega)]
  have m3 : opMod (.int y3) (.int (ws.length : Int)) = some (.int (y3 % (ws.length : Int))) := by show (if (0 : Int) < (ws.length : Int) then some (D.int (y3 % (ws.length : Int))) else none) = _; rw [if_pos (by omega)]
  have m8 : opMod (.int y0) (.int 8) = some (.int (y0 % 8)) := rfl
  have ct : ∀ a b, (L2.cutS t a b).length ≤ t.length := fun a b => L2.cutS_length t a b
  have cw : ∀ a b, cutL (ws.map D.str) a b = (cutL ws a b).map D.str := fun a b => cutL_map D.str ws a b
  have cl : ∀ a b, wsz (cutL ws a b) ≤ wsz ws := fun a b => wsz_cutL ws a b
  have wl : ∀ l : List Str, l.length ≤ wsz l := fun l => Nat.le_add_left ..
  have addS : ∀ x y : Str, x.length + y.length ≤ most → opAdd (.str x) (.str y) = some (.str (x ++ y)) := fun x y h => if_pos h
  have addL : ∀ x y : List Str, wsz x + wsz y ≤ most → opAdd (.lst (x.map D.str)) (.lst (y.map D.str)) = some (.lst ((x ++ y).map D.str)) := fun x y h => by
    have h1 := wl x
    have h2 := wl y
    rw [List.map_append]
    exact if_pos (by rw [List.length_map, List.length_map]; omega)
  obtain ⟨z, hz, zl⟩ := sign_of_ok y2 S
  generalize hat : y1 % ((t.length : Int) + 1) = at_ at *
  generalize hhere : y1 % (ws.length : Int) = hr at *
  have h8 : y0 % 8 = 0 ∨ y0 % 8 = 1 ∨ y0 % 8 = 2 ∨ y0 % 8 = 3 ∨ y0 % 8 = 4 ∨ y0 % 8 = 5 ∨ y0 % 8 = 6 ∨ y0 % 8 = 7 := by omega
  have c1 := ct none (some at_)
  have c2 := ct (some at_) none
  have c3 := ct (some (at_ + 1)) none
  have s1 : opSl (.str t) none (some at_) = some (.str (L2.cutS t none (some at_))) := opSl_str hm
  have s2 : opSl (.str t) (some at_) none = some (.str (L2.cutS t (some at_) none)) := opSl_str hm
  have s3 : opSl (.str t) (some (at_ + 1)) none = some (.str (L2.cutS t (some (at_ + 1)) none)) := opSl_str hm
  have l1 := cl none (some hr)
  have l2 := cl (some hr) none
  have l3 := cl (some (hr + 1)) none
  have l4 := cl (some hr) (some (hr + 1))
  have k1 : opSl (.lst (ws.map D.str)) none (some hr) = some (.lst ((cutL ws none (some hr)).map D.str)) := by rw [opSl_lst, cw]
  have k2 : opSl (.lst (ws.map D.str)) (some hr) none = some (.lst ((cutL ws (some hr) none).map D.str)) := by rw [opSl_lst, cw]
  have k3 : opSl (.lst (ws.map D.str)) (some (hr + 1)) none = some (.lst ((cutL ws (some (hr + 1)) none).map D.str)) := by rw [opSl_lst, cw]
  have k4 : opSl (.lst (ws.map D.str)) (some hr) (some (hr + 1)) = some (.lst ((cutL ws (some hr) (some (hr + 1))).map D.str)) := by rw [opSl_lst, cw]
  obtain ⟨w3, hw3, mw3⟩ := atI_mod (i := y3) (l := ws) rfl n0
  have ix3 : opIx (.lst (ws.map D.str)) (.int (y3 % (ws.length : Int))) = some (.str w3) := hw3 D.str
  have w3l := ww w3 mw3
  have ol : opLen (.lst (ws.map D.str)) = some (.int (ws.length : Int)) := by rw [opLen_lst, lw]
  obtain ⟨x, hx, mx⟩ := atI_mod (i := y2) (l := [("" : Str), "-", "00", "10000", "0", "1000000", "Ann", "grant", "abcdefghi", w3, "007"]) (n := 11) rfl (by decide)
  have ixx : opIx (.lst [.str "", .str "-", .str "00", .str "10000", .str "0", .str "1000000", .str "Ann", .str "grant", .str "abcdefghi", .str w3, .str "007"]) (.int (y2 % 11)) = some (.str x) := hx D.str
  have xl : x.length ≤ t.length + 9 := by
    simp only [List.mem_cons, List.not_mem_nil, or_false] at mx
    rcases mx with rfl | rfl | rfl | rfl | rfl | rfl | rfl | rfl | rfl | rfl | rfl
    · exact Nat.le_trans (by decide : _ ≤ 9) (Nat.le_add_left ..)
    · exact Nat.le_trans (by decide : _ ≤ 9) (Nat.le_add_left ..)
    · exact Nat.le_trans (by decide : _ ≤ 9) (Nat.le_add_left ..)
    · exact Nat.le_trans (by decide : _ ≤ 9) (Nat.le_add_left ..)
    · exact Nat.le_trans (by decide : _ ≤ 9) (Nat.le_add_left ..)
    · exact Nat.le_trans (by decide : _ ≤ 9) (Nat.le_add_left ..)
    · exact Nat.le_trans (by decide : _ ≤ 9) (Nat.le_add_left ..)
    · exact Nat.le_trans (by decide : _ ≤ 9) (Nat.le_add_left ..)
    · exact Nat.le_trans (by decide : _ ≤ 9) (Nat.le_add_left ..)
    · exact Nat.le_trans w3l (Nat.le_add_right ..)
    · exact Nat.le_trans (by decide : _ ≤ 9) (Nat.le_add_left ..)
  obtain ⟨v, hv, mv⟩ := atI_mod (i := y2) (l := [("\n" : Str), " ", "  x", ""]) (n := 4) rfl (by decide)
  have ixv : opIx (.lst [.str "\n", .str " ", .str "  x", .str ""]) (.int (y2 % 4)) = some (.str v) := hv D.str
  have vl : v.length ≤ 3 := by
    simp only [List.mem_cons, List.not_mem_nil, or_false] at mv
    rcases mv with rfl | rfl | rfl | rfl <;> decide
  have b1 : wsz (cutL ws none (some hr)) + wsz [x] + wsz (cutL ws (some (hr + 1)) none) ≤ 3 * t.length + 12 := by rw [wsz_one]; omega
  have tight : wsz (cutL ws none (some hr)) + wsz (cutL ws (some (hr + 1)) none) ≤ t.length + 1 ∧ wsz (cutL ws none (some hr)) + wsz (cutL ws (some hr) none) ≤ t.length + 1 := by
    have b0 : 0 ≤ hr := by rw [← hhere]; exact Int.emod_nonneg _ (by omega)
    obtain ⟨k, rfl⟩ := Int.eq_ofNat_of_zero_le b0
    have e1 : cutL ws none (some (k : Int)) = ws.take k := cutL_to ws k
    have e2 : cutL ws (some (k : Int)) none = ws.drop k := cutL_from ws k
    have e3 : cutL ws (some ((k : Int) + 1)) none = ws.drop (k + 1) := cutL_from ws (k + 1)
    rw [e1, e2, e3]
    have t1 : wsz ws = wsz (ws.take k) + wsz (ws.drop k) := by rw [← wsz_app, List.take_append_drop]
    have t2 : wsz (ws.drop k) = wsz ((ws.drop k).take 1) + wsz ((ws.drop k).drop 1) := by rw [← wsz_app, List.take_append_drop]
    rw [List.drop_drop] at t2
    omega
  clear hv hx mv mx hw3 mw3 ww
  generalize L2.cutS t none (some at_) = p1 at *
  generalize L2.cutS t (some at_) none = p2 at *
  generalize L2.cutS t (some (at_ + 1)) none = p3 at *
  generalize cutL ws none (some hr) = q1 at *
  generalize cutL ws (some hr) none = q2 at *
  generalize cutL ws (some (hr + 1)) none = q3 at *
  generalize cutL ws (some hr) (some (hr + 1)) = q4 at *
  generalize ws.map D.str = wd at *
  generalize hd3 : y3 % (ws.length : Int) = e3 at *
  generalize (ws.length : Int) = wn at *
  obtain ⟨tg1, tg2⟩ := tight
  rcases h8 with h | h | h | h | h | h | h | h
  · rw [h] at m8
    refine ⟨p1 ++ z ++ p2, dDef_ret (σ' := [.val (.str t), .val (.lst ds), .val (.int at_), .val (.lst wd), .val (.int hr), .val (.int 0), .emp]) ?_, by rw [app_len, app_len]; omega⟩
    have o1 := addS p1 z (by omega)
    have o2 := addS (p1 ++ z) p2 (by rw [app_len]; omega)
    simp [-opLen_lst, -opSl_lst, b__law_bent_text, dS1, a0, a1, a2, lt, m1, m2, m8, sp, ol, s1, s2, hz, o1, o2]
  · rw [h] at m8
    refine ⟨p1 ++ p3, dDef_ret (σ' := [.val (.str t), .val (.lst ds), .val (.int at_), .val (.lst wd), .val (.int hr), .val (.int 1), .emp]) ?_, by rw [app_len]; omega⟩
    have o1 := addS p1 p3 (by omega)
    simp [-opLen_lst, -opSl_lst, b__law_bent_text, dS1, a0, a1, a2, a3, lt, m1, m2, m3, m8, sp, ol, s1, s3, o1]
  · rw [h] at m8
    refine ⟨p1 ++ z ++ p3, dDef_ret (σ' := [.val (.str t), .val (.lst ds), .val (.int at_), .val (.lst wd), .val (.int hr), .val (.int 2), .emp]) ?_, by rw [app_len, app_len]; omega⟩
    have o1 := addS p1 z (by omega)
    have o2 := addS (p1 ++ z) p3 (by rw [app_len]; omega)
    simp [-opLen_lst, -opSl_lst, b__law_bent_text, dS1, a0, a1, a2, a3, lt, m1, m2, m3, m8, sp, ol, s1, s3, hz, o1, o2]
  · rw [h] at m8
    refine ⟨Txt.join " " (q1 ++ [x] ++ q3), dDef_ret (σ' := [.val (.str t), .val (.lst ds), .val (.int at_), .val (.lst wd), .val (.int hr), .val (.int 3), .val (.lst [.str "", .str "-", .str "00", .str "10000", .str "0", .str "1000000", .str "Ann", .str "grant", .str "abcdefghi", .str w3, .str "007"])]) ?_, by refine Nat.le_trans (join_wsz _) ?_; rw [wsz_app, wsz_app, wsz_one]; omega⟩
    have o1 := addL q1 [x] (by omega)
    have o2 := addL (q1 ++ [x]) q3 (by rw [wsz_app]; omega)
    have o3 := opJoin_str (l := q1 ++ [x] ++ q3) (by rw [wsz_app, wsz_app]; omega)
    have o1 : opAdd (.lst (q1.map D.str)) (.lst [.str x]) = some (.lst ((q1 ++ [x]).map D.str)) := o1
    have k11 : (11 : Nat) ≤ most := by decide
    have k1m : (1 : Nat) ≤ most := by decide
    have ol11 : ∀ a b c d e f g i j k l : D, opLen (.lst [a, b, c, d, e, f, g, i, j, k, l]) = some (.int 11) := fun _ _ _ _ _ _ _ _ _ _ _ => rfl
    have m11 : opMod (.int y2) (.int 11) = some (.int (y2 % 11)) := rfl
    generalize hA : (q1 ++ [x]).map D.str = qA at *
    generalize hB : (q1 ++ [x] ++ q3).map D.str = qB at *
    simp [-opLen_lst, -opSl_lst, b__law_bent_text, dS1, a0, a1, a2, a3, lt, m1, m2, m3, m8, sp, ol, k1, k3, ix3, ixx, ol11, m11, k11, k1m, o1, o2, o3]
  · rw [h] at m8
    refine ⟨Txt.join " " (q1 ++ q3), dDef_ret (σ' := [.val (.str t), .val (.lst ds), .val (.int at_), .val (.lst wd), .val (.int hr), .val (.int 4), .emp]) ?_, by refine Nat.le_trans (join_wsz _) ?_; rw [wsz_app]; omega⟩
    have o1 := addL q1 q3 (by omega)
    have o3 := opJoin_str (l := q1 ++ q3) (by rw [wsz_app]; omega)
    generalize hB : (q1 ++ q3).map D.str = qB at *
    simp [-opLen_lst, -opSl_lst, b__law_bent_text, dS1, a0, a1, a2, a3, lt, m1, m2, m3, m8, sp, ol, k1, k3, o1, o3]
  · rw [h] at m8
    refine ⟨Txt.join " " (q1 ++ q4 ++ q2), dDef_ret (σ' := [.val (.str t), .val (.lst ds), .val (.int at_), .val (.lst wd), .val (.int hr), .val (.int 5), .emp]) ?_, by refine Nat.le_trans (join_wsz _) ?_; rw [wsz_app, wsz_app]; omega⟩
    have o1 := addL q1 q4 (by omega)
    have o2 := addL (q1 ++ q4) q2 (by rw [wsz_app]; omega)
    have o3 := opJoin_str (l := q1 ++ q4 ++ q2) (by rw [wsz_app, wsz_app]; omega)
    generalize hA : (q1 ++ q4).map D.str = qA at *
    generalize hB : (q1 ++ q4 ++ q2).map D.str = qB at *
    simp [-opLen_lst, -opSl_lst, b__law_bent_text, dS1, a0, a1, a2, a3, lt, m1, m2, m3, m8, sp, ol, k1, k2, k4, o1, o2, o3]
  · rw [h] at m8
    refine ⟨t ++ v, dDef_ret (σ' := [.val (.str t), .val (.lst ds), .val (.int at_), .val (.lst wd), .val (.int hr), .val (.int 6), .emp]) ?_, by rw [app_len]; omega⟩
    have o1 := addS t v (by omega)
    have m4 : opMod (.int y2) (.int 4) = some (.int (y2 % 4)) := rfl
    have k4m : (4 : Nat) ≤ most := by decide
    simp [-opLen_lst, -opSl_lst, b__law_bent_text, dS1, a0, a1, a2, a3, lt, m1, m2, m3, m8, sp, ol, m4, k4m, ixv, o1]
  · rw [h] at m8
    refine ⟨t, dDef_ret (σ' := [.val (.str t), .val (.lst ds), .val (.int at_), .val (.lst wd), .val (.int hr), .val (.int 7), .emp]) ?_, by omega⟩
    simp [-opLen_lst, -opSl_lst, b__law_bent_text, dS1, a0, a1, a2, a3, lt, m1, m2, m3, m8, sp, ol, m1]
end
end MR
set_option Elab.async false
set_option linter.all false
set_option maxRecDepth 100000
set_option exponentiation.threshold 30000
namespace MR
open PySem
section
variable {S : Sto} {L M : Ld}
end
section
variable {S : Sto} {n : Nat} {w b : Int} {ws : List (Rw × Str)}
end
end MR
set_option Elab.async false
set_option linter.all false
set_option maxRecDepth 100000
set_option exponentiation.threshold 30000
namespace MR
open PySem
section
variable {S : Sto}
end
end MR
set_option Elab.async false
set_option linter.all false
set_option maxRecDepth 100000
namespace MR
open PySem
def Eqf (p q : Fr) : Prop := p.1 * q.2 = q.1 * p.2
def nrm (p : Fr) : Fr := (frT p.1 p.2, frB p.1 p.2)
theorem Eqf.symm {p q : Fr} (h : Eqf p q) : Eqf q p := Eq.symm h
theorem Eqf.trans {p q r : Fr} (hq : q.2 ≠ 0) (h : Eqf p q) (k : Eqf q r) : Eqf p r := by
  unfold Eqf at *
  apply Int.eq_of_mul_eq_mul_right hq
  calc p.1 * r.2 * q.2 = p.1 * q.2 * r.2 := by rw [Int.mul_right_comm]
    _ = q.1 * p.2 * r.2 := by rw [h]
    _ = q.1 * r.2 * p.2 := by rw [Int.mul_right_comm]
    _ = r.1 * q.2 * p.2 := by rw [k]
    _ = r.1 * p.2 * q.2 := by rw [Int.mul_right_comm]
end MR
set_option Elab.async false
set_option linter.all false
set_option maxRecDepth 100000
set_option exponentiation.threshold 30000
namespace MR
open PySem
section
variable {S : Sto}
theorem sz01 : Sz 1 ((0 : Int), (1 : Int)) := ⟨by decide, by decide, by decide⟩
end
end MR
set_option Elab.async false
set_option linter.all false
set_option maxRecDepth 100000
set_option exponentiation.threshold 30000
namespace MR
open PySem
structure Pc where
  k : Nat
  d : Int
  m : Int
section
variable {S : Sto} {w : Int} {rows : List Rw}
end
end MR
set_option Elab.async false
set_option linter.all false
set_option maxRecDepth 100000
set_option exponentiation.threshold 30000
namespace MR
open PySem
section
variable {S : Sto} {rows : List Rw} {fs : List Int}
end
end MR
set_option Elab.async false
set_option linter.all false
set_option maxRecDepth 100000
set_option exponentiation.threshold 30000
namespace MR
open PySem
theorem stds_snd {tot : Int} {T : Nat} (hT : T < 60) : ∀ (rs : List Rw) (B : Bk) (st : List (Int × Bk)) (t : Nat), Snd B t tot → t + rs.length ≤ T → (∀ r ∈ rs, r.fine) → (∀ p ∈ st, ∃ t' ≤ T, Snd p.2 t' tot) → ∀ p ∈ stds B st rs, ∃ t' ≤ T, Snd p.2 t' tot
  | [], _, _, _, _, _, _, h => h
  | r :: rs, B, st, t, Z, ht, hf, h => by
    rw [List.length_cons] at ht
    have Z' := Z.step (hf r List.mem_cons_self) (by omega)
    rw [stds]
    refine stds_snd hT rs (B.step r) _ (t + 1) Z' (by omega) (fun q hq => hf q (List.mem_cons_of_mem _ hq)) fun p hp => ?_
    split at hp
    · unfold noteV at hp
      rcases List.mem_append.mp hp with hp | hp
      · split at hp
        · exact h p ((List.dropLast_sublist st).subset hp)
        · exact h p hp
      · rw [List.mem_singleton.mp hp]
        exact ⟨t + 1, by omega, Z'⟩
    · exact h p hp
theorem noteV_len (st : List (Int × Bk)) (d : Int) (B : Bk) : (noteV st d B).length ≤ st.length + 1 := by
  unfold noteV
  rw [List.length_append, List.length_singleton]
  split
  · rw [List.length_dropLast]; omega
  · exact Nat.le_refl _
theorem stds_len : ∀ (rs : List Rw) (B : Bk) (st : List (Int × Bk)), (stds B st rs).length ≤ st.length + rs.length
  | [], _, _ => Nat.le_refl _
  | r :: rs, B, st => by
    rw [stds, List.length_cons]
    have := stds_len rs (B.step r) (if B.why r = "stands" then noteV st r.day (B.step r) else st)
    have h2 := noteV_len st r.day (B.step r)
    split at this <;> rename_i c
    · rw [if_pos c]; omega
    · rw [if_neg c]; omega
section
variable {S : Sto} {n hi : Nat} {w b : Int} {rows : List Rw} {st : List St}
theorem Ct.snd (K : Ct S n hi w b rows st) : ∀ s ∈ st, ∃ t ≤ rows.length, Snd s.B t w := fun s hs => by
  have hl := K.hl
  have ps := srtR_perm rows
  have h := stds_snd (tot := w) (T := rows.length) (by omega) (srtR rows) (B0 w) [(0, B0 w)] 0 (snd0 K.w1 K.w2) (by rw [ps.length_eq]; omega) (fun r hr => (K.R.f r (ps.mem_iff.mp hr)).f) (fun p hp => by
    rw [List.mem_singleton.mp hp]
    exact ⟨0, Nat.zero_le _, snd0 K.w1 K.w2⟩)
  rw [← K.v] at h
  exact h s.v (List.mem_map.mpr ⟨s, hs, rfl⟩)
theorem Ct.len (K : Ct S n hi w b rows st) : st.length ≤ rows.length + 1 := by
  have h := stds_len (srtR rows) (B0 w) [(0, B0 w)]
  rw [← K.v, List.length_map, (srtR_perm rows).length_eq] at h
  simp at h
  omega
theorem Ct.due (K : Ct S n hi w b rows st) (hr : rows.length ≤ 19) {e : Str} : ∀ s ∈ st, ∀ f, aval s.B.L.due e = some f → Sz 400 f := fun s hs f hf => by
  obtain ⟨t, ht, Z⟩ := K.snd s hs
  exact (Z.Z.N.sz (e, f) (aval_mem hf)).mono (by omega)
end
end MR
set_option Elab.async false
set_option linter.all false
set_option maxRecDepth 100000
namespace MR
open PySem
def valP (P : Int) : Option Fr → Int
  | none => 0
  | some f => f.1 * (P / f.2)
abbrev vals (P : Int) (l : List (Int × Option Fr)) : List (Int × Int) := l.map fun p => (p.1, valP P p.2)
end MR
set_option Elab.async false
set_option linter.all false
set_option maxRecDepth 100000
namespace MR
open PySem
noncomputable def bookD (w : Int) (rows : List Rw) (t : Int) : Bk := fin (B0 w) (srtR (unt t rows))
end MR
set_option Elab.async false
set_option linter.all false
set_option maxRecDepth 100000
namespace MR
open PySem
end MR
set_option Elab.async false
set_option linter.all false
set_option maxRecDepth 100000
namespace MR
open PySem
end MR
set_option Elab.async false
set_option linter.all false
set_option maxRecDepth 100000
namespace MR
open PySem
section
variable {S : Sto} {n hi : Nat} {w b : Int} {rows : List Rw} {st : List St}
end
end MR
set_option Elab.async false
set_option linter.all false
set_option maxRecDepth 100000
namespace MR
open PySem
end MR
set_option Elab.async false
set_option linter.all false
set_option maxRecDepth 100000
namespace MR
open PySem
section
variable {S : Sto} {n hi : Nat} {w b : Int} {rows : List Rw} {st : List St}
theorem Ct.at_day (K : Ct S n hi w b rows st) {d : Int} (h : 0 ≤ d) : ∃ s ∈ st, s.B = bookD w rows d := by
  obtain ⟨s, hs, e, f, _, eB⟩ := stand_at K.C d
  rw [K.book h] at eB
  exact ⟨s, hs, eB⟩
end
end MR
set_option Elab.async false
set_option linter.all false
set_option maxRecDepth 100000
set_option exponentiation.threshold 30000
namespace MR
open PySem
def Dv (Q : Int) (L : Ld) : Prop := ∀ p ∈ L.due, p.2.2 ∣ Q
section
variable {Q Q' : Int} {L : Ld} {B : Bk} {t : Nat} {tot : Int}
theorem Dv.mono (h : Dv Q L) (d : Q ∣ Q') : Dv Q' L := fun p hp => Int.dvd_trans (h p hp) d
theorem Dv.sv (h : Dv Q L) (e : Str) : (L.sv e).2 ∣ Q := by
  unfold Ld.sv
  cases hv : aval L.due e with
  | none => exact Int.one_dvd _
  | some f => exact h (e, f) (aval_mem hv)
theorem frB_dvd (t b : Int) : frB t b ∣ b := ⟨sg t b, by rw [Int.mul_comm]; exact (fr_b t b).symm⟩
theorem Dv.leave (h : Dv Q L) (tk : Option Str) (e : Str) : Dv Q (L.leave tk e) := by
  cases tk with
  | none => exact mem_drop (P := fun f : Fr => f.2 ∣ Q) h
  | some x => exact h
theorem Dv.bury (tk : Option Str) : ∀ (es : List Str) {L : Ld}, Dv Q L → Dv Q (L.bury tk es)
  | [], _, h => h
  | e :: es, _, h => Dv.bury tk es (h.leave tk e)
theorem Dv.act (Z : Snd B t tot) {r : Rw} (f : r.fine) (hs : B.why r = "stands") (hQ : 0 < Q) (h : Dv Q B.L) : ∃ Q', 0 < Q' ∧ Q ∣ Q' ∧ Q' ≤ Q * 9999 ∧ Dv Q' (B.act r).L := by
  have same : ∀ {M : Ld}, Dv Q M → ∃ Q', 0 < Q' ∧ Q ∣ Q' ∧ Q' ≤ Q * 9999 ∧ Dv Q' M := fun q => ⟨Q, hQ, Int.dvd_refl _, by omega, q⟩
  cases r with
  | heir d m x => exact same h
  | liege d m x => exact same h
  | death d m => exact same (h.bury _ _)
  | convey d e m => exact same h
  | surr d e => exact same (mem_drop (P := fun f : Fr => f.2 ∣ Q) h)
  | grant d e n m a s => exact same (mem_put (P := fun f : Fr => f.2 ∣ Q) h (Int.one_dvd _))
  | part d e n m a =>
    obtain ⟨e0, n0, sn, sm, a1⟩ := f.ok.h
    obtain ⟨he, hn, hk, hae⟩ := new_facts (s := 0) Z.Z (show B.why (.grant d e n m a 0) = "stands" from hs) n0
    have b1 := Z.Z.N.br_ge Z.Z.W he
    have b2 := Z.Z.N.br_le (e := e) Z.Z.W
    have b3 := Z.Z.tt
    have pos : 0 < B.L.breadth e := by omega
    have dv : (B.L.sv e).2 * B.L.breadth e ∣ Q * B.L.breadth e := Int.mul_dvd_mul_right _ (h.sv e)
    refine ⟨Q * B.L.breadth e, Int.mul_pos hQ pos, Int.dvd_mul_right .., Int.mul_le_mul_of_nonneg_left (by omega) (by omega), ?_⟩
    exact mem_put (P := fun f : Fr => f.2 ∣ Q * B.L.breadth e) (mem_put (P := fun f : Fr => f.2 ∣ Q * B.L.breadth e) (h.mono (Int.dvd_mul_right ..)) (Int.dvd_trans (frB_dvd _ _) dv)) (Int.dvd_trans (frB_dvd _ _) dv)
theorem Dv.step (Z : Snd B t tot) {r : Rw} (f : r.fine) (hQ : 0 < Q) (h : Dv Q B.L) : ∃ Q', 0 < Q' ∧ Q ∣ Q' ∧ Q' ≤ Q * 9999 ∧ Dv Q' (B.step r).L := by
  unfold Bk.step
  split
  · rename_i hs; exact Dv.act Z f hs hQ h
  · exact ⟨Q, hQ, Int.dvd_refl _, by omega, h⟩
end
section
variable {S : Sto} {n hi : Nat} {w b : Int} {rows : List Rw} {st : List St}
end
end MR
set_option Elab.async false
set_option linter.all false
set_option maxRecDepth 100000
namespace MR
open PySem
section
variable {S : Sto} {n hi : Nat} {w b : Int} {rows : List Rw} {st : List St}
end
end MR
set_option Elab.async false
set_option linter.all false
set_option maxRecDepth 100000
set_option exponentiation.threshold 30000
namespace MR
open PySem
structure Alike (L M : Ld) : Prop where
  lo : ∀ e, aval L.lords e = aval M.lords e
  ho : ∀ e, aval L.hold e = aval M.hold e
  ow : ∀ e, aval L.own e = aval M.own e
  du : ∀ e, aval L.due e = aval M.due e
def pr (L : Ld) (e : Str) : Str × Str := ((aval L.hold e).getD "", (aval L.hold ((L.lord e).getD "")).getD "")
def vl (P : Int) (f : Fr) : Int := f.1 * (P / f.2)
section
variable {P t u : Int}
end
abbrev Tt := List ((Str × Str) × Int)
def tval (T : Tt) (p : Str × Str) : Option Int := (T.find? fun r => decide (r.1 = p)).map (·.2)
def iput (T : Tt) (p : Str × Str) (x : Int) : Tt := if (T.any fun r => decide (r.1 = p)) = true then T.map (fun r => if r.1 = p then (r.1, r.2 + x) else r) else T ++ [(p, x)]
def tot (q : Str × Str → Bool) (T : Tt) : Int := (T.map fun r => if q r.1 = true then r.2 else 0).sum
theorem tval_some {T : Tt} {p : Str × Str} {t : Int} (h : tval T p = some t) : (p, t) ∈ T := by
  unfold tval at h
  obtain ⟨r, hr, e⟩ := Option.map_eq_some_iff.mp h
  have h1 : r.1 = p := by simpa using List.find?_some hr
  have := List.mem_of_find?_eq_some hr
  obtain ⟨a, b⟩ := r
  cases h1
  cases e
  exact this
def TB (X : Nat) (T : Tt) : Prop := ∀ r ∈ T, r.2.natAbs ≤ X
theorem TB.val {X : Nat} {T : Tt} {p : Str × Str} (h : TB X T) : ((tval T p).getD 0).natAbs ≤ X := by
  cases e : tval T p with
  | none => exact Nat.zero_le _
  | some t => exact h (p, t) (tval_some e)
end MR
set_option Elab.async false
set_option linter.all false
set_option maxRecDepth 100000
namespace MR
open PySem
section
variable {σ : Sl} {S : Sto} {a b : Str} {l : List (List Kk × D)} {lk : List (Kk × D)} {x z : D} {f fd fy fv : DE}
@[simp] theorem deref_fT : deref σ S (.fT l) = some (.fT l) := rfl
@[simp] theorem deref_fK : deref σ S (.fK lk) = some (.fK lk) := rfl
@[simp] theorem frz_fT : frz (.fT l) σ S = .ok (.fT l) σ S := rfl
@[simp] theorem frz_fK : frz (.fK lk) σ S = .ok (.fK lk) σ S := rfl
@[simp] theorem scalar_dT : scalar (.dT l) = false := rfl
@[simp] theorem scalar_fT : scalar (.fT l) = false := rfl
@[simp] theorem keyP_pair : keyP (.tup [.str a, .str b]) = some [.inr a, .inr b] := rfl
@[simp] theorem opTGet_dT : opTGet (.dT l) (.tup [.str a, .str b]) = valD l [.inr a, .inr b] := rfl
@[simp] theorem opTGet_fT : opTGet (.fT l) (.tup [.str a, .str b]) = valD l [.inr a, .inr b] := rfl
@[simp] theorem isDT_dT : isDT (.dT l) = true := rfl
@[simp] theorem isDT_fT : isDT (.fT l) = true := rfl
@[simp] theorem kTGet_dT : kTGet x (.dT l) [.tup [.str a, .str b], z] σ S = .ok ((valD l [.inr a, .inr b]).getD z) σ S := rfl
@[simp] theorem kTGet_fT : kTGet x (.fT l) [.tup [.str a, .str b], z] σ S = .ok ((valD l [.inr a, .inr b]).getD z) σ S := rfl
@[simp] theorem opInT_dT : opInT (.tup [.str a, .str b]) (.dT l) = some (.bl (valD l [.inr a, .inr b]).isSome) := rfl
@[simp] theorem opInT_fT : opInT (.tup [.str a, .str b]) (.fT l) = some (.bl (valD l [.inr a, .inr b]).isSome) := rfl
@[simp] theorem opNotInT_dT : opNotInT (.tup [.str a, .str b]) (.dT l) = some (.bl (!(valD l [.inr a, .inr b]).isSome)) := rfl
@[simp] theorem sTPut_def : sTPut fd fy fv σ S = (dV fv σ S).bind fun w σ S => (fd σ S).bind fun x σ S => (fy σ S).bind fun y σ S => match deref σ S x, keyP y with
  | some (.dT l), some k => if l.length < most then ofMutS (chg σ S x (.dT (putD l k w))) else .fail
  | _, _ => .fail := rfl
@[simp] theorem dFz_def : dFz f σ S = (f σ S).bind fun x σ S => ofOpt (fzD x) σ S := rfl
@[simp] theorem fzD_dT : fzD (.dT l) = some (.fT l) := rfl
@[simp] theorem fzD_dK : fzD (.dK lk) = some (.fK lk) := rfl
@[simp] theorem iKeysF_def : iKeysF f σ S = (f σ S).bind fun x σ S => ofOpt (keysF x) σ S := rfl
@[simp] theorem iItemsF_def : iItemsF f σ S = (f σ S).bind fun x σ S => ofOpt (itemsF x) σ S := rfl
@[simp] theorem keysF_fT : keysF (.fT l) = some (l.map fun p => D.tup (p.1.map kD)) := rfl
@[simp] theorem itemsF_fT : itemsF (.fT l) = some (l.map fun p => D.tup [.tup (p.1.map kD), p.2]) := rfl
@[simp] theorem keysF_fK : keysF (.fK lk) = some (lk.map fun p => kD p.1) := rfl
@[simp] theorem itemsF_fK : itemsF (.fK lk) = some (lk.map fun p => D.tup [kD p.1, p.2]) := rfl
end
end MR
set_option Elab.async false
set_option linter.all false
set_option maxRecDepth 100000
set_option exponentiation.threshold 30000
namespace MR
open PySem
def addL (P : Int) (L : Ld) (m : Int) (es : List Str) (T : Tt) : Tt := es.foldl (fun T e => iput T (pr L e) (m * vl P (L.sv e))) T
structure PcOk (P : Int) (L : Ld) (m : Int) : Prop where
  W : Wf L
  kl : L.ks.length < 64
  sz : ∀ p ∈ L.due, Sz 360 p.2
  dv : Dv P L
  m0 : 0 ≤ m
  m1 : m ≤ 10000
theorem PcOk.sv {P m : Int} {L : Ld} (h : PcOk P L m) (e : Str) : Sz 360 (L.sv e) := by
  unfold Ld.sv
  cases hv : aval L.due e with
  | none => exact sz01.mono (by decide)
  | some f => exact h.sz (e, f) (aval_mem hv)
@[irreducible] def XB : Nat := 2 ^ 700
section
variable {S : Sto} {P m : Int} {s : St} {p0 p1 p2 : D}
end
section
variable {S : Sto} {n hi : Nat} {w b : Int} {rows : List Rw} {st : List St}
end
end MR
set_option Elab.async false
set_option linter.all false
set_option maxRecDepth 100000
set_option exponentiation.threshold 30000
namespace MR
open PySem
section
variable {S : Sto} {P : Int} {p0 p2 p3 : D} {man : Str}
end
section
variable {S : Sto} {n hi : Nat} {w b : Int} {rows : List Rw} {st : List St}
end
end MR
set_option Elab.async false
set_option linter.all false
set_option maxRecDepth 100000
set_option exponentiation.threshold 30000
namespace MR
open PySem
section
variable {S : Sto} {P m : Int} {B : Bk} {k : Nat} {la lb : Bool} {p0 p1 p2 p3 : D}
end
abbrev nms (L : Ld) : List Str := L.ks.filter fun x => decide (x ≠ ("" : Str))
section
variable {S : Sto} {P : Int} {w : Int} {rows : List Rw} {p0 p1 p2 p3 : D}
end
section
variable {S : Sto} {n hi : Nat} {w b : Int} {rows : List Rw} {st : List St}
end
section
variable {S : Sto} {P : Int}
end
end MR
set_option Elab.async false
set_option linter.all false
set_option maxRecDepth 100000
set_option exponentiation.threshold 30000
namespace MR
open PySem
end MR
set_option Elab.async false
set_option linter.all false
set_option maxRecDepth 100000
set_option exponentiation.threshold 30000
namespace MR
open PySem
structure OwOk (L : Ld) : Prop where
  W : Wf L
  kl : L.ks.length < 64
  ac : ∀ e ∈ L.ks, 0 ≤ L.ac e ∧ L.ac e ≤ 9999
theorem OwOk.hl {L : Ld} (O : OwOk L) : L.hold.length < 64 := by
  have : (keys L.hold).length = L.hold.length := List.length_map ..
  have h := O.kl
  rw [← O.W.kh] at h
  omega
@[irreducible] def BB : Int := 10000000000
section
variable {S : Sto} {man : Str} {p0 p2 p3 : D}
end
section
variable {S : Sto} {n hi : Nat} {w b : Int} {rows : List Rw} {st : List St}
end
end MR
set_option Elab.async false
set_option linter.all false
set_option maxRecDepth 100000
set_option exponentiation.threshold 30000
namespace MR
open PySem
section
variable {P t : Int}
end
section
variable {S : Sto} {n hi : Nat} {w b : Int} {rows : List Rw} {st : List St}
end
section
variable {S : Sto} {w b : Int} {rows : List Rw} {man : Str} {p0 p2 p4 p5 : D}
end
section
variable {S : Sto} {n hi : Nat} {w b : Int} {rows : List Rw} {st : List St}
end
end MR
set_option Elab.async false
set_option linter.all false
set_option maxRecDepth 100000
namespace MR
open PySem
noncomputable section
end
end MR
set_option Elab.async false
set_option linter.all false
set_option maxRecDepth 100000
set_option exponentiation.threshold 30000
namespace MR
open PySem
structure SrtD {α : Type} (e : α → D) (d : α → PyData) : Prop where
  td : ∀ x, toData (e x) = some (d x)
  al : ∀ x y, PySem.W.alike (d x) (d y) = true
  tp : ∀ x, ∃ y r, d x = .tuple (y :: r)
  fl : ∀ x, fl 8 (e x) = true
section
variable {α : Type} {e : α → D} {d : α → PyData}
end
abbrev Tr := (Str × Str) × Fr
def trs (P : Int) (T : Tt) : List Tr := (T.filter fun r => decide (r.2 ≠ 0)).map fun r => (r.1, nrm (r.2, P))
section
variable {S : Sto} {n hi : Nat} {w b : Int} {rows : List Rw} {st : List St}
end
end MR
set_option Elab.async false
set_option linter.all false
set_option maxRecDepth 100000
set_option exponentiation.threshold 30000
namespace MR
open PySem
section
variable {S : Sto} {n hi : Nat} {w b : Int} {rows : List Rw} {st : List St}
end
end MR
set_option Elab.async false
set_option linter.all false
set_option maxRecDepth 100000
set_option exponentiation.threshold 30000
namespace MR
open PySem
structure Hf (men : List Str) (B : Bk) : Prop where
  ho : ∀ e m, aval B.L.hold e = some m → e ≠ "" → m ∈ men
  he : ∀ p ∈ B.heirs, p.2 ∈ men
section
variable {men lands : List Str} {B : Bk}
theorem ho_put {l : List (Str × Str)} (h : ∀ e m, aval l e = some m → e ≠ "" → m ∈ men) {k x : Str} (hx : x ∈ men) : ∀ e m, aval (aput l k x) e = some m → e ≠ "" → m ∈ men := fun e m hm he => by
  rw [aval_put] at hm
  split at hm
  · cases hm; exact hx
  · exact h e m hm he
theorem ho_drop {l : List (Str × Str)} (h : ∀ e m, aval l e = some m → e ≠ "" → m ∈ men) {k : Str} : ∀ e m, aval (adrop l k) e = some m → e ≠ "" → m ∈ men := fun e m hm he => by
  rw [aval_drop] at hm
  split at hm
  · cases hm
  · exact h e m hm he
theorem ho_bury (t : Option Str) (ht : ∀ x, t = some x → x ∈ men) : ∀ (es : List Str) (L : Ld), (∀ e m, aval L.hold e = some m → e ≠ "" → m ∈ men) → ∀ e m, aval (L.bury t es).hold e = some m → e ≠ "" → m ∈ men
  | [], _, h => h
  | k :: es, L, h => by
    refine ho_bury t ht es (L.leave t k) ?_
    cases t with
    | none => exact ho_drop h
    | some x => exact ho_put h (ht x rfl)
theorem Hf.act (h : Hf men B) {r : Rw} (i : r.inP men lands) : Hf men (B.act r) := by
  cases r with
  | heir d m x => exact ⟨h.ho, mem_put (P := fun y : Str => y ∈ men) h.he i.2⟩
  | liege d m x => exact ⟨h.ho, h.he⟩
  | death d m =>
    refine ⟨ho_bury _ (fun x e => ?_) _ _ h.ho, h.he⟩
    obtain ⟨p, hp, rfl⟩ := List.mem_map.mp (tkr_in e)
    exact h.he p hp
  | grant d e n m a s => exact ⟨ho_put h.ho i.2, h.he⟩
  | part d e n m a => exact ⟨ho_put h.ho i.2, h.he⟩
  | convey d e m => exact ⟨ho_put h.ho i, h.he⟩
  | surr d e => exact ⟨ho_drop h.ho, h.he⟩
theorem Hf.step (h : Hf men B) {r : Rw} (i : r.inP men lands) : Hf men (B.step r) := by
  unfold Bk.step
  split
  · exact h.act i
  · exact h
end
section
variable {S : Sto} {n hi : Nat} {w b : Int} {rows : List Rw} {st : List St} {men lands : List Str}
end
section
variable {L : Ld} {men : List Str} {P : Int}
end
section
variable {S : Sto} {n hi : Nat} {w b : Int} {rows : List Rw} {st : List St} {men lands : List Str}
end
end MR
set_option Elab.async false
set_option linter.all false
set_option maxRecDepth 100000
set_option exponentiation.threshold 30000
namespace MR
open PySem
section
variable {S : Sto} {P : Int}
end
section
variable {S : Sto} {n hi : Nat} {w b : Int} {rows : List Rw} {st : List St}
end
end MR
set_option Elab.async false
set_option linter.all false
set_option maxRecDepth 100000
namespace MR
open PySem
noncomputable section
end
end MR
set_option Elab.async false
set_option linter.all false
set_option maxRecDepth 100000
set_option exponentiation.threshold 30000
namespace MR
open PySem
structure Bd where
  p : Str × Str
  a : Int
  l : Bool
end MR
set_option Elab.async false
set_option linter.all false
set_option maxRecDepth 100000
set_option exponentiation.threshold 30000
namespace MR
open PySem
section
variable {S : Sto} {r a b c d : Nat} {lb : Bool} {L : Ld}
end
section
variable {S : Sto} {n hi : Nat} {w b : Int} {rows : List Rw} {st : List St}
end
section
variable {S : Sto} {B : Bk} {k : Nat} {la lb : Bool}
end
end MR
set_option Elab.async false
set_option linter.all false
set_option maxRecDepth 100000
set_option exponentiation.threshold 30000
namespace MR
open PySem
section
variable {S : Sto} {rows : List Rw} {men lands : List Str} {w : Int} {fs : List Int}
end
end MR
set_option Elab.async false
set_option linter.all false
set_option maxRecDepth 100000
set_option exponentiation.threshold 30000
namespace MR
open PySem
end MR
set_option Elab.async false
set_option linter.all false
set_option maxRecDepth 100000
namespace MR
open PySem
noncomputable section
end
end MR
set_option Elab.async false
set_option linter.all false
set_option maxRecDepth 100000
set_option exponentiation.threshold 30000
namespace MR
open PySem
section
variable {S : Sto} {sd : List Str} {p0 p1 : D}
end
section
variable {S : Sto} {n hi : Nat} {w b : Int} {rows : List Rw} {st : List St}
end
end MR
set_option Elab.async false
set_option linter.all false
set_option maxRecDepth 100000
set_option exponentiation.threshold 30000
namespace MR
open PySem
@[simp] theorem opMinS_str {a b : Str} : opMinS (.str a) (.str b) = some (.str (if sLt b a then b else a)) := rfl
@[simp] theorem opMaxS_str {a b : Str} : opMaxS (.str a) (.str b) = some (.str (if sLt a b then b else a)) := rfl
section
variable {S : Sto} {p0 p1 p2 : D} {hv : Int}
end
section
variable {S : Sto}
end
section
variable {S : Sto} {n hi : Nat} {w b : Int} {rows : List Rw} {st : List St}
end
end MR
set_option Elab.async false
set_option linter.all false
set_option maxRecDepth 100000
set_option exponentiation.threshold 30000
namespace MR
open PySem
section
variable (a b c d o t : Str)
end
structure Six (a b c d o t : Str) : Prop where
  na : isNm a = true
  nb : isNm b = true
  nc : isNm c = true
  nd : isNm d = true
  no : isNm o = true
  nt : isNm t = true
  ab : a ≠ b
  ac : a ≠ c
  ad : a ≠ d
  bc : b ≠ c
  bd : b ≠ d
  cd : c ≠ d
  ot : o ≠ t
section
variable {a b c d o t : Str}
end
end MR
set_option Elab.async false
set_option linter.all false
set_option maxRecDepth 100000
set_option exponentiation.threshold 30000
namespace MR
open PySem
section
variable {rows : List Rw} {r : Rw} {w t t' : Int}
end
section
variable {α : Type} {l : List (Str × α)} {n e : Str} {u v : α}
end
end MR
set_option Elab.async false
set_option linter.all false
set_option maxRecDepth 100000
set_option exponentiation.threshold 30000
namespace MR
open PySem
section
variable {L : Ld} {e n m h : Str} {a s : Int}
end
end MR
set_option Elab.async false
set_option linter.all false
set_option maxRecDepth 100000
set_option exponentiation.threshold 30000
namespace MR
open PySem
section
variable {S : Sto} {n hi : Nat} {w b : Int} {rows : List Rw} {st : List St}
end
end MR
set_option Elab.async false
set_option linter.all false
set_option maxRecDepth 100000
namespace MR
open PySem
noncomputable section
end
end MR
set_option Elab.async false
set_option linter.all false
set_option maxRecDepth 100000
set_option exponentiation.threshold 30000
namespace MR
open PySem
end MR
set_option Elab.async false
set_option linter.all false
set_option maxRecDepth 100000
set_option exponentiation.threshold 30000
namespace MR
open PySem
section
variable {rows : List Rw} {w dd a s : Int} {e n m h : Str}
end
section
variable {rows rows2 : List Rw} {w dd a s P b lo hi : Int} {e n m h man : Str}
end
end MR
set_option Elab.async false
set_option linter.all false
set_option maxRecDepth 100000
set_option exponentiation.threshold 30000
namespace MR
open PySem
section
variable {S : Sto} {n hi : Nat} {w b : Int} {rows : List Rw} {st : List St}
theorem Ct.kn (K : Ct S n hi w b rows st) {d : Int} (h : 0 ≤ d) {k : Str} (hk : k ∈ (bookD w rows d).L.ks) (k0 : k ≠ "") : k ∈ (bookD w rows d).known := by
  obtain ⟨s, hs, eB⟩ := K.at_day h
  obtain ⟨t, ht, Z⟩ := K.snd s hs
  rw [← eB] at hk ⊢
  exact Z.Z.kn k hk k0
end
end MR
set_option Elab.async false
set_option linter.all false
set_option maxRecDepth 100000
set_option exponentiation.threshold 30000
namespace MR
open PySem
section
variable {rows : List Rw} {w dd a s : Int} {e n m h : Str}
end
section
variable {S : Sto} {k hi : Nat} {w b P dd a s : Int} {rows rows2 : List Rw} {st : List St} {e n m : Str}
end
end MR
set_option Elab.async false
set_option linter.all false
set_option maxRecDepth 100000
set_option exponentiation.threshold 30000
namespace MR
open PySem
end MR
set_option Elab.async false
set_option linter.all false
set_option maxRecDepth 100000
set_option exponentiation.threshold 30000
namespace MR
open PySem
section
variable {L L' : Ld} {e n m h : Str} {a : Int}
end
end MR
set_option Elab.async false
set_option linter.all false
set_option maxRecDepth 100000
set_option exponentiation.threshold 30000
namespace MR
open PySem
section
variable {L : Ld} {e : Str} {a P : Int}
end
end MR
set_option Elab.async false
set_option linter.all false
set_option maxRecDepth 100000
namespace MR
open PySem
noncomputable section
end
end MR
set_option Elab.async false
set_option linter.all false
set_option maxRecDepth 100000
namespace MR
open PySem
section
variable {α : Type}
end
section
variable {α : Type} {F : Int → α}
end
section
variable {S : Sto} {n hi : Nat} {w b : Int} {rows : List Rw} {st : List St}
end
end MR
set_option Elab.async false
set_option linter.all false
set_option maxRecDepth 100000
set_option exponentiation.threshold 30000
namespace MR
open PySem
section
variable {S : Sto} {n hi : Nat} {w b : Int} {rows : List Rw} {st : List St}
end
end MR
set_option Elab.async false
set_option linter.all false
set_option maxRecDepth 100000
set_option exponentiation.threshold 30000
namespace MR
open PySem
section
variable {S : Sto} {n hi : Nat} {w b : Int} {rows : List Rw} {st : List St}
end
end MR
set_option Elab.async false
set_option linter.all false
set_option maxRecDepth 100000
set_option exponentiation.threshold 30000
namespace MR
open PySem
end MR
set_option Elab.async false
set_option linter.all false
set_option maxRecDepth 100000
set_option exponentiation.threshold 30000
namespace MR
open PySem
def Liv (B : Bk) : Prop := ∀ k m, aval B.L.hold k = some m → m ∉ B.dead
theorem tkF_dead {nx : Str → Option Str} {dead : Str → Bool} : ∀ (n : Nat) (met : List Str) (last x : Str), tkF nx dead n met last = some (some x) → dead x = false
  | 0, _, _, _, e => by cases e
  | n + 1, met, last, x, e => by
    rw [tkF] at e
    cases h : nx last with
    | none => rw [h] at e; cases e
    | some one =>
      rw [h] at e
      dsimp only at e
      split at e
      · cases e
      · split at e
        · exact tkF_dead n _ _ x e
        · rename_i hd; cases e; simpa using hd
theorem tkr_dead {hs : List (Str × Str)} {dead : List Str} {m x : Str} (e : tkr hs dead m = some x) : x ∉ dead := by
  have h := tkr_ok hs dead m
  rw [e] at h
  simpa using tkF_dead _ _ _ _ h
theorem bury_hold (t : Option Str) : ∀ (es : List Str) (L : Ld) (k x : Str), aval (L.bury t es).hold k = some x → (k ∉ es ∧ aval L.hold k = some x) ∨ t = some x
  | [], _, _, _, h => .inl ⟨by simp, h⟩
  | e :: es, L, k, x, h => by
    rcases bury_hold t es (L.leave t e) k x h with ⟨h1, h2⟩ | h2
    · cases t with
      | none =>
        have h2 : aval (adrop L.hold e) k = some x := h2
        rw [aval_drop] at h2
        split at h2
        · cases h2
        · rename_i hne
          exact .inl ⟨fun z => by
            rcases List.mem_cons.mp z with q | q
            · first | exact hne q | exact hne q.symm
            · exact h1 q, h2⟩
      | some y =>
        have h2 : aval (aput L.hold e y) k = some x := h2
        rw [aval_put] at h2
        split at h2
        · cases h2; exact .inr rfl
        · rename_i hne
          exact .inl ⟨fun z => by
            rcases List.mem_cons.mp z with q | q
            · first | exact hne q | exact hne q.symm
            · exact h1 q, h2⟩
    · exact .inr h2
theorem Liv.act {B : Bk} (h : Liv B) {r : Rw} (hw : B.why r = "stands") : Liv (B.act r) := by
  have hput : ∀ (n m : Str), m ∉ B.dead → ∀ k x, aval (aput B.L.hold n m) k = some x → x ∉ B.dead := fun n m hm k x hx => by
    rw [aval_put] at hx
    split at hx
    · cases hx; exact hm
    · exact h k x hx
  cases r with
  | heir d m x => exact h
  | liege d m x => exact h
  | death d m =>
    intro k x hx
    have hx : aval (B.L.bury (tkr B.heirs (B.dead ++ [m]) m) (B.L.held m)).hold k = some x := hx
    show x ∉ B.dead ++ [m]
    rcases bury_hold _ _ _ _ _ hx with ⟨h1, h2⟩ | h2
    · intro z
      rcases List.mem_append.mp z with q | q
      · exact h k x h2 q
      · rw [List.mem_singleton.mp q] at h2
        exact h1 (mem_held.mpr h2)
    · exact tkr_dead h2
  | grant d e n m a s =>
    obtain ⟨_, hw⟩ := stands_cases hw (by decide)
    obtain ⟨_, hw⟩ := stands_cases hw (by decide)
    obtain ⟨hm, _⟩ := stands_cases hw (by decide)
    exact hput n m hm
  | part d e n m a =>
    obtain ⟨_, hw⟩ := stands_cases hw (by decide)
    obtain ⟨_, hw⟩ := stands_cases hw (by decide)
    obtain ⟨hm, _⟩ := stands_cases hw (by decide)
    exact hput n m hm
  | convey d e m =>
    obtain ⟨_, hw⟩ := stands_cases hw (by decide)
    obtain ⟨hm, _⟩ := stands_cases hw (by decide)
    exact hput e m hm
  | surr d e =>
    intro k x hx
    have hx : aval (adrop B.L.hold e) k = some x := hx
    rw [aval_drop] at hx
    split at hx
    · cases hx
    · exact h k x hx
theorem Liv.step {B : Bk} (h : Liv B) (r : Rw) : Liv (B.step r) := by
  unfold Bk.step
  split
  · rename_i c; exact h.act c
  · exact h
section
variable {L : Ld} {e n h : Str} {a : Int}
end
end MR
set_option Elab.async false
set_option linter.all false
set_option maxRecDepth 100000
set_option exponentiation.threshold 30000
namespace MR
open PySem
section
variable {L : Ld} {g p k : Str}
end
end MR
set_option Elab.async false
set_option linter.all false
set_option maxRecDepth 100000
set_option exponentiation.threshold 30000
namespace MR
open PySem
abbrev Tkt := List (Str × Int)
def tv (T : Tkt) (k : Str) : Int := (aval T k).getD 0
def KB (X : Nat) (T : Tkt) : Prop := ∀ k, (tv T k).natAbs ≤ X
theorem KB.nil : KB (0 * XB) [] := fun j => by show ((0 : Int)).natAbs ≤ _; simp
section
variable {α : Type} {F : Int → α}
end
section
variable {S : Sto} {n hi : Nat} {w b : Int} {rows : List Rw} {st : List St}
end
end MR
set_option Elab.async false
set_option linter.all false
set_option maxRecDepth 100000
set_option exponentiation.threshold 30000
namespace MR
open PySem
section
variable {S : Sto} {rows : List Rw} {fs : List Int}
end
end MR
set_option Elab.async false
set_option linter.all false
set_option maxRecDepth 100000
set_option exponentiation.threshold 30000
namespace MR
open PySem
section
variable {S S' : Sto} {n hi : Nat} {w b : Int} {rows : List Rw} {st : List St}
end
end MR
set_option Elab.async false
set_option linter.all false
set_option maxRecDepth 100000
set_option exponentiation.threshold 30000
namespace MR
open PySem
def Nn (L : Ld) : Prop := ∀ p ∈ L.due, 0 ≤ p.2.1
section
variable {L : Ld} {B : Bk} {t : Nat} {tot : Int}
theorem frT_nn {x y : Int} (h : 0 ≤ x) (hy : 0 < y) : 0 ≤ frT x y := Int.fdiv_nonneg h (Int.le_of_lt (sg_pos hy))
theorem Nn.sv (h : Nn L) (e : Str) : 0 ≤ (L.sv e).1 := by
  unfold Ld.sv
  cases hv : aval L.due e with
  | none => exact Int.le_refl _
  | some f => exact h (e, f) (aval_mem hv)
theorem Nn.leave (h : Nn L) (tk : Option Str) (e : Str) : Nn (L.leave tk e) := by
  cases tk with
  | none => exact mem_drop (P := fun f : Fr => 0 ≤ f.1) h
  | some x => exact h
theorem Nn.bury (tk : Option Str) : ∀ (es : List Str) {L : Ld}, Nn L → Nn (L.bury tk es)
  | [], _, h => h
  | e :: es, _, h => Nn.bury tk es (h.leave tk e)
theorem Nn.act (Z : Snd B t tot) {r : Rw} (f : r.fine) (hs : B.why r = "stands") (h : Nn B.L) : Nn (B.act r).L := by
  cases r with
  | heir d m x => exact h
  | liege d m x => exact h
  | death d m => exact h.bury _ _
  | convey d e m => exact h
  | surr d e => exact mem_drop (P := fun f : Fr => 0 ≤ f.1) h
  | grant d e n m a s => exact mem_put (P := fun f : Fr => 0 ≤ f.1) h (show 0 ≤ s by
      have := f.ok.h
      omega)
  | part d e n m a =>
    obtain ⟨e0, n0, sn, sm, a1⟩ := f.ok.h
    obtain ⟨he, hn, hk, hae⟩ := new_facts (s := 0) Z.Z (show B.why (.grant d e n m a 0) = "stands" from hs) n0
    have b1 := Z.Z.N.br_ge Z.Z.W he
    have pos : 0 < B.L.breadth e := by omega
    have s0 := h.sv e
    have sp : 0 < (B.L.sv e).2 := by
      unfold Ld.sv
      cases hv : aval B.L.due e with
      | none => decide
      | some f => exact (Z.Z.N.sz (e, f) (aval_mem hv)).pos
    have bp := Int.mul_pos sp pos
    exact mem_put (P := fun f : Fr => 0 ≤ f.1) (mem_put (P := fun f : Fr => 0 ≤ f.1) h (frT_nn (Int.mul_nonneg s0 (by omega)) bp)) (frT_nn (Int.mul_nonneg s0 (by omega)) bp)
theorem Nn.step (Z : Snd B t tot) {r : Rw} (f : r.fine) (h : Nn B.L) : Nn (B.step r).L := by
  unfold Bk.step
  split
  · rename_i hs; exact Nn.act Z f hs h
  · exact h
theorem fin_nn {T : Nat} (hT : T < 60) : ∀ (rs : List Rw) (B : Bk) (t : Nat), Snd B t tot → t + rs.length ≤ T → (∀ r ∈ rs, r.fine) → Nn B.L → Nn (fin B rs).L
  | [], _, _, _, _, _, h => h
  | r :: rs, B, t, Z, ht, hf, h => by
    rw [List.length_cons] at ht
    have ff := hf r List.mem_cons_self
    exact fin_nn hT rs (B.step r) (t + 1) (Z.step ff (by omega)) (by omega) (fun q hq => hf q (List.mem_cons_of_mem _ hq)) (h.step Z ff)
end
section
variable {S : Sto} {n hi : Nat} {w b : Int} {rows : List Rw} {st : List St}
theorem Ct.nn (K : Ct S n hi w b rows st) (t : Int) : Nn (bookD w rows t).L := by
  have hl := K.hl
  have ps := srtR_perm (unt t rows)
  have d0 : Nn (B0 w).L := fun p hp => by
    have hp : p ∈ [(("" : Str), ((0 : Int), (1 : Int)))] := hp
    rw [List.mem_singleton.mp hp]
    exact Int.le_refl 0
  have ul := unt_len t rows
  exact fin_nn (tot := w) (T := rows.length) (by omega) (srtR (unt t rows)) (B0 w) 0 (snd0 K.w1 K.w2) (by rw [ps.length_eq]; omega) (fun r hr => ((K.R.unt t).f r (ps.mem_iff.mp hr)).f) d0
end
section
variable {P : Int} {F : Str × Str → Int}
end
end MR
set_option Elab.async false
set_option linter.all false
set_option maxRecDepth 100000
namespace MR
open PySem
theorem plain_rd51 (r : Row) (h : r.length ≤ most) : plain 8 (rd r) = true := by
  unfold rd
  show ((r.map kD).all (plain 7) && decide ((r.map kD).length ≤ most)) = true
  rw [List.length_map, decide_eq_true h, Bool.and_true, List.all_eq_true]
  intro d hd
  obtain ⟨k, _, rfl⟩ := List.mem_map.mp hd
  cases k <;> rfl
theorem hot_same (i j : Int) (S : Sto) : m__law_same_hot [.int i, .int j] S = .ok (.bl (decide (i = j))) S := by
  refine dDef_ret (σ' := [.val (.int i), .val (.int j), .emp, .emp]) ?_
  simp [b__law_same_hot, opIsi, isiD, opEq]
theorem readR_len {ws : List Str} {r : Row} (h : readR ws = some r) (hw : ws.length ≤ 2000) : r.length ≤ 2000 := by
  cases ws with
  | nil => cases h
  | cons k ws =>
    obtain ⟨ts, e1, h2⟩ := Option.bind_eq_some_iff.mp h
    obtain ⟨xs, e2, h3⟩ := Option.bind_eq_some_iff.mp h2
    have := (things_len e2).2
    have := shp_len e1
    split at h3
    · cases h3
      rw [List.length_cons]
      omega
    · cases h3
theorem why_text51 {t : Str} (hl : t.length ≤ 500) (S : Sto) : m__law_why_text [.str t] S = .ok (match readR (Txt.split t " ") with
    | some r => .tup [.lst [], rd r]
    | none => .tup [.lst [.bl true, .bl true, .bl false, .bl false, .bl true], .non]) S := by
  have hM : most = 16777216 := rfl
  have rr := read_row_v2 (t := t) (by omega) (split_ne t) (fun w h => Nat.le_trans (split_word h) (by omega)) (Nat.le_trans (split_many t) (by omega)) S
  cases e : readR (Txt.split t " ") with
  | some r =>
    rw [e] at rr
    have rr : m_read_row_v2 [.str t] S = .ok (rd r) S := rr
    have fz : ∀ σ, frz (rd r) σ S = .ok (rd r) σ S := fun σ => rfl
    refine dDef_ret (σ' := [.val (.str t), .val (.lst []), .val (rd r), .emp]) ?_
    have k2 : 2 ≤ most := by decide
    show _ = Res.ok (Fl.ret (.tup [.lst [], rd r])) _ S
    generalize rd r = row at *
    simp [b__law_why_text, sTryM, tb__law_why_text_1, rr, fz, k2]
  | none =>
    rw [e] at rr
    have rr : m_read_row_v2 [.str t] S = .exc ⟨"NoText", some 1⟩ S := rr
    have tbe : tb__law_why_text_1 [.val (.str t), .own (.lst []), .val .non, .emp] S = .exc ⟨"NoText", some 1⟩ [.val (.str t), .own (.lst []), .val .non, .emp] S := by simp [tb__law_why_text_1, rr]
    have k4 : 4 ≤ most := by decide
    have k2 : 2 ≤ most := by decide
    have k4l : 4 < most := by decide
    have su : suiteM 3 th__law_why_text_2 ⟨"NoText", some 1⟩ [.val (.str t), .own (.lst []), .val .non, .emp] S = .ok .next [.val (.str t), .own (.lst [.bl true, .bl true, .bl false, .bl false, .bl true]), .val .non, .emp] S := by
      refine suiteM_ok (.inl rfl) fun a d => ⟨[.val (.str t), .own (.lst [.bl true, .bl true, .bl false, .bl false, .bl true]), .val .non, .exx a d 1], ?_, rfl⟩
      have hs := hot_same 1 1 S
      simp [th__law_why_text_2, exS, dIsX, dEAt, excSub, k4, k4l, hs, dMeth, isLst, kApp, chg, ofMut]
    refine dDef_ret (σ' := [.val (.str t), .val (.lst [.bl true, .bl true, .bl false, .bl false, .bl true]), .val .non, .emp]) ?_
    show _ = Res.ok (Fl.ret (.tup [.lst [.bl true, .bl true, .bl false, .bl false, .bl true], .non])) _ S
    have tr : sTryM ["NoForm", "NoText"] tb__law_why_text_1 [("NoText", 3, th__law_why_text_2)] [.val (.str t), .own (.lst []), .val .non, .emp] S = .ok .next [.val (.str t), .own (.lst [.bl true, .bl true, .bl false, .bl false, .bl true]), .val .non, .emp] S := by
      unfold sTryM
      rw [tbe]
      dsimp only
      rw [if_pos (by decide)]
      unfold catchM
      rw [if_pos (by decide), su]
    simp [b__law_why_text, tr, k2]
theorem k51_bend {fs : List Int} (hg : Good fs) (hl : fs.length = 120) {t : Str} (ht : t.length ≤ 240) {s0 s2 s6 s7 s8 : Slot} (k j : Nat) (hk : k < 3) (hj : j < 2) :
    ∃ t' : Str, t'.length ≤ 2 * t.length + 20 ∧ fb_law_1 [s0, .val (.lst (fs.map D.int)), s2, .val (.int (k : Nat)), .val (.str t), .val (.int (j : Nat)), s6, s7, s8] [] = .ok .next [s0, .val (.lst (fs.map D.int)), s2, .val (.int (k : Nat)), .val (.str t'), .val (.int (j : Nat)), s6, s7, s8] [] := by
  have hd : (fs.drop (64 + 10 * k + 5 * j)).length = 120 - (64 + 10 * k + 5 * j) := by rw [List.length_drop, hl]
  have gd := hg.drop (64 + 10 * k + 5 * j)
  obtain ⟨x0, a0, _⟩ := int_at 0 gd (by omega)
  obtain ⟨x1, a1, _⟩ := int_at 1 gd (by omega)
  obtain ⟨x2, a2, _⟩ := int_at 2 gd (by omega)
  obtain ⟨x3, a3, _⟩ := int_at 3 gd (by omega)
  obtain ⟨t', e, l⟩ := bent_ok (t := t) (by omega) a0 a1 a2 a3 []
  refine ⟨t', l, ?_⟩
  have sl : opSl (.lst (fs.map D.int)) (some (64 + 10 * (k : Int) + 5 * (j : Int))) none = some (.lst ((fs.drop (64 + 10 * k + 5 * j)).map D.int)) := by
    rw [show (64 : Int) + 10 * (k : Int) + 5 * (j : Int) = ((64 + 10 * k + 5 * j : Nat) : Int) by omega, opSl_lst, cutL_from, List.map_drop]
  have m1 : opMul' (.int 10) (.int (k : Int)) = some (.int (10 * (k : Int))) := by
    rcases (show k = 0 ∨ k = 1 ∨ k = 2 by omega) with rfl | rfl | rfl <;> rfl
  have m2 : opMul' (.int 5) (.int (j : Int)) = some (.int (5 * (j : Int))) := by
    rcases (show j = 0 ∨ j = 1 by omega) with rfl | rfl <;> rfl
  generalize (fs.drop (64 + 10 * k + 5 * j)).map D.int = f8 at *
  generalize fs.map D.int = fl at *
  generalize (k : Int) = kk at *
  generalize (j : Int) = jj at *
  simp [-opSl_lst, fb_law_1, m1, m2, sl, e]
theorem k51_bends {fs : List Int} (hg : Good fs) (hl : fs.length = 120) {t : Str} (ht : t.length ≤ 70) {s0 s2 s5 s6 s7 s8 : Slot} (k n : Nat) (hk : k < 3) (hn : n ≤ 2) :
    ∃ (t' : Str) (u5 : Slot), t'.length ≤ 500 ∧ forL (gN 5) fb_law_1 (ran 0 n) [s0, .val (.lst (fs.map D.int)), s2, .val (.int (k : Nat)), .val (.str t), s5, s6, s7, s8] [] = .ok .next [s0, .val (.lst (fs.map D.int)), s2, .val (.int (k : Nat)), .val (.str t'), u5, s6, s7, s8] [] := by
  obtain ⟨t1, l1, e1⟩ := k51_bend hg hl (t := t) (by omega) (s0 := s0) (s2 := s2) (s6 := s6) (s7 := s7) (s8 := s8) k 0 hk (by decide)
  obtain ⟨t2, l2, e2⟩ := k51_bend hg hl (t := t1) (by omega) (s0 := s0) (s2 := s2) (s6 := s6) (s7 := s7) (s8 := s8) k 1 hk (by decide)
  rcases (show n = 0 ∨ n = 1 ∨ n = 2 by omega) with rfl | rfl | rfl
  · exact ⟨t, s5, by omega, rfl⟩
  · refine ⟨t1, .val (.int (0 : Nat)), by omega, ?_⟩
    have er : ran 0 (1 : Nat) = [D.int (0 : Nat)] := by rfl
    rw [er, forL_cons rfl e1]
    rfl
  · refine ⟨t2, .val (.int (1 : Nat)), by omega, ?_⟩
    have er : ran 0 (2 : Nat) = [D.int (0 : Nat), .int (1 : Nat)] := by rfl
    rw [er, forL_cons rfl e1, forL_cons rfl e2]
    rfl
theorem ran1_at {f : DE} {σ : Sl} {S : Sto} {j : Int} (h : f σ S = .ok (.int j) σ S) (hs : small j) : iRan1 f σ S = .ok (ran 0 j) σ S := by
  unfold iRan1
  rw [h]
  show (if small j then Res.ok (ran 0 j) σ S else Res.fail) = _
  rw [if_pos hs]
theorem k51_turn {fs : List Int} {ys : List Str} (hg : Good fs) (hl : fs.length = 120) (N : Nms 7 ys) {s0 s4 s5 s6 s7 s8 : Slot} (k : Nat) (hk : k < 3) :
    ∃ u4 u5 u6 u7 u8, fb_law_2 [s0, .val (.lst (fs.map D.int)), .val (.lst (ys.map D.str)), .val (.int (k : Nat)), s4, s5, s6, s7, s8] [] = .ok .next [s0, .val (.lst (fs.map D.int)), .val (.lst (ys.map D.str)), .val (.int (k : Nat)), u4, u5, u6, u7, u8] [] := by
  obtain ⟨r, hr, ea⟩ := any_row_ok3 (fs := fs.drop (8 + 16 * k)) (hg.drop _) (by rw [List.length_drop, hl]; omega) N (by decide) (by decide) []
  have gd := okv_good hr.2.2
  rw [Rw.rd_eq] at ea
  have t1 := ltext_of_eq gd []
  have tl := textR_len gd
  have sl : opSl (.lst (fs.map D.int)) (some (8 + 16 * (k : Int))) none = some (.lst ((fs.drop (8 + 16 * k)).map D.int)) := by
    rw [show (8 : Int) + 16 * (k : Int) = ((8 + 16 * k : Nat) : Int) by omega, opSl_lst, cutL_from, List.map_drop]
  have hm : opMul' (.int 16) (.int (k : Int)) = some (.int (16 * (k : Int))) := by
    rcases (show k = 0 ∨ k = 1 ∨ k = 2 by omega) with rfl | rfl | rfl <;> rfl
  obtain ⟨x, ax, gx0, _⟩ := int_at (60 + k) hg (by omega)
  have ax : L2.atI (fs.map D.int) (60 + (k : Int)) = some (.int x) := by
    have e : ((60 + k : Nat) : Int) = 60 + (k : Int) := by omega
    rw [← e]; exact ax
  have m5 : opMod (.int x) (.int 5) = some (.int (x % 5)) := rfl
  obtain ⟨n, hn, en⟩ : ∃ n : Nat, n ≤ 2 ∧ L2.atI [D.int 0, .int 1, .int 1, .int 1, .int 2] (x % 5) = some (.int (n : Nat)) := by
    rcases (show x % 5 = 0 ∨ x % 5 = 1 ∨ x % 5 = 2 ∨ x % 5 = 3 ∨ x % 5 = 4 by omega) with h | h | h | h | h <;> rw [h]
    · exact ⟨0, by decide, rfl⟩
    · exact ⟨1, by decide, rfl⟩
    · exact ⟨1, by decide, rfl⟩
    · exact ⟨1, by decide, rfl⟩
    · exact ⟨2, by decide, rfl⟩
  obtain ⟨t', u5, lt, eb⟩ := k51_bends hg hl (t := textR r.row) tl (s0 := s0) (s2 := .val (.lst (ys.map D.str))) (s5 := s5) (s6 := s6) (s7 := s7) (s8 := s8) k n hk hn
  have hM : most = 16777216 := rfl
  have lr := law_read_eq (t := t') (by omega) (split_ne t') (fun w h => Nat.le_trans (split_word h) (by omega)) []
  have wt := why_text51 (t := t') lt []
  have k5 : 5 ≤ most := by decide
  have ne1 : opNe' (.lst [.bl true, .bl true, .bl false, .bl false, .bl true]) (.lst [.bl true, .bl true, .bl false, .bl false, .bl true]) = some (.bl false) := by rfl
  have ne2 : opNe' (.lst []) (.lst []) = some (.bl false) := by rfl
  have sm : small (n : Int) := by
    rcases (show n = 0 ∨ n = 1 ∨ n = 2 by omega) with rfl | rfl | rfl <;> (constructor <;> decide)
  have f0 : ∀ σ : Sl, frz (.str (textR r.row)) σ [] = .ok (.str (textR r.row)) σ [] := fun σ => rfl
  have fr : ∀ σ : Sl, frz (rd r.row) σ [] = .ok (rd r.row) σ [] := fun σ => rfl
  generalize (fs.drop (8 + 16 * k)).map D.int = f8 at *
  generalize fs.map D.int = fl at *
  generalize ys.map D.str = yl at *
  generalize rd r.row = rr at *
  generalize textR r.row = tx at *
  cases e : readR (Txt.split t' " ") with
  | none =>
    rw [e] at lr wt
    have lr : m__law_read [.str t'] [] = .ok .non [] := lr
    have wt : m__law_why_text [.str t'] [] = .ok (.tup [.lst [.bl true, .bl true, .bl false, .bl false, .bl true], .non]) [] := wt
    refine ⟨.val (.str t'), u5, .val .non, .val (.lst [.bl true, .bl true, .bl false, .bl false, .bl true]), .val .non, ?_⟩
    generalize (k : Int) = kk at *
    generalize (n : Int) = nn at *
    have ir : iRan1 (d2 opIx (dLst (aCons (dC (.int 0)) (aCons (dC (.int 1)) (aCons (dC (.int 1)) (aCons (dC (.int 1)) (aCons (dC (.int 2)) aNil)))))) (d2 opMod (d2 opIx (dVar 1) (d2 opAdd (dC (.int 60)) (dVar 3))) (dC (.int 5)))) [s0, .val (.lst fl), .val (.lst yl), .val (.int kk), .val (.str tx), s5, s6, s7, s8] [] = .ok (ran 0 nn) [s0, .val (.lst fl), .val (.lst yl), .val (.int kk), .val (.str tx), s5, s6, s7, s8] [] := ran1_at (by simp [ax, m5, en, k5]) sm
    have st2 : ∀ it, it = iRan1 (d2 opIx (dLst (aCons (dC (.int 0)) (aCons (dC (.int 1)) (aCons (dC (.int 1)) (aCons (dC (.int 1)) (aCons (dC (.int 2)) aNil)))))) (d2 opMod (d2 opIx (dVar 1) (d2 opAdd (dC (.int 60)) (dVar 3))) (dC (.int 5)))) → sFor it (gN 5) fb_law_1 [s0, .val (.lst fl), .val (.lst yl), .val (.int kk), .val (.str tx), s5, s6, s7, s8] [] = .ok .next [s0, .val (.lst fl), .val (.lst yl), .val (.int kk), .val (.str t'), u5, s6, s7, s8] [] := fun it hit => by
      subst hit
      unfold sFor
      rw [ir]
      exact eb
    unfold fb_law_2
    refine run_seq (r := .ok .next [s0, .val (.lst fl), .val (.lst yl), .val (.int kk), .val (.str tx), s5, s6, s7, s8] []) (by simp [-opSl_lst, hm, sl, ea, t1, fr]) ?_
    rw [seqK_next]
    refine run_seq (st2 _ rfl) ?_
    rw [seqK_next]
    simp [lr, wt, fr, ne1, k5, isN, sAsg, gT, gsCons, gsNil]
  | some q =>
    have pl := plain_rd51 q (Nat.le_trans (readR_len e (Nat.le_trans (split_many t') (by omega))) (by decide))
    have sq := same_ok (S := []) pl
    rw [e] at lr wt
    have lr : m__law_read [.str t'] [] = .ok (rd q) [] := lr
    have wt : m__law_why_text [.str t'] [] = .ok (.tup [.lst [], rd q]) [] := wt
    have fq : ∀ σ : Sl, frz (rd q) σ [] = .ok (rd q) σ [] := fun σ => rfl
    have nq : ∀ σ : Sl, dIsN (dV (dVar 6)) σ [] = dIsN (dV (dVar 6)) σ [] := fun σ => rfl
    refine ⟨.val (.str t'), u5, .val (rd q), .val (.lst []), .val (rd q), ?_⟩
    have hrd : ∃ l, rd q = .tup l := ⟨_, rfl⟩
    generalize rd q = rq at *
    obtain ⟨l, rfl⟩ := hrd
    generalize (k : Int) = kk at *
    generalize (n : Int) = nn at *
    have ir : iRan1 (d2 opIx (dLst (aCons (dC (.int 0)) (aCons (dC (.int 1)) (aCons (dC (.int 1)) (aCons (dC (.int 1)) (aCons (dC (.int 2)) aNil)))))) (d2 opMod (d2 opIx (dVar 1) (d2 opAdd (dC (.int 60)) (dVar 3))) (dC (.int 5)))) [s0, .val (.lst fl), .val (.lst yl), .val (.int kk), .val (.str tx), s5, s6, s7, s8] [] = .ok (ran 0 nn) [s0, .val (.lst fl), .val (.lst yl), .val (.int kk), .val (.str tx), s5, s6, s7, s8] [] := ran1_at (by simp [ax, m5, en, k5]) sm
    have st2 : ∀ it, it = iRan1 (d2 opIx (dLst (aCons (dC (.int 0)) (aCons (dC (.int 1)) (aCons (dC (.int 1)) (aCons (dC (.int 1)) (aCons (dC (.int 2)) aNil)))))) (d2 opMod (d2 opIx (dVar 1) (d2 opAdd (dC (.int 60)) (dVar 3))) (dC (.int 5)))) → sFor it (gN 5) fb_law_1 [s0, .val (.lst fl), .val (.lst yl), .val (.int kk), .val (.str tx), s5, s6, s7, s8] [] = .ok .next [s0, .val (.lst fl), .val (.lst yl), .val (.int kk), .val (.str t'), u5, s6, s7, s8] [] := fun it hit => by
      subst hit
      unfold sFor
      rw [ir]
      exact eb
    unfold fb_law_2
    refine run_seq (r := .ok .next [s0, .val (.lst fl), .val (.lst yl), .val (.int kk), .val (.str tx), s5, s6, s7, s8] []) (by simp [-opSl_lst, hm, sl, ea, t1, fr]) ?_
    rw [seqK_next]
    refine run_seq (st2 _ rfl) ?_
    rw [seqK_next]
    simp [lr, wt, fr, sq, ne2, isN, sAsg, gT, gsCons, gsNil]
theorem law_true : ∀ ns : List Int, ns.length ≤ 63 → ∃ S', m_law [.scr ns] [] = .ok (.bl true) S' := by
  intro ns _
  obtain ⟨fs, hl, hg, ef⟩ := feed_ok ns 120 (by decide) []
  obtain ⟨ys, N, en⟩ := names_ok (l := fs.drop 1) (by rw [List.length_drop, hl]; decide) (hg.drop 1) 7 (by decide) []
  obtain ⟨a4, a5, a6, a7, a8, e0⟩ := k51_turn hg hl N (s0 := .val (.scr ns)) (s4 := .emp) (s5 := .emp) (s6 := .emp) (s7 := .emp) (s8 := .emp) 0 (by decide)
  obtain ⟨b4, b5, b6, b7, b8, e1⟩ := k51_turn hg hl N (s0 := .val (.scr ns)) (s4 := a4) (s5 := a5) (s6 := a6) (s7 := a7) (s8 := a8) 1 (by decide)
  obtain ⟨c4, c5, c6, c7, c8, e2⟩ := k51_turn hg hl N (s0 := .val (.scr ns)) (s4 := b4) (s5 := b5) (s6 := b6) (s7 := b7) (s8 := b8) 2 (by decide)
  have el : forL (gN 3) fb_law_2 (ran 0 3) [.val (.scr ns), .val (.lst (fs.map D.int)), .val (.lst (ys.map D.str)), .emp, .emp, .emp, .emp, .emp, .emp] [] = .ok .next [.val (.scr ns), .val (.lst (fs.map D.int)), .val (.lst (ys.map D.str)), .val (.int (2 : Nat)), c4, c5, c6, c7, c8] [] := by
    have er : ran 0 3 = [D.int (0 : Nat), .int (1 : Nat), .int (2 : Nat)] := by rfl
    rw [er, forL_cons rfl e0, forL_cons rfl e1, forL_cons rfl e2]
    rfl
  have s1 : opSl (.lst (fs.map D.int)) (some 1) none = some (.lst ((fs.drop 1).map D.int)) := by
    rw [show (1 : Int) = ((1 : Nat) : Int) from rfl, opSl_lst, cutL_from, List.map_drop]
  have ef : m__law_feed [.scr ns, .int 120] [] = _ := ef
  have en : m__law_names [.lst ((fs.drop 1).map D.int), .int 7] [] = _ := en
  refine ⟨[], dDef_ret (σ' := [.val (.scr ns), .val (.lst (fs.map D.int)), .val (.lst (ys.map D.str)), .val (.int (2 : Nat)), c4, c5, c6, c7, c8]) ?_⟩
  generalize (fs.drop 1).map D.int = f1 at *
  generalize fs.map D.int = fl at *
  generalize ys.map D.str = yl at *
  have sm : small 3 := by constructor <;> decide
  simp [-opSl_lst, b_law, ef, en, s1, el, sm]
end MR
set_option Elab.async false
set_option linter.all false
set_option maxRecDepth 100000
set_option maxHeartbeats 0
namespace MR
open PySem PySem.Spec PyProof.Rows L2
structure Tx (K : PySem.W.Frag) (mg : Str → Option Value) (w : World) : Prop where
  ValueError : mg "ValueError" = none
  all : mg "all" = none
  bool : mg "bool" = none
  enumerate : mg "enumerate" = none
  int : mg "int" = none
  isinstance : mg "isinstance" = none
  len : mg "len" = none
  list : mg "list" = none
  max : mg "max" = none
  range : mg "range" = none
  str : mg "str" = none
  tuple : mg "tuple" = none
  zip : mg "zip" = none
  FIGURES : ∃ t, mg "FIGURES" = some (.str "0123456789" t)
  LETTERS : ∃ t, mg "LETTERS" = some (.str "abcdefghijklmnopqrstuvwxyz" t)
  MOST : ∃ t, mg "MOST" = some (.int (9999) t)
  MOST_FIGURES : ∃ t, mg "MOST_FIGURES" = some (.int (6) t)
  NUMBERED : GTup K mg "NUMBERED" [.str "day", .str "acres", .str "service"]
  x_NoForm : ExF K mg "NoForm"
  g_LandError : mg (Str.ofString "LandError") = some (.ref (ca K "LandError"))
  g_NoEntry : mg (Str.ofString "NoEntry") = some (.ref (ca K "NoEntry"))
  g_NoForm : mg (Str.ofString "NoForm") = some (.ref (ca K "NoForm"))
  g_NoText : mg (Str.ofString "NoText") = some (.ref (ca K "NoText"))
  m_NoForm_NoForm : PySem.W.exmOne K (.ref (ca K "NoForm")) (.ref (ca K "NoForm")) = some true
  m_NoForm_NoText : PySem.W.exmOne K (.ref (ca K "NoForm")) (.ref (ca K "NoText")) = some false
  m_NoText_NoText : PySem.W.exmOne K (.ref (ca K "NoText")) (.ref (ca K "NoText")) = some true
  q_NoForm : ExcC K (ca K "NoForm")
  q_NoText : ExcC K (ca K "NoText")
  k_NoForm_LandError : PySem.W.kitOne K (.ref (ca K "NoForm")) (.ref (ca K "LandError")) = some true
  k_NoForm_NoEntry : PySem.W.kitOne K (.ref (ca K "NoForm")) (.ref (ca K "NoEntry")) = some false
  k_NoForm_NoForm : PySem.W.kitOne K (.ref (ca K "NoForm")) (.ref (ca K "NoForm")) = some true
  k_NoText_LandError : PySem.W.kitOne K (.ref (ca K "NoText")) (.ref (ca K "LandError")) = some true
  k_NoText_NoEntry : PySem.W.kitOne K (.ref (ca K "NoText")) (.ref (ca K "NoEntry")) = some false
  k_NoText_NoForm : PySem.W.kitOne K (.ref (ca K "NoText")) (.ref (ca K "NoForm")) = some false
  kb_NoForm_ValueError : PySem.W.kitOne K (.ref (ca K "NoForm")) (.type "ValueError") = some true
  kb_NoText_ValueError : PySem.W.kitOne K (.ref (ca K "NoText")) (.type "ValueError") = some true
  na_NoText : NoAttr K (ca K "NoText") "at"
  tb_SHAPES : GTab K w mg "SHAPES" tab_SHAPES
section
variable {P : Program} {w : World} {K : PySem.W.Frag} {mg : Str → Option Value} {base : Heap}
abbrev N__law_feed : List Str := ["_law_script", "_law_many", "_law_feed_here", "_law_salt", "_law_cell", "_law_rest", "_law_k"]
theorem sc__law_feed : FnScope N__law_feed ["_law_script", "_law_many"] (defScope s__law_feed) := ⟨rfl, rfl, rfl, by decide +kernel, rfl, by decide +kernel, by decide +kernel⟩
theorem t__law_feed {f : Addr} {fd : FuncData} (T : Tx K mg w) (FD : FunD K "_law_feed" "_law_feed" (defArgs s__law_feed) (defBody s__law_feed) (defScope s__law_feed) [] [] f fd) (hm : mg "_law_feed" = some (.ref f))  : Fn true true P w K mg base "_law_feed" 1 2 m__law_feed := by
  have sc := sc__law_feed
  refine fn_mk (n := 7) FD hm sc rfl rfl (fun _ _ _ _ _ _ us hl => match us, hl with | [_, _], _ => rfl) fun cdv A outer s H E hr => ?_
  have tk : Tk true (cxOf (CXk true P w) P w K mg base N__law_feed "_law_feed" (defScope s__law_feed) f cdv A outer s H E) _ := L2N.takes_of (X := cxOf (CXk true P w) P w K mg base N__law_feed "_law_feed" (defScope s__law_feed) f cdv A outer s H E) rfl rfl rfl rfl
  have hp := passes_of (X := cxOf (CXk true P w) P w K mg base N__law_feed "_law_feed" (defScope s__law_feed) f cdv A outer s H E) rfl
  exact (cs_cons (cs_setO (i := 2) sc.nd (cf_lst ca_nil) rfl (Or.inl rfl) rfl (.inl rfl))
      (cs_cons (cs_set (i := 3) sc.nd c_int rfl (Or.inl rfl) rfl (.inl rfl))
      (cs_cons (cs_for (tvs := [4]) hp (ci_list (c_f (cf_sl (c_var 0) co_none (co_some c_int)))) (cg_name 4 sc.nd) (cs_cons (cs_set (i := 3) sc.nd (c_op op_mod os_mod (c_op op_addA os_add (c_op op_addA os_add (c_op op_mulA os_mul' (c_var 3) c_int) (c_op op_mod os_mod (c_var 4) c_int)) c_int) c_int) rfl (Or.inl rfl) rfl (.inl rfl))
      (cs_cons (cs_set (i := 5) sc.nd (c_op op_sub os_sub (c_var 4) (c_op op_pow os_pow c_int c_int)) rfl (Or.inl rfl) rfl (.inl rfl))
      (cs_cons (cs_if (ct_cmp op_lt os_lt (c_var 5) c_int (nomark _)) (cs_one (cs_expr (c_app (c_var 2) (c_op op_mod os_mod (c_var 4) c_int) rfl rfl rfl rfl) rfl)) cs_nil)
      (cs_one (cs_for (tvs := [6]) hp (ci_ran1 T.range c_int rfl rfl) (cg_name 6 sc.nd) (cs_one (cs_if (ct_cmp op_gt os_gt (c_var 5) c_int (nomark _)) (cs_cons (cs_expr (c_app (c_var 2) (c_op op_mod os_mod (c_var 5) c_int) rfl rfl rfl rfl) rfl)
      (cs_one (cs_set (i := 5) sc.nd (c_op op_divNW os_div (c_var 5) c_int) rfl (Or.inl rfl) rfl (.inl rfl)))) cs_nil)) rfl (fun _ => rfl)))))) rfl (fun _ => rfl))
      (cs_cons (cs_for (tvs := [6]) hp (ci_ran1 T.range (c_op op_sub os_sub (c_var 1) (c_b1 call_lenA b_len T.len (c_var 2) (by decide +kernel) rfl (by decide) (by decide) rfl)) rfl rfl) (cg_name 6 sc.nd) (cs_cons (cs_set (i := 3) sc.nd (c_op op_mod os_mod (c_op op_addA os_add (c_op op_addA os_add (c_op op_addA os_add (c_op op_mulA os_mul' (c_op op_mulA os_mul' (c_var 3) (c_var 3)) (c_var 3)) (c_op op_mulA os_mul' c_int (c_var 3))) (c_op op_mulA os_mul' c_int (c_var 6))) c_int) c_int) rfl (Or.inl rfl) rfl (.inl rfl))
      (cs_one (cs_expr (c_app (c_var 2) (c_op op_mod os_mod (c_op op_divNW os_div (c_var 3) c_int) c_int) rfl rfl rfl rfl) rfl))) rfl (fun _ => rfl))
      (cs_one (cs_retF (cf_sl (c_var 2) co_none (co_some (c_var 1)))))))))
abbrev N__law_names : List Str := ["_law_d", "_law_many", "_law_letters", "_law_base", "_law_at", "_law_names_here", "_law_k", "_law_sign", "_law_name"]
theorem sc__law_names : FnScope N__law_names ["_law_d", "_law_many"] (defScope s__law_names) := ⟨rfl, rfl, rfl, by decide +kernel, rfl, by decide +kernel, by decide +kernel⟩
theorem t__law_names {f : Addr} {fd : FuncData} (T : Tx K mg w) (FD : FunD K "_law_names" "_law_names" (defArgs s__law_names) (defBody s__law_names) (defScope s__law_names) [] [] f fd) (hm : mg "_law_names" = some (.ref f))  : Fn true true P w K mg base "_law_names" 1 2 m__law_names := by
  have sc := sc__law_names
  refine fn_mk (n := 9) FD hm sc rfl rfl (fun _ _ _ _ _ _ us hl => match us, hl with | [_, _], _ => rfl) fun cdv A outer s H E hr => ?_
  have tk : Tk true (cxOf (CXk true P w) P w K mg base N__law_names "_law_names" (defScope s__law_names) f cdv A outer s H E) _ := L2N.takes_of (X := cxOf (CXk true P w) P w K mg base N__law_names "_law_names" (defScope s__law_names) f cdv A outer s H E) rfl rfl rfl rfl
  have hp := passes_of (X := cxOf (CXk true P w) P w K mg base N__law_names "_law_names" (defScope s__law_names) f cdv A outer s H E) rfl
  exact (cs_cons (cs_set (i := 2) sc.nd c_str rfl (Or.inr rfl) rfl (.inl rfl))
      (cs_cons (cs_set (i := 3) sc.nd (c_f (cf_join c_str (c_f (cf_lc sc.nd (blkOk_by (own := [("_law_k", 6)]) (N := N__law_names) (sc := defScope s__law_names) (by decide +kernel)) rfl (ci_ran1 T.range (c_op op_mod os_mod (c_ix (c_var 0) c_int (fun _ _ => rfl)) c_int) rfl rfl) (fun _ _ _ _ _ => (cg_name 6 sc.nd)) (fun _ _ _ _ _ => cts_nil) (fun _ _ _ _ _ => (c_ix (c_var 2) (c_op op_mod os_mod (c_op op_addA os_add (c_ix (c_var 0) c_int (fun _ _ => rfl)) (c_op op_mulA os_mul' (c_op op_addA os_add (c_var 6) c_int) (c_op op_divNW os_div (c_ix (c_var 0) c_int (fun _ _ => rfl)) c_int))) c_int) (fun _ _ => rfl))) rfl (fun _ => rfl))) rfl rfl rfl)) rfl (Or.inl rfl) rfl (.inl rfl))
      (cs_cons (cs_set (i := 4) sc.nd (c_op op_mod os_mod (c_ix (c_var 0) c_int (fun _ _ => rfl)) (c_op op_addA os_add (c_b1 call_lenA b_len T.len (c_var 3) (by decide +kernel) rfl (by decide) (by decide) rfl) c_int)) rfl (Or.inl rfl) rfl (.inl rfl))
      (cs_cons (cs_setO (i := 5) sc.nd (cf_lst ca_nil) rfl (Or.inl rfl) rfl (.inl rfl))
      (cs_cons (cs_for (tvs := [6]) hp (ci_ran1 T.range (c_var 1) rfl rfl) (cg_name 6 sc.nd) (cs_cons (cs_set (i := 7) sc.nd (c_ix (c_var 2) (c_op op_mod os_mod (c_op op_addA os_add (c_ix (c_var 0) c_int (fun _ _ => rfl)) (c_op op_mulA os_mul' c_int (c_var 6))) c_int) (fun _ _ => rfl)) rfl (Or.inl rfl) rfl (.inl rfl))
      (cs_cons (cs_set (i := 8) sc.nd (c_op op_addA os_add (c_op op_addA os_add (c_f (cf_sl (c_var 3) co_none (co_some (c_var 4)))) (c_var 7)) (c_f (cf_sl (c_var 3) (co_some (c_var 4)) co_none))) rfl (Or.inl rfl) rfl (.inl rfl))
      (cs_cons (cs_if (ct_cmp (op_eqA hr) os_eq (c_op op_mod os_mod (c_op op_divNW os_div (c_ix (c_var 0) c_int (fun _ _ => rfl)) c_int) c_int) c_int (nomark _)) (cs_one (cs_set (i := 8) sc.nd (c_op op_mulA os_mul' (c_var 7) (c_op op_addA os_add c_int (c_op op_mod os_mod (c_op op_addA os_add (c_ix (c_var 0) c_int (fun _ _ => rfl)) (c_op op_mulA os_mul' c_int (c_var 6))) c_int))) rfl (Or.inl rfl) rfl (.inl rfl))) cs_nil)
      (cs_one (cs_expr (c_app (c_var 5) (c_var 8) rfl rfl rfl rfl) rfl))))) rfl (fun _ => rfl))
      (cs_one (cs_retO 5)))))))
abbrev N__law_kinds : List Str := []
theorem sc__law_kinds : FnScope N__law_kinds [] (defScope s__law_kinds) := ⟨rfl, rfl, rfl, by decide +kernel, rfl, by decide +kernel, by decide +kernel⟩
theorem t__law_kinds {f : Addr} {fd : FuncData} (T : Tx K mg w) (FD : FunD K "_law_kinds" "_law_kinds" (defArgs s__law_kinds) (defBody s__law_kinds) (defScope s__law_kinds) [] [] f fd) (hm : mg "_law_kinds" = some (.ref f))  : Fn true true P w K mg base "_law_kinds" 1 0 m__law_kinds := by
  have sc := sc__law_kinds
  refine fn_mk (n := 0) FD hm sc rfl rfl (fun _ _ _ _ _ _ us hl => match us, hl with | [], _ => rfl) fun cdv A outer s H E hr => ?_
  have tk : Tk true (cxOf (CXk true P w) P w K mg base N__law_kinds "_law_kinds" (defScope s__law_kinds) f cdv A outer s H E) _ := L2N.takes_of (X := cxOf (CXk true P w) P w K mg base N__law_kinds "_law_kinds" (defScope s__law_kinds) f cdv A outer s H E) rfl rfl rfl rfl
  have hp := passes_of (X := cxOf (CXk true P w) P w K mg base N__law_kinds "_law_kinds" (defScope s__law_kinds) f cdv A outer s H E) rfl
  exact (cs_one (cs_retF (cf_lst (ca_cons c_str (ca_cons c_str (ca_cons c_str (ca_cons c_str (ca_cons c_str (ca_cons c_str (ca_cons c_str ca_nil rfl) rfl) rfl) rfl) rfl) rfl) rfl))))
abbrev N__law_shapes : List Str := []
theorem sc__law_shapes : FnScope N__law_shapes [] (defScope s__law_shapes) := ⟨rfl, rfl, rfl, by decide +kernel, rfl, by decide +kernel, by decide +kernel⟩
theorem t__law_shapes {f : Addr} {fd : FuncData} (T : Tx K mg w) (FD : FunD K "_law_shapes" "_law_shapes" (defArgs s__law_shapes) (defBody s__law_shapes) (defScope s__law_shapes) [] [] f fd) (hm : mg "_law_shapes" = some (.ref f))  : Fn true true P w K mg base "_law_shapes" 1 0 m__law_shapes := by
  have sc := sc__law_shapes
  refine fn_mk (n := 0) FD hm sc rfl rfl (fun _ _ _ _ _ _ us hl => match us, hl with | [], _ => rfl) fun cdv A outer s H E hr => ?_
  have tk : Tk true (cxOf (CXk true P w) P w K mg base N__law_shapes "_law_shapes" (defScope s__law_shapes) f cdv A outer s H E) _ := L2N.takes_of (X := cxOf (CXk true P w) P w K mg base N__law_shapes "_law_shapes" (defScope s__law_shapes) f cdv A outer s H E) rfl rfl rfl rfl
  have hp := passes_of (X := cxOf (CXk true P w) P w K mg base N__law_shapes "_law_shapes" (defScope s__law_shapes) f cdv A outer s H E) rfl
  exact (cs_one (cs_retF (cf_disp (sp_cons c_str c_str (sp_cons c_str c_str (sp_cons c_str c_str (sp_cons c_str c_str (sp_cons c_str c_str (sp_cons c_str c_str (sp_cons c_str c_str sp_nil))))))) rfl rfl (by simp) (by decide))))
abbrev N__law_any_row : List Str := ["_law_d", "_law_names_here", "_law_kind", "_law_row", "_law_k", "_law_sort", "_law_number_here", "_law_one"]
theorem sc__law_any_row : FnScope N__law_any_row ["_law_d", "_law_names_here"] (defScope s__law_any_row) := ⟨rfl, rfl, rfl, by decide +kernel, rfl, by decide +kernel, by decide +kernel⟩
theorem t__law_any_row {f : Addr} {fd : FuncData} (T : Tx K mg w) (FD : FunD K "_law_any_row" "_law_any_row" (defArgs s__law_any_row) (defBody s__law_any_row) (defScope s__law_any_row) [] [] f fd) (hm : mg "_law_any_row" = some (.ref f)) (C__law_kinds : Fn true true P w K mg base "_law_kinds" 1 0 m__law_kinds) (C__law_shapes : Fn true true P w K mg base "_law_shapes" 1 0 m__law_shapes) : Fn true false P w K mg base "_law_any_row" 2 2 m__law_any_row := by
  have sc := sc__law_any_row
  refine fn_mk (n := 8) FD hm sc rfl rfl (fun _ _ _ _ _ _ us hl => match us, hl with | [_, _], _ => rfl) fun cdv A outer s H E hr => ?_
  have tk : Tk true (cxOf (CXk true P w) P w K mg base N__law_any_row "_law_any_row" (defScope s__law_any_row) f cdv A outer s H E) _ := L2N.takes_of (X := cxOf (CXk true P w) P w K mg base N__law_any_row "_law_any_row" (defScope s__law_any_row) f cdv A outer s H E) rfl rfl rfl rfl
  have hp := passes_of (X := cxOf (CXk true P w) P w K mg base N__law_any_row "_law_any_row" (defScope s__law_any_row) f cdv A outer s H E) rfl
  exact (cs_cons (cs_set (i := 2) sc.nd (c_ix (c_f (cf_call0 C__law_kinds hr (by omega) rfl (by decide))) (c_op op_mod os_mod (c_ix (c_var 0) c_int (fun _ _ => rfl)) c_int) (fun _ _ => rfl)) rfl (Or.inl rfl) rfl (.inl rfl))
      (cs_cons (cs_setO (i := 3) sc.nd (cf_lst (ca_cons (c_var 2) ca_nil rfl)) rfl (Or.inr rfl) rfl (.inl rfl))
      (cs_cons (cs_for (tvs := [4, 5]) hp (ci_enumS T.enumerate (c_get hr (c_f (cf_call0 C__law_shapes hr (by omega) rfl (by decide))) (c_var 2) (fun _ _ => rfl) (fun _ _ => rfl)) rfl rfl) (cg_tup (cgs_cons (cg_name 4 sc.nd) (cgs_cons (cg_name 5 sc.nd) cgs_nil rfl) rfl) rfl rfl rfl) (cs_cons (cs_set (i := 6) sc.nd (c_ix (c_f (cf_lst (ca_cons (c_op op_mod os_mod (c_ix (c_var 0) (c_op op_addA os_add c_int (c_var 4)) (fun _ _ => rfl)) c_int) (ca_cons (c_op op_mod os_mod (c_ix (c_var 0) (c_op op_addA os_add c_int (c_var 4)) (fun _ _ => rfl)) c_int) (ca_cons c_int (ca_cons c_int (ca_cons c_int ca_nil rfl) rfl) rfl) rfl) rfl))) (c_op op_mod os_mod (c_ix (c_var 0) (c_op op_addA os_add c_int (c_var 4)) (fun _ _ => rfl)) c_int) (fun _ _ => rfl)) rfl (Or.inl rfl) rfl (.inl rfl))
      (cs_one (cs_if (ct_in (c_var 5) c_str rfl) (cs_one (cs_expr (c_app (c_var 3) (c_b2 (call_max2 rfl) b_max T.max (c_var 6) (c_t1 call_intA b_int T.int (c_cmp (op_eqA hr) os_eq (c_var 5) c_str (nomark _)) (by decide +kernel) rfl (by decide) (by decide) rfl) (by decide +kernel) rfl (by decide) (by decide) rfl rfl rfl) rfl rfl rfl rfl) rfl)) (cs_one (cs_if (PW.pt (cw_and (ct_cmp (op_eqA hr) os_eq (c_var 5) c_str (nomark _)) (cw_and1 (ct_cmp (op_eqA hr) os_eq (c_op op_mod os_mod (c_ix (c_var 0) (c_op op_addA os_add c_int (c_var 4)) (fun _ _ => rfl)) c_int) c_int (nomark _))))) (cs_one (cs_expr (c_app (c_var 3) c_str rfl rfl rfl rfl) rfl)) (cs_one (cs_expr (c_app (c_var 3) (c_ix (c_var 1) (c_op op_mod os_mod (c_ix (c_var 0) (c_op op_addA os_add c_int (c_var 4)) (fun _ _ => rfl)) (c_b1 call_lenA b_len T.len (c_var 1) (by decide +kernel) rfl (by decide) (by decide) rfl)) (fun _ _ => rfl)) rfl rfl rfl rfl) rfl))))))) rfl (fun _ => rfl))
      (cs_cons (cs_if (PW.pt (cw_and (ct_cmp (op_inG hr) os_inG (c_var 2) (c_tup (ca_cons c_str (ca_cons c_str ca_nil rfl) rfl)) rfl) (cw_and1 (ct_cmp (op_eqA hr) os_eq (c_ix (c_var 3) c_int (fun _ _ => rfl)) (c_ix (c_var 3) c_int (fun _ _ => rfl)) (nomark _))))) (cs_one (cs_lput (c_var 3) c_int (c_ix (c_f (cf_lc sc.nd (blkOk_by (own := [("_law_one", 7)]) (N := N__law_any_row) (sc := defScope s__law_any_row) (by decide +kernel)) rfl (ci_list (c_var 1)) (fun _ _ _ _ _ => (cg_name 7 sc.nd)) (fun _ _ _ _ _ => cts_one (ct_cmp (op_neA hr) os_ne (c_var 7) (c_ix (c_var 3) c_int (fun _ _ => rfl)) (nomark _))) (fun _ _ _ _ _ => (c_var 7)) rfl (fun _ => rfl))) (c_op op_mod os_mod (c_ix (c_var 0) c_int (fun _ _ => rfl)) (c_op op_sub os_sub (c_b1 call_lenA b_len T.len (c_var 1) (by decide +kernel) rfl (by decide) (by decide) rfl) c_int)) (fun _ _ => rfl)) rfl)) cs_nil)
      (cs_one (cs_ret (c_t1 call_tuple_of b_tuple T.tuple (c_var 3) (by decide +kernel) rfl (by decide) (by decide) rfl)))))))
abbrev N__law_word_of : List Str := ["_law_thing"]
theorem sc__law_word_of : FnScope N__law_word_of ["_law_thing"] (defScope s__law_word_of) := ⟨rfl, rfl, rfl, by decide +kernel, rfl, by decide +kernel, by decide +kernel⟩
theorem t__law_word_of {f : Addr} {fd : FuncData} (T : Tx K mg w) (FD : FunD K "_law_word_of" "_law_word_of" (defArgs s__law_word_of) (defBody s__law_word_of) (defScope s__law_word_of) [] [] f fd) (hm : mg "_law_word_of" = some (.ref f))  : Fn true false P w K mg base "_law_word_of" 1 1 m__law_word_of := by
  have sc := sc__law_word_of
  refine fn_mk (n := 1) FD hm sc rfl rfl (fun _ _ _ _ _ _ us hl => match us, hl with | [_], _ => rfl) fun cdv A outer s H E hr => ?_
  have tk : Tk true (cxOf (CXk true P w) P w K mg base N__law_word_of "_law_word_of" (defScope s__law_word_of) f cdv A outer s H E) _ := L2N.takes_of (X := cxOf (CXk true P w) P w K mg base N__law_word_of "_law_word_of" (defScope s__law_word_of) f cdv A outer s H E) rfl rfl rfl rfl
  have hp := passes_of (X := cxOf (CXk true P w) P w K mg base N__law_word_of "_law_word_of" (defScope s__law_word_of) f cdv A outer s H E) rfl
  exact (cs_cons (cs_if (ct_cmp (op_eqA hr) os_eq (c_var 0) c_str (nomark _)) (cs_one (cs_ret c_str)) cs_nil)
      (cs_one (cs_ret (c_t1 call_strA b_str T.str (c_var 0) (by decide +kernel) rfl (by decide) (by decide) rfl))))
abbrev N__law_text_of : List Str := ["_law_row", "_law_thing"]
theorem sc__law_text_of : FnScope N__law_text_of ["_law_row"] (defScope s__law_text_of) := ⟨rfl, rfl, rfl, by decide +kernel, rfl, by decide +kernel, by decide +kernel⟩
theorem t__law_text_of {f : Addr} {fd : FuncData} (T : Tx K mg w) (FD : FunD K "_law_text_of" "_law_text_of" (defArgs s__law_text_of) (defBody s__law_text_of) (defScope s__law_text_of) [] [] f fd) (hm : mg "_law_text_of" = some (.ref f)) (C__law_word_of : Fn true false P w K mg base "_law_word_of" 1 1 m__law_word_of) : Fn true false P w K mg base "_law_text_of" 2 1 m__law_text_of := by
  have sc := sc__law_text_of
  refine fn_mk (n := 2) FD hm sc rfl rfl (fun _ _ _ _ _ _ us hl => match us, hl with | [_], _ => rfl) fun cdv A outer s H E hr => ?_
  have tk : Tk true (cxOf (CXk true P w) P w K mg base N__law_text_of "_law_text_of" (defScope s__law_text_of) f cdv A outer s H E) _ := L2N.takes_of (X := cxOf (CXk true P w) P w K mg base N__law_text_of "_law_text_of" (defScope s__law_text_of) f cdv A outer s H E) rfl rfl rfl rfl
  have hp := passes_of (X := cxOf (CXk true P w) P w K mg base N__law_text_of "_law_text_of" (defScope s__law_text_of) f cdv A outer s H E) rfl
  exact (cs_one (cs_ret (c_f (cf_join c_str (c_f (cf_lc sc.nd (blkOk_by (own := [("_law_thing", 1)]) (N := N__law_text_of) (sc := defScope s__law_text_of) (by decide +kernel)) rfl (ci_tup (c_var 0)) (fun _ _ _ _ _ => (cg_name 1 sc.nd)) (fun _ _ _ _ _ => cts_nil) (fun _ _ _ _ _ => (c_e (c_call C__law_word_of takes0K hr (by omega) (ca_cons (c_var 1) ca_nil rfl) rfl rfl (by decide) rfl rfl (la_cons la_nil)))) rfl (fun _ => rfl))) rfl rfl rfl))))
abbrev N__law_sign_of : List Str := ["_law_code", "_law_some"]
theorem sc__law_sign_of : FnScope N__law_sign_of ["_law_code"] (defScope s__law_sign_of) := ⟨rfl, rfl, rfl, by decide +kernel, rfl, by decide +kernel, by decide +kernel⟩
theorem t__law_sign_of {f : Addr} {fd : FuncData} (T : Tx K mg w) (FD : FunD K "_law_sign_of" "_law_sign_of" (defArgs s__law_sign_of) (defBody s__law_sign_of) (defScope s__law_sign_of) [] [] f fd) (hm : mg "_law_sign_of" = some (.ref f))  : Fn true false P w K mg base "_law_sign_of" 1 1 m__law_sign_of := by
  have sc := sc__law_sign_of
  refine fn_mk (n := 2) FD hm sc rfl rfl (fun _ _ _ _ _ _ us hl => match us, hl with | [_], _ => rfl) fun cdv A outer s H E hr => ?_
  have tk : Tk true (cxOf (CXk true P w) P w K mg base N__law_sign_of "_law_sign_of" (defScope s__law_sign_of) f cdv A outer s H E) _ := L2N.takes_of (X := cxOf (CXk true P w) P w K mg base N__law_sign_of "_law_sign_of" (defScope s__law_sign_of) f cdv A outer s H E) rfl rfl rfl rfl
  have hp := passes_of (X := cxOf (CXk true P w) P w K mg base N__law_sign_of "_law_sign_of" (defScope s__law_sign_of) f cdv A outer s H E) rfl
  exact (cs_cons (cs_set (i := 1) sc.nd c_str rfl (Or.inl rfl) rfl (.inl rfl))
      (cs_one (cs_ret (c_ix (c_var 1) (c_op op_mod os_mod (c_var 0) (c_b1 call_lenA b_len T.len (c_var 1) (by decide +kernel) rfl (by decide) (by decide) rfl)) (fun _ _ => rfl)))))
abbrev N__law_bent_text : List Str := ["_law_text", "_law_d", "_law_at", "_law_words", "_law_here", "_law_way", "_law_some"]
theorem sc__law_bent_text : FnScope N__law_bent_text ["_law_text", "_law_d"] (defScope s__law_bent_text) := ⟨rfl, rfl, rfl, by decide +kernel, rfl, by decide +kernel, by decide +kernel⟩
theorem t__law_bent_text {f : Addr} {fd : FuncData} (T : Tx K mg w) (FD : FunD K "_law_bent_text" "_law_bent_text" (defArgs s__law_bent_text) (defBody s__law_bent_text) (defScope s__law_bent_text) [] [] f fd) (hm : mg "_law_bent_text" = some (.ref f)) (C__law_sign_of : Fn true false P w K mg base "_law_sign_of" 1 1 m__law_sign_of) : Fn true false P w K mg base "_law_bent_text" 2 2 m__law_bent_text := by
  have sc := sc__law_bent_text
  refine fn_mk (n := 7) FD hm sc rfl rfl (fun _ _ _ _ _ _ us hl => match us, hl with | [_, _], _ => rfl) fun cdv A outer s H E hr => ?_
  have tk : Tk true (cxOf (CXk true P w) P w K mg base N__law_bent_text "_law_bent_text" (defScope s__law_bent_text) f cdv A outer s H E) _ := L2N.takes_of (X := cxOf (CXk true P w) P w K mg base N__law_bent_text "_law_bent_text" (defScope s__law_bent_text) f cdv A outer s H E) rfl rfl rfl rfl
  have hp := passes_of (X := cxOf (CXk true P w) P w K mg base N__law_bent_text "_law_bent_text" (defScope s__law_bent_text) f cdv A outer s H E) rfl
  exact (cs_cons (cs_set (i := 2) sc.nd (c_op op_mod os_mod (c_ix (c_var 1) c_int (fun _ _ => rfl)) (c_op op_addA os_add (c_b1 call_lenA b_len T.len (c_var 0) (by decide +kernel) rfl (by decide) (by decide) rfl) c_int)) rfl (Or.inl rfl) rfl (.inl rfl))
      (cs_cons (cs_set (i := 3) sc.nd (c_f (cf_split (c_var 0) c_str rfl rfl rfl)) rfl (Or.inl rfl) rfl (.inl rfl))
      (cs_cons (cs_set (i := 4) sc.nd (c_op op_mod os_mod (c_ix (c_var 1) c_int (fun _ _ => rfl)) (c_b1 call_lenA b_len T.len (c_var 3) (by decide +kernel) rfl (by decide) (by decide) rfl)) rfl (Or.inl rfl) rfl (.inl rfl))
      (cs_cons (cs_set (i := 5) sc.nd (c_op op_mod os_mod (c_ix (c_var 1) c_int (fun _ _ => rfl)) c_int) rfl (Or.inl rfl) rfl (.inl rfl))
      (cs_cons (cs_if (ct_cmp (op_eqA hr) os_eq (c_var 5) c_int (nomark _)) (cs_one (cs_ret (c_op op_addA os_add (c_op op_addA os_add (c_f (cf_sl (c_var 0) co_none (co_some (c_var 2)))) (c_e (c_call C__law_sign_of tk hr (by omega) (ca_cons (c_ix (c_var 1) c_int (fun _ _ => rfl)) ca_nil rfl) rfl rfl (by decide) rfl rfl (la_cons la_nil)))) (c_f (cf_sl (c_var 0) (co_some (c_var 2)) co_none))))) cs_nil)
      (cs_cons (cs_if (ct_cmp (op_eqA hr) os_eq (c_var 5) c_int (nomark _)) (cs_one (cs_ret (c_op op_addA os_add (c_f (cf_sl (c_var 0) co_none (co_some (c_var 2)))) (c_f (cf_sl (c_var 0) (co_some (c_op op_addA os_add (c_var 2) c_int)) co_none))))) cs_nil)
      (cs_cons (cs_if (ct_cmp (op_eqA hr) os_eq (c_var 5) c_int (nomark _)) (cs_one (cs_ret (c_op op_addA os_add (c_op op_addA os_add (c_f (cf_sl (c_var 0) co_none (co_some (c_var 2)))) (c_e (c_call C__law_sign_of tk hr (by omega) (ca_cons (c_ix (c_var 1) c_int (fun _ _ => rfl)) ca_nil rfl) rfl rfl (by decide) rfl rfl (la_cons la_nil)))) (c_f (cf_sl (c_var 0) (co_some (c_op op_addA os_add (c_var 2) c_int)) co_none))))) cs_nil)
      (cs_cons (cs_if (ct_cmp (op_eqA hr) os_eq (c_var 5) c_int (nomark _)) (cs_cons (cs_set (i := 6) sc.nd (c_f (cf_lst (ca_cons c_str (ca_cons c_str (ca_cons c_str (ca_cons c_str (ca_cons c_str (ca_cons c_str (ca_cons c_str (ca_cons c_str (ca_cons c_str (ca_cons (c_ix (c_var 3) (c_op op_mod os_mod (c_ix (c_var 1) c_int (fun _ _ => rfl)) (c_b1 call_lenA b_len T.len (c_var 3) (by decide +kernel) rfl (by decide) (by decide) rfl)) (fun _ _ => rfl)) (ca_cons c_str ca_nil rfl) rfl) rfl) rfl) rfl) rfl) rfl) rfl) rfl) rfl) rfl))) rfl (Or.inl rfl) rfl (.inl rfl))
      (cs_one (cs_ret (c_f (cf_join c_str (c_op op_addA os_add (c_op op_addA os_add (c_f (cf_sl (c_var 3) co_none (co_some (c_var 4)))) (c_f (cf_lst (ca_cons (c_ix (c_var 6) (c_op op_mod os_mod (c_ix (c_var 1) c_int (fun _ _ => rfl)) (c_b1 call_lenA b_len T.len (c_var 6) (by decide +kernel) rfl (by decide) (by decide) rfl)) (fun _ _ => rfl)) ca_nil rfl)))) (c_f (cf_sl (c_var 3) (co_some (c_op op_addA os_add (c_var 4) c_int)) co_none))) rfl rfl rfl))))) cs_nil)
      (cs_cons (cs_if (ct_cmp (op_eqA hr) os_eq (c_var 5) c_int (nomark _)) (cs_one (cs_ret (c_f (cf_join c_str (c_op op_addA os_add (c_f (cf_sl (c_var 3) co_none (co_some (c_var 4)))) (c_f (cf_sl (c_var 3) (co_some (c_op op_addA os_add (c_var 4) c_int)) co_none))) rfl rfl rfl)))) cs_nil)
      (cs_cons (cs_if (ct_cmp (op_eqA hr) os_eq (c_var 5) c_int (nomark _)) (cs_one (cs_ret (c_f (cf_join c_str (c_op op_addA os_add (c_op op_addA os_add (c_f (cf_sl (c_var 3) co_none (co_some (c_var 4)))) (c_f (cf_sl (c_var 3) (co_some (c_var 4)) (co_some (c_op op_addA os_add (c_var 4) c_int))))) (c_f (cf_sl (c_var 3) (co_some (c_var 4)) co_none))) rfl rfl rfl)))) cs_nil)
      (cs_cons (cs_if (ct_cmp (op_eqA hr) os_eq (c_var 5) c_int (nomark _)) (cs_one (cs_ret (c_op op_addA os_add (c_var 0) (c_ix (c_f (cf_lst (ca_cons c_str (ca_cons c_str (ca_cons c_str (ca_cons c_str ca_nil rfl) rfl) rfl) rfl))) (c_op op_mod os_mod (c_ix (c_var 1) c_int (fun _ _ => rfl)) c_int) (fun _ _ => rfl))))) cs_nil)
      (cs_one (cs_ret (c_var 0))))))))))))))
abbrev N__law_number : List Str := ["_law_word", "_law_sign"]
theorem sc__law_number : FnScope N__law_number ["_law_word"] (defScope s__law_number) := ⟨rfl, rfl, rfl, by decide +kernel, rfl, by decide +kernel, by decide +kernel⟩
theorem t__law_number {f : Addr} {fd : FuncData} (T : Tx K mg w) (FD : FunD K "_law_number" "_law_number" (defArgs s__law_number) (defBody s__law_number) (defScope s__law_number) [] [] f fd) (hm : mg "_law_number" = some (.ref f))  : Fn true false P w K mg base "_law_number" 1 1 m__law_number := by
  have sc := sc__law_number
  refine fn_mk (n := 2) FD hm sc rfl rfl (fun _ _ _ _ _ _ us hl => match us, hl with | [_], _ => rfl) fun cdv A outer s H E hr => ?_
  have tk : Tk true (cxOf (CXk true P w) P w K mg base N__law_number "_law_number" (defScope s__law_number) f cdv A outer s H E) _ := L2N.takes_of (X := cxOf (CXk true P w) P w K mg base N__law_number "_law_number" (defScope s__law_number) f cdv A outer s H E) rfl rfl rfl rfl
  have hp := passes_of (X := cxOf (CXk true P w) P w K mg base N__law_number "_law_number" (defScope s__law_number) f cdv A outer s H E) rfl
  exact (cs_cons (cs_if (PW.pt (cw_or (ct_not (ct_chain op_le os_le op_le os_le c_int (c_b1 call_lenA b_len T.len (c_var 0) (by decide +kernel) rfl (by decide) (by decide) rfl) c_int (by with_unfolding_all rfl))) (cw_or1 (ct_not (ct_val (c_b1 (cr_all rfl) b_all T.all (c_f (cf_lc sc.nd (blkOk_by (own := [("_law_sign", 1)]) (N := N__law_number) (sc := defScope s__law_number) (by decide +kernel)) rfl (ci_str (c_var 0)) (fun _ _ _ _ _ => (cg_name 1 sc.nd)) (fun _ _ _ _ _ => cts_nil) (fun _ _ _ _ _ => (c_in (c_var 1) c_str rfl)) rfl (fun _ => rfl))) (by decide +kernel) rfl (by decide) (by decide) rfl) (fun _ => rfl)))))) (cs_one (cs_ret (c_neg c_int))) cs_nil)
      (cs_cons (cs_if (PW.pt (cw_and (ct_cmp op_gt os_gt (c_b1 call_lenA b_len T.len (c_var 0) (by decide +kernel) rfl (by decide) (by decide) rfl) c_int (nomark _)) (cw_and1 (ct_cmp (op_eqA hr) os_eq (c_ix (c_var 0) c_int (fun _ _ => rfl)) c_str (nomark _))))) (cs_one (cs_ret (c_neg c_int))) cs_nil)
      (cs_one (cs_ret (c_t1 call_intA b_int T.int (c_var 0) (by decide +kernel) rfl (by decide) (by decide) rfl)))))
abbrev N__law_named : List Str := ["_law_word", "_law_sign"]
theorem sc__law_named : FnScope N__law_named ["_law_word"] (defScope s__law_named) := ⟨rfl, rfl, rfl, by decide +kernel, rfl, by decide +kernel, by decide +kernel⟩
theorem t__law_named {f : Addr} {fd : FuncData} (T : Tx K mg w) (FD : FunD K "_law_named" "_law_named" (defArgs s__law_named) (defBody s__law_named) (defScope s__law_named) [] [] f fd) (hm : mg "_law_named" = some (.ref f))  : Fn true false P w K mg base "_law_named" 1 1 m__law_named := by
  have sc := sc__law_named
  refine fn_mk (n := 2) FD hm sc rfl rfl (fun _ _ _ _ _ _ us hl => match us, hl with | [_], _ => rfl) fun cdv A outer s H E hr => ?_
  have tk : Tk true (cxOf (CXk true P w) P w K mg base N__law_named "_law_named" (defScope s__law_named) f cdv A outer s H E) _ := L2N.takes_of (X := cxOf (CXk true P w) P w K mg base N__law_named "_law_named" (defScope s__law_named) f cdv A outer s H E) rfl rfl rfl rfl
  have hp := passes_of (X := cxOf (CXk true P w) P w K mg base N__law_named "_law_named" (defScope s__law_named) f cdv A outer s H E) rfl
  exact (cs_one (cs_ret (c_and (c_chain op_le os_le op_le os_le c_int (c_b1 call_lenA b_len T.len (c_var 0) (by decide +kernel) rfl (by decide) (by decide) rfl) c_int (by with_unfolding_all rfl)) (c_one (c_b1 (cr_all rfl) b_all T.all (c_f (cf_lc sc.nd (blkOk_by (own := [("_law_sign", 1)]) (N := N__law_named) (sc := defScope s__law_named) (by decide +kernel)) rfl (ci_str (c_var 0)) (fun _ _ _ _ _ => (cg_name 1 sc.nd)) (fun _ _ _ _ _ => cts_nil) (fun _ _ _ _ _ => (c_in (c_var 1) c_str rfl)) rfl (fun _ => rfl))) (by decide +kernel) rfl (by decide) (by decide) rfl)))))
abbrev N__law_good : List Str := ["_law_row", "_law_shape", "_law_thing", "_law_kind"]
theorem sc__law_good : FnScope N__law_good ["_law_row"] (defScope s__law_good) := ⟨rfl, rfl, rfl, by decide +kernel, rfl, by decide +kernel, by decide +kernel⟩
theorem t__law_good {f : Addr} {fd : FuncData} (T : Tx K mg w) (FD : FunD K "_law_good" "_law_good" (defArgs s__law_good) (defBody s__law_good) (defScope s__law_good) [] [] f fd) (hm : mg "_law_good" = some (.ref f)) (C__law_shapes : Fn true true P w K mg base "_law_shapes" 1 0 m__law_shapes) (C__law_named : Fn true false P w K mg base "_law_named" 1 1 m__law_named) : Fn true false P w K mg base "_law_good" 2 1 m__law_good := by
  have sc := sc__law_good
  refine fn_mk (n := 4) FD hm sc rfl rfl (fun _ _ _ _ _ _ us hl => match us, hl with | [_], _ => rfl) fun cdv A outer s H E hr => ?_
  have tk : Tk true (cxOf (CXk true P w) P w K mg base N__law_good "_law_good" (defScope s__law_good) f cdv A outer s H E) _ := L2N.takes_of (X := cxOf (CXk true P w) P w K mg base N__law_good "_law_good" (defScope s__law_good) f cdv A outer s H E) rfl rfl rfl rfl
  have hp := passes_of (X := cxOf (CXk true P w) P w K mg base N__law_good "_law_good" (defScope s__law_good) f cdv A outer s H E) rfl
  exact (cs_cons (cs_set (i := 1) sc.nd (c_dget2 hr (c_f (cf_call0 C__law_shapes hr (by omega) rfl (by decide))) (c_ix (c_var 0) c_int (fun _ _ => rfl)) c_str ⟨rfl, rfl, rfl, rfl⟩) rfl (Or.inl rfl) rfl (.inl rfl))
      (cs_cons (cs_if (PW.pt (cw_or (ct_cmp (op_neA hr) os_ne (c_b1 call_lenA b_len T.len (c_var 0) (by decide +kernel) rfl (by decide) (by decide) rfl) (c_op op_addA os_add c_int (c_b1 call_lenA b_len T.len (c_var 1) (by decide +kernel) rfl (by decide) (by decide) rfl)) (nomark _)) (cw_or1 (ct_cmp (op_eqA hr) os_eq (c_var 1) c_str (nomark _))))) (cs_one (cs_ret c_bl)) cs_nil)
      (cs_cons (cs_for (tvs := [2, 3]) hp (ci_zipX T.zip (c_f (cf_sl (c_var 0) (co_some c_int) co_none)) (c_var 1) rfl rfl rfl rfl) (cg_tup (cgs_cons (cg_name 2 sc.nd) (cgs_cons (cg_name 3 sc.nd) cgs_nil rfl) rfl) rfl rfl rfl) (cs_one (cs_if (ct_in (c_var 3) c_str rfl) (cs_one (cs_if (ct_not (ct_chain op_le os_le op_le os_le (c_t1 call_intA b_int T.int (c_cmp (op_eqA hr) os_eq (c_var 3) c_str (nomark _)) (by decide +kernel) rfl (by decide) (by decide) rfl) (c_var 2) c_int (by with_unfolding_all rfl))) (cs_one (cs_ret c_bl)) cs_nil)) (cs_one (cs_if (PW.pt (cw_and (ct_not (ct_val (c_e (c_call C__law_named tk hr (by omega) (ca_cons (c_var 2) ca_nil rfl) rfl rfl (by decide) rfl rfl (la_cons la_nil))) (fun _ => rfl))) (cw_and1 (ct_not (PW.pt (cw_and (ct_cmp (op_eqA hr) os_eq (c_var 3) c_str (nomark _)) (cw_and1 (ct_cmp (op_eqA hr) os_eq (c_var 2) c_str (nomark _))))))))) (cs_one (cs_ret c_bl)) cs_nil)))) rfl (fun _ => rfl))
      (cs_one (cs_ret (c_not (c_and (c_cmp (op_inG hr) os_inG (c_ix (c_var 0) c_int (fun _ _ => rfl)) (c_tup (ca_cons c_str (ca_cons c_str ca_nil rfl) rfl)) rfl) (c_one (c_cmp (op_eqA hr) os_eq (c_ix (c_var 0) c_int (fun _ _ => rfl)) (c_ix (c_var 0) c_int (fun _ _ => rfl)) (nomark _))))))))))
abbrev N__law_read : List Str := ["_law_text", "_law_words", "_law_shape", "_law_row", "_law_word", "_law_kind"]
theorem sc__law_read : FnScope N__law_read ["_law_text"] (defScope s__law_read) := ⟨rfl, rfl, rfl, by decide +kernel, rfl, by decide +kernel, by decide +kernel⟩
theorem t__law_read {f : Addr} {fd : FuncData} (T : Tx K mg w) (FD : FunD K "_law_read" "_law_read" (defArgs s__law_read) (defBody s__law_read) (defScope s__law_read) [] [] f fd) (hm : mg "_law_read" = some (.ref f)) (C__law_shapes : Fn true true P w K mg base "_law_shapes" 1 0 m__law_shapes) (C__law_number : Fn true false P w K mg base "_law_number" 1 1 m__law_number) (C__law_good : Fn true false P w K mg base "_law_good" 2 1 m__law_good) : Fn true false P w K mg base "_law_read" 3 1 m__law_read := by
  have sc := sc__law_read
  refine fn_mk (n := 6) FD hm sc rfl rfl (fun _ _ _ _ _ _ us hl => match us, hl with | [_], _ => rfl) fun cdv A outer s H E hr => ?_
  have tk : Tk true (cxOf (CXk true P w) P w K mg base N__law_read "_law_read" (defScope s__law_read) f cdv A outer s H E) _ := L2N.takes_of (X := cxOf (CXk true P w) P w K mg base N__law_read "_law_read" (defScope s__law_read) f cdv A outer s H E) rfl rfl rfl rfl
  have hp := passes_of (X := cxOf (CXk true P w) P w K mg base N__law_read "_law_read" (defScope s__law_read) f cdv A outer s H E) rfl
  exact (cs_cons (cs_set (i := 1) sc.nd (c_f (cf_split (c_var 0) c_str rfl rfl rfl)) rfl (Or.inl rfl) rfl (.inl rfl))
      (cs_cons (cs_set (i := 2) sc.nd (c_dget2 hr (c_f (cf_call0 C__law_shapes hr (by omega) rfl (by decide))) (c_ix (c_var 1) c_int (fun _ _ => rfl)) c_str ⟨rfl, rfl, rfl, rfl⟩) rfl (Or.inl rfl) rfl (.inl rfl))
      (cs_cons (cs_if (PW.pt (cw_or (ct_cmp (op_eqA hr) os_eq (c_var 2) c_str (nomark _)) (cw_or1 (ct_cmp (op_neA hr) os_ne (c_b1 call_lenA b_len T.len (c_var 1) (by decide +kernel) rfl (by decide) (by decide) rfl) (c_op op_addA os_add c_int (c_b1 call_lenA b_len T.len (c_var 2) (by decide +kernel) rfl (by decide) (by decide) rfl)) (nomark _))))) (cs_one (cs_ret c_non)) cs_nil)
      (cs_cons (cs_setO (i := 3) sc.nd (cf_lst (ca_cons (c_ix (c_var 1) c_int (fun _ _ => rfl)) ca_nil rfl)) rfl (Or.inl rfl) rfl (.inl rfl))
      (cs_cons (cs_for (tvs := [4, 5]) hp (ci_zipX T.zip (c_f (cf_sl (c_var 1) (co_some c_int) co_none)) (c_var 2) rfl rfl rfl rfl) (cg_tup (cgs_cons (cg_name 4 sc.nd) (cgs_cons (cg_name 5 sc.nd) cgs_nil rfl) rfl) rfl rfl rfl) (cs_one (cs_if (ct_in (c_var 5) c_str rfl) (cs_one (cs_expr (c_app (c_var 3) (c_e (c_call C__law_number tk hr (by omega) (ca_cons (c_var 4) ca_nil rfl) rfl rfl (by decide) rfl rfl (la_cons la_nil))) rfl rfl rfl rfl) rfl)) (cs_one (cs_if (PW.pt (cw_and (ct_cmp (op_eqA hr) os_eq (c_var 5) c_str (nomark _)) (cw_and1 (ct_cmp (op_eqA hr) os_eq (c_var 4) c_str (nomark _))))) (cs_one (cs_expr (c_app (c_var 3) c_str rfl rfl rfl rfl) rfl)) (cs_one (cs_if (ct_cmp (op_eqA hr) os_eq (c_var 4) c_str (nomark _)) (cs_one (cs_ret c_non)) (cs_one (cs_expr (c_app (c_var 3) (c_var 4) rfl rfl rfl rfl) rfl)))))))) rfl (fun _ => rfl))
      (cs_cons (cs_if (ct_not (ct_val (c_e (c_call C__law_good tk hr (by omega) (ca_cons (c_t1 call_tuple_of b_tuple T.tuple (c_var 3) (by decide +kernel) rfl (by decide) (by decide) rfl) ca_nil rfl) rfl rfl (by decide) rfl rfl (la_cons la_nil))) (fun _ => rfl))) (cs_one (cs_ret c_non)) cs_nil)
      (cs_one (cs_ret (c_t1 call_tuple_of b_tuple T.tuple (c_var 3) (by decide +kernel) rfl (by decide) (by decide) rfl)))))))))
abbrev N_NoText___init__ : List Str := ["self", "at"]
theorem sc_NoText___init__ : FnScope N_NoText___init__ ["self", "at"] (defScope s_NoText___init__) := ⟨rfl, rfl, rfl, by decide +kernel, rfl, by decide +kernel, by decide +kernel⟩
theorem t_NoText___init__ {f : Addr} {fd : FuncData} (T : Tx K mg w) (FD : FunD K "__init__" "NoText.__init__" (defArgs s_NoText___init__) (defBody s_NoText___init__) (defScope s_NoText___init__) [] [] f fd) (hg : mg (Str.ofString "NoText") = some (.ref (ca K "NoText"))) (hI : Meth K (ca K "NoText") "__init__" f) (ho : OexC K (ca K "NoText")) (hn : NoAttr K (ca K "NoText") "at") : ExI P w K mg base "NoText" 1 :=
  exi_mk (k := 0) FD sc_NoText___init__ hg ho hn hI (.inl rfl) (.inl rfl) (fun _ => rfl) (fun _ _ _ _ _ _ us hl => match us, hl with | [_, _], _ => rfl)
abbrev N_number_of_v2 : List Str := ["word", "sign"]
theorem sc_number_of_v2 : FnScope N_number_of_v2 ["word"] (defScope s_number_of_v2) := ⟨rfl, rfl, rfl, by decide +kernel, rfl, by decide +kernel, by decide +kernel⟩
theorem t_number_of_v2 {f : Addr} {fd : FuncData} (T : Tx K mg w) (FD : FunD K "number_of" "number_of" (defArgs s_number_of_v2) (defBody s_number_of_v2) (defScope s_number_of_v2) [] [] f fd) (hm : mg "number_of" = some (.ref f)) (C_NoText___init__ : ExI P w K mg base "NoText" 1) : Fn false false P w K mg base "number_of" 4 1 m_number_of_v2 := by
  have sc := sc_number_of_v2
  refine fn_mk (n := 2) FD hm sc rfl rfl (fun _ _ _ _ _ _ us hl => match us, hl with | [_], _ => rfl) fun cdv A outer s H E hr => ?_
  have tk : Tk false (cxOf (CXk false P w) P w K mg base N_number_of_v2 "number_of" (defScope s_number_of_v2) f cdv A outer s H E) _ := L2.takes_of (X := cxOf (CXk false P w) P w K mg base N_number_of_v2 "number_of" (defScope s_number_of_v2) f cdv A outer s H E) rfl rfl rfl rfl
  have hp := passes_of (X := cxOf (CXk false P w) P w K mg base N_number_of_v2 "number_of" (defScope s_number_of_v2) f cdv A outer s H E) rfl
  exact (cs_cons (cs_if (PW.pt (cw_or (ct_not (ct_chain op_le os_le op_le os_le c_int (c_b1 call_lenA b_len T.len (c_var 0) (by decide +kernel) rfl (by decide) (by decide) rfl) (c_gint T.MOST_FIGURES) (by with_unfolding_all rfl))) (cw_or1 (ct_not (ct_val (c_b1 (cr_all rfl) b_all T.all (c_f (cf_lc sc.nd (blkOk_by (own := [("sign", 1)]) (N := N_number_of_v2) (sc := defScope s_number_of_v2) (by decide +kernel)) rfl (ci_str (c_var 0)) (fun _ _ _ _ _ => (cg_name 1 sc.nd)) (fun _ _ _ _ _ => cts_nil) (fun _ _ _ _ _ => (c_in (c_var 1) (c_gstr T.FIGURES) rfl)) rfl (fun _ => rfl))) (by decide +kernel) rfl (by decide) (by decide) rfl) (fun _ => rfl)))))) (cs_one (cs_raiseI (c := "NoText") C_NoText___init__ tk hr (by omega) c_int)) cs_nil)
      (cs_cons (cs_if (PW.pt (cw_and (ct_cmp op_gt os_gt (c_b1 call_lenA b_len T.len (c_var 0) (by decide +kernel) rfl (by decide) (by decide) rfl) c_int (nomark _)) (cw_and1 (ct_cmp (op_eqA hr) os_eq (c_ix (c_var 0) c_int (fun _ _ => rfl)) c_str (nomark _))))) (cs_one (cs_raiseI (c := "NoText") C_NoText___init__ tk hr (by omega) c_int)) cs_nil)
      (cs_one (cs_ret (c_t1 call_intA b_int T.int (c_var 0) (by decide +kernel) rfl (by decide) (by decide) rfl)))))
abbrev N_thing_of_v2 : List Str := ["word", "kind"]
theorem sc_thing_of_v2 : FnScope N_thing_of_v2 ["word", "kind"] (defScope s_thing_of_v2) := ⟨rfl, rfl, rfl, by decide +kernel, rfl, by decide +kernel, by decide +kernel⟩
theorem t_thing_of_v2 {f : Addr} {fd : FuncData} (T : Tx K mg w) (FD : FunD K "thing_of" "thing_of" (defArgs s_thing_of_v2) (defBody s_thing_of_v2) (defScope s_thing_of_v2) [] [] f fd) (hm : mg "thing_of" = some (.ref f)) (C_number_of_v2 : Fn false false P w K mg base "number_of" 4 1 m_number_of_v2) (C_NoText___init__ : ExI P w K mg base "NoText" 1) : Fn false false P w K mg base "thing_of" 5 2 m_thing_of_v2 := by
  have sc := sc_thing_of_v2
  refine fn_mk (n := 2) FD hm sc rfl rfl (fun _ _ _ _ _ _ us hl => match us, hl with | [_, _], _ => rfl) fun cdv A outer s H E hr => ?_
  have tk : Tk false (cxOf (CXk false P w) P w K mg base N_thing_of_v2 "thing_of" (defScope s_thing_of_v2) f cdv A outer s H E) _ := L2.takes_of (X := cxOf (CXk false P w) P w K mg base N_thing_of_v2 "thing_of" (defScope s_thing_of_v2) f cdv A outer s H E) rfl rfl rfl rfl
  have hp := passes_of (X := cxOf (CXk false P w) P w K mg base N_thing_of_v2 "thing_of" (defScope s_thing_of_v2) f cdv A outer s H E) rfl
  exact (cs_cons (cs_if (ct_in (c_var 1) (c_gtup T.NUMBERED) rfl) (cs_one (cs_ret (c_e (c_call C_number_of_v2 tk hr (by omega) (ca_cons (c_var 0) ca_nil rfl) rfl rfl (by decide) rfl rfl (la_cons la_nil))))) cs_nil)
      (cs_cons (cs_if (PW.pt (cw_and (ct_cmp (op_eqA hr) os_eq (c_var 1) c_str (nomark _)) (cw_and1 (ct_cmp (op_eqA hr) os_eq (c_var 0) c_str (nomark _))))) (cs_one (cs_ret c_str)) cs_nil)
      (cs_cons (cs_if (ct_cmp (op_eqA hr) os_eq (c_var 0) c_str (nomark _)) (cs_one (cs_raiseI (c := "NoText") C_NoText___init__ tk hr (by omega) c_int)) cs_nil)
      (cs_one (cs_ret (c_var 0))))))
abbrev N_is_name : List Str := ["text", "sign"]
theorem sc_is_name : FnScope N_is_name ["text"] (defScope s_is_name) := ⟨rfl, rfl, rfl, by decide +kernel, rfl, by decide +kernel, by decide +kernel⟩
theorem t_is_name {f : Addr} {fd : FuncData} (T : Tx K mg w) (FD : FunD K "is_name" "is_name" (defArgs s_is_name) (defBody s_is_name) (defScope s_is_name) [] [] f fd) (hm : mg "is_name" = some (.ref f))  : Fn true false P w K mg base "is_name" 1 1 m_is_name := by
  have sc := sc_is_name
  refine fn_mk (n := 2) FD hm sc rfl rfl (fun _ _ _ _ _ _ us hl => match us, hl with | [_], _ => rfl) fun cdv A outer s H E hr => ?_
  have tk : Tk true (cxOf (CXk true P w) P w K mg base N_is_name "is_name" (defScope s_is_name) f cdv A outer s H E) _ := L2N.takes_of (X := cxOf (CXk true P w) P w K mg base N_is_name "is_name" (defScope s_is_name) f cdv A outer s H E) rfl rfl rfl rfl
  have hp := passes_of (X := cxOf (CXk true P w) P w K mg base N_is_name "is_name" (defScope s_is_name) f cdv A outer s H E) rfl
  exact (cs_one (cs_ret (c_and (c_chain op_le os_le op_le os_le c_int (c_b1 call_lenA b_len T.len (c_var 0) (by decide +kernel) rfl (by decide) (by decide) rfl) c_int (by with_unfolding_all rfl)) (c_one (c_b1 (cr_all rfl) b_all T.all (c_f (cf_lc sc.nd (blkOk_by (own := [("sign", 1)]) (N := N_is_name) (sc := defScope s_is_name) (by decide +kernel)) rfl (ci_str (c_var 0)) (fun _ _ _ _ _ => (cg_name 1 sc.nd)) (fun _ _ _ _ _ => cts_nil) (fun _ _ _ _ _ => (c_in (c_var 1) (c_gstr T.LETTERS) rfl)) rfl (fun _ => rfl))) (by decide +kernel) rfl (by decide) (by decide) rfl)))))
abbrev N_fits : List Str := ["thing", "kind"]
theorem sc_fits : FnScope N_fits ["thing", "kind"] (defScope s_fits) := ⟨rfl, rfl, rfl, by decide +kernel, rfl, by decide +kernel, by decide +kernel⟩
theorem t_fits {f : Addr} {fd : FuncData} (T : Tx K mg w) (FD : FunD K "fits" "fits" (defArgs s_fits) (defBody s_fits) (defScope s_fits) [] [] f fd) (hm : mg "fits" = some (.ref f)) (C_is_name : Fn true false P w K mg base "is_name" 1 1 m_is_name) : Fn true false P w K mg base "fits" 2 2 m_fits := by
  have sc := sc_fits
  refine fn_mk (n := 2) FD hm sc rfl rfl (fun _ _ _ _ _ _ us hl => match us, hl with | [_, _], _ => rfl) fun cdv A outer s H E hr => ?_
  have tk : Tk true (cxOf (CXk true P w) P w K mg base N_fits "fits" (defScope s_fits) f cdv A outer s H E) _ := L2N.takes_of (X := cxOf (CXk true P w) P w K mg base N_fits "fits" (defScope s_fits) f cdv A outer s H E) rfl rfl rfl rfl
  have hp := passes_of (X := cxOf (CXk true P w) P w K mg base N_fits "fits" (defScope s_fits) f cdv A outer s H E) rfl
  exact (cs_cons (cs_if (ct_cmp (op_eqA hr) os_eq (c_var 1) c_str (nomark _)) (cs_one (cs_ret (c_chain op_le os_le op_le os_le c_int (c_var 0) (c_gint T.MOST) (by with_unfolding_all rfl)))) cs_nil)
      (cs_cons (cs_if (ct_cmp (op_inG hr) os_inG (c_var 1) (c_tup (ca_cons c_str (ca_cons c_str ca_nil rfl) rfl)) rfl) (cs_one (cs_ret (c_chain op_le os_le op_le os_le c_int (c_var 0) (c_gint T.MOST) (by with_unfolding_all rfl)))) cs_nil)
      (cs_cons (cs_if (PW.pt (cw_and (ct_cmp (op_eqA hr) os_eq (c_var 1) c_str (nomark _)) (cw_and1 (ct_cmp (op_eqA hr) os_eq (c_var 0) c_str (nomark _))))) (cs_one (cs_ret c_bl)) cs_nil)
      (cs_one (cs_ret (c_e (c_call C_is_name tk hr (by omega) (ca_cons (c_var 0) ca_nil rfl) rfl rfl (by decide) rfl rfl (la_cons la_nil))))))))
abbrev N_check_row : List Str := ["row", "kinds", "thing", "kind"]
theorem sc_check_row : FnScope N_check_row ["row"] (defScope s_check_row) := ⟨rfl, rfl, rfl, by decide +kernel, rfl, by decide +kernel, by decide +kernel⟩
theorem t_check_row {f : Addr} {fd : FuncData} (T : Tx K mg w) (FD : FunD K "check_row" "check_row" (defArgs s_check_row) (defBody s_check_row) (defScope s_check_row) [] [] f fd) (hm : mg "check_row" = some (.ref f)) (C_fits : Fn true false P w K mg base "fits" 2 2 m_fits) : Fn true false P w K mg base "check_row" 3 1 m_check_row := by
  have sc := sc_check_row
  refine fn_mk (n := 4) FD hm sc rfl rfl (fun _ _ _ _ _ _ us hl => match us, hl with | [_], _ => rfl) fun cdv A outer s H E hr => ?_
  have tk : Tk true (cxOf (CXk true P w) P w K mg base N_check_row "check_row" (defScope s_check_row) f cdv A outer s H E) _ := L2N.takes_of (X := cxOf (CXk true P w) P w K mg base N_check_row "check_row" (defScope s_check_row) f cdv A outer s H E) rfl rfl rfl rfl
  have hp := passes_of (X := cxOf (CXk true P w) P w K mg base N_check_row "check_row" (defScope s_check_row) f cdv A outer s H E) rfl
  exact (cs_cons (cs_if (ct_notInTab T.tb_SHAPES (c_ix (c_var 0) c_int (fun _ _ => rfl)) rfl rfl (by decide)) (cs_one (cs_raise (c := "NoForm") T.x_NoForm tk rfl rfl (by decide))) cs_nil)
      (cs_cons (cs_set (i := 1) sc.nd (c_tab T.tb_SHAPES (c_ix (c_var 0) c_int (fun _ _ => rfl)) (fun _ _ => rfl) rfl (by decide)) rfl (Or.inl rfl) rfl (.inl rfl))
      (cs_cons (cs_if (ct_cmp (op_neA hr) os_ne (c_b1 call_lenA b_len T.len (c_var 0) (by decide +kernel) rfl (by decide) (by decide) rfl) (c_op op_addA os_add c_int (c_b1 call_len b_lenC T.len (c_var 1) (by decide +kernel) rfl (by decide) (by decide) rfl)) (nomark _)) (cs_one (cs_raise (c := "NoForm") T.x_NoForm tk rfl rfl (by decide))) cs_nil)
      (cs_cons (cs_for (tvs := [2, 3]) hp (ci_zipC T.zip (c_f (cf_sl (c_var 0) (co_some c_int) co_none)) (c_var 1) rfl rfl rfl rfl) (cg_tup (cgs_cons (cg_name 2 sc.nd) (cgs_cons (cg_name 3 sc.nd) cgs_nil rfl) rfl) rfl rfl rfl) (cs_one (cs_if (ct_not (ct_val (c_e (c_call C_fits tk hr (by omega) (ca_cons (c_var 2) (ca_cons (c_var 3) ca_nil rfl) rfl) rfl rfl (by decide) rfl rfl (la_cons (la_cons la_nil)))) (fun _ => rfl))) (cs_one (cs_raise (c := "NoForm") T.x_NoForm tk rfl rfl (by decide))) cs_nil)) rfl (fun _ => rfl))
      (cs_one (cs_if (PW.pt (cw_and (ct_cmp (op_inG hr) os_inG (c_ix (c_var 0) c_int (fun _ _ => rfl)) (c_tup (ca_cons c_str (ca_cons c_str ca_nil rfl) rfl)) rfl) (cw_and1 (ct_cmp (op_eqA hr) os_eq (c_ix (c_var 0) c_int (fun _ _ => rfl)) (c_ix (c_var 0) c_int (fun _ _ => rfl)) (nomark _))))) (cs_one (cs_raise (c := "NoForm") T.x_NoForm tk rfl rfl (by decide))) cs_nil))))))
abbrev N_read_row_v2 : List Str := ["text", "words", "kinds", "row", "kind", "word"]
theorem sc_read_row_v2 : FnScope N_read_row_v2 ["text"] (defScope s_read_row_v2) := ⟨rfl, rfl, rfl, by decide +kernel, rfl, by decide +kernel, by decide +kernel⟩
theorem t_read_row_v2 {f : Addr} {fd : FuncData} (T : Tx K mg w) (FD : FunD K "read_row" "read_row" (defArgs s_read_row_v2) (defBody s_read_row_v2) (defScope s_read_row_v2) [] [] f fd) (hm : mg "read_row" = some (.ref f)) (C_NoText___init__ : ExI P w K mg base "NoText" 1) (C_thing_of_v2 : Fn false false P w K mg base "thing_of" 5 2 m_thing_of_v2) (C_check_row : Fn true false P w K mg base "check_row" 3 1 m_check_row) : Fn false false P w K mg base "read_row" 6 1 m_read_row_v2 := by
  have sc := sc_read_row_v2
  refine fn_mk (n := 6) FD hm sc rfl rfl (fun _ _ _ _ _ _ us hl => match us, hl with | [_], _ => rfl) fun cdv A outer s H E hr => ?_
  have tk : Tk false (cxOf (CXk false P w) P w K mg base N_read_row_v2 "read_row" (defScope s_read_row_v2) f cdv A outer s H E) _ := L2.takes_of (X := cxOf (CXk false P w) P w K mg base N_read_row_v2 "read_row" (defScope s_read_row_v2) f cdv A outer s H E) rfl rfl rfl rfl
  have hp := passes_of (X := cxOf (CXk false P w) P w K mg base N_read_row_v2 "read_row" (defScope s_read_row_v2) f cdv A outer s H E) rfl
  have hpa := fun hd => L2H.passesAt_of (X := cxOf (CXk false P w) P w K mg base N_read_row_v2 "read_row" (defScope s_read_row_v2) f cdv A outer s H E) rfl hd
  exact (cs_cons (cs_set (i := 1) sc.nd (c_f (cf_split (c_var 0) c_str rfl rfl rfl)) rfl (Or.inl rfl) rfl (.inl rfl))
      (cs_cons (cs_set (i := 2) sc.nd (c_tabGet T.tb_SHAPES (c_ix (c_var 1) c_int (fun _ _ => rfl)) (c_tup ca_nil) ⟨rfl, rfl, rfl, rfl⟩ rfl (by decide)) rfl (Or.inl rfl) rfl (.inl rfl))
      (cs_cons (cs_if (PW.pt (cw_or (ct_cmp (op_eqA hr) os_eq (c_b1 call_len b_lenC T.len (c_var 2) (by decide +kernel) rfl (by decide) (by decide) rfl) c_int (nomark _)) (cw_or1 (ct_cmp (op_neA hr) os_ne (c_b1 call_lenA b_len T.len (c_var 1) (by decide +kernel) rfl (by decide) (by decide) rfl) (c_op op_addA os_add c_int (c_b1 call_len b_lenC T.len (c_var 2) (by decide +kernel) rfl (by decide) (by decide) rfl)) (nomark _))))) (cs_one (cs_raiseI (c := "NoText") C_NoText___init__ tk hr (by omega) c_int)) cs_nil)
      (cs_cons (cs_set (i := 3) sc.nd (c_t1 call_tuple_of b_tuple T.tuple (c_op op_addA os_add (c_f (cf_lst (ca_cons (c_ix (c_var 1) c_int (fun _ _ => rfl)) ca_nil rfl))) (c_f (cf_lcX rfl rfl tk sc.nd (blkOk_by (own := [("word", 5), ("kind", 4)]) (N := N_read_row_v2) (sc := defScope s_read_row_v2) (by decide +kernel)) rfl (ci_zipX T.zip (c_f (cf_sl (c_var 1) (co_some c_int) co_none)) (c_var 2) rfl rfl rfl rfl) (fun _ _ _ _ _ => (cg_tup (cgs_cons (cg_name 5 sc.nd) (cgs_cons (cg_name 4 sc.nd) cgs_nil rfl) rfl) rfl rfl rfl)) (fun _ _ _ _ _ _ _ tk => (c_e (c_call C_thing_of_v2 tk hr (by omega) (ca_cons (c_var 5) (ca_cons (c_var 4) ca_nil rfl) rfl) rfl rfl (by decide) rfl rfl (la_cons (la_cons la_nil))))) rfl (fun _ => rfl)))) (by decide +kernel) rfl (by decide) (by decide) rfl) rfl (Or.inl rfl) rfl (.inl rfl))
      (cs_cons (cs_tryX (c := "NoForm") (x := "NoText") rfl rfl ⟨rfl, by decide, .inl T.g_NoForm⟩ hpa tk (al_cons (P := fun y => PySem.W.exmOne K (.ref (ca K y)) (.ref (ca K "NoForm")) = some (excSub y "NoForm")) (ex_b (by decide +kernel) T.m_NoForm_NoForm) (al_nil (P := fun y => PySem.W.exmOne K (.ref (ca K y)) (.ref (ca K "NoForm")) = some (excSub y "NoForm")))) (fun _ _ _ tk hp => (cs_one (cs_expr (c_e (c_call C_check_row tk hr (by omega) (ca_cons (c_var 3) ca_nil rfl) rfl rfl (by decide) rfl rfl (la_cons la_nil))) rfl))) C_NoText___init__ hr (by omega) (fun _ _ => c_int))
      (cs_one (cs_ret (c_var 3))))))))
abbrev N__law_same_hot : List Str := ["_law_found", "_law_due", "_law_one", "_law_other"]
theorem sc__law_same_hot : FnScope N__law_same_hot ["_law_found", "_law_due"] (defScope s__law_same_hot) := ⟨rfl, rfl, rfl, by decide +kernel, rfl, by decide +kernel, by decide +kernel⟩
theorem t__law_same_hot {f : Addr} {fd : FuncData} (T : Tx K mg w) (FD : FunD K "_law_same" "_law_same" (defArgs s__law_same_hot) (defBody s__law_same_hot) (defScope s__law_same_hot) [] [] f fd) (hm : mg "_law_same" = some (.ref f))  : FnHot true P w K mg base "_law_same" 1 2 m__law_same_hot := by
  have sc := sc__law_same_hot
  refine hot_mk (n := 4) FD hm sc rfl rfl (fun _ _ _ _ _ _ us hl => match us, hl with | [_, _], _ => rfl) fun cdv A outer s H E' p => ?_
  exact (cs_cons (cs_if (ct_isN (c_var 1)) (cs_one cs_fail) cs_nil)
      (cs_cons (cs_if (ct_val (c_isi .bool T.isinstance T.bool (c_var 1) (by decide +kernel) rfl rfl (by decide) (by decide) rfl rfl) (fun _ => rfl)) (cs_one cs_fail) cs_nil)
      (cs_cons (cs_if (ct_val (c_isi .tuple T.isinstance T.tuple (c_var 1) (by decide +kernel) rfl rfl (by decide) (by decide) rfl rfl) (fun _ => rfl)) (cs_cons cs_fail
      (cs_one cs_fail)) cs_nil)
      (cs_cons (cs_if (ct_val (c_isi .list T.isinstance T.list (c_var 1) (by decide +kernel) rfl rfl (by decide) (by decide) rfl rfl) (fun _ => rfl)) (cs_cons cs_fail
      (cs_one cs_fail)) cs_nil)
      (cs_cons (cs_if (ct_val (c_isi .str T.isinstance T.str (c_var 1) (by decide +kernel) rfl rfl (by decide) (by decide) rfl rfl) (fun _ => rfl)) (cs_one cs_fail) cs_nil)
      (cs_one (cs_ret (c_and (c_isi .int T.isinstance T.int (c_var 0) (by decide +kernel) rfl rfl (by decide) (by decide) rfl rfl) (c_and (c_not (c_isi .bool T.isinstance T.bool (c_var 0) (by decide +kernel) rfl rfl (by decide) (by decide) rfl rfl)) (c_one (c_cmp op_eq os_eqF (c_var 0) (c_var 1) (nomark _))))))))))))
abbrev N__law_why_text : List Str := ["_law_text", "_law_marks", "_law_row", "e"]
theorem sc__law_why_text : FnScope N__law_why_text ["_law_text"] (defScope s__law_why_text) := ⟨rfl, rfl, rfl, by decide +kernel, rfl, by decide +kernel, by decide +kernel⟩
theorem t__law_why_text {f : Addr} {fd : FuncData} (T : Tx K mg w) (FD : FunD K "_law_why_text" "_law_why_text" (defArgs s__law_why_text) (defBody s__law_why_text) (defScope s__law_why_text) [] [] f fd) (hm : mg "_law_why_text" = some (.ref f)) (C_read_row_v2 : Fn false false P w K mg base "read_row" 6 1 m_read_row_v2) (C__law_same_hot : FnHot true P w K mg base "_law_same" 1 2 m__law_same_hot) : Fn false false P w K mg base "_law_why_text" 7 1 m__law_why_text := by
  have sc := sc__law_why_text
  refine fn_mk (n := 4) FD hm sc rfl rfl (fun _ _ _ _ _ _ us hl => match us, hl with | [_], _ => rfl) fun cdv A outer s H E hr => ?_
  have tk : Tk false (cxOf (CXk false P w) P w K mg base N__law_why_text "_law_why_text" (defScope s__law_why_text) f cdv A outer s H E) _ := L2.takes_of (X := cxOf (CXk false P w) P w K mg base N__law_why_text "_law_why_text" (defScope s__law_why_text) f cdv A outer s H E) rfl rfl rfl rfl
  have hp := passes_of (X := cxOf (CXk false P w) P w K mg base N__law_why_text "_law_why_text" (defScope s__law_why_text) f cdv A outer s H E) rfl
  exact (cs_cons (cs_setO (i := 1) sc.nd (cf_lst ca_nil) rfl (Or.inl rfl) rfl (.inl rfl))
      (cs_cons (cs_set (i := 2) sc.nd c_non rfl (Or.inl rfl) rfl (.inl rfl))
      (cs_cons (cs_tryM rfl rfl sc.nd tk (fun _ _ _ tk hp => (cs_one (cs_set (i := 2) sc.nd (c_e (c_call C_read_row_v2 tk hr (by omega) (ca_cons (c_var 0) ca_nil rfl) rfl rfl (by decide) rfl rfl (la_cons la_nil))) rfl (Or.inl rfl) rfl (.inl rfl)))) (.cons (c := "NoText") (i := 3) ⟨rfl, by decide, .inl T.g_NoText⟩ rfl rfl (al_cons (P := fun y => PySem.W.exmOne K (.ref (ca K y)) (.ref (ca K "NoText")) = some (excSub y "NoText")) (ex_b (by decide +kernel) T.m_NoForm_NoText) (al_cons (P := fun y => PySem.W.exmOne K (.ref (ca K y)) (.ref (ca K "NoText")) = some (excSub y "NoText")) (ex_b (by decide +kernel) T.m_NoText_NoText) (al_nil (P := fun y => PySem.W.exmOne K (.ref (ca K y)) (.ref (ca K "NoText")) = some (excSub y "NoText"))))) (fun xa xd oe ex pn hy hz hv => (cs_cons (cs_setO (i := 1) sc.nd (cf_lst (ca_cons (c_isX (i := 3) (c := "LandError") ((al_cons (P := fun y => ExcC K (ca K y)) T.q_NoForm (al_cons (P := fun y => ExcC K (ca K y)) T.q_NoText (al_nil (P := fun y => ExcC K (ca K y))))) ex.c hy) hz hv ((al_cons (P := fun y => PySem.W.kitOne K (.ref (ca K y)) (.ref (ca K "LandError")) = some (excSub y "LandError")) (ex_b (by decide +kernel) T.k_NoForm_LandError) (al_cons (P := fun y => PySem.W.kitOne K (.ref (ca K y)) (.ref (ca K "LandError")) = some (excSub y "LandError")) (ex_b (by decide +kernel) T.k_NoText_LandError) (al_nil (P := fun y => PySem.W.kitOne K (.ref (ca K y)) (.ref (ca K "LandError")) = some (excSub y "LandError"))))) ex.c hy) T.isinstance T.g_LandError) (ca_cons (c_isXb (i := 3) (c := "ValueError") ((al_cons (P := fun y => ExcC K (ca K y)) T.q_NoForm (al_cons (P := fun y => ExcC K (ca K y)) T.q_NoText (al_nil (P := fun y => ExcC K (ca K y))))) ex.c hy) hz hv ((al_cons (P := fun y => PySem.W.kitOne K (.ref (ca K y)) (.type "ValueError") = some (excSub y "ValueError")) (ex_b (by decide +kernel) T.kb_NoForm_ValueError) (al_cons (P := fun y => PySem.W.kitOne K (.ref (ca K y)) (.type "ValueError") = some (excSub y "ValueError")) (ex_b (by decide +kernel) T.kb_NoText_ValueError) (al_nil (P := fun y => PySem.W.kitOne K (.ref (ca K y)) (.type "ValueError") = some (excSub y "ValueError"))))) ex.c hy) T.isinstance T.ValueError) (ca_cons (c_isX (i := 3) (c := "NoForm") ((al_cons (P := fun y => ExcC K (ca K y)) T.q_NoForm (al_cons (P := fun y => ExcC K (ca K y)) T.q_NoText (al_nil (P := fun y => ExcC K (ca K y))))) ex.c hy) hz hv ((al_cons (P := fun y => PySem.W.kitOne K (.ref (ca K y)) (.ref (ca K "NoForm")) = some (excSub y "NoForm")) (ex_b (by decide +kernel) T.k_NoForm_NoForm) (al_cons (P := fun y => PySem.W.kitOne K (.ref (ca K y)) (.ref (ca K "NoForm")) = some (excSub y "NoForm")) (ex_b (by decide +kernel) T.k_NoText_NoForm) (al_nil (P := fun y => PySem.W.kitOne K (.ref (ca K y)) (.ref (ca K "NoForm")) = some (excSub y "NoForm"))))) ex.c hy) T.isinstance T.g_NoForm) (ca_cons (c_isX (i := 3) (c := "NoEntry") ((al_cons (P := fun y => ExcC K (ca K y)) T.q_NoForm (al_cons (P := fun y => ExcC K (ca K y)) T.q_NoText (al_nil (P := fun y => ExcC K (ca K y))))) ex.c hy) hz hv ((al_cons (P := fun y => PySem.W.kitOne K (.ref (ca K y)) (.ref (ca K "NoEntry")) = some (excSub y "NoEntry")) (ex_b (by decide +kernel) T.k_NoForm_NoEntry) (al_cons (P := fun y => PySem.W.kitOne K (.ref (ca K y)) (.ref (ca K "NoEntry")) = some (excSub y "NoEntry")) (ex_b (by decide +kernel) T.k_NoText_NoEntry) (al_nil (P := fun y => PySem.W.kitOne K (.ref (ca K y)) (.ref (ca K "NoEntry")) = some (excSub y "NoEntry"))))) ex.c hy) T.isinstance T.g_NoEntry) ca_nil rfl) rfl) rfl) rfl)) rfl (Or.inl rfl) rfl (.inl rfl))
      (cs_one (cs_expr (c_app (c_var 1) (c_e (c_callW C__law_same_hot hr (by omega) (ca_cons (c_eAt (i := 3) (c := "NoText") T.q_NoText T.na_NoText hz hv) (ca_cons c_int ca_nil rfl) rfl) rfl rfl (by decide) rfl rfl (la_cons (la_cons la_nil)))) rfl rfl rfl rfl) rfl)))) .nil))
      (cs_one (cs_ret (c_tup (ca_cons (c_var 1) (ca_cons (c_var 2) ca_nil rfl) rfl)))))))
abbrev N__law_same : List Str := ["_law_found", "_law_due", "_law_one", "_law_other"]
theorem sc__law_same : FnScope N__law_same ["_law_found", "_law_due"] (defScope s__law_same) := ⟨rfl, rfl, rfl, by decide +kernel, rfl, by decide +kernel, by decide +kernel⟩
theorem t__law_same_ {f : Addr} {fd : FuncData} (T : Tx K mg w) (FD : FunD K "_law_same" "_law_same" (defArgs s__law_same) (defBody s__law_same) (defScope s__law_same) [] [] f fd) (hm : mg "_law_same" = some (.ref f))  : ∀ n : Nat, Fn true false P w K mg base "_law_same" (0 + n) 2 (r__law_same n) := by
  have sc := sc__law_same
  intro n
  induction n with
  | zero => exact fn_zero FD hm (ps := ["_law_found", "_law_due"]) rfl (fun _ _ _ _ _ _ us hl => match us, hl with | [_, _], _ => rfl)
  | succ n C_self =>
    refine fn_mk (k := 0 + n) (n := 4) FD hm sc rfl rfl (fun _ _ _ _ _ _ us hl => match us, hl with | [_, _], _ => rfl) fun cdv A outer s H E hr => ?_
    have tk : Tk true (cxOf (CXk true P w) P w K mg base N__law_same "_law_same" (defScope s__law_same) f cdv A outer s H E) _ := L2N.takes_of (X := cxOf (CXk true P w) P w K mg base N__law_same "_law_same" (defScope s__law_same) f cdv A outer s H E) rfl rfl rfl rfl
    have hp := passes_of (X := cxOf (CXk true P w) P w K mg base N__law_same "_law_same" (defScope s__law_same) f cdv A outer s H E) rfl
    exact (cs_cons (cs_if (ct_isN (c_var 1)) (cs_one (cs_ret (c_isN (c_var 0)))) cs_nil)
        (cs_cons (cs_if (ct_val (c_isi .bool T.isinstance T.bool (c_var 1) (by decide +kernel) rfl rfl (by decide) (by decide) rfl rfl) (fun _ => rfl)) (cs_one (cs_ret (c_and (c_isi .bool T.isinstance T.bool (c_var 0) (by decide +kernel) rfl rfl (by decide) (by decide) rfl rfl) (c_one (c_cmp (op_eqA hr) os_eq (c_var 0) (c_var 1) (nomark _)))))) cs_nil)
        (cs_cons (cs_if (ct_val (c_isi .tuple T.isinstance T.tuple (c_var 1) (by decide +kernel) rfl rfl (by decide) (by decide) rfl rfl) (fun _ => rfl)) (cs_cons (cs_if (PW.pt (cw_or (ct_not (ct_val (c_isi .tuple T.isinstance T.tuple (c_var 0) (by decide +kernel) rfl rfl (by decide) (by decide) rfl rfl) (fun _ => rfl))) (cw_or1 (ct_cmp (op_neA hr) os_ne (c_b1 call_lenA b_len T.len (c_var 0) (by decide +kernel) rfl (by decide) (by decide) rfl) (c_b1 call_lenA b_len T.len (c_var 1) (by decide +kernel) rfl (by decide) (by decide) rfl) (nomark _))))) (cs_one (cs_ret c_bl)) cs_nil)
        (cs_one (cs_ret (c_b1 (cr_all rfl) b_all T.all (c_f (cf_lc sc.nd (blkOk_by (own := [("_law_one", 2), ("_law_other", 3)]) (N := N__law_same) (sc := defScope s__law_same) (by decide +kernel)) rfl (ci_zip T.zip (c_var 0) (c_var 1) rfl rfl rfl rfl) (fun _ _ _ _ _ => (cg_tup (cgs_cons (cg_name 2 sc.nd) (cgs_cons (cg_name 3 sc.nd) cgs_nil rfl) rfl) rfl rfl rfl)) (fun _ _ _ _ _ => cts_nil) (fun _ _ _ _ _ => (c_e (c_call C_self takes0K hr (Nat.le_refl _) (ca_cons (c_var 2) (ca_cons (c_var 3) ca_nil rfl) rfl) rfl rfl (by decide) rfl rfl (la_cons (la_cons la_nil))))) rfl (fun _ => rfl))) (by decide +kernel) rfl (by decide) (by decide) rfl)))) cs_nil)
        (cs_cons (cs_if (ct_val (c_isi .list T.isinstance T.list (c_var 1) (by decide +kernel) rfl rfl (by decide) (by decide) rfl rfl) (fun _ => rfl)) (cs_cons (cs_if (PW.pt (cw_or (ct_not (ct_val (c_isi .list T.isinstance T.list (c_var 0) (by decide +kernel) rfl rfl (by decide) (by decide) rfl rfl) (fun _ => rfl))) (cw_or1 (ct_cmp (op_neA hr) os_ne (c_b1 call_lenA b_len T.len (c_var 0) (by decide +kernel) rfl (by decide) (by decide) rfl) (c_b1 call_lenA b_len T.len (c_var 1) (by decide +kernel) rfl (by decide) (by decide) rfl) (nomark _))))) (cs_one (cs_ret c_bl)) cs_nil)
        (cs_one (cs_ret (c_b1 (cr_all rfl) b_all T.all (c_f (cf_lc sc.nd (blkOk_by (own := [("_law_one", 2), ("_law_other", 3)]) (N := N__law_same) (sc := defScope s__law_same) (by decide +kernel)) rfl (ci_zip T.zip (c_var 0) (c_var 1) rfl rfl rfl rfl) (fun _ _ _ _ _ => (cg_tup (cgs_cons (cg_name 2 sc.nd) (cgs_cons (cg_name 3 sc.nd) cgs_nil rfl) rfl) rfl rfl rfl)) (fun _ _ _ _ _ => cts_nil) (fun _ _ _ _ _ => (c_e (c_call C_self takes0K hr (Nat.le_refl _) (ca_cons (c_var 2) (ca_cons (c_var 3) ca_nil rfl) rfl) rfl rfl (by decide) rfl rfl (la_cons (la_cons la_nil))))) rfl (fun _ => rfl))) (by decide +kernel) rfl (by decide) (by decide) rfl)))) cs_nil)
        (cs_cons (cs_if (ct_val (c_isi .str T.isinstance T.str (c_var 1) (by decide +kernel) rfl rfl (by decide) (by decide) rfl rfl) (fun _ => rfl)) (cs_one (cs_ret (c_and (c_isi .str T.isinstance T.str (c_var 0) (by decide +kernel) rfl rfl (by decide) (by decide) rfl rfl) (c_one (c_cmp (op_eqA hr) os_eq (c_var 0) (c_var 1) (nomark _)))))) cs_nil)
        (cs_one (cs_ret (c_and (c_isi .int T.isinstance T.int (c_var 0) (by decide +kernel) rfl rfl (by decide) (by decide) rfl rfl) (c_and (c_not (c_isi .bool T.isinstance T.bool (c_var 0) (by decide +kernel) rfl rfl (by decide) (by decide) rfl rfl)) (c_one (c_cmp (op_eqA hr) os_eq (c_var 0) (c_var 1) (nomark _))))))))))))
theorem t__law_same {f : Addr} {fd : FuncData} (T : Tx K mg w) (FD : FunD K "_law_same" "_law_same" (defArgs s__law_same) (defBody s__law_same) (defScope s__law_same) [] [] f fd) (hm : mg "_law_same" = some (.ref f))  : Fn true false P w K mg base "_law_same" 8 2 m__law_same := t__law_same_ T FD hm  8
abbrev N_law : List Str := ["_law_script", "_law_feed_here", "_law_names_here", "_law_k", "_law_text", "_law_again", "_law_row", "_law_marks", "_law_found"]
theorem sc_law : FnScope N_law ["_law_script"] (defScope s_law) := ⟨rfl, rfl, rfl, by decide +kernel, rfl, by decide +kernel, by decide +kernel⟩
theorem o_law {f : Addr} {fd : FuncData} (T : Tx K mg w) (FD : FunD K "law" "law" (defArgs s_law) (defBody s_law) (defScope s_law) [] [] f fd) (C__law_feed : Fn true true P w K mg base "_law_feed" 1 2 m__law_feed) (C__law_names : Fn true true P w K mg base "_law_names" 1 2 m__law_names) (C__law_any_row : Fn true false P w K mg base "_law_any_row" 2 2 m__law_any_row) (C__law_text_of : Fn true false P w K mg base "_law_text_of" 2 1 m__law_text_of) (C__law_bent_text : Fn true false P w K mg base "_law_bent_text" 2 2 m__law_bent_text) (C__law_read : Fn true false P w K mg base "_law_read" 3 1 m__law_read) (C__law_why_text : Fn false false P w K mg base "_law_why_text" 7 1 m__law_why_text) (C__law_same : Fn true false P w K mg base "_law_same" 8 2 m__law_same) : FnOk P w K mg base (CXk false P w) 9 f fd ["_law_script"] (spD false K 1 m_law) := by
  have sc := sc_law
  refine def_ok (n := 9) FD sc rfl fun cdv A outer s H E hr => ?_
  have tk : Tk false (cxOf (CXk false P w) P w K mg base N_law "law" (defScope s_law) f cdv A outer s H E) _ := L2.takes_of (X := cxOf (CXk false P w) P w K mg base N_law "law" (defScope s_law) f cdv A outer s H E) rfl rfl rfl rfl
  have hp := passes_of (X := cxOf (CXk false P w) P w K mg base N_law "law" (defScope s_law) f cdv A outer s H E) rfl
  exact (cs_cons (cs_set (i := 1) sc.nd (c_f (cf_call C__law_feed tk hr (by omega) (ca_cons (c_var 0) (ca_cons c_int ca_nil rfl) rfl) rfl rfl (by decide) rfl rfl (la_cons (la_cons la_nil)))) rfl (Or.inl rfl) rfl (.inl rfl))
      (cs_cons (cs_set (i := 2) sc.nd (c_f (cf_call C__law_names tk hr (by omega) (ca_cons (c_f (cf_sl (c_var 1) (co_some c_int) co_none)) (ca_cons c_int ca_nil rfl) rfl) rfl rfl (by decide) rfl rfl (la_cons (la_cons la_nil)))) rfl (Or.inl rfl) rfl (.inl rfl))
      (cs_cons (cs_for (tvs := [3]) hp (ci_ran1 T.range c_int rfl rfl) (cg_name 3 sc.nd) (cs_cons (cs_set (i := 4) sc.nd (c_e (c_call C__law_text_of tk hr (by omega) (ca_cons (c_e (c_call C__law_any_row tk hr (by omega) (ca_cons (c_f (cf_sl (c_var 1) (co_some (c_op op_addA os_add c_int (c_op op_mulA os_mul' c_int (c_var 3)))) co_none)) (ca_cons (c_var 2) ca_nil rfl) rfl) rfl rfl (by decide) rfl rfl (la_cons (la_cons la_nil)))) ca_nil rfl) rfl rfl (by decide) rfl rfl (la_cons la_nil))) rfl (Or.inl rfl) rfl (.inl rfl))
      (cs_cons (cs_for (tvs := [5]) hp (ci_ran1 T.range (c_ix (c_f (cf_lst (ca_cons c_int (ca_cons c_int (ca_cons c_int (ca_cons c_int (ca_cons c_int ca_nil rfl) rfl) rfl) rfl) rfl))) (c_op op_mod os_mod (c_ix (c_var 1) (c_op op_addA os_add c_int (c_var 3)) (fun _ _ => rfl)) c_int) (fun _ _ => rfl)) rfl rfl) (cg_name 5 sc.nd) (cs_one (cs_set (i := 4) sc.nd (c_e (c_call C__law_bent_text tk hr (by omega) (ca_cons (c_var 4) (ca_cons (c_f (cf_sl (c_var 1) (co_some (c_op op_addA os_add (c_op op_addA os_add c_int (c_op op_mulA os_mul' c_int (c_var 3))) (c_op op_mulA os_mul' c_int (c_var 5)))) co_none)) ca_nil rfl) rfl) rfl rfl (by decide) rfl rfl (la_cons (la_cons la_nil)))) rfl (Or.inl rfl) rfl (.inl rfl))) rfl (fun _ => rfl))
      (cs_cons (cs_set (i := 6) sc.nd (c_e (c_call C__law_read tk hr (by omega) (ca_cons (c_var 4) ca_nil rfl) rfl rfl (by decide) rfl rfl (la_cons la_nil))) rfl (Or.inl rfl) rfl (.inl rfl))
      (cs_cons (cs_asg (tvs := [7, 8]) (cg_tup (cgs_cons (cg_name 7 sc.nd) (cgs_cons (cg_name 8 sc.nd) cgs_nil rfl) rfl) rfl rfl rfl) (c_e (c_call C__law_why_text tk hr (by omega) (ca_cons (c_var 4) ca_nil rfl) rfl rfl (by decide) rfl rfl (la_cons la_nil))) rfl rfl rfl)
      (cs_cons (cs_if (PW.pt (cw_and (ct_isN (c_var 6)) (cw_and1 (ct_cmp (op_neA hr) os_ne (c_var 7) (c_f (cf_lst (ca_cons c_bl (ca_cons c_bl (ca_cons c_bl (ca_cons c_bl (ca_cons c_bl ca_nil rfl) rfl) rfl) rfl) rfl))) (nomark _))))) (cs_one (cs_ret c_bl)) cs_nil)
      (cs_one (cs_if (PW.pt (cw_and (ct_notN (c_var 6)) (cw_and1 (PW.pt (cw_or (ct_cmp (op_neA hr) os_ne (c_var 7) (c_f (cf_lst ca_nil)) (nomark _)) (cw_or1 (ct_not (ct_val (c_e (c_call C__law_same tk hr (by omega) (ca_cons (c_var 8) (ca_cons (c_var 6) ca_nil rfl) rfl) rfl rfl (by decide) rfl rfl (la_cons (la_cons la_nil)))) (fun _ => rfl))))))))) (cs_one (cs_ret c_bl)) cs_nil))))))) rfl (fun _ => rfl))
      (cs_one (cs_ret c_bl)))))
end
theorem facts {P : Program} {w : World} {K : PySem.W.Frag} {h : Heap} {mg : Str → Option Value} {f : Addr} (X : K.In h) (G : h.Ns mainGlobals mg) (hfa : mg ("law" : Str) = some (.ref f)) (cb : SaysB fas fns tbs xfs tss w K) :
    ∃ fd : FuncData, (∀ (s : Shared) (v : Value), BindsTo s fd ⟨[v], []⟩ [("_law_script", v)]) ∧ ∀ base : Heap, K.In base → base.Ns mainGlobals mg → FnOk P w K mg base (CXk false P w) 9 f fd ["_law_script"] (spD false K 1 m_law) := by
  have cx := cb.x
  have c0 := cx.m
  have c := c0.d
  have T : Tx K mg w := ⟨He.free_ok X G (c.fact 0 rfl), He.free_ok X G (c.fact 1 rfl), He.free_ok X G (c.fact 2 rfl), He.free_ok X G (c.fact 3 rfl), He.free_ok X G (c.fact 4 rfl), He.free_ok X G (c.fact 5 rfl), He.free_ok X G (c.fact 6 rfl), He.free_ok X G (c.fact 7 rfl), He.free_ok X G (c.fact 8 rfl), He.free_ok X G (c.fact 9 rfl), He.free_ok X G (c.fact 10 rfl), He.free_ok X G (c.fact 11 rfl), He.free_ok X G (c.fact 12 rfl), He.str_ok X G (c.fact 13 rfl), He.str_ok X G (c.fact 14 rfl), He.int_ok X G (c.fact 15 rfl), He.int_ok X G (c.fact 16 rfl), gtup_mk (He.glo_ok X G (c.fact 17 rfl)) (c0.tup 0 rfl) (by rfl), ⟨He.glo_ok X G (c.fact 18 rfl), He.exc_ok (c.fact 19 rfl)⟩, He.glo_ok X G (c.fact 20 rfl), He.glo_ok X G (c.fact 21 rfl), He.glo_ok X G (c.fact 18 rfl), He.glo_ok X G (c.fact 22 rfl), He.exm_ok (c.fact 23 rfl), He.exm_ok (c.fact 24 rfl), He.exm_ok (c.fact 25 rfl), exq_ok (cx.x 0 rfl), exq_ok (cx.x 1 rfl), kit_ok (cx.x 2 rfl), kit_ok (cx.x 3 rfl), kit_ok (cx.x 4 rfl), kit_ok (cx.x 5 rfl), kit_ok (cx.x 6 rfl), kit_ok (cx.x 7 rfl), kitb_ok (cx.x 8 rfl), kitb_ok (cx.x 9 rfl), (He.noat_ok (c.fact 26 rfl)), gtab_mk cb 0 (He.glo_ok X G (c.fact 27 rfl))⟩
  obtain ⟨fd__law_feed, F__law_feed⟩ := c.def_ 0 rfl
  have C__law_feed : ∀ base : Heap, Fn true true P w K mg base "_law_feed" 1 2 m__law_feed := fun base => t__law_feed T F__law_feed (He.glo_ok X G (c.fact 28 rfl)) 
  obtain ⟨fd__law_names, F__law_names⟩ := c.def_ 1 rfl
  have C__law_names : ∀ base : Heap, Fn true true P w K mg base "_law_names" 1 2 m__law_names := fun base => t__law_names T F__law_names (He.glo_ok X G (c.fact 29 rfl)) 
  obtain ⟨fd__law_kinds, F__law_kinds⟩ := c.def_ 2 rfl
  have C__law_kinds : ∀ base : Heap, Fn true true P w K mg base "_law_kinds" 1 0 m__law_kinds := fun base => t__law_kinds T F__law_kinds (He.glo_ok X G (c.fact 30 rfl)) 
  obtain ⟨fd__law_shapes, F__law_shapes⟩ := c.def_ 3 rfl
  have C__law_shapes : ∀ base : Heap, Fn true true P w K mg base "_law_shapes" 1 0 m__law_shapes := fun base => t__law_shapes T F__law_shapes (He.glo_ok X G (c.fact 31 rfl)) 
  obtain ⟨fd__law_any_row, F__law_any_row⟩ := c.def_ 4 rfl
  have C__law_any_row : ∀ base : Heap, Fn true false P w K mg base "_law_any_row" 2 2 m__law_any_row := fun base => t__law_any_row T F__law_any_row (He.glo_ok X G (c.fact 32 rfl)) (C__law_kinds base) (C__law_shapes base)
  obtain ⟨fd__law_word_of, F__law_word_of⟩ := c.def_ 5 rfl
  have C__law_word_of : ∀ base : Heap, Fn true false P w K mg base "_law_word_of" 1 1 m__law_word_of := fun base => t__law_word_of T F__law_word_of (He.glo_ok X G (c.fact 33 rfl)) 
  obtain ⟨fd__law_text_of, F__law_text_of⟩ := c.def_ 6 rfl
  have C__law_text_of : ∀ base : Heap, Fn true false P w K mg base "_law_text_of" 2 1 m__law_text_of := fun base => t__law_text_of T F__law_text_of (He.glo_ok X G (c.fact 34 rfl)) (C__law_word_of base)
  obtain ⟨fd__law_sign_of, F__law_sign_of⟩ := c.def_ 7 rfl
  have C__law_sign_of : ∀ base : Heap, Fn true false P w K mg base "_law_sign_of" 1 1 m__law_sign_of := fun base => t__law_sign_of T F__law_sign_of (He.glo_ok X G (c.fact 35 rfl)) 
  obtain ⟨fd__law_bent_text, F__law_bent_text⟩ := c.def_ 8 rfl
  have C__law_bent_text : ∀ base : Heap, Fn true false P w K mg base "_law_bent_text" 2 2 m__law_bent_text := fun base => t__law_bent_text T F__law_bent_text (He.glo_ok X G (c.fact 36 rfl)) (C__law_sign_of base)
  obtain ⟨fd__law_number, F__law_number⟩ := c.def_ 9 rfl
  have C__law_number : ∀ base : Heap, Fn true false P w K mg base "_law_number" 1 1 m__law_number := fun base => t__law_number T F__law_number (He.glo_ok X G (c.fact 37 rfl)) 
  obtain ⟨fd__law_named, F__law_named⟩ := c.def_ 10 rfl
  have C__law_named : ∀ base : Heap, Fn true false P w K mg base "_law_named" 1 1 m__law_named := fun base => t__law_named T F__law_named (He.glo_ok X G (c.fact 38 rfl)) 
  obtain ⟨fd__law_good, F__law_good⟩ := c.def_ 11 rfl
  have C__law_good : ∀ base : Heap, Fn true false P w K mg base "_law_good" 2 1 m__law_good := fun base => t__law_good T F__law_good (He.glo_ok X G (c.fact 39 rfl)) (C__law_shapes base) (C__law_named base)
  obtain ⟨fd__law_read, F__law_read⟩ := c.def_ 12 rfl
  have C__law_read : ∀ base : Heap, Fn true false P w K mg base "_law_read" 3 1 m__law_read := fun base => t__law_read T F__law_read (He.glo_ok X G (c.fact 40 rfl)) (C__law_shapes base) (C__law_number base) (C__law_good base)
  obtain ⟨fd_NoText___init__, F_NoText___init__⟩ := c.def_ 13 rfl
  have C_NoText___init__ : ∀ base : Heap, ExI P w K mg base "NoText" 1 := fun base => t_NoText___init__ T F_NoText___init__ (He.glo_ok X G (c.fact 22 rfl)) (He.meth_ok (c.fact 41 rfl)) (oex_ok (cx.x 10 rfl)) (He.noat_ok (c.fact 26 rfl)) 
  obtain ⟨fd_number_of_v2, F_number_of_v2⟩ := c.def_ 14 rfl
  have C_number_of_v2 : ∀ base : Heap, Fn false false P w K mg base "number_of" 4 1 m_number_of_v2 := fun base => t_number_of_v2 T F_number_of_v2 (He.glo_ok X G (c.fact 42 rfl)) (C_NoText___init__ base)
  obtain ⟨fd_thing_of_v2, F_thing_of_v2⟩ := c.def_ 15 rfl
  have C_thing_of_v2 : ∀ base : Heap, Fn false false P w K mg base "thing_of" 5 2 m_thing_of_v2 := fun base => t_thing_of_v2 T F_thing_of_v2 (He.glo_ok X G (c.fact 43 rfl)) (C_number_of_v2 base) (C_NoText___init__ base)
  obtain ⟨fd_is_name, F_is_name⟩ := c.def_ 16 rfl
  have C_is_name : ∀ base : Heap, Fn true false P w K mg base "is_name" 1 1 m_is_name := fun base => t_is_name T F_is_name (He.glo_ok X G (c.fact 44 rfl)) 
  obtain ⟨fd_fits, F_fits⟩ := c.def_ 17 rfl
  have C_fits : ∀ base : Heap, Fn true false P w K mg base "fits" 2 2 m_fits := fun base => t_fits T F_fits (He.glo_ok X G (c.fact 45 rfl)) (C_is_name base)
  obtain ⟨fd_check_row, F_check_row⟩ := c.def_ 18 rfl
  have C_check_row : ∀ base : Heap, Fn true false P w K mg base "check_row" 3 1 m_check_row := fun base => t_check_row T F_check_row (He.glo_ok X G (c.fact 46 rfl)) (C_fits base)
  obtain ⟨fd_read_row_v2, F_read_row_v2⟩ := c.def_ 19 rfl
  have C_read_row_v2 : ∀ base : Heap, Fn false false P w K mg base "read_row" 6 1 m_read_row_v2 := fun base => t_read_row_v2 T F_read_row_v2 (He.glo_ok X G (c.fact 47 rfl)) (C_NoText___init__ base) (C_thing_of_v2 base) (C_check_row base)
  obtain ⟨fd__law_same_hot, F__law_same_hot⟩ := c.def_ 20 rfl
  have C__law_same_hot : ∀ base : Heap, FnHot true P w K mg base "_law_same" 1 2 m__law_same_hot := fun base => t__law_same_hot T F__law_same_hot (He.glo_ok X G (c.fact 48 rfl)) 
  obtain ⟨fd__law_why_text, F__law_why_text⟩ := c.def_ 21 rfl
  have C__law_why_text : ∀ base : Heap, Fn false false P w K mg base "_law_why_text" 7 1 m__law_why_text := fun base => t__law_why_text T F__law_why_text (He.glo_ok X G (c.fact 49 rfl)) (C_read_row_v2 base) (C__law_same_hot base)
  obtain ⟨fd__law_same, F__law_same⟩ := c.def_ 22 rfl
  have C__law_same : ∀ base : Heap, Fn true false P w K mg base "_law_same" 8 2 m__law_same := fun base => t__law_same T F__law_same (He.glo_ok X G (c.fact 48 rfl)) 
  obtain ⟨fd_law, F_law⟩ := c.def_ 23 rfl
  have e := hfa.symm.trans (He.glo_ok X G (c.fact 50 rfl))
  cases e
  have b := FunD.bindsA (ps := ["_law_script"]) F_law fun _ _ _ _ _ _ us hl => match us, hl with | [_], _ => rfl
  refine ⟨fd_law, fun s v => b s [v] rfl, fun base _ _ => ?_⟩
  exact o_law (P := P) (w := w) (base := base) T F_law (C__law_feed base) (C__law_names base) (C__law_any_row base) (C__law_text_of base) (C__law_bent_text base) (C__law_read base) (C__law_why_text base) (C__law_same base)
end MR
open PySem PySem.W PySem.Calls PyProof.Rows
theorem PySem.Challenge.cw_manrent_k51_rows_read_or_refused_holds : PySem.Challenge.rw_manrent_k51_rows_read_or_refused.Holds := by
  w_on; o_law
  refine HandSHeadRun.head_any (r := MR.R) (q := view MR.R.prog [35]) (H := MR.hk) (ob := MR.ob) (M := 4000) (loose := MR.loose) (d := HandSHeadRun.topDef MR.R.prog 35) (kwd := []) MR.ob_eq
    (by kernel_rfl) (fun s => by kernel_rfl) MR.run (by kernel_rfl) (by kernel_rfl) (by kernel_rfl) (by rfl) (by first | assumption | decide +kernel) (by decide +kernel) ⟨rfl, rfl, rfl, rfl, rfl, by decide +kernel⟩ ?hw ?hc
  case hw => w_witness2
  case hc =>
    refine L2.walk_ofE (l := PySem.Challenge.rw_manrent_k51_rows_read_or_refused) (n := 63) (k := 9) (x := "_law_script") (CX := fun a b c d e f => ∃ kb w, MR.CXk kb (PySem.Challenge.rw_manrent_k51_rows_read_or_refused).prog w a b c d e f) rfl (by decide) (by kernel_rfl) ⟨rfl, by decide, by decide⟩ ?F ?G
    case F =>
      intro w mg fa h Y G hmg0
      obtain ⟨K, KX, c⟩ := Y
      have hmg : mg ("law" : PySem.Str) = some (.ref fa) := by
        have e : (HandSHeadRun.topDef MR.R.prog 35).name = ("law" : PySem.Str) := by kernel_rfl
        rw [← e]
        exact hmg0
      obtain ⟨fd, hb, hF⟩ := MR.facts (P := (PySem.Challenge.rw_manrent_k51_rows_read_or_refused).prog) (w := w) KX G hmg c
      exact ⟨K, fd, MR.spD false K 1 MR.m_law, KX, hb, fun H a ns hl _ hS => MR.law_sp MR.law_true H a ns hl hS, fun base k1 k2 => MR.fnok_w (hF base k1 k2)⟩
    case G =>
      intro H s e s' ⟨kb, w, z⟩
      exact MR.cxk_no z
