import PyProof.Rows.All
import Wide.All
import OpenK.AllK
import Wide.FinOn
import HandS.ForMost
import HandS.Style
import HandS.IsInst
import KE.SortKeyHeap
import HandS.Text
import HandS.TupAny
import HandS.Wide
import HandS.SortKw
import HandS.WordsDict
import HandS.More
import KE.DataMinMax
import HandS.SetKeys
import HandS.Walk
import HandS.Defaults
import HandS.MakeKwOnly
import HandS.ExcValue
import HandS.Flow
import HandS.RaiseMore
import HandS.Exc
import PyProof.ExcBaseAll.LookupError
import PyProof.ExcBaseAll.IndexError
import PyProof.ExcBaseAll.ArithmeticError
import PyProof.Rows.FactsExc_KeyError
import HandS.ExcInit
import HandS.ExcOwn
import HandS.WordsExc
import KE.KStateDown
import HandS.Base
import HandS.Call
import HandS.Ends
import HandS.Words
import HandS.Head0
import HandS.Head1
import HandS.Head2
import HandS.HeadEnd
import HandS.HeadHook1
import HandS.HeadHook2
import PySem.Challenge.RW_promptworks_k05_right_sides
set_option Elab.async false
set_option linter.all false
set_option maxRecDepth 100000
/-! DL: values as trees over the hand layer. -/
namespace DL
open PySem L2

/-- a value as a tree; .loc: what may change, by its address -/
inductive D where
  | non | bl (b : Bool) | int (i : Int) | str (s : Str) | ty (n : String)
  | tup (ds : List D) | lst (ds : List D)
  | obj (c : Nat) (fs : List D)
  | dct (ks : List Key) (ds : List D)
  | loc (a : Addr)
  | scr (ns : List Int)
  | kemp (i : Nat)

/-- contents of what may change -/
inductive CO where
  | L (ds : List D)
  | K (ks : List Key) (ds : List D)
/-- what a slot holds -/
inductive LV where
  | no | val (d : D) | own (c : CO)
/-- an object that may change -/
inductive MO where
  | co (c : CO)
  | obj (c : Nat) (fs : List D)
abbrev Env := List LV
abbrev Mem := Addr → Option MO
/-- the promise of a def, over trees -/
abbrev DSp := List D → Mem → (D → Mem → Prop) → Prop

/-- what can be called: a global name, or a method of a class; so many positional arguments, these keywords -/
structure Ent where
  x : String
  npos : Nat
  kws : List String
  cls : Nat
def Ent.nkw (e : Ent) : Nat := e.kws.length
/-- the text's table -/
structure Tab where
  attr : Nat → String
  cname : Nat → String
  cfs : Nat → List Nat
  ent : Nat → Ent
  sp : Nat → DSp
  glb : Nat → String × D

/-- addresses of classes, names of attributes -/
structure Nam where
  cad : Nat → Addr
  nms : Nat → List Str
  emp : Nat → Option Addr
  kl : Addr → List Int → Prop

mutual
def Rep (N : Nam) (F : Hp) : D → V → Prop
  | .non, v => v = .non
  | .bl b, v => v = .bl b
  | .int i, v => v = .int i
  | .str s, v => v = .str s
  | .ty n, v => v = .ty n
  | .loc a, v => v = .ref a
  | .kemp i, v => ∃ a, N.emp i = some a ∧ v = .ref a
  | .scr ns, v => ∃ a, v = .ref a ∧ (Rd F a (.lst (ns.map V.int)) ∨ N.kl a ns) ∧ ns.length ≤ sizeLine
  | .tup ds, v => ∃ a vs, v = .ref a ∧ F a = some (.tup vs) ∧ vs.length ≤ sizeLine ∧ Reps N F ds vs
  | .lst ds, v => ∃ a vs, v = .ref a ∧ F a = some (.lst vs) ∧ vs.length ≤ sizeLine ∧ Reps N F ds vs
  | .obj c ds, v => ∃ a dx vs, v = .ref a ∧ F a = some (.ins (N.cad c) dx ((N.nms c).zip vs)) ∧ (N.nms c).length = vs.length ∧ Reps N F ds vs
  | .dct ks ds, v => ∃ a vs, v = .ref a ∧ F a = some (.dK (ks.zip vs)) ∧ ks.length = vs.length ∧ vs.length ≤ sizeLine ∧ ks.Nodup ∧ Reps N F ds vs
def Reps (N : Nam) (F : Hp) : List D → List V → Prop
  | [], vs => vs = []
  | d :: ds, vs => ∃ v r, vs = v :: r ∧ Rep N F d v ∧ Reps N F ds r
end

section
variable {N : Nam} {F F' : Hp}
def Le (F F' : Hp) : Prop := ∀ a o, F a = some o → F' a = some o
theorem Le.refl (F : Hp) : Le F F := fun _ _ h => h
theorem Le.trans {F1 : Hp} (a : Le F F') (b : Le F' F1) : Le F F1 := fun x o h => b x o (a x o h)
mutual
theorem Rep.mono (h : Le F F') : ∀ {d : D} {v : V}, Rep N F d v → Rep N F' d v
  | .non, v, r => by unfold Rep at r ⊢; exact r
  | .bl b, v, r => by unfold Rep at r ⊢; exact r
  | .int i, v, r => by unfold Rep at r ⊢; exact r
  | .str s, v, r => by unfold Rep at r ⊢; exact r
  | .ty n, v, r => by unfold Rep at r ⊢; exact r
  | .loc a, v, r => by unfold Rep at r ⊢; exact r
  | .kemp i, v, r => by unfold Rep at r ⊢; exact r
  | .scr ns, v, r => by
    unfold Rep at r ⊢
    obtain ⟨a, e, (f | ⟨o, f⟩) | g, z⟩ := r
    · exact ⟨a, e, .inl (.inl (h _ _ f)), z⟩
    · exact ⟨a, e, .inl (.inr ⟨o, h _ _ f⟩), z⟩
    · exact ⟨a, e, .inr g, z⟩
  | .tup ds, v, r => by
    unfold Rep at r ⊢
    obtain ⟨a, vs, e, f, z, q⟩ := r
    exact ⟨a, vs, e, h _ _ f, z, Reps.mono h q⟩
  | .lst ds, v, r => by
    unfold Rep at r ⊢
    obtain ⟨a, vs, e, f, z, q⟩ := r
    exact ⟨a, vs, e, h _ _ f, z, Reps.mono h q⟩
  | .obj c ds, v, r => by
    unfold Rep at r ⊢
    obtain ⟨a, dx, vs, e, f, z, q⟩ := r
    exact ⟨a, dx, vs, e, h _ _ f, z, Reps.mono h q⟩
  | .dct ks ds, v, r => by
    unfold Rep at r ⊢
    obtain ⟨a, vs, e, f, z, z2, nd, q⟩ := r
    exact ⟨a, vs, e, h _ _ f, z, z2, nd, Reps.mono h q⟩
theorem Reps.mono (h : Le F F') : ∀ {ds : List D} {vs : List V}, Reps N F ds vs → Reps N F' ds vs
  | [], vs, r => by unfold Reps at r ⊢; exact r
  | d :: ds, vs, r => by
    unfold Reps at r ⊢
    obtain ⟨v, r', e, q, t⟩ := r
    exact ⟨v, r', e, Rep.mono h q, Reps.mono h t⟩
end
theorem reps_nil {vs : List V} : Reps N F [] vs ↔ vs = [] := by unfold Reps; exact Iff.rfl
theorem reps_cons {d : D} {ds : List D} {vs : List V} : Reps N F (d :: ds) vs ↔ ∃ v r, vs = v :: r ∧ Rep N F d v ∧ Reps N F ds r := by
  constructor
  · intro h; unfold Reps at h; exact h
  · intro h; unfold Reps; exact h
theorem Reps.length : ∀ {ds : List D} {vs : List V}, Reps N F ds vs → vs.length = ds.length
  | [], vs, r => by rw [reps_nil] at r; subst r; rfl
  | d :: ds, vs, r => by
    rw [reps_cons] at r
    obtain ⟨v, t, rfl, _, q⟩ := r
    simp [Reps.length q]
theorem Reps.get : ∀ {ds : List D} {vs : List V} {i : Nat} {d : D}, Reps N F ds vs → ds[i]? = some d → ∃ v, vs[i]? = some v ∧ Rep N F d v
  | [], _, _, _, _, e => by simp at e
  | d :: ds, vs, 0, x, r, e => by
    rw [reps_cons] at r
    obtain ⟨v, t, rfl, q, _⟩ := r
    simp at e; subst e
    exact ⟨v, rfl, q⟩
  | d :: ds, vs, i + 1, x, r, e => by
    rw [reps_cons] at r
    obtain ⟨v, t, rfl, _, q⟩ := r
    obtain ⟨u, h1, h2⟩ := Reps.get (i := i) (d := x) q (by simpa using e)
    exact ⟨u, by simpa using h1, h2⟩
theorem Reps.get' : ∀ {ds : List D} {vs : List V} {i : Nat} {v : V}, Reps N F ds vs → vs[i]? = some v → ∃ d, ds[i]? = some d ∧ Rep N F d v
  | [], vs, _, _, r, e => by rw [reps_nil] at r; subst r; simp at e
  | d :: ds, vs, 0, x, r, e => by
    rw [reps_cons] at r
    obtain ⟨v, t, rfl, q, _⟩ := r
    simp at e; subst e
    exact ⟨d, rfl, q⟩
  | d :: ds, vs, i + 1, x, r, e => by
    rw [reps_cons] at r
    obtain ⟨v, t, rfl, _, q⟩ := r
    obtain ⟨u, h1, h2⟩ := Reps.get' (i := i) (v := x) q (by simpa using e)
    exact ⟨u, by simpa using h1, h2⟩
theorem Reps.append : ∀ {ds es : List D} {vs us : List V}, Reps N F ds vs → Reps N F es us → Reps N F (ds ++ es) (vs ++ us)
  | [], es, vs, us, r, s => by rw [reps_nil] at r; subst r; exact s
  | d :: ds, es, vs, us, r, s => by
    rw [reps_cons] at r
    obtain ⟨v, t, rfl, q, w⟩ := r
    exact reps_cons.mpr ⟨v, t ++ us, rfl, q, Reps.append w s⟩
theorem Reps.one {d : D} {v : V} (r : Rep N F d v) : Reps N F [d] [v] := reps_cons.mpr ⟨v, [], rfl, r, reps_nil.mpr rfl⟩
theorem Reps.drop : ∀ {ds : List D} {vs : List V} (n : Nat), Reps N F ds vs → Reps N F (ds.drop n) (vs.drop n)
  | _, _, 0, r => r
  | [], vs, n + 1, r => by rw [reps_nil] at r; subst r; exact reps_nil.mpr rfl
  | d :: ds, vs, n + 1, r => by
    rw [reps_cons] at r
    obtain ⟨v, t, rfl, _, w⟩ := r
    exact Reps.drop n w
theorem Reps.take : ∀ {ds : List D} {vs : List V} (n : Nat), Reps N F ds vs → Reps N F (ds.take n) (vs.take n)
  | _, _, 0, r => reps_nil.mpr rfl
  | [], vs, n + 1, r => by rw [reps_nil] at r; subst r; exact reps_nil.mpr rfl
  | d :: ds, vs, n + 1, r => by
    rw [reps_cons] at r
    obtain ⟨v, t, rfl, q, w⟩ := r
    exact reps_cons.mpr ⟨v, t.take n, rfl, q, Reps.take n w⟩
theorem Reps.set : ∀ {ds : List D} {vs : List V} {d : D} {v : V} (i : Nat), Rep N F d v → Reps N F ds vs → Reps N F (ds.set i d) (vs.set i v)
  | [], vs, d, v, i, _, r => by rw [reps_nil] at r; subst r; exact reps_nil.mpr rfl
  | x :: ds, vs, d, v, 0, q, r => by
    rw [reps_cons] at r
    obtain ⟨y, t, rfl, _, w⟩ := r
    exact reps_cons.mpr ⟨v, t, rfl, q, w⟩
  | x :: ds, vs, d, v, i + 1, q, r => by
    rw [reps_cons] at r
    obtain ⟨y, t, rfl, p, w⟩ := r
    exact reps_cons.mpr ⟨y, t.set i v, rfl, p, Reps.set i q w⟩
theorem Reps.reverse {ds : List D} {vs : List V} (r : Reps N F ds vs) : Reps N F ds.reverse vs.reverse := by
  induction ds generalizing vs with
  | nil => rw [reps_nil] at r; subst r; exact reps_nil.mpr rfl
  | cons d ds ih =>
    rw [reps_cons] at r
    obtain ⟨v, t, rfl, q, w⟩ := r
    rw [List.reverse_cons, List.reverse_cons]
    exact (ih w).append (.one q)
theorem Reps.eraseIdx : ∀ {ds : List D} {vs : List V} (i : Nat), Reps N F ds vs → Reps N F (ds.eraseIdx i) (vs.eraseIdx i)
  | [], vs, i, r => by rw [reps_nil] at r; subst r; exact reps_nil.mpr rfl
  | x :: ds, vs, 0, r => by
    rw [reps_cons] at r
    obtain ⟨y, t, rfl, _, w⟩ := r
    exact w
  | x :: ds, vs, i + 1, r => by
    rw [reps_cons] at r
    obtain ⟨y, t, rfl, p, w⟩ := r
    exact reps_cons.mpr ⟨y, t.eraseIdx i, rfl, p, Reps.eraseIdx i w⟩
end

/-! ### the state -/
def CoOk (N : Nam) (F H : Hp) (p : Addr) : CO → Prop
  | .L ds => ∃ vs, H p = some (.lst vs) ∧ vs.length ≤ sizeLine ∧ Reps N F ds vs
  | .K ks ds => ∃ vs, H p = some (.dK (ks.zip vs)) ∧ ks.length = vs.length ∧ vs.length ≤ sizeLine ∧ ks.Nodup ∧ Reps N F ds vs
def LvOk (N : Nam) (F H : Hp) (ow : Addr → Option Nat) (i : Nat) (v : Option V) : LV → Prop
  | .no => True
  | .val d => ∃ u, v = some u ∧ Rep N F d u
  | .own c => ∃ p, v = some (.ref p) ∧ ow p = some i ∧ CoOk N F H p c
def MoOk (N : Nam) (F H : Hp) (a : Addr) : MO → Prop
  | .co c => CoOk N F H a c
  | .obj c fs => ∃ dx vs, H a = some (.ins (N.cad c) dx (((N.nms c).take vs.length).zip vs)) ∧ vs.length ≤ (N.nms c).length ∧ Reps N F fs vs

/-- the entry of the def that runs -/
structure Ety where
  H_0 : Hp
  M_0 : Mem
  F_0 : Hp
structure Sim (N : Nam) (Z : Ety) (F : Hp) (ρ : Env) (M : Mem) (σ : St) (H : Hp) : Prop where
  sub : ∀ a o, F a = some o → H a = some o
  le0 : Le Z.F_0 F
  mf : ∀ a mo, M a = some mo → F a = none
  mem : ∀ a mo, M a = some mo → MoOk N F H a mo
  mnew : ∀ a mo, M a = some mo → Z.M_0 a = none → Z.H_0 a = none
  fnew : ∀ a o, F a = some o → Z.F_0 a = none → Z.M_0 a = none → Z.H_0 a = none
  keep : ∀ a o, Z.H_0 a = some o → Z.M_0 a = none → H a = some o
  there : ∀ a o, Z.H_0 a = some o → ∃ o', H a = some o'
  own : ∃ ow : Addr → Option Nat, (∀ p i, ow p = some i → F p = none ∧ M p = none ∧ Z.H_0 p = none ∧ ∃ o, H p = some o) ∧
    ∀ i lv, ρ[i]? = some lv → LvOk N F H ow i (σ[i]?.bind id) lv
  len : ρ.length = σ.length
end DL

set_option Elab.async false
set_option linter.all false
set_option maxRecDepth 100000
namespace DL
open PySem L2

inductive BOp where | add | sub | mul | fdiv | mod | pow deriving DecidableEq
inductive COp where | lt | le | gt | ge | eq | ne | isin | notin | isN | notN | isB deriving DecidableEq
/-- methods that change a container -/
inductive PM where | append | extend | popAt | clear | setdefault deriving DecidableEq

/-- built-in functions -/
inductive BI where | len | abs | max2 | min2 | maxL | minL | maxD | minD | sum | sorted | sortedS | sortedDI | sortedDS | list | tuple | all | any | dictP | dictC | intB | repr deriving DecidableEq
/-- built-in methods that change nothing -/
inductive BM where | join | index | upper | get1 | get2 deriving DecidableEq
/-- classes for isinstance -/
inductive Ty where | b (x : String) | c (k : Nat)

inductive T where
  | nil | cons (a r : T)
  | var (i : Nat) | glob (k : Nat) | int (k : Int) | str (s : Str) | bl (b : Bool) | non
  | bin (o : BOp) (a b : T) | neg (a : T)
  | cmp (o : COp) (a b : T) | chain (o p : COp) (a b c : T)
  | and (a b : T) | or (a b : T) | not (a : T) | ife (c a b : T)
  | tup (r : T) | lst (r : T) | dnew
  | idx (a b : T) | prt (a : T) | sl (a lo hi : T) | rev (a : T) | stp (a s : T)
  | attr (a : T) (f : Nat)
  | call (k : Nat) (r : T) | callK (k : Nat) (r : T) (kw : T) | meth (k : Nat) (o : T) (r : T)
  | bi (x : BI) (r : T)
  | bm (x : BM) (o : T) (r : T)
  | isi (a : T) (ts : List Ty)
  | comp (own : List Nat) (tg it ifs el : T)
  | comp2 (own own2 : List Nat) (tg it ifs tg2 it2 ifs2 el : T)
  | disp (ks : List Key) (r : T) | lenSet (a : T) | lenSetO (i : Nat) | sortedK (k : Nat) (a : T)
  | idxO (i : Nat) (b : T) | lenO (i : Nat) | inO (neg : Bool) (a : T) (i : Nat)
  | pmO (m : PM) (i : Nat) (r : T) | pm (m : PM) (p : T) (r : T)
  | newM (e : T) | frz (e : T) | orV (a b : T)
  -- what is walked
  | it (e : T) | rng1 (a : T) | rng2 (a b : T) | enum (a : T) | zip (a b : T)
  -- targets
  | tname (i : Nat) | ttup (r : T)
  -- statements
  | skip | chk (i : Nat) | seq (s t : T) | sealS (i : Nat) (s : T)
  | setM (i : Nat) (e : T) | retM (e : T)
  | set (i : Nat) (e : T) | setO (i : Nat) (e : T) | asgT (tg e : T) | setIxO (i : Nat) (ix e : T) | setIx (p ix e : T) | setIx2 (p ix : T) (i : Nat) (ix2 e : T) | par2 (i j : Nat) (r : T) | par3 (i j k : Nat) (r : T) | setAt (o : T) (f : Nat) (e : T) | setAtO (o : T) (f : Nat) (e : T)
  | aug (i : Nat) (o : BOp) (e : T) | augAt (a : T) (f : Nat) (o : BOp) (e : T)
  | cond (c s t : T) | for (tg it body : T) | while (c body : T)
  | ret (e : T) | retN | expr (e : T) | brk | cnt | never

/-! ### values -/
def CO.tree : CO → D
  | .L ds => .lst ds
  | .K ks ds => .dct ks ds
def itemsOf : D → Option (List D)
  | .lst ds => some ds
  | .tup ds => some ds
  | .str s => some (s.cps.toList.map fun c => .str ⟨#[c]⟩)
  | .scr ns => some (ns.map .int)
  | .kemp _ => some []
  | _ => none
def strSz : D → Prop
  | .str s => s.length ≤ sizeLine
  | _ => True
def keyOf : D → Option Key
  | .int i => some (.inl i)
  | .str s => some (.inr s)
  | _ => none
def dget (ks : List Key) (ds : List D) (k : Key) : Option D := ((ks.zip ds).find? fun p => decide (p.1 = k)).map (·.2)
def dput : List Key → List D → Key → D → List Key × List D
  | k :: ks, d :: ds, j, x => if k = j then (k :: ks, x :: ds) else (k :: (dput ks ds j x).1, d :: (dput ks ds j x).2)
  | _, _, j, x => ([j], [x])
mutual
def toPy : D → Option PyData
  | .non => some .none
  | .bl b => some (.bool b)
  | .int i => some (.int i)
  | .str s => some (.str s)
  | .tup ds => (toPys ds).map .tuple
  | .lst ds => (toPys ds).map .list
  | _ => none
def toPys : List D → Option (List PyData)
  | [] => some []
  | d :: ds => match toPy d, toPys ds with
    | some x, some xs => some (x :: xs)
    | _, _ => none
end
mutual
/-- == of data -/
def deq : D → D → Bool
  | .non, .non => true
  | .bl a, .bl b => a == b
  | .bl a, .int j => (if a then 1 else 0) == j
  | .int i, .bl b => i == (if b then 1 else 0)
  | .int i, .int j => decide (i = j)
  | .str x, .str y => decide (x = y)
  | .lst xs, .lst ys => deqs xs ys
  | .tup xs, .tup ys => deqs xs ys
  | _, _ => false
def deqs : List D → List D → Bool
  | [], [] => true
  | x :: xs, y :: ys => deq x y && deqs xs ys
  | _, _ => false
end
mutual
def dep : D → Nat
  | .tup ds => deps ds + 1
  | .lst ds => deps ds + 1
  | _ => 0
def deps : List D → Nat
  | [] => 0
  | d :: ds => max (dep d) (deps ds)
end
mutual
def py : D → PyData
  | .non => .none
  | .bl b => .bool b
  | .int i => .int i
  | .str s => .str s
  | .tup ds => .tuple (pys ds)
  | .lst ds => .list (pys ds)
  | _ => .none
def pys : List D → List PyData
  | [] => []
  | d :: ds => py d :: pys ds
end
def scalD : D → Bool
  | .non => true | .bl _ => true | .int _ => true | .str _ => true | _ => false
mutual
def dat : D → Bool
  | .non => true | .bl _ => true | .int _ => true | .str s => s.cps.all (· < 1114112)
  | .tup ds => dats ds | .lst ds => dats ds
  | _ => false
def dats : List D → Bool
  | [] => true
  | d :: ds => dat d && dats ds
end
def eqOk (x y : D) : Bool := match x, y with
  | .str _, .str _ => true
  | x, y => dat x && dat y && decide (dep x ≤ 60) && decide (dep y ≤ 60)
def binP : BOp → D → D → (D → Prop) → Prop
  | .add, .int i, .int j, Q => Q (.int (i + j))
  | .add, .str i, .str j, Q => i.length + j.length ≤ sizeLine ∧ Q (.str (i ++ j))
  | .add, .lst i, .lst j, Q => i.length + j.length ≤ sizeLine ∧ Q (.lst (i ++ j))
  | .add, .tup i, .tup j, Q => i.length + j.length ≤ sizeLine ∧ Q (.tup (i ++ j))
  | .sub, .int i, .int j, Q => Q (.int (i - j))
  | .mul, .int i, .int j, Q => ((-(2 ^ 64) < i ∧ i < 2 ^ 64) ∨ (-(2 ^ 64) < j ∧ j < 2 ^ 64)) ∧ Q (.int (i * j))
  | .fdiv, .int i, .int j, Q => (0 < j ∧ (j < 1073741824 ∨ (i.natAbs < 2 ^ 200 ∧ j < 2 ^ 200))) ∧ Q (.int (i / j))
  | .mod, .int i, .int j, Q => 0 < j ∧ Q (.int (i % j))
  | .pow, .int i, .int j, Q => (0 ≤ j ∧ j ≤ 1000000 ∧ i.natAbs < 2 ^ 64) ∧ Q (.int (i ^ j.toNat))
  | _, _, _, _ => False
/-- ints alone -/
def binI (o : BOp) (x y : D) (Q : D → Prop) : Prop := (∃ i j, x = .int i ∧ y = .int j) ∧ binP o x y Q
def flatD : D → Bool
  | .non => true | .bl _ => true | .int _ => true | .str _ => true | _ => false
def isNon : D → Bool
  | .non => true | _ => false
def cmpP : COp → D → D → (Bool → Prop) → Prop
  | .lt, .int i, .int j, Q => Q (decide (i < j))
  | .le, .int i, .int j, Q => Q (decide (i ≤ j))
  | .gt, .int i, .int j, Q => Q (decide (j < i))
  | .ge, .int i, .int j, Q => Q (decide (j ≤ i))
  | .eq, x, y, Q => eqOk x y = true ∧ Q (deq x y)
  | .ne, x, y, Q => eqOk x y = true ∧ Q (!deq x y)
  | .isin, x, .lst ds, Q => (flatD x && ds.all flatD) = true ∧ Q (ds.any fun d => deq d x)
  | .isin, x, .tup ds, Q => (flatD x && ds.all flatD) = true ∧ Q (ds.any fun d => deq d x)
  | .isin, x, .dct ks ds, Q => ∃ k, keyOf x = some k ∧ Q (dget ks ds k).isSome
  | .isin, .str x, .str y, Q => Q (!(Builtin.Str.occurrences y x 0 y.length 1).isEmpty)
  | .notin, x, .lst ds, Q => (flatD x && ds.all flatD) = true ∧ Q (!ds.any fun d => deq d x)
  | .notin, x, .tup ds, Q => (flatD x && ds.all flatD) = true ∧ Q (!ds.any fun d => deq d x)
  | .notin, x, .dct ks ds, Q => ∃ k, keyOf x = some k ∧ Q (!(dget ks ds k).isSome)
  | .notin, .str x, .str y, Q => Q (!(!(Builtin.Str.occurrences y x 0 y.length 1).isEmpty))
  | .isN, x, .non, Q => Q (isNon x)
  | .notN, x, .non, Q => Q (!isNon x)
  | .isB, .bl a, .bl b, Q => Q (decide (a = b))
  | _, _, _, _ => False
def idxP : D → D → (D → Prop) → Prop
  | .lst ds, .int i, Q => ∃ d, atI ds i = some d ∧ Q d
  | .tup ds, .int i, Q => ∃ d, atI ds i = some d ∧ Q d
  | .str s, .int i, Q => ∃ c, s.length ≤ sizeLine ∧ atI s.cps.toList i = some c ∧ Q (.str ⟨#[c]⟩)
  | .dct ks ds, x, Q => ∃ k d, keyOf x = some k ∧ dget ks ds k = some d ∧ Q d
  | _, _, _ => False
def partOf : D → Option (Option Int)
  | .non => some none
  | .int i => some (some i)
  | _ => none
def cutD {α : Type} (xs : List α) (lo hi : Option Int) : List α := (xs.drop (HT.sIx xs.length 0 lo)).take (HT.sIx xs.length xs.length hi - HT.sIx xs.length 0 lo)
def slP : D → Option Int → Option Int → (D → Prop) → Prop
  | .lst ds, lo, hi, Q => Q (.lst (cutD ds lo hi))
  | .scr ns, lo, hi, Q => Q (.lst (cutD (ns.map .int) lo hi))
  | .tup ds, lo, hi, Q => Q (.tup (cutD ds lo hi))
  | .str s, lo, hi, Q => s.length ≤ sizeLine ∧ Q (.str (cutS s lo hi))
  | _, _, _, _ => False

def iteN : Nat → Prop → Prop → Prop
  | 0, _, B => B
  | 1, A, _ => A
  | n + 2, A, B => iteN n A B
/-! ### the state -/
structure En where
  nx : Env → Mem → Prop
  rt : D → Mem → Prop
  bk : Env → Mem → Prop
  ct : Env → Mem → Prop
abbrev WE := Env → Mem → (D → Env → Mem → Prop) → Prop
abbrev WA := Env → Mem → (List D → Env → Mem → Prop) → Prop
abbrev WS := Env → Mem → En → Prop
def wipeD (ρ : Env) : List Nat → Env
  | [] => ρ
  | v :: vs => (wipeD ρ vs).set v .no
def hideL : LV → LV
  | .own _ => .no
  | l => l
def hideD (ρ : Env) : Env := ρ.map hideL
def readP (ρ : Env) (i : Nat) (M : Mem) (Q : D → Env → Mem → Prop) : Prop :=
  match ρ[i]? with
  | some (.val d) => Q d ρ M
  | some (.own c) => Q c.tree (ρ.set i (.val c.tree)) M
  | _ => False
def lenT : T → Nat
  | .cons _ r => lenT r + 1
  | _ => 0
def bindP : T → D → Env → (Env → Prop) → Prop
  | .tname i, d, ρ, K => K (ρ.set i (.val d))
  | .ttup r, .tup ds, ρ, K => ds.length = lenT r ∧ binds r ds ρ K
  | _, _, _, _ => False
where binds : T → List D → Env → (Env → Prop) → Prop
  | .nil, [], ρ, K => K ρ
  | .cons (.tname i) r, d :: ds, ρ, K => binds r ds (ρ.set i (.val d)) K
  | .cons (.ttup q) r, .tup es :: ds, ρ, K => es.length = lenT q ∧ binds q es ρ fun ρ' => binds r ds ρ' K
  | _, _, _, _ => False
@[irreducible] def forL (bd : D → WS) : List D → WS
  | [], ρ, M, E => E.nx ρ M
  | d :: ds, ρ, M, E => bd d ρ M { nx := fun ρ M => forL bd ds ρ M E, ct := fun ρ M => forL bd ds ρ M E, bk := E.nx, rt := E.rt }
@[irreducible] def compL (bd : D → Mem → (Option D → Mem → Prop) → Prop) : List D → List D → Mem → (List D → Mem → Prop) → Prop
  | [], acc, M, Q => Q acc M
  | d :: ds, acc, M, Q => bd d M fun r M' => compL bd ds (match r with | some x => acc ++ [x] | none => acc) M' Q
@[irreducible] def compM (bd : D → List D → Mem → (List D → Mem → Prop) → Prop) : List D → List D → Mem → (List D → Mem → Prop) → Prop
  | [], acc, M, Q => Q acc M
  | d :: ds, acc, M, Q => bd d acc M fun acc' M' => compM bd ds acc' M' Q
/-- keys that are sorted: rows of whole numbers and texts, of one shape -/
def SortOk (ds : List D) : Prop := ds.length < 64 ∧ dats ds = true ∧ deps ds ≤ 60 ∧ PySem.W.AllAlike (pys ds) ∧ PySem.W.Sortable (pys ds)
def leD (a b : D) : Bool := PySem.W.dataLe false py a b
@[irreducible] def whileN (c : WE) (bd : WS) : Nat → WS
  | 0, _, _, _ => False
  | n + 1, ρ, M, E => c ρ M fun d ρ1 M1 => ∃ b, d = .bl b ∧ iteN (Bool.toNat b) (bd ρ1 M1 { nx := fun ρ M => whileN c bd n ρ M E, ct := fun ρ M => whileN c bd n ρ M E, bk := E.nx, rt := E.rt }) (E.nx ρ1 M1)

theorem forL_nilE {bd : D → WS} {ρ : Env} {M : Mem} {E : En} : forL bd [] ρ M E = E.nx ρ M := by with_unfolding_all rfl
theorem forL_consE {bd : D → WS} {d : D} {ds : List D} {ρ : Env} {M : Mem} {E : En} : forL bd (d :: ds) ρ M E = bd d ρ M { nx := fun ρ M => forL bd ds ρ M E, ct := fun ρ M => forL bd ds ρ M E, bk := E.nx, rt := E.rt } := by with_unfolding_all rfl
theorem compL_nilE {bd : D → Mem → (Option D → Mem → Prop) → Prop} {acc : List D} {M : Mem} {Q : List D → Mem → Prop} : compL bd [] acc M Q = Q acc M := by with_unfolding_all rfl
theorem compL_consE {bd : D → Mem → (Option D → Mem → Prop) → Prop} {d : D} {ds acc : List D} {M : Mem} {Q : List D → Mem → Prop} : compL bd (d :: ds) acc M Q = bd d M fun r M' => compL bd ds (match r with | some x => acc ++ [x] | none => acc) M' Q := by with_unfolding_all rfl
theorem compM_nilE {bd : D → List D → Mem → (List D → Mem → Prop) → Prop} {acc : List D} {M : Mem} {Q : List D → Mem → Prop} : compM bd [] acc M Q = Q acc M := by with_unfolding_all rfl
theorem compM_consE {bd : D → List D → Mem → (List D → Mem → Prop) → Prop} {d : D} {ds acc : List D} {M : Mem} {Q : List D → Mem → Prop} : compM bd (d :: ds) acc M Q = bd d acc M fun acc' M' => compM bd ds acc' M' Q := by with_unfolding_all rfl
theorem whileN_zeroE {c : WE} {bd : WS} {ρ : Env} {M : Mem} {E : En} : whileN c bd 0 ρ M E = False := by with_unfolding_all rfl
theorem whileN_succE {c : WE} {bd : WS} {n : Nat} {ρ : Env} {M : Mem} {E : En} : whileN c bd (n + 1) ρ M E = c ρ M fun d ρ1 M1 => ∃ b, d = .bl b ∧ iteN (Bool.toNat b) (bd ρ1 M1 { nx := fun ρ M => whileN c bd n ρ M E, ct := fun ρ M => whileN c bd n ρ M E, bk := E.nx, rt := E.rt }) (E.nx ρ1 M1) := by with_unfolding_all rfl

/-- what is read at a value that may be a place -/
def view (M : Mem) : D → D
  | .loc p => match M p with | some (.co c) => c.tree | _ => .loc p
  | d => d
def insD (c : Nat) (M : Mem) (d : D) : Prop := (∃ fs, d = .obj c fs) ∨ ∃ a fs, d = .loc a ∧ M a = some (.obj c fs)
def updM (M : Mem) (a : Addr) (o : MO) : Mem := fun b => if b = a then some o else M b
def rmM (M : Mem) (a : Addr) : Mem := fun b => if b = a then none else M b
def truD : D → Option Bool
  | .non => some false
  | .bl b => some b
  | .int i => some (i != 0)
  | _ => none
def posOf : List Nat → Nat → Option Nat
  | [], _ => none
  | g :: gs, f => if g = f then some 0 else (posOf gs f).map (· + 1)
def attrP (cfs : Nat → List Nat) (M : Mem) (d : D) (f : Nat) (Q : D → Prop) : Prop :=
  match d with
  | .obj c fs => ∃ k x, posOf (cfs c) f = some k ∧ fs[k]? = some x ∧ Q x
  | .loc a => match M a with
    | some (.obj c fs) => ∃ k x, posOf (cfs c) f = some k ∧ fs[k]? = some x ∧ Q x
    | _ => False
  | _ => False
/-- o.f = x, at a: the fields in the order of the class -/
def putAt (cfs : Nat → List Nat) (M : Mem) (a : Addr) (f : Nat) (x : D) (K : Mem → Prop) : Prop :=
  match M a with
  | some (.obj c fs) => ∃ k, posOf (cfs c) f = some k ∧ ((k < fs.length ∧ K (updM M a (.obj c (fs.set k x)))) ∨ (k = fs.length ∧ K (updM M a (.obj c (fs ++ [x])))))
  | _ => False
def lenP : D → (Nat → Prop) → Prop
  | .lst ds, Q => Q ds.length
  | .tup ds, Q => Q ds.length
  | .str s, Q => s.length ≤ sizeLine ∧ Q s.length
  | .dct ks _, Q => Q ks.length
  | .scr ns, Q => Q ns.length
  | _, _ => False
def seqOf : D → Option (List D)
  | .lst ds => some ds
  | .tup ds => some ds
  | _ => none
def kD : Key → D
  | .inl i => .int i
  | .inr s => .str s
def biP (M : Mem) : BI → List D → (D → Prop) → Prop
  | .len, ds, Q => ∃ d, ds = [d] ∧ lenP (view M d) fun n => Q (.int n)
  | .abs, ds, Q => ∃ i, ds = [.int i] ∧ Q (.int (if i < 0 then -i else i))
  | .max2, ds, Q => ∃ i j, ds = [.int i, .int j] ∧ Q (.int (if j > i then j else i))
  | .min2, ds, Q => ∃ i j, ds = [.int i, .int j] ∧ Q (.int (if j < i then j else i))
  | .maxL, ds, Q => ∃ (es : List D) (ns : List Int), ds = [.lst es] ∧ es = ns.map .int ∧ ns ≠ [] ∧ ∀ m, m ∈ ns → (∀ y, y ∈ ns → y ≤ m) → Q (.int m)
  | .minL, ds, Q => ∃ (es : List D) (ns : List Int), ds = [.lst es] ∧ es = ns.map .int ∧ ns ≠ [] ∧ ∀ m, m ∈ ns → (∀ y, y ∈ ns → m ≤ y) → Q (.int m)
  | .maxD, ds, Q => ∃ (es : List D) (d : D) (ns : List Int), ds = [.lst es, d] ∧ es = ns.map .int ∧ (ns = [] → Q d) ∧ ∀ m, m ∈ ns → (∀ y, y ∈ ns → y ≤ m) → Q (.int m)
  | .minD, ds, Q => ∃ (es : List D) (d : D) (ns : List Int), ds = [.lst es, d] ∧ es = ns.map .int ∧ (ns = [] → Q d) ∧ ∀ m, m ∈ ns → (∀ y, y ∈ ns → m ≤ y) → Q (.int m)
  | .sum, ds, Q => ∃ (es : List D) (ns : List Int), ds = [.lst es] ∧ es = ns.map .int ∧ Q (.int ns.sum)
  | .all, ds, Q => ∃ (es : List D) (bs : List Bool), ds = [.lst es] ∧ es = bs.map .bl ∧ Q (.bl (bs.all id))
  | .any, ds, Q => ∃ (es : List D) (bs : List Bool), ds = [.lst es] ∧ es = bs.map .bl ∧ Q (.bl (bs.any id))
  | .sorted, ds, Q => ∃ (es : List D) (ns : List Int), ds = [.lst es] ∧ es = ns.map .int ∧ ns.length < 64 ∧ ∀ ms : List Int, ms.Perm ns → ms.Pairwise (· ≤ ·) → Q (.lst (ms.map .int))
  | .sortedS, ds, Q => ∃ (es : List D) (ns : List Str), ds = [.lst es] ∧ es = ns.map .str ∧ ns.length < 64 ∧ ∀ ms : List Str, ms.Perm ns → PyProof.Rows.sortedS ms = true → Q (.lst (ms.map .str))
  | .sortedDI, ds, Q => ∃ (d : D) (ks : List Key) (es : List D) (ns : List Int), ds = [d] ∧ view M d = .dct ks es ∧ ks = ns.map Sum.inl ∧ ns.length < 64 ∧ ∀ ms : List Int, ms.Perm ns → ms.Pairwise (· ≤ ·) → Q (.lst (ms.map .int))
  | .sortedDS, ds, Q => ∃ (d : D) (ks : List Key) (es : List D) (ns : List Str), ds = [d] ∧ view M d = .dct ks es ∧ ks = ns.map Sum.inr ∧ ns.length < 64 ∧ ∀ ms : List Str, ms.Perm ns → PyProof.Rows.sortedS ms = true → Q (.lst (ms.map .str))
  | .list, ds, Q => ∃ d es, ds = [d] ∧ seqOf (view M d) = some es ∧ Q (.lst es)
  | .tuple, ds, Q => ∃ d es, ds = [d] ∧ seqOf (view M d) = some es ∧ Q (.tup es)
  | .dictP, ds, Q => ∃ (d : D) (kds : List (Key × D)), ds = [d] ∧ view M d = .lst (kds.map fun p => .tup [kD p.1, p.2]) ∧ (kds.map (·.1)).Nodup ∧ Q (.dct (kds.map (·.1)) (kds.map (·.2)))
  | .dictC, ds, Q => ∃ (d : D) (ks : List Key) (es : List D), ds = [d] ∧ view M d = .dct ks es ∧ Q (.dct ks es)
  | .repr, ds, Q => (ds = [.non] ∧ Q (.str (Str.ofString "None"))) ∨ (∃ i : Int, ds = [.int i] ∧ i.natAbs.log2 < 1920 ∧ Q (.str (Str.ofString (toString i))))
  | .intB, ds, Q => (∃ b : Bool, ds = [.bl b] ∧ Q (.int (if b then 1 else 0))) ∨ (∃ i : Int, ds = [.int i] ∧ Q (.int i))
def bmP : BM → D → List D → (D → Prop) → Prop
  | .join, .str a, [.lst es], Q => ∃ ys : List Str, es = ys.map .str ∧ (ys.map (·.length)).sum + ys.length * a.length ≤ 16777216 ∧ Q (.str (Txt.join a ys))
  | .index, .lst ds, [x], Q => (flatD x && ds.all flatD) = true ∧ ∃ (j : Nat) (z : D), ds[j]? = some z ∧ deq z x = true ∧ (∀ (m : Nat) (z' : D), m < j → ds[m]? = some z' → deq z' x = false) ∧ Q (.int (j : Nat))
  | .get1, .dct ks ds, [k], Q => ∃ j, keyOf k = some j ∧ Q ((dget ks ds j).getD .non)
  | .get2, .dct ks ds, [k, d], Q => ∃ j, keyOf k = some j ∧ Q ((dget ks ds j).getD d)
  | _, _, _, _ => False
def bmK : BM → D → Prop
  | .join, .str _ => True
  | .index, .lst _ => True
  | .get1, .dct _ _ => True
  | .get2, .dct _ _ => True
  | _, _ => False
def pmP : PM → CO → List D → (D → CO → Prop) → Prop
  | .append, .L ds, [d], K => ds.length < sizeLine ∧ K .non (.L (ds ++ [d]))
  | .extend, .L ds, [.lst es], K => ds.length + es.length ≤ sizeLine ∧ K .non (.L (ds ++ es))
  | .popAt, .L ds, [.int i], K => ∃ k d, 0 ≤ i ∧ i = (k : Nat) ∧ ds[k]? = some d ∧ K d (.L (ds.eraseIdx k))
  | .clear, .L ds, [], K => K .non (.L [])
  | .setdefault, .K ks ds, [k, d], K => ∃ j, keyOf k = some j ∧ ds.length < sizeLine ∧ match dget ks ds j with
    | some x => K x (.K ks ds)
    | none => K d (.K (ks ++ [j]) (ds ++ [d]))
  | _, _, _, _ => False
def kindP : PM → CO → Prop
  | .setdefault, .K _ _ => True
  | .setdefault, .L _ => False
  | _, .L _ => True
  | _, .K _ _ => False
def setIxP : CO → D → D → (CO → Prop) → Prop
  | .L ds, .int i, d, K => ∃ j, ixN ds.length i = some j ∧ K (.L (ds.set j d))
  | .K ks ds, k, d, K => ∃ j, keyOf k = some j ∧ ds.length < sizeLine ∧ K (.K (dput ks ds j d).1 (dput ks ds j d).2)
  | _, _, _, _ => False
def isiB : D → Ty → Option Bool
  | .int _, .b x => kitB "int" x
  | .bl _, .b x => kitB "bool" x
  | .str _, .b x => kitB "str" x
  | .non, .b x => kitB "NoneType" x
  | .tup _, .b x => kitB "tuple" x
  | .lst _, .b x => kitB "list" x
  | .dct _ _, .b x => kitB "dict" x
  | _, _ => none
def isiP (d : D) : List Ty → Option Bool
  | [] => some false
  | t :: ts => match isiB d t with
    | some true => some true
    | some false => isiP d ts
    | none => none
def freshLst : D → Option CO
  | .lst ds => some (.L ds)
  | .dct ks ds => some (.K ks ds)
  | _ => none

section
variable (B : Tab)
mutual
def wpE : T → WE
  | .var i, ρ, M, Q => readP ρ i M Q
  | .glob k, ρ, M, Q => Q (B.glb k).2 ρ M
  | .int k, ρ, M, Q => Q (.int k) ρ M
  | .str s, ρ, M, Q => Q (.str s) ρ M
  | .bl b, ρ, M, Q => Q (.bl b) ρ M
  | .non, ρ, M, Q => Q .non ρ M
  | .bin o a b, ρ, M, Q => wpE a ρ M fun x ρ M => wpE b ρ M fun y ρ M => binP o (view M x) (view M y) fun z => Q z ρ M
  | .neg a, ρ, M, Q => wpE a ρ M fun x ρ M => ∃ i, x = .int i ∧ Q (.int (-i)) ρ M
  | .cmp o a b, ρ, M, Q => wpE a ρ M fun x ρ M => wpE b ρ M fun y ρ M => cmpP o (view M x) (view M y) fun z => Q (.bl z) ρ M
  | .chain o p a b c, ρ, M, Q => wpE a ρ M fun x ρ M => wpE b ρ M fun y ρ M => cmpP o (view M x) (view M y) fun z => iteN (Bool.toNat z) (wpE c ρ M fun u ρ M => cmpP p (view M y) (view M u) fun z' => Q (.bl z') ρ M) (Q (.bl false) ρ M)
  | .and a b, ρ, M, Q => wpE a ρ M fun x ρ M => ∃ c, x = .bl c ∧ iteN (Bool.toNat c) (wpE b ρ M Q) (Q (.bl false) ρ M)
  | .or a b, ρ, M, Q => wpE a ρ M fun x ρ M => ∃ c, x = .bl c ∧ iteN (Bool.toNat c) (Q (.bl true) ρ M) (wpE b ρ M Q)
  | .not a, ρ, M, Q => wpE a ρ M fun x ρ M => ∃ c, x = .bl c ∧ Q (.bl (!c)) ρ M
  | .ife c a b, ρ, M, Q => wpE c ρ M fun x ρ M => ∃ k, x = .bl k ∧ iteN (Bool.toNat k) (wpE a ρ M Q) (wpE b ρ M Q)
  | .tup r, ρ, M, Q => wpA r ρ M fun ds ρ M => ds.length ≤ sizeLine ∧ Q (.tup ds) ρ M
  | .lst r, ρ, M, Q => wpA r ρ M fun ds ρ M => ds.length ≤ sizeLine ∧ Q (.lst ds) ρ M
  | .dnew, ρ, M, Q => Q (.dct [] []) ρ M
  | .idx a b, ρ, M, Q => wpE a ρ M fun x ρ M => wpE b ρ M fun y ρ M => idxP (view M x) (view M y) fun z => Q z ρ M
  | .sl a lo hi, ρ, M, Q => wpE a ρ M fun x ρ M => wpP lo ρ M fun i ρ M => wpP hi ρ M fun j ρ M => slP (view M x) i j fun z => Q z ρ M
  | .rev a, ρ, M, Q => wpE a ρ M fun x ρ M => ∃ ds, view M x = .lst ds ∧ Q (.lst ds.reverse) ρ M
  | .stp a s, ρ, M, Q => wpE a ρ M fun x ρ M => wpE s ρ M fun y ρ M => ∃ ds, view M x = .lst ds ∧ ((y = .int 1 ∧ Q (.lst ds) ρ M) ∨ (y = .int (-1) ∧ Q (.lst ds.reverse) ρ M))
  | .attr a f, ρ, M, Q => wpE a ρ M fun x ρ M => attrP B.cfs M x f fun z => Q z ρ M
  | .call k r, ρ, M, Q => wpA r ρ M fun ds ρ M => B.sp k ds M fun d M' => Q d ρ M'
  | .callK k r kw, ρ, M, Q => wpA r ρ M fun ds ρ M => wpA kw ρ M fun es ρ M => (ds.length = (B.ent k).npos ∧ es.length = (B.ent k).nkw) ∧ B.sp k (ds ++ es) M fun d M' => Q d ρ M'
  | .meth k o r, ρ, M, Q => wpE o ρ M fun x ρ M => insD (B.ent k).cls M x ∧ wpA r ρ M fun ds ρ M => B.sp k (x :: ds) M fun d M' => Q d ρ M'
  | .bi x r, ρ, M, Q => wpA r ρ M fun ds ρ M => biP M x ds fun z => Q z ρ M
  | .bm x o r, ρ, M, Q => wpE o ρ M fun y ρ M => bmK x (view M y) ∧ wpA r ρ M fun ds ρ M => bmP x (view M y) ds fun z => Q z ρ M
  | .isi a ts, ρ, M, Q => wpE a ρ M fun x ρ M => ∃ b, isiP (view M x) ts = some b ∧ Q (.bl b) ρ M
  | .comp own tg it ifs el, ρ, M, Q => wpI it ρ M fun ds ρ M => compL (fun d M K => bindP tg d (hideD (wipeD ρ own)) fun ρ1 => wpC ifs ρ1 M fun b ρ2 M1 => ρ2 = ρ1 ∧
      iteN (Bool.toNat b) (wpE el ρ1 M1 fun x ρ3 M2 => ρ3 = ρ1 ∧ K (some x) M2) (K none M1)) ds [] M fun es M => Q (.lst es) ρ M
  | .comp2 own own2 tg it ifs tg2 it2 ifs2 el, ρ, M, Q => wpI it ρ M fun ds ρ M => compM (fun d acc M K => bindP tg d (hideD (wipeD ρ own)) fun ρ1 => wpC ifs ρ1 M fun b ρ2 M1 => ρ2 = ρ1 ∧
      iteN (Bool.toNat b) (wpI it2 ρ1 M1 fun es ρ3 M2 => ρ3 = ρ1 ∧ acc.length + es.length ≤ sizeLine ∧ compL (fun e M K' => bindP tg2 e (hideD (wipeD ρ1 own2)) fun ρ4 => wpC ifs2 ρ4 M fun b ρ5 M3 => ρ5 = ρ4 ∧
        iteN (Bool.toNat b) (wpE el ρ4 M3 fun x ρ6 M4 => ρ6 = ρ4 ∧ K' (some x) M4) (K' none M3)) es acc M2 K) (K acc M1)) ds [] M fun es M => Q (.lst es) ρ M
  | .disp ks r, ρ, M, Q => wpA r (hideD ρ) M fun ds ρ' M' => ρ' = hideD ρ ∧ (ks.length = ds.length ∧ ks.Nodup ∧ ks.length ≤ 15) ∧ Q (.dct ks ds) ρ M'
  | .lenSet a, ρ, M, Q => wpE a ρ M fun x ρ M => ∃ ns : List Int, view M x = .lst (ns.map .int) ∧ ns.length < 64 ∧ Q (.int ((ns.foldl PyProof.Rows.step_dedup []).length : Nat)) ρ M
  | .lenSetO i, ρ, M, Q => ∃ ns : List Int, ρ[i]? = some (.own (.L (ns.map .int))) ∧ ns.length < 64 ∧ Q (.int ((ns.foldl PyProof.Rows.step_dedup []).length : Nat)) ρ M
  | .sortedK k a, ρ, M, Q => wpE a ρ M fun x ρ M => ∃ (es : List D) (kf : D → D), seqOf (view M x) = some es ∧ SortOk (es.map kf) ∧ (∀ e ∈ es, B.sp k [e] M fun d M' => M' = M ∧ d = kf e) ∧ Q (.lst (es.mergeSort fun a b => leD (kf a) (kf b))) ρ M
  | .idxO i b, ρ, M, Q => (∃ c, ρ[i]? = some (.own c)) ∧ wpE b ρ M fun y ρ M => ∃ c, ρ[i]? = some (.own c) ∧ idxP c.tree (view M y) fun z => Q z ρ M
  | .lenO i, ρ, M, Q => ∃ c, ρ[i]? = some (.own c) ∧ lenP c.tree fun n => Q (.int n) ρ M
  | .inO ng a i, ρ, M, Q => wpE a ρ M fun x ρ M => ∃ c, ρ[i]? = some (.own c) ∧ cmpP (if ng then .notin else .isin) (view M x) c.tree fun z => Q (.bl z) ρ M
  | .pmO m i r, ρ, M, Q => (∃ c, ρ[i]? = some (.own c) ∧ kindP m c) ∧ wpA r ρ M fun ds ρ M => ∃ c, ρ[i]? = some (.own c) ∧ pmP m c ds fun z c' => Q z (ρ.set i (.own c')) M
  | .pm m p r, ρ, M, Q => wpE p ρ M fun x ρ M => ∃ a, x = .loc a ∧ (∃ c, M a = some (.co c) ∧ kindP m c) ∧ wpA r ρ M fun ds ρ M => ∃ c, M a = some (.co c) ∧ pmP m c ds fun z c' => Q z ρ (updM M a (.co c'))
  | .newM e, ρ, M, Q => wpE e ρ M fun x ρ M => ∃ c, freshLst x = some c ∧ ∀ p, M p = none → Q (.loc p) ρ (updM M p (.co c))
  | .frz e, ρ, M, Q => wpE e ρ M fun x ρ M => ∃ p c, x = .loc p ∧ M p = some (.co c) ∧ Q c.tree ρ (rmM M p)
  | .orV a b, ρ, M, Q => wpE a ρ M fun x ρ M => ∃ k, truD x = some k ∧ iteN (Bool.toNat k) (Q x ρ M) (wpE b ρ M Q)
  | _, _, _, _ => False
def wpA : T → WA
  | .nil, ρ, M, Q => Q [] ρ M
  | .cons a r, ρ, M, Q => wpE a ρ M fun x ρ M => wpA r ρ M fun xs ρ M => Q (x :: xs) ρ M
  | _, _, _, _ => False
/-- a part of a slice -/
def wpP : T → Env → Mem → (Option Int → Env → Mem → Prop) → Prop
  | .non, ρ, M, Q => Q none ρ M
  | .prt a, ρ, M, Q => wpE a ρ M fun x ρ M => ∃ i, x = .int i ∧ Q (some i) ρ M
  | _, _, _, _ => False
/-- a clause's tests: none or one -/
def wpC : T → Env → Mem → (Bool → Env → Mem → Prop) → Prop
  | .nil, ρ, M, Q => Q true ρ M
  | .cons c .nil, ρ, M, Q => wpE c ρ M fun x ρ M => ∃ b, x = .bl b ∧ Q b ρ M
  | _, _, _, _ => False
def wpI : T → WA
  | .it e, ρ, M, Q => wpE e ρ M fun x ρ M => ∃ ds, itemsOf x = some ds ∧ strSz x ∧ (ds.length ≤ sizeLine → Q ds ρ M)
  | .rng1 a, ρ, M, Q => wpE a ρ M fun x ρ M => ∃ j : Int, x = .int j ∧ (-(2 ^ 62) ≤ j ∧ j ≤ 16777216) ∧ Q ((List.range j.toNat).map fun k => .int (k : Nat)) ρ M
  | .rng2 a b, ρ, M, Q => wpE a ρ M fun x ρ M => wpE b ρ M fun y ρ M => ∃ i j : Int, x = .int i ∧ y = .int j ∧ (-(2 ^ 62) ≤ i ∧ i < 2 ^ 62 ∧ -(2 ^ 62) ≤ j ∧ j < 2 ^ 62 ∧ j - i ≤ 16777216) ∧ Q ((List.range (j - i).toNat).map fun k => .int (i + (k : Nat))) ρ M
  | .enum a, ρ, M, Q => wpE a ρ M fun x ρ M => ∃ ds, x = .lst ds ∧ (ds.length ≤ sizeLine → Q (ds.zipIdx.map fun p => .tup [.int (p.2 : Nat), p.1]) ρ M)
  | .zip a b, ρ, M, Q => wpE a ρ M fun x ρ M => wpE b ρ M fun y ρ M => ∃ ds es, x = .lst ds ∧ y = .lst es ∧ (ds.length ≤ sizeLine → es.length ≤ sizeLine → Q ((ds.zip es).map fun p => .tup [p.1, p.2]) ρ M)
  | _, _, _, _ => False
end
def wpS : T → WS
  | .skip, ρ, M, E => E.nx ρ M
  | .chk i, ρ, M, E => (∃ c, ρ[i]? = some (.own c)) ∧ E.nx ρ M
  | .seq s t, ρ, M, E => wpS s ρ M { E with nx := fun ρ M => wpS t ρ M E }
  | .sealS i s, ρ, M, E => readP ρ i M fun _ ρ M => wpS s ρ M E
  | .set i e, ρ, M, E => wpE B e ρ M fun x ρ M => E.nx (ρ.set i (.val x)) M
  | .setM i e, ρ, M, E => wpE B e ρ M fun x ρ M => ∃ c, freshLst x = some c ∧ ∀ p, M p = none → E.nx (ρ.set i (.val (.loc p))) (updM M p (.co c))
  | .retM e, ρ, M, E => wpE B e ρ M fun x _ M => ∃ c, freshLst x = some c ∧ ∀ p, M p = none → E.rt (.loc p) (updM M p (.co c))
  | .setO i e, ρ, M, E => wpE B e ρ M fun x ρ M => ∃ c, freshLst x = some c ∧ E.nx (ρ.set i (.own c)) M
  | .asgT tg e, ρ, M, E => wpE B e ρ M fun x ρ M => bindP tg x ρ fun ρ => E.nx ρ M
  | .setIxO i ix e, ρ, M, E => wpE B e ρ M fun x ρ M => (∃ c, ρ[i]? = some (.own c)) ∧ wpE B ix ρ M fun y ρ M => ∃ c, ρ[i]? = some (.own c) ∧ setIxP c (view M y) x fun c' => E.nx (ρ.set i (.own c')) M
  | .setIx p ix e, ρ, M, E => wpE B e ρ M fun x ρ M => wpE B p ρ M fun q ρ M => wpE B ix ρ M fun y ρ M => ∃ a c, q = .loc a ∧ M a = some (.co c) ∧ setIxP c (view M y) x fun c' => E.nx ρ (updM M a (.co c'))
  | .setIx2 p ix i ix2 e, ρ, M, E => wpE B e ρ M fun x ρ M => wpE B p ρ M fun q ρ M => wpE B ix ρ M fun y ρ M => ∃ a c, q = .loc a ∧ M a = some (.co c) ∧ setIxP c (view M y) x fun c' => (∃ c, ρ[i]? = some (.own c)) ∧ wpE B ix2 ρ (updM M a (.co c')) fun y ρ M => ∃ c, ρ[i]? = some (.own c) ∧ setIxP c (view M y) x fun c' => E.nx (ρ.set i (.own c')) M
  | .par2 i j r, ρ, M, E => wpA B r ρ M fun ds ρ M => ∃ x y, ds = [x, y] ∧ E.nx ((ρ.set i (.val x)).set j (.val y)) M
  | .par3 i j k r, ρ, M, E => wpA B r ρ M fun ds ρ M => ∃ x y z, ds = [x, y, z] ∧ E.nx (((ρ.set i (.val x)).set j (.val y)).set k (.val z)) M
  | .setAt o f e, ρ, M, E => wpE B e ρ M fun x ρ M => wpE B o ρ M fun q ρ M => ∃ a, q = .loc a ∧ putAt B.cfs M a f x fun M => E.nx ρ M
  | .setAtO o f e, ρ, M, E => wpE B e ρ M fun x ρ M => ∃ c, freshLst x = some c ∧ ∀ p, M p = none → wpE B o ρ (updM M p (.co c)) fun q ρ M => ∃ a, q = .loc a ∧ putAt B.cfs M a f (.loc p) fun M => E.nx ρ M
  | .aug i o e, ρ, M, E => ∃ x, ρ[i]? = some (.val x) ∧ wpE B e ρ M fun y ρ M => binI o x y fun z => E.nx (ρ.set i (.val z)) M
  | .augAt a f o e, ρ, M, E => wpE B a ρ M fun q ρ M => ∃ l c, q = .loc l ∧ (∃ fs, M l = some (.obj c fs)) ∧ attrP B.cfs M q f fun x => wpE B e ρ M fun y ρ M => (∃ fs, M l = some (.obj c fs)) ∧ binI o x y fun z => putAt B.cfs M l f z fun M => E.nx ρ M
  | .cond c s t, ρ, M, E => wpE B c ρ M fun x ρ M => ∃ b, x = .bl b ∧ iteN (Bool.toNat b) (wpS s ρ M E) (wpS t ρ M E)
  | .for tg it body, ρ, M, E => wpI B it ρ M fun ds ρ M => forL (fun d ρ M E => bindP tg d ρ fun ρ => wpS body ρ M E) ds ρ M E
  | .while c body, ρ, M, E => ∃ n, whileN (wpE B c) (wpS body) n ρ M E
  | .ret e, ρ, M, E => wpE B e ρ M fun x _ M => E.rt x M
  | .retN, _, M, E => E.rt .non M
  | .expr e, ρ, M, E => wpE B e ρ M fun _ ρ M => E.nx ρ M
  | .brk, ρ, M, E => E.bk ρ M
  | .cnt, ρ, M, E => E.ct ρ M
  | _, _, _, _ => False
end
end DL

set_option Elab.async false
set_option linter.all false
set_option maxRecDepth 100000
namespace DL
open PySem L2

section
variable {N : Nam} {Z : Ety} {F F' : Hp} {ρ ρ' : Env} {M M' : Mem} {σ σ' : St} {H H' : Hp}

theorem CoOk.there {p : Addr} {c : CO} (x : CoOk N F H p c) : ∃ o, H p = some o := by
  cases c with
  | L ds => obtain ⟨vs, e, _⟩ := x; exact ⟨_, e⟩
  | K ks ds => obtain ⟨vs, e, _⟩ := x; exact ⟨_, e⟩
theorem CoOk.mono {p : Addr} {c : CO} (x : CoOk N F H p c) (h : Le F F') (e : ∀ o, H p = some o → H' p = some o) : CoOk N F' H' p c := by
  cases c with
  | L ds => obtain ⟨vs, q, z, r⟩ := x; exact ⟨vs, e _ q, z, r.mono h⟩
  | K ks ds => obtain ⟨vs, q, z, z2, nd, r⟩ := x; exact ⟨vs, e _ q, z, z2, nd, r.mono h⟩
theorem MoOk.there {p : Addr} {c : MO} (x : MoOk N F H p c) : ∃ o, H p = some o := by
  cases c with
  | co c => exact CoOk.there x
  | obj c fs => obtain ⟨dx, vs, e, _⟩ := x; exact ⟨_, e⟩
theorem MoOk.mono {p : Addr} {c : MO} (x : MoOk N F H p c) (h : Le F F') (e : ∀ o, H p = some o → H' p = some o) : MoOk N F' H' p c := by
  cases c with
  | co c => exact CoOk.mono x h e
  | obj c fs => obtain ⟨dx, vs, q, z, r⟩ := x; exact ⟨dx, vs, e _ q, z, r.mono h⟩
theorem LvOk.mono {ow : Addr → Option Nat} {i : Nat} {v : Option V} {l : LV} (x : LvOk N F H ow i v l) (h : Le F F') (e : ∀ p o, ow p = some i → H p = some o → H' p = some o) : LvOk N F' H' ow i v l := by
  cases l with
  | no => trivial
  | val d => obtain ⟨u, q, r⟩ := x; exact ⟨u, q, r.mono h⟩
  | own c => obtain ⟨p, q, o, r⟩ := x; exact ⟨p, q, o, r.mono h fun o' z => e p o' o z⟩

theorem Sim.mh (S : Sim N Z F ρ M σ H) {a : Addr} {mo : MO} (e : M a = some mo) : ∃ o, H a = some o := (S.mem a mo e).there
theorem Sim.mnone (S : Sim N Z F ρ M σ H) {a : Addr} (e : H a = none) : M a = none := by
  cases q : M a with
  | none => rfl
  | some mo => obtain ⟨o, z⟩ := S.mh q; rw [e] at z; cases z
theorem Sim.fnone (S : Sim N Z F ρ M σ H) {a : Addr} (e : H a = none) : F a = none := by
  cases q : F a with
  | none => rfl
  | some o => have z := S.sub a o q; rw [e] at z; cases z
theorem Sim.h0 (S : Sim N Z F ρ M σ H) {a : Addr} (e : H a = none) (hm : Z.M_0 a = none) : Z.H_0 a = none := by
  cases q : Z.H_0 a with
  | none => rfl
  | some o => have z := S.keep a o q hm; rw [e] at z; cases z

/-- the heap grows, more is frozen that was not there -/
theorem Sim.ext (S : Sim N Z F ρ M σ H) (hF : Le F F') (hH : ∀ a o, H a = some o → H' a = some o) (hs : ∀ a o, F' a = some o → H' a = some o) (hn : ∀ a o, F' a = some o → F a = none → H a = none) : Sim N Z F' ρ M σ H' := by
  have fn : ∀ a, F a = none → (∃ o, H a = some o) → F' a = none := fun a h1 ⟨o, h2⟩ => by
    cases q : F' a with
    | none => rfl
    | some u => have z := hn a u q h1; rw [h2] at z; cases z
  refine ⟨hs, S.le0.trans hF, fun a mo e => fn a (S.mf a mo e) (S.mh e), fun a mo e => (S.mem a mo e).mono hF fun o => hH a o, S.mnew, fun a o e h1 h2 => ?_, fun a o e h => hH a o (S.keep a o e h), fun a o e => let ⟨u, q⟩ := S.there a o e; ⟨u, hH a u q⟩, ?_, S.len⟩
  · cases q : F a with
    | some u => exact S.fnew a u q h1 h2
    | none => exact S.h0 (hn a o e q) h2
  · obtain ⟨ow, o1, o2⟩ := S.own
    refine ⟨ow, fun p i e => ?_, fun i lv e => (o2 i lv e).mono hF fun p o _ => hH p o⟩
    obtain ⟨h1, h2, h3, o, h4⟩ := o1 p i e
    exact ⟨fn p h1 ⟨o, h4⟩, h2, h3, o, hH p o h4⟩
/-- a new frozen object -/
theorem Le.new {p : Addr} {o : HO} (h : F p = none) : Le F (upd F p o) := fun a u e => by
  rw [upd_ne (ne_of_none e h)]; exact e
theorem Sim.alloc (S : Sim N Z F ρ M σ H) {p : Addr} {o : HO} (h : H p = none) : Sim N Z (upd F p o) ρ M σ (upd H p o) :=
  S.ext (Le.new (S.fnone h)) (Le.new h) (fun a u e => by
    by_cases z : a = p
    · subst z; rw [upd_same] at e ⊢; exact e
    · rw [upd_ne z] at e ⊢; exact S.sub a u e) fun a u e q => by
    by_cases z : a = p
    · subst z; exact h
    · rw [upd_ne z, q] at e; cases e
/-- the heap grows by what is nobody's -/
theorem Sim.more (S : Sim N Z F ρ M σ H) {p : Addr} {o : HO} (h : H p = none) : Sim N Z F ρ M σ (upd H p o) :=
  S.ext (Le.refl _) (Le.new h) (fun a u e => by
    rw [upd_ne (ne_of_none (S.sub a u e) h)]; exact S.sub a u e) fun a u e q => by rw [q] at e; cases e

/-- an entry of its own -/
theorem Sim.start (S : Sim N Z F ρ M σ H) : Sim N ⟨H, M, F⟩ F (hideD ρ) M σ H := by
  refine ⟨S.sub, Le.refl _, S.mf, S.mem, fun a mo e h => ?_, fun a o e h => ?_, fun a o e _ => e, fun a o e => ⟨o, e⟩, ?_, by unfold hideD; rw [List.length_map]; exact S.len⟩
  · have h : M a = none := h
    rw [h] at e; cases e
  · have h : F a = none := h
    rw [h] at e; cases e
  · obtain ⟨ow, o1, o2⟩ := S.own
    refine ⟨fun _ => none, fun _ _ e => (nomatch e), fun i lv e => ?_⟩
    unfold hideD at e
    rw [List.getElem?_map] at e
    cases q : ρ[i]? with
    | none => rw [q] at e; cases e
    | some l =>
      rw [q] at e
      have e : hideL l = lv := Option.some.inj e
      have z := o2 i l q
      cases l with
      | no => subst e; trivial
      | val d => subst e; exact z
      | own c => subst e; trivial
/-- back from it -/
theorem Sim.back {ρ1 : Env} {σ1 : St} (S : Sim N Z F ρ M σ H) (S' : Sim N ⟨H, M, F⟩ F' ρ1 M' σ1 H') : Sim N Z F' ρ M' σ H' := by
  have le : Le F F' := S'.le0
  have kp : ∀ a o, H a = some o → M a = none → H' a = some o := S'.keep
  refine ⟨S'.sub, S.le0.trans le, S'.mf, S'.mem, fun a mo e h => ?_, fun a o e h1 h2 => ?_, fun a o e h => ?_, fun a o e => let ⟨u, q⟩ := S.there a o e; S'.there a u q, ?_, S.len⟩
  · cases q : M a with
    | some u => exact S.mnew a u q h
    | none => exact S.h0 (S'.mnew a mo e q) h
  · cases q : F a with
    | some u => exact S.fnew a u q h1 h2
    | none =>
      cases q2 : M a with
      | some u => exact S.mnew a u q2 h2
      | none => exact S.h0 (S'.fnew a o e q q2) h2
  · have z := S.keep a o e h
    refine kp a o z ?_
    cases q : M a with
    | none => rfl
    | some u => have y := S.mnew a u q h; rw [e] at y; cases y
  · obtain ⟨ow, o1, o2⟩ := S.own
    refine ⟨ow, fun p i e => ?_, fun i lv e => (o2 i lv e).mono le fun p o q z => kp p o z (o1 p i q).2.1⟩
    obtain ⟨h1, h2, h3, o, h4⟩ := o1 p i e
    refine ⟨?_, ?_, h3, o, kp p o h4 h2⟩
    · cases q : F' p with
      | none => rfl
      | some u => have z := S'.fnew p u q h1 h2; have z : H p = none := z; rw [h4] at z; cases z
    · cases q : M' p with
      | none => rfl
      | some u => have z := S'.mnew p u q h2; have z : H p = none := z; rw [h4] at z; cases z

/-! ### slots -/
theorem Sim.val (S : Sim N Z F ρ M σ H) {i : Nat} {d : D} (e : ρ[i]? = some (.val d)) : ∃ v, σ[i]? = some (some v) ∧ Rep N F d v := by
  obtain ⟨ow, _, o2⟩ := S.own
  obtain ⟨u, h, r⟩ := o2 i _ e
  refine ⟨u, ?_, r⟩
  cases q : σ[i]? with
  | none => rw [q] at h; cases h
  | some x => rw [q] at h; cases x with
    | none => cases h
    | some y => exact congrArg some h
theorem Sim.set (S : Sim N Z F ρ M σ H) (i : Nat) {d : D} {v : V} (r : Rep N F d v) : Sim N Z F (ρ.set i (.val d)) M (σ.set i (some v)) H := by
  refine ⟨S.sub, S.le0, S.mf, S.mem, S.mnew, S.fnew, S.keep, S.there, ?_, by rw [List.length_set, List.length_set]; exact S.len⟩
  obtain ⟨ow, o1, o2⟩ := S.own
  refine ⟨ow, o1, fun j lv e => ?_⟩
  by_cases h : i = j
  · subst h
    have hl : i < ρ.length := by
      have := (List.getElem?_eq_some_iff.mp e).1
      rwa [List.length_set] at this
    rw [List.getElem?_set_self hl] at e
    cases e
    rw [List.getElem?_set_self (by rw [← S.len]; exact hl)]
    exact ⟨v, rfl, r⟩
  · rw [List.getElem?_set_ne h] at e ⊢
    exact o2 j lv e
/-- a slot forgotten -/
theorem Sim.drop (S : Sim N Z F ρ M σ H) (hl : ρ'.length = σ'.length) (h : ∀ (i : Nat) lv, ρ'[i]? = some lv → lv = .no ∨ (ρ[i]? = some lv ∧ σ'[i]? = σ[i]?)) : Sim N Z F ρ' M σ' H := by
  refine ⟨S.sub, S.le0, S.mf, S.mem, S.mnew, S.fnew, S.keep, S.there, ?_, hl⟩
  obtain ⟨ow, o1, o2⟩ := S.own
  refine ⟨ow, o1, fun i lv e => ?_⟩
  rcases h i lv e with rfl | ⟨h1, h2⟩
  · trivial
  · rw [h2]; exact o2 i lv h1
theorem wipeD_length (ρ : Env) : ∀ vs : List Nat, (wipeD ρ vs).length = ρ.length
  | [] => rfl
  | v :: vs => by unfold wipeD; rw [List.length_set, wipeD_length ρ vs]
theorem wipeD_get {ρ : Env} {i : Nat} {l : LV} : ∀ {vs : List Nat}, (wipeD ρ vs)[i]? = some l → l = .no ∨ (ρ[i]? = some l ∧ i ∉ vs)
  | [], e => .inr ⟨e, by simp⟩
  | v :: vs, e => by
    unfold wipeD at e
    by_cases h : v = i
    · subst h
      by_cases hv : v < (wipeD ρ vs).length
      · rw [List.getElem?_set_self hv] at e; cases e; exact .inl rfl
      · rw [List.getElem?_eq_none (by simpa using hv)] at e; cases e
    · rw [List.getElem?_set_ne h] at e
      rcases wipeD_get e with z | ⟨z, y⟩
      · exact .inl z
      · exact .inr ⟨z, by simp only [List.mem_cons, not_or]; exact ⟨fun q => h q.symm, y⟩⟩
theorem wipe_get' {σ : St} {i : Nat} : ∀ {vs : List Nat}, i ∉ vs → (wipe σ vs)[i]? = σ[i]? := fun {vs} h => wipe_out h
theorem Sim.wipe (S : Sim N Z F ρ M σ H) (vs : List Nat) : Sim N Z F (wipeD ρ vs) M (wipe σ vs) H :=
  S.drop (by rw [wipeD_length, wipe_length]; exact S.len) fun i lv e => by
    rcases wipeD_get e with z | ⟨z, y⟩
    · exact .inl z
    · exact .inr ⟨z, wipe_get' y⟩
theorem Rep.co {p : Addr} {c : CO} {ho : HO} (x : CoOk N F H p c) (e : H p = some ho) (h : F p = none) : Rep N (upd F p ho) c.tree (.ref p) := by
  have le : Le F (upd F p ho) := Le.new h
  cases c with
  | L ds =>
    obtain ⟨vs, q, z, r⟩ := x
    rw [e] at q; cases q
    show Rep N _ (.lst ds) _
    unfold Rep
    exact ⟨p, vs, rfl, upd_same, z, r.mono le⟩
  | K ks ds =>
    obtain ⟨vs, q, z, z2, nd, r⟩ := x
    rw [e] at q; cases q
    show Rep N _ (.dct ks ds) _
    unfold Rep
    exact ⟨p, vs, rfl, upd_same, z, z2, nd, r.mono le⟩
/-- an own container is sealed -/
theorem Sim.seal (S : Sim N Z F ρ M σ H) {i : Nat} {c : CO} (e : ρ[i]? = some (.own c)) : ∃ p ho, σ[i]? = some (some (.ref p)) ∧ F p = none ∧ Rep N (upd F p ho) c.tree (.ref p) ∧ Sim N Z (upd F p ho) (ρ.set i (.val c.tree)) M σ H := by
  obtain ⟨ow, o1, o2⟩ := S.own
  obtain ⟨p, h, w, x⟩ := o2 i _ e
  have hσ : σ[i]? = some (some (.ref p)) := by
    cases q : σ[i]? with
    | none => rw [q] at h; cases h
    | some y => rw [q] at h; cases y with
      | none => cases h
      | some y => exact congrArg some h
  obtain ⟨h1, h2, h3, ho, h4⟩ := o1 p i w
  have rp := Rep.co x h4 h1
  have le : Le F (upd F p ho) := Le.new h1
  refine ⟨p, ho, hσ, h1, rp, ⟨fun a o q => ?_, S.le0.trans le, fun a mo q => ?_, fun a mo q => (S.mem a mo q).mono le fun o z => z, S.mnew, fun a o q z1 z2 => ?_, S.keep, S.there, ?_, by rw [List.length_set]; exact S.len⟩⟩
  · by_cases z : a = p
    · subst z; rw [upd_same] at q; cases q; exact h4
    · rw [upd_ne z] at q; exact S.sub a o q
  · rw [upd_ne (fun z => by subst z; rw [h2] at q; cases q)]; exact S.mf a mo q
  · by_cases z : a = p
    · subst z; exact h3
    · rw [upd_ne z] at q; exact S.fnew a o q z1 z2
  · refine ⟨fun b => if b = p then none else ow b, fun b j q => ?_, fun j lv q => ?_⟩
    · have q : (if b = p then none else ow b) = some j := q
      by_cases z : b = p
      · rw [if_pos z] at q; cases q
      · rw [if_neg z] at q
        obtain ⟨k1, k2, k3, k4⟩ := o1 b j q
        exact ⟨by rw [upd_ne z]; exact k1, k2, k3, k4⟩
    · by_cases z : i = j
      · subst z
        have hl : i < ρ.length := (List.getElem?_eq_some_iff.mp e).1
        rw [List.getElem?_set_self hl] at q
        cases q
        exact ⟨.ref p, by rw [hσ]; rfl, rp⟩
      · rw [List.getElem?_set_ne z] at q
        have y := o2 j lv q
        cases lv with
        | no => trivial
        | val d => obtain ⟨u, k1, k2⟩ := y; exact ⟨u, k1, k2.mono le⟩
        | own c' =>
          obtain ⟨p', k1, k2, k3⟩ := y
          refine ⟨p', k1, ?_, k3.mono le fun o z => z⟩
          show (if p' = p then none else ow p') = some j
          rw [if_neg]
          · exact k2
          · rintro rfl
            rw [w] at k2; cases k2; exact z rfl
/-- an own container as it stands -/
theorem Sim.ownAt (S : Sim N Z F ρ M σ H) {i : Nat} {c : CO} (e : ρ[i]? = some (.own c)) : ∃ p, σ[i]? = some (some (.ref p)) ∧ CoOk N F H p c ∧ F p = none ∧ M p = none := by
  obtain ⟨ow, o1, o2⟩ := S.own
  obtain ⟨p, h, w, x⟩ := o2 i _ e
  refine ⟨p, ?_, x, (o1 p i w).1, (o1 p i w).2.1⟩
  cases q : σ[i]? with
  | none => rw [q] at h; cases h
  | some y => rw [q] at h; cases y with
    | none => cases h
    | some y => exact congrArg some h
/-- an own container changes -/
theorem Sim.putO (S : Sim N Z F ρ M σ H) {i : Nat} {c c' : CO} {p : Addr} {ho : HO} (e : ρ[i]? = some (.own c)) (hp : σ[i]? = some (some (.ref p))) (x : CoOk N F (upd H p ho) p c') : Sim N Z F (ρ.set i (.own c')) M σ (upd H p ho) := by
  obtain ⟨ow, o1, o2⟩ := S.own
  obtain ⟨p', h, w, _⟩ := o2 i _ e
  rw [hp] at h
  cases h
  obtain ⟨h1, h2, h3, h4⟩ := o1 p i w
  have ke : ∀ a o, a ≠ p → H a = some o → (upd H p ho) a = some o := fun a o z q => by rw [upd_ne z]; exact q
  refine ⟨fun a o q => ke a o (fun z => by rw [z, h1] at q; cases q) (S.sub a o q), S.le0, S.mf, fun a mo q => (S.mem a mo q).mono (Le.refl _) fun o => ke a o (fun z => by rw [z, h2] at q; cases q),
    S.mnew, S.fnew, fun a o q z => ke a o (fun y => by rw [y, h3] at q; cases q) (S.keep a o q z), fun a o q => let ⟨u, y⟩ := S.there a o q; if z : a = p then ⟨ho, by rw [z]; exact upd_same⟩ else ⟨u, ke a u z y⟩, ?_, by rw [List.length_set]; exact S.len⟩
  refine ⟨ow, fun b j q => ?_, fun j lv q => ?_⟩
  · obtain ⟨k1, k2, k3, o, k4⟩ := o1 b j q
    by_cases z : b = p
    · subst z; exact ⟨k1, k2, k3, _, upd_same⟩
    · exact ⟨k1, k2, k3, o, ke b o z k4⟩
  · by_cases z : i = j
    · subst z
      have hl : i < ρ.length := (List.getElem?_eq_some_iff.mp e).1
      rw [List.getElem?_set_self hl] at q
      cases q
      exact ⟨p, by rw [hp]; rfl, w, x⟩
    · rw [List.getElem?_set_ne z] at q
      refine (o2 j lv q).mono (Le.refl _) fun b o k => ke b o ?_
      rintro rfl
      rw [w] at k; cases k; exact z rfl
/-- an object that may change changes -/
theorem Sim.putM (S : Sim N Z F ρ M σ H) {a : Addr} {mo mo' : MO} {ho : HO} (e : M a = some mo) (x : MoOk N F (upd H a ho) a mo') : Sim N Z F ρ (updM M a mo') σ (upd H a ho) := by
  have ke : ∀ b o, b ≠ a → H b = some o → (upd H a ho) b = some o := fun b o z q => by rw [upd_ne z]; exact q
  have fa := S.mf a mo e
  refine ⟨fun b o q => ke b o (fun z => by subst z; rw [fa] at q; cases q) (S.sub b o q), S.le0, fun b m q => ?_, fun b m q => ?_, fun b m q z => ?_, S.fnew, fun b o q z => ?_, fun b o q => let ⟨u, y⟩ := S.there b o q; if z : b = a then ⟨ho, by rw [z]; exact upd_same⟩ else ⟨u, ke b u z y⟩, ?_, S.len⟩
  · unfold updM at q
    by_cases z : b = a
    · subst z; exact fa
    · rw [if_neg z] at q; exact S.mf b m q
  · unfold updM at q
    by_cases z : b = a
    · subst z; rw [if_pos rfl] at q; cases q; exact x
    · rw [if_neg z] at q; exact (S.mem b m q).mono (Le.refl _) fun o => ke b o z
  · unfold updM at q
    by_cases y : b = a
    · subst y; exact S.mnew b mo e z
    · rw [if_neg y] at q; exact S.mnew b m q z
  · refine ke b o (fun y => ?_) (S.keep b o q z)
    subst y
    have := S.mnew b mo e z
    rw [q] at this; cases this
  · obtain ⟨ow, o1, o2⟩ := S.own
    refine ⟨ow, fun b j q => ?_, fun j lv q => (o2 j lv q).mono (Le.refl _) fun b o k => ke b o ?_⟩
    · obtain ⟨k1, k2, k3, o, k4⟩ := o1 b j q
      have nb : b ≠ a := fun z => by subst z; rw [e] at k2; cases k2
      exact ⟨k1, by unfold updM; rw [if_neg nb]; exact k2, k3, o, ke b o nb k4⟩
    · rintro rfl
      have := (o1 _ _ k).2.1
      rw [e] at this; cases this
/-- a container just made becomes an object of the memory -/
theorem Sim.newM (S : Sim N Z F ρ M σ H) {p : Addr} {o : HO} {mo : MO} (h : H p = none) (x : MoOk N F (upd H p o) p mo) : Sim N Z F ρ (updM M p mo) σ (upd H p o) := by
  have S1 := S.more (p := p) (o := o) h
  have mp := S.mnone h
  have fp := S.fnone h
  refine ⟨S1.sub, S1.le0, fun b m q => ?_, fun b m q => ?_, fun b m q z => ?_, S1.fnew, S1.keep, S1.there, ?_, S1.len⟩
  · unfold updM at q
    by_cases z : b = p
    · subst z; exact fp
    · rw [if_neg z] at q; exact S1.mf b m q
  · unfold updM at q
    by_cases z : b = p
    · subst z; rw [if_pos rfl] at q; cases q; exact x
    · rw [if_neg z] at q; exact S1.mem b m q
  · unfold updM at q
    by_cases y : b = p
    · subst y; exact S.h0 h z
    · rw [if_neg y] at q; exact S1.mnew b m q z
  · obtain ⟨ow, o1, o2⟩ := S1.own
    obtain ⟨ow', o1', o2'⟩ := S.own
    refine ⟨ow', fun b j q => ?_, fun j lv q => (o2' j lv q).mono (Le.refl _) fun b o' k z => ?_⟩
    · obtain ⟨k1, k2, k3, o', k4⟩ := o1' b j q
      have nb : b ≠ p := fun z => by subst z; rw [h] at k4; cases k4
      exact ⟨k1, by unfold updM; rw [if_neg nb]; exact k2, k3, o', by rw [upd_ne nb]; exact k4⟩
    · rw [upd_ne (fun y => by subst y; rw [h] at z; cases z)]; exact z
/-- a container just made is owned by a slot behind all others -/
theorem Sim.newO (S : Sim N Z F ρ M σ H) {p : Addr} {o : HO} {c : CO} (h : H p = none) (x : CoOk N F (upd H p o) p c) : Sim N Z F (ρ ++ [.own c]) M (σ ++ [some (.ref p)]) (upd H p o) := by
  have S1 := S.more (p := p) (o := o) h
  have mp := S.mnone h
  refine ⟨S1.sub, S1.le0, S1.mf, S1.mem, S1.mnew, S1.fnew, S1.keep, S1.there, ?_, by simp [S.len]⟩
  obtain ⟨ow, o1, o2⟩ := S.own
  have np : ∀ i, ow p ≠ some i := fun i q => by
    obtain ⟨_, _, _, o', k4⟩ := o1 p i q
    rw [h] at k4; cases k4
  refine ⟨fun b => if b = p then some ρ.length else ow b, fun b j q => ?_, fun j lv q => ?_⟩
  · have q : (if b = p then some ρ.length else ow b) = some j := q
    by_cases z : b = p
    · subst z
      refine ⟨S.fnone h, mp, ?_, _, upd_same⟩
      cases q2 : Z.H_0 b with
      | none => rfl
      | some u => obtain ⟨o', y⟩ := S.there b u q2; rw [h] at y; cases y
    · rw [if_neg z] at q
      obtain ⟨k1, k2, k3, o', k4⟩ := o1 b j q
      exact ⟨k1, k2, k3, o', by rw [upd_ne z]; exact k4⟩
  · by_cases z : j < ρ.length
    · rw [List.getElem?_append_left z] at q
      have y := o2 j lv q
      rw [List.getElem?_append_left (by rw [← S.len]; exact z)]
      have y2 : LvOk N F (upd H p o) ow j (σ[j]?.bind id) lv := y.mono (Le.refl _) fun b o' k w => by
        rw [upd_ne (fun r => by subst r; rw [h] at w; cases w)]; exact w
      cases lv with
      | no => trivial
      | val d => exact y2
      | own c' =>
        obtain ⟨p', k1, k2, k3⟩ := y2
        refine ⟨p', k1, ?_, k3⟩
        show (if p' = p then some ρ.length else ow p') = some j
        rw [if_neg (fun r => by subst r; exact np j k2)]
        exact k2
    · have hj : j = ρ.length := by
        have := (List.getElem?_eq_some_iff.mp q).1
        simp at this; omega
      subst hj
      rw [List.getElem?_append_right (Nat.le_refl _)] at q
      simp at q
      subst q
      refine ⟨p, ?_, ?_, x⟩
      · rw [List.getElem?_append_right (by rw [S.len]; exact Nat.le_refl _), S.len]; simp
      · show (if p = p then some ρ.length else ow p) = some ρ.length
        rw [if_pos rfl]
end
end DL

set_option Elab.async false
set_option linter.all false
set_option maxRecDepth 100000
namespace DL
open PySem L2

/-! ### readings to trees -/
section
variable (X : Cx) (N : Nam)
def DE (e : Expr) (wp : WE) : Prop := ∃ t, PE X e t ∧ ∀ (Z : Ety) (σ : St) (H F : Hp) (ρ : Env) (M : Mem) (Q : D → Env → Mem → Prop) (K : VK), Sim N Z F ρ M σ H → wp ρ M Q →
  (∀ v H' F' d ρ' M', Sim N Z F' ρ' M' σ H' → Le F F' → Rep N F' d v → Q d ρ' M' → K v H') → t σ H K
def DT (e : Expr) (wp : WE) : Prop := ∃ t, PT X e t ∧ ∀ (Z : Ety) (σ : St) (H F : Hp) (ρ : Env) (M : Mem) (Q : D → Env → Mem → Prop) (K : Bool → Hp → Prop), Sim N Z F ρ M σ H → wp ρ M (fun d ρ M => ∃ b, d = .bl b ∧ Q (.bl b) ρ M) →
  (∀ b H' F' ρ' M', Sim N Z F' ρ' M' σ H' → Le F F' → Q (.bl b) ρ' M' → K b H') → t σ H K
def DA (es : List Expr) (wp : WA) : Prop := ∃ t, PA X es t ∧ ∀ (Z : Ety) (σ : St) (H F : Hp) (ρ : Env) (M : Mem) (Q : List D → Env → Mem → Prop) (K : List V → Hp → Prop), Sim N Z F ρ M σ H → wp ρ M Q →
  (∀ vs H' F' ds ρ' M', Sim N Z F' ρ' M' σ H' → Le F F' → Reps N F' ds vs → Q ds ρ' M' → K vs H') → t σ H K
/-- a new container comes out -/
def DO (e : Expr) (wp : WE) : Prop := ∃ t, PE X e t ∧ ∀ (Z : Ety) (σ : St) (H F : Hp) (ρ : Env) (M : Mem) (Q : D → Env → Mem → Prop) (K : VK), Sim N Z F ρ M σ H → wp ρ M Q →
  (∀ p H' F' c ρ' M', Sim N Z F' (ρ' ++ [.own c]) M' (σ ++ [some (.ref p)]) H' → ρ'.length = σ.length → Le F F' → Q c.tree ρ' M' → K (.ref p) H') → t σ H K
end

def VRep (N : Nam) (F H : Hp) : D → V → Prop
  | .lst ds, v => ∃ a vs, v = .ref a ∧ H a = some (.lst vs) ∧ vs.length ≤ sizeLine ∧ Reps N F ds vs
  | .dct ks ds, v => ∃ a vs, v = .ref a ∧ H a = some (.dK (ks.zip vs)) ∧ ks.length = vs.length ∧ vs.length ≤ sizeLine ∧ ks.Nodup ∧ Reps N F ds vs
  | d, v => Rep N F d v
section
variable {N : Nam} {Z : Ety} {F F' : Hp} {ρ ρ' : Env} {M M' : Mem} {σ σ' : St} {H H' : Hp}
theorem Rep.vrep (S : Sim N Z F ρ M σ H) : ∀ {d : D} {v : V}, Rep N F d v → VRep N F H d v
  | .non, v, r => r | .bl _, v, r => r | .int _, v, r => r | .str _, v, r => r | .ty _, v, r => r | .loc _, v, r => r | .scr _, v, r => r | .kemp _, v, r => r | .tup _, v, r => r | .obj _ _, v, r => r
  | .lst ds, v, r => by
    unfold Rep at r
    obtain ⟨a, vs, e, f, z, q⟩ := r
    exact ⟨a, vs, e, S.sub _ _ f, z, q⟩
  | .dct ks ds, v, r => by
    unfold Rep at r
    obtain ⟨a, vs, e, f, z, z2, z3, q⟩ := r
    exact ⟨a, vs, e, S.sub _ _ f, z, z2, z3, q⟩
theorem CoOk.vrep {p : Addr} {c : CO} (x : CoOk N F H p c) : VRep N F H c.tree (.ref p) := by
  cases c with
  | L ds => obtain ⟨vs, e, z, r⟩ := x; exact ⟨p, vs, rfl, e, z, r⟩
  | K ks ds => obtain ⟨vs, e, z, z2, z3, r⟩ := x; exact ⟨p, vs, rfl, e, z, z2, z3, r⟩
theorem Rep.view (S : Sim N Z F ρ M σ H) {d : D} {v : V} (r : Rep N F d v) : VRep N F H (view M d) v := by
  cases d with
  | loc p =>
    unfold Rep at r
    subst r
    show VRep N F H (match M p with | some (.co c) => c.tree | _ => .loc p) (.ref p)
    cases e : M p with
    | none => exact (show Rep N F (.loc p) (.ref p) by unfold Rep; rfl)
    | some mo =>
      cases mo with
      | co c => exact CoOk.vrep (S.mem p _ e)
      | obj c fs => exact (show Rep N F (.loc p) (.ref p) by unfold Rep; rfl)
  | _ => exact r.vrep S
theorem rep_int {i : Int} {v : V} : Rep N F (.int i) v ↔ v = .int i := by constructor <;> (intro h; unfold Rep at *; exact h)
theorem rep_bl {i : Bool} {v : V} : Rep N F (.bl i) v ↔ v = .bl i := by constructor <;> (intro h; unfold Rep at *; exact h)
theorem rep_str {i : Str} {v : V} : Rep N F (.str i) v ↔ v = .str i := by constructor <;> (intro h; unfold Rep at *; exact h)
theorem rep_non {v : V} : Rep N F .non v ↔ v = .non := by constructor <;> (intro h; unfold Rep at *; exact h)
theorem rep_loc {a : Addr} {v : V} : Rep N F (.loc a) v ↔ v = .ref a := by constructor <;> (intro h; unfold Rep at *; exact h)
theorem rep_tup {ds : List D} {v : V} : Rep N F (.tup ds) v ↔ ∃ a vs, v = .ref a ∧ F a = some (.tup vs) ∧ vs.length ≤ sizeLine ∧ Reps N F ds vs := by constructor <;> (intro h; unfold Rep at *; exact h)
theorem rep_lst {ds : List D} {v : V} : Rep N F (.lst ds) v ↔ ∃ a vs, v = .ref a ∧ F a = some (.lst vs) ∧ vs.length ≤ sizeLine ∧ Reps N F ds vs := by constructor <;> (intro h; unfold Rep at *; exact h)
theorem rep_obj {c : Nat} {ds : List D} {v : V} : Rep N F (.obj c ds) v ↔ ∃ a dx vs, v = .ref a ∧ F a = some (.ins (N.cad c) dx ((N.nms c).zip vs)) ∧ (N.nms c).length = vs.length ∧ Reps N F ds vs := by constructor <;> (intro h; unfold Rep at *; exact h)
theorem rep_dct {ks : List Key} {ds : List D} {v : V} : Rep N F (.dct ks ds) v ↔ ∃ a vs, v = .ref a ∧ F a = some (.dK (ks.zip vs)) ∧ ks.length = vs.length ∧ vs.length ≤ sizeLine ∧ ks.Nodup ∧ Reps N F ds vs := by constructor <;> (intro h; unfold Rep at *; exact h)
theorem rep_scr {ns : List Int} {v : V} : Rep N F (.scr ns) v ↔ ∃ a, v = .ref a ∧ (Rd F a (.lst (ns.map V.int)) ∨ N.kl a ns) ∧ ns.length ≤ sizeLine := by constructor <;> (intro h; unfold Rep at *; exact h)
theorem sim_rd (S : Sim N Z F ρ M σ H) {a : Addr} {u : HO} (r : Rd F a u) : Rd H a u := by
  rcases r with r | ⟨o, r⟩
  · exact .inl (S.sub _ _ r)
  · exact .inr ⟨o, S.sub _ _ r⟩
theorem scr_sq {K : PySem.W.Frag} (kl : ∀ a ns, N.kl a ns → ∀ H, SqL K H a (ns.map V.int)) (S : Sim N Z F ρ M σ H) {a : Addr} {ns : List Int} (r : Rd F a (.lst (ns.map V.int)) ∨ N.kl a ns) : SqL K H a (ns.map V.int) := by
  rcases r with r | r
  · exact .inl (sim_rd S r)
  · exact kl a ns r H
end

section
variable {X : Cx} {N : Nam} {B : Tab} {pos : Pos}
theorem de_var {i : Nat} {x : Str} (h : PE X (.Name x pos) (tVar i)) : DE X N (.Name x pos) (wpE B (.var i)) := by
  refine ⟨_, h, fun Z σ H F ρ M Q K S hw hk => ?_⟩
  have hw : readP ρ i M Q := hw
  unfold readP at hw
  cases e : ρ[i]? with
  | none => rw [e] at hw; exact hw.elim
  | some l =>
    rw [e] at hw
    cases l with
    | no => exact hw.elim
    | val d =>
      obtain ⟨v, h1, h2⟩ := S.val e
      exact ⟨v, h1, hk v H F d ρ M S (Le.refl _) h2 hw⟩
    | own c =>
      obtain ⟨p, ho, h1, h2, h3, S'⟩ := S.seal e
      exact ⟨_, h1, hk _ H _ _ _ _ S' (Le.new h2) h3 hw⟩
theorem de_const {e : Expr} {d : D} {v : V} (h : PE X e (tC v)) (r : ∀ F, Rep N F d v) : DE X N e (fun ρ M Q => Q d ρ M) :=
  ⟨_, h, fun Z σ H F ρ M Q K S hw hk => hk v H F d ρ M S (Le.refl _) (r F) hw⟩
/-- two, then an operation by values -/
def RB (X : Cx) (N : Nam) (r : R2) (p : D → D → (D → Prop) → Prop) : Prop :=
  ∀ (Z : Ety) (σ : St) (H F : Hp) (ρ : Env) (M : Mem) (x y : V) (a b : D) (Q : D → Prop) (K : VK), Sim N Z F ρ M σ H → Rep N F a x → Rep N F b y → p (view M a) (view M b) Q →
    (∀ v H' F' d, Sim N Z F' ρ M σ H' → Le F F' → Rep N F' d v → Q d → K v H') → r x y H K
theorem RB.or {r r' : R2} {p p' : D → D → (D → Prop) → Prop} {p2 : D → D → (D → Prop) → Prop} (h : RB X N r p) (h' : RB X N r' p') (hp : ∀ a b Q, p2 a b Q → p a b Q ∨ p' a b Q) : RB X N (fun x y H Q => r x y H Q ∨ r' x y H Q) p2 :=
  fun Z σ H F ρ M x y a b Q K S ra rb hq hk => by
    rcases hp _ _ _ hq with z | z
    · exact .inl (h Z σ H F ρ M x y a b Q K S ra rb z hk)
    · exact .inr (h' Z σ H F ρ M x y a b Q K S ra rb z hk)
theorem de_op2 {a b e : Expr} {wa wb : WE} {r : R2} {p : D → D → (D → Prop) → Prop} (pe : ∀ {ta tb}, PE X a ta → PE X b tb → PE X e (tOp r ta tb)) (hr : RB X N r p) (ha : DE X N a wa) (hb : DE X N b wb) :
    DE X N e (fun ρ M Q => wa ρ M fun x ρ M => wb ρ M fun y ρ M => p (view M x) (view M y) fun z => Q z ρ M) := by
  obtain ⟨ta, pa, ka⟩ := ha
  obtain ⟨tb, pb, kb⟩ := hb
  refine ⟨_, pe pa pb, fun Z σ H F ρ M Q K S hw hk => ?_⟩
  refine ka Z σ H F ρ M _ _ S hw fun v1 H1 F1 d1 ρ1 M1 S1 l1 r1 q1 => ?_
  refine kb Z σ H1 F1 ρ1 M1 _ _ S1 q1 fun v2 H2 F2 d2 ρ2 M2 S2 l2 r2 q2 => ?_
  exact hr Z σ H2 F2 ρ2 M2 v1 v2 d1 d2 _ K S2 (r1.mono l2) r2 q2 fun v H' F' d S' l' r' q' => hk v H' F' d ρ2 M2 S' ((l1.trans l2).trans l') r' q'
/-- no containers: what is read is the value -/
theorem rb_scal {r : R2} {p : D → D → (D → Prop) → Prop} (h : ∀ (F H : Hp) (x y : V) (a b : D) (Q : D → Prop) (K : VK), Rep N F a x → Rep N F b y → p a b Q → (∀ v d, (∀ F, Rep N F d v) → Q d → K v H) → r x y H K)
    (hl : ∀ M a b Q, p (view M a) (view M b) Q → p a b Q) : RB X N r p := fun Z σ H F ρ M x y a b Q K S ra rb hq hk =>
  h F H x y a b Q K ra rb (hl M a b Q hq) fun v d r q => hk v H F d S (Le.refl _) (r F) q
end
end DL

set_option Elab.async false
set_option linter.all false
set_option maxRecDepth 100000
namespace DL
open PySem L2
section
variable {X : Cx} {N : Nam} {B : Tab} {pos : Pos}
theorem rb_of {r : R2} {p : D → D → (D → Prop) → Prop} (h : ∀ (Z : Ety) (σ : St) (H F : Hp) (ρ : Env) (M : Mem) (x y : V) (a b : D) (Q : D → Prop) (K : VK), Sim N Z F ρ M σ H → VRep N F H a x → VRep N F H b y → p a b Q →
    (∀ v H' F' d, Sim N Z F' ρ M σ H' → Le F F' → Rep N F' d v → Q d → K v H') → r x y H K) : RB X N r p := fun Z σ H F ρ M x y a b Q K S ra rb hq hk => h Z σ H F ρ M x y _ _ Q K S (ra.view S) (rb.view S) hq hk
theorem v_int {F H : Hp} {i : Int} {v : V} (r : VRep N F H (.int i) v) : v = .int i := rep_int.mp (show Rep N F (.int i) v from r)
theorem v_str {F H : Hp} {i : Str} {v : V} (r : VRep N F H (.str i) v) : v = .str i := rep_str.mp (show Rep N F (.str i) v from r)
theorem v_bl {F H : Hp} {i : Bool} {v : V} (r : VRep N F H (.bl i) v) : v = .bl i := rep_bl.mp (show Rep N F (.bl i) v from r)
theorem v_tup {F H : Hp} {ds : List D} {v : V} (S : ∀ a o, F a = some o → H a = some o) (r : VRep N F H (.tup ds) v) : ∃ a vs, v = .ref a ∧ H a = some (.tup vs) ∧ vs.length ≤ sizeLine ∧ Reps N F ds vs := by
  obtain ⟨a, vs, e, f, z, q⟩ := rep_tup.mp (show Rep N F (.tup ds) v from r)
  exact ⟨a, vs, e, S _ _ f, z, q⟩

/-- int op int -/
theorem rb_I0 {g : Int → Int → V} {g' : Int → Int → D} {p : D → D → (D → Prop) → Prop} (hg : ∀ i j F, Rep N F (g' i j) (g i j)) (hp : ∀ a b Q, p a b Q → ∃ i j, a = .int i ∧ b = .int j ∧ Q (g' i j)) : RB X N (rI0 g) p :=
  rb_of fun Z σ H F ρ M x y a b Q K S ra rb hq hk => by
    obtain ⟨i, j, rfl, rfl, q⟩ := hp a b Q hq
    exact ⟨i, j, v_int ra, v_int rb, hk _ H F _ S (Le.refl _) (hg i j F) q⟩
theorem rb_I {C : Int → Int → Prop} {g : Int → Int → V} {g' : Int → Int → D} {p : D → D → (D → Prop) → Prop} (hg : ∀ i j F, Rep N F (g' i j) (g i j)) (hp : ∀ a b Q, p a b Q → ∃ i j, a = .int i ∧ b = .int j ∧ C i j ∧ Q (g' i j)) : RB X N (rI C g) p :=
  rb_of fun Z σ H F ρ M x y a b Q K S ra rb hq hk => by
    obtain ⟨i, j, rfl, rfl, c, q⟩ := hp a b Q hq
    exact ⟨i, j, v_int ra, v_int rb, c, hk _ H F _ S (Le.refl _) (hg i j F) q⟩
theorem binP_inv {o : BOp} {a b : D} {Q : D → Prop} (h : binP o a b Q) : (∃ i j, a = .int i ∧ b = .int j) ∨ (o = .add ∧ ((∃ i j, a = .str i ∧ b = .str j) ∨ (∃ i j, a = .lst i ∧ b = .lst j) ∨ (∃ i j, a = .tup i ∧ b = .tup j))) := by
  unfold binP at h
  split at h <;> first
    | exact .inl ⟨_, _, rfl, rfl⟩
    | exact .inr ⟨rfl, .inl ⟨_, _, rfl, rfl⟩⟩
    | exact .inr ⟨rfl, .inr (.inl ⟨_, _, rfl, rfl⟩)⟩
    | exact .inr ⟨rfl, .inr (.inr ⟨_, _, rfl, rfl⟩)⟩
    | exact h.elim
def rAddA (K : PySem.W.Frag) : R2 := fun x y H Q => (rI0 fun i j => .int (i + j)) x y H Q ∨ (∃ i j, x = .str i ∧ y = .str j ∧ i.length + j.length ≤ sizeLine ∧ Q (.str (i ++ j)) H) ∨ rCat x y H Q ∨ rCatA K x y H Q
theorem op_addA : OpR X (binaryOp .Add) (rAddA X.K) := op_add.or (op_add_str.or (op_cat.or op_catA))
theorem int_rep {F : Hp} (i : Int) : Rep N F (.int i) (.int i) := rep_int.mpr rfl
theorem rb_add : RB X N (rAddA X.K) (binP .add) := rb_of fun Z σ H F ρ M x y a b Q K S ra rb hq hk => by
  rcases binP_inv hq with ⟨i, j, rfl, rfl⟩ | ⟨_, ⟨i, j, rfl, rfl⟩ | ⟨i, j, rfl, rfl⟩ | ⟨i, j, rfl, rfl⟩⟩
  · exact .inl ⟨i, j, v_int ra, v_int rb, hk _ H F _ S (Le.refl _) (int_rep _) hq⟩
  · exact .inr (.inl ⟨i, j, v_str ra, v_str rb, hq.1, hk _ H F _ S (Le.refl _) (rep_str.mpr rfl) hq.2⟩)
  · obtain ⟨p, vs, e1, h1, z1, r1⟩ := ra
    obtain ⟨q, us, e2, h2, z2, r2⟩ := rb
    have hl : vs.length + us.length ≤ sizeLine := by rw [r1.length, r2.length]; exact hq.1
    refine .inr (.inr (.inl ⟨p, q, vs, us, e1, e2, h1, h2, hl, fun l hl' => ?_⟩))
    have S' := S.alloc (o := .lst (vs ++ us)) hl'
    exact hk _ _ _ _ S' (Le.new (S.fnone hl')) (rep_lst.mpr ⟨l, _, rfl, upd_same, by rw [List.length_append]; exact hl, (r1.append r2).mono (Le.new (S.fnone hl'))⟩) hq.2
  · obtain ⟨p, vs, e1, h1, z1, r1⟩ := rep_tup.mp (show Rep N F (.tup _) x from ra)
    obtain ⟨q, us, e2, h2, z2, r2⟩ := rep_tup.mp (show Rep N F (.tup _) y from rb)
    have hl : vs.length + us.length ≤ sizeLine := by rw [r1.length, r2.length]; exact hq.1
    refine .inr (.inr (.inr ⟨p, q, vs, us, e1, e2, SqT.of (S.sub _ _ h1), SqT.of (S.sub _ _ h2), hl, fun e => ?_, fun _ e => ?_, fun _ _ l hl' => ?_⟩))
    · subst e
      have e : i = [] := List.eq_nil_of_length_eq_zero (by rw [← r1.length]; rfl)
      subst e
      exact hk _ H F _ S (Le.refl _) (rep_tup.mpr ⟨q, us, rfl, h2, z2, r2⟩) hq.2
    · subst e
      have e : j = [] := List.eq_nil_of_length_eq_zero (by rw [← r2.length]; rfl)
      subst e
      have q2 := hq.2
      rw [List.append_nil] at q2
      exact hk _ H F _ S (Le.refl _) (rep_tup.mpr ⟨p, vs, rfl, h1, z1, r1⟩) q2
    · have S' := S.alloc (o := .tup (vs ++ us)) hl'
      exact hk _ _ _ _ S' (Le.new (S.fnone hl')) (rep_tup.mpr ⟨l, _, rfl, upd_same, by rw [List.length_append]; exact hl, (r1.append r2).mono (Le.new (S.fnone hl'))⟩) hq.2
theorem ints_of {o : BOp} (ho : o ≠ .add) {a b : D} {Q : D → Prop} (h : binP o a b Q) : ∃ i j, a = .int i ∧ b = .int j := by
  rcases binP_inv h with z | ⟨z, _⟩
  · exact z
  · exact absurd z ho
theorem rb_sub : RB X N (rI0 fun i j => .int (i - j)) (binP .sub) := rb_I0 (g' := fun i j => .int (i - j)) (fun i j F => int_rep _) fun a b Q h => by
  obtain ⟨i, j, rfl, rfl⟩ := ints_of (by decide) h
  exact ⟨i, j, rfl, rfl, h⟩
theorem rb_mul : RB X N (rI CMul fun i j => .int (i * j)) (binP .mul) := rb_I (g' := fun i j => .int (i * j)) (fun i j F => int_rep _) fun a b Q h => by
  obtain ⟨i, j, rfl, rfl⟩ := ints_of (by decide) h
  exact ⟨i, j, rfl, rfl, h.1, h.2⟩
theorem rb_mod : RB X N (rI (fun _ j => 0 < j) fun i j => .int (i % j)) (binP .mod) := rb_I (g' := fun i j => .int (i % j)) (fun i j F => int_rep _) fun a b Q h => by
  obtain ⟨i, j, rfl, rfl⟩ := ints_of (by decide) h
  exact ⟨i, j, rfl, rfl, h.1, h.2⟩
theorem rb_pow : RB X N (rI CPow fun i j => .int (i ^ j.toNat)) (binP .pow) := rb_I (g' := fun i j => .int (i ^ j.toNat)) (fun i j F => int_rep _) fun a b Q h => by
  obtain ⟨i, j, rfl, rfl⟩ := ints_of (by decide) h
  exact ⟨i, j, rfl, rfl, h.1, h.2⟩
theorem log_lt {n k : Nat} (h : n < 2 ^ k) (hk : 0 < k) : n.log2 < k := by
  by_cases z : n = 0
  · subst z; simpa using hk
  · exact (Nat.log2_lt z).mpr h
theorem rb_fdiv : RB X N (fun x y H Q => (rI CDiv fun i j => .int (i / j)) x y H Q ∨ (rI CDivW fun i j => .int (i / j)) x y H Q) (binP .fdiv) := rb_of fun Z σ H F ρ M x y a b Q K S ra rb hq hk => by
  obtain ⟨i, j, rfl, rfl⟩ := ints_of (by decide) hq
  rcases hq.1.2 with h | ⟨h1, h2⟩
  · exact .inl ⟨i, j, v_int ra, v_int rb, ⟨hq.1.1, h⟩, hk _ H F _ S (Le.refl _) (int_rep _) hq.2⟩
  · refine .inr ⟨i, j, v_int ra, v_int rb, ⟨hq.1.1, ?_⟩, hk _ H F _ S (Le.refl _) (int_rep _) hq.2⟩
    have h3 : j.natAbs < 2 ^ 200 := by
      have e : (2 : Int) ^ 200 = ((2 ^ 200 : Nat) : Int) := by norm_cast
      rw [e] at h2
      have := hq.1.1
      omega
    exact Nat.lt_of_lt_of_le (log_lt h3 (by decide)) (by decide)
def opE : BOp → Operator
  | .add => .Add | .sub => .Sub | .mul => .Mult | .fdiv => .FloorDiv | .mod => .Mod | .pow => .Pow
theorem de_bin {a b : Expr} {wa wb : WE} (o : BOp) (ha : DE X N a wa) (hb : DE X N b wb) : DE X N (.BinOp a (opE o) b pos) (fun ρ M Q => wa ρ M fun x ρ M => wb ρ M fun y ρ M => binP o (view M x) (view M y) fun z => Q z ρ M) := by
  cases o with
  | add => exact de_op2 (pe_op op_addA) rb_add ha hb
  | sub => exact de_op2 (pe_op op_sub) rb_sub ha hb
  | mul => exact de_op2 (pe_op op_mul) rb_mul ha hb
  | fdiv => exact de_op2 (pe_op (op_fdiv.or op_fdivW)) rb_fdiv ha hb
  | mod => exact de_op2 (pe_op op_mod) rb_mod ha hb
  | pow => exact de_op2 (pe_op op_pow) rb_pow ha hb
end
end DL

set_option Elab.async false
set_option linter.all false
set_option maxRecDepth 100000
namespace DL
open PySem L2

/-! ### data as PyData -/
mutual
theorem eqv_py : ∀ {x y : D}, dat x = true → dat y = true → PyData.eqv (py x) (py y) = deq x y
  | .non, y, hx, hy => by cases y <;> first | rfl | (unfold dat at hy; cases hy)
  | .bl b, y, hx, hy => by cases y <;> first | rfl | (unfold dat at hy; cases hy)
  | .int i, y, hx, hy => by
    cases y with
    | int j => simp only [py, PyData.eqv, deq]; rw [Bool.beq_eq_decide_eq]
    | _ => first | rfl | (unfold dat at hy; cases hy)
  | .str s, y, hx, hy => by
    cases y with
    | str j => simp only [py, PyData.eqv, deq]; rw [Bool.beq_eq_decide_eq]
    | _ => first | rfl | (unfold dat at hy; cases hy)
  | .tup ds, y, hx, hy => by
    cases y with
    | tup es => simp only [py, PyData.eqv, deq]; unfold dat at hx hy; exact eqv_pys hx hy
    | _ => first | rfl | (unfold dat at hy; cases hy)
  | .lst ds, y, hx, hy => by
    cases y with
    | lst es => simp only [py, PyData.eqv, deq]; unfold dat at hx hy; exact eqv_pys hx hy
    | _ => first | rfl | (unfold dat at hy; cases hy)
  | .obj c fs, y, hx, hy => by unfold dat at hx; cases hx
  | .dct c fs, y, hx, hy => by unfold dat at hx; cases hx
  | .ty c, y, hx, hy => by unfold dat at hx; cases hx
  | .loc c, y, hx, hy => by unfold dat at hx; cases hx
  | .scr c, y, hx, hy => by unfold dat at hx; cases hx
theorem eqv_pys : ∀ {xs ys : List D}, dats xs = true → dats ys = true → PyData.eqvAll (pys xs) (pys ys) = deqs xs ys
  | [], [], _, _ => rfl
  | [], y :: ys, _, _ => rfl
  | x :: xs, [], _, _ => rfl
  | x :: xs, y :: ys, hx, hy => by
    unfold dats at hx hy
    rw [Bool.and_eq_true] at hx hy
    simp only [pys, PyData.eqvAll, deqs]
    rw [eqv_py hx.1 hy.1, eqv_pys hx.2 hy.2]
end
mutual
theorem lay_py : ∀ {x : D}, dat x = true → PyData.canLay0 (py x) = true ∧ PyData.depth (py x) ≤ dep x
  | .non, _ => ⟨rfl, Nat.zero_le _⟩
  | .bl b, _ => ⟨rfl, Nat.zero_le _⟩
  | .int i, _ => ⟨rfl, Nat.zero_le _⟩
  | .str s, h => ⟨by unfold dat at h; simp only [py, PyData.canLay0]; exact h, by simp [py, PyData.depth]⟩
  | .tup ds, h => by
    unfold dat at h
    have q := lay_pys h
    simp only [py, PyData.canLay0, PyData.depth, dep]
    exact ⟨q.1, by omega⟩
  | .lst ds, h => by
    unfold dat at h
    have q := lay_pys h
    simp only [py, PyData.canLay0, PyData.depth, dep]
    exact ⟨q.1, by omega⟩
  | .obj c fs, hx => by unfold dat at hx; cases hx
  | .dct c fs, hx => by unfold dat at hx; cases hx
  | .ty c, hx => by unfold dat at hx; cases hx
  | .loc c, hx => by unfold dat at hx; cases hx
  | .scr c, hx => by unfold dat at hx; cases hx
theorem lay_pys : ∀ {xs : List D}, dats xs = true → PyData.canLayAll0 (pys xs) = true ∧ PyData.depthAll (pys xs) ≤ deps xs
  | [], _ => ⟨rfl, Nat.zero_le _⟩
  | x :: xs, hx => by
    unfold dats at hx
    rw [Bool.and_eq_true] at hx
    have h1 := lay_py hx.1
    have h2 := lay_pys hx.2
    simp only [pys, PyData.canLayAll0, PyData.depthAll, deps]
    exact ⟨by rw [h1.1, h2.1]; rfl, by omega⟩
end
section
variable {N : Nam} {K : PySem.W.Frag} {F H : Hp}
mutual
theorem Rep.dp (sub : ∀ a o, F a = some o → H a = some o) : ∀ {d : D} {v : V}, dat d = true → Rep N F d v → Dp K H v (py d)
  | .non, v, _, r => by rw [rep_non.mp r]; exact .non
  | .bl b, v, _, r => by rw [rep_bl.mp r]; exact .bl b
  | .int i, v, _, r => by rw [rep_int.mp r]; exact .int i
  | .str s, v, _, r => by rw [rep_str.mp r]; exact .str s
  | .tup ds, v, h, r => by
    obtain ⟨a, vs, rfl, e, z, q⟩ := rep_tup.mp r
    unfold dat at h
    exact .tup (SqT.of (sub _ _ e)) (Reps.dp sub h q)
  | .lst ds, v, h, r => by
    obtain ⟨a, vs, rfl, e, z, q⟩ := rep_lst.mp r
    unfold dat at h
    exact .lst (SqL.of (sub _ _ e)) (Reps.dp sub h q)
  | .obj c fs, v, hx, _ => by unfold dat at hx; cases hx
  | .dct c fs, v, hx, _ => by unfold dat at hx; cases hx
  | .ty c, v, hx, _ => by unfold dat at hx; cases hx
  | .loc c, v, hx, _ => by unfold dat at hx; cases hx
  | .scr c, v, hx, _ => by unfold dat at hx; cases hx
theorem Reps.dp (sub : ∀ a o, F a = some o → H a = some o) : ∀ {ds : List D} {vs : List V}, dats ds = true → Reps N F ds vs → DpAll K H vs (pys ds)
  | [], vs, _, r => by rw [reps_nil.mp r]; exact .nil
  | d :: ds, vs, h, r => by
    obtain ⟨v, t, rfl, q, w⟩ := reps_cons.mp r
    unfold dats at h
    rw [Bool.and_eq_true] at h
    exact .cons (Rep.dp sub h.1 q) (Reps.dp sub h.2 w)
end
theorem VRep.dp (sub : ∀ a o, F a = some o → H a = some o) {d : D} {v : V} (h : dat d = true) (r : VRep N F H d v) : Dp K H v (py d) := by
  cases d with
  | lst ds =>
    obtain ⟨a, vs, rfl, e, z, q⟩ := r
    unfold dat at h
    exact .lst (SqL.of e) (Reps.dp sub h q)
  | dct ks ds => unfold dat at h; cases h
  | _ => exact Rep.dp sub h (show Rep N F _ v from r)
theorem flat_v {d : D} {v : V} (h : flatD d = true) (r : Rep N F d v) : flatV v = true := by
  cases d with
  | non => rw [rep_non.mp r]; rfl
  | bl b => rw [rep_bl.mp r]; rfl
  | int b => rw [rep_int.mp r]; rfl
  | str b => rw [rep_str.mp r]; rfl
  | _ => cases h
theorem flat_vs : ∀ {ds : List D} {vs : List V}, ds.all flatD = true → Reps N F ds vs → vs.all flatV = true
  | [], vs, _, r => by rw [reps_nil.mp r]; rfl
  | d :: ds, vs, h, r => by
    obtain ⟨v, t, rfl, q, w⟩ := reps_cons.mp r
    rw [List.all_cons, Bool.and_eq_true] at h ⊢
    exact ⟨flat_v h.1 q, flat_vs h.2 w⟩
theorem eq_flat {d e : D} {v u : V} (h : flatD d = true) (h' : flatD e = true) (r : Rep N F d v) (r' : Rep N F e u) : eqV v u = deq d e := by
  cases d with
  | non => rw [rep_non.mp r]; cases e with
    | non => rw [rep_non.mp r']; rfl
    | bl b => rw [rep_bl.mp r']; rfl
    | int b => rw [rep_int.mp r']; rfl
    | str b => rw [rep_str.mp r']; rfl
    | _ => cases h'
  | bl b => rw [rep_bl.mp r]; cases e with
    | non => rw [rep_non.mp r']; rfl
    | bl b => rw [rep_bl.mp r']; rfl
    | int b => rw [rep_int.mp r']; rfl
    | str b => rw [rep_str.mp r']; rfl
    | _ => cases h'
  | int b => rw [rep_int.mp r]; cases e with
    | non => rw [rep_non.mp r']; rfl
    | bl b => rw [rep_bl.mp r']; rfl
    | int b => rw [rep_int.mp r']; exact Bool.beq_eq_decide_eq _ _
    | str b => rw [rep_str.mp r']; rfl
    | _ => cases h'
  | str b => rw [rep_str.mp r]; cases e with
    | non => rw [rep_non.mp r']; rfl
    | bl b => rw [rep_bl.mp r']; rfl
    | int b => rw [rep_int.mp r']; rfl
    | str b => rw [rep_str.mp r']; exact Bool.beq_eq_decide_eq _ _
    | _ => cases h'
  | _ => cases h
theorem any_flat {x : D} {v : V} (hx : flatD x = true) (rx : Rep N F x v) : ∀ {ds : List D} {vs : List V}, ds.all flatD = true → Reps N F ds vs → inV v vs = ds.any fun d => deq d x
  | [], vs, _, r => by rw [reps_nil.mp r]; rfl
  | d :: ds, vs, h, r => by
    obtain ⟨u, t, rfl, q, w⟩ := reps_cons.mp r
    rw [List.all_cons, Bool.and_eq_true] at h
    have ih := any_flat hx rx h.2 w
    unfold inV at ih ⊢
    rw [List.any_cons, List.any_cons, ih, eq_flat h.1 hx q rx]
theorem key_v {d : D} {v : V} {k : Key} (h : keyOf d = some k) (r : Rep N F d v) : v = kV k := by
  cases d with
  | int i => rw [rep_int.mp r]; cases h; rfl
  | str i => rw [rep_str.mp r]; cases h; rfl
  | _ => cases h
theorem valV_zip : ∀ {ks : List Key} {ds : List D} {vs : List V} {k : Key}, ks.length = vs.length → Reps N F ds vs → match dget ks ds k with
    | some d => ∃ v, valV (ks.zip vs) k = some v ∧ Rep N F d v
    | none => valV (ks.zip vs) k = none
  | [], ds, vs, k, h, r => by
    cases vs with
    | nil => cases ds <;> exact rfl
    | cons v vs => cases h
  | j :: ks, ds, vs, k, h, r => by
    cases vs with
    | nil => cases h
    | cons v vs =>
      cases ds with
      | nil => rw [reps_nil] at r; cases r
      | cons d ds =>
        obtain ⟨u, t, e, q, w⟩ := reps_cons.mp r
        cases e
        have ih := valV_zip (ks := ks) (ds := ds) (vs := vs) (k := k) (by simpa using h) w
        unfold dget valV at *
        rw [List.zip_cons_cons, List.zip_cons_cons, List.find?_cons, List.find?_cons]
        by_cases e : j = k
        · simp only [e, decide_true]; exact ⟨v, rfl, q⟩
        · simp only [e, decide_false]; exact ih
end
section
variable {X : Cx} {N : Nam} {B : Tab} {pos : Pos}
theorem op_in_dict (hu : X.A.units + 1 < cLine) : OpR X (compareOp .In) (fun y x H Q => ∃ a o, x = .ref a ∧ DGet H a y o ∧ Q (.bl o.isSome) H) := by
  intro pins s σ H y x v u Q I ry rx h
  obtain ⟨a, o, rfl, g, q⟩ := h
  cases rx
  exact d_in hu I g ry fun s3 I3 => ⟨.bl o.isSome, H, I3, rfl, q⟩
theorem op_notin_dict (hu : X.A.units + 1 < cLine) : OpR X (compareOp .NotIn) (fun y x H Q => ∃ a o, x = .ref a ∧ DGet H a y o ∧ Q (.bl (!o.isSome)) H) := by
  intro pins s σ H y x v u Q I ry rx h
  obtain ⟨a, o, rfl, g, q⟩ := h
  cases rx
  exact d_notIn hu I g ry fun s3 I3 => ⟨.bl (!o.isSome), H, I3, rfl, q⟩
def copE : COp → CmpOp
  | .lt => .Lt | .le => .LtE | .gt => .Gt | .ge => .GtE | .eq => .Eq | .ne => .NotEq | .isin => .In | .notin => .NotIn | .isN => .Is | .notN => .IsNot | .isB => .Is
def cmpQ (o : COp) : D → D → (D → Prop) → Prop := fun a b Q => cmpP o a b fun z => Q (.bl z)
theorem bl_rep {F : Hp} (i : Bool) : Rep N F (.bl i) (.bl i) := rep_bl.mpr rfl
/-- for each comparison a rule -/
def CmpOk (X : Cx) (N : Nam) (o : COp) : Prop := ∃ r, OpR X (compareOp (copE o)) r ∧ RB X N r (cmpQ o)
theorem c_lt : CmpOk X N .lt := ⟨_, op_lt, rb_I0 (g' := fun i j => .bl (decide (i < j))) (fun _ _ _ => bl_rep _) fun a b Q h => by
  unfold cmpQ cmpP at h; split at h <;> first | exact ⟨_, _, rfl, rfl, h⟩ | exact h.elim | (cases (by assumption : (COp.lt = _))) | simp_all⟩
theorem c_le : CmpOk X N .le := ⟨_, op_le, rb_I0 (g' := fun i j => .bl (decide (i ≤ j))) (fun _ _ _ => bl_rep _) fun a b Q h => by
  unfold cmpQ cmpP at h; split at h <;> first | exact ⟨_, _, rfl, rfl, h⟩ | exact h.elim | simp_all⟩
theorem c_gt : CmpOk X N .gt := ⟨_, op_gt, rb_I0 (g' := fun i j => .bl (decide (j < i))) (fun _ _ _ => bl_rep _) fun a b Q h => by
  unfold cmpQ cmpP at h; split at h <;> first | exact ⟨_, _, rfl, rfl, h⟩ | exact h.elim | simp_all⟩
theorem c_ge : CmpOk X N .ge := ⟨_, op_ge, rb_I0 (g' := fun i j => .bl (decide (j ≤ i))) (fun _ _ _ => bl_rep _) fun a b Q h => by
  unfold cmpQ cmpP at h; split at h <;> first | exact ⟨_, _, rfl, rfl, h⟩ | exact h.elim | simp_all⟩
theorem eqOk_cases {a b : D} (h : eqOk a b = true) : (∃ x y, a = .str x ∧ b = .str y) ∨ (dat a = true ∧ dat b = true ∧ dep a ≤ 60 ∧ dep b ≤ 60) := by
  unfold eqOk at h
  split at h
  · exact .inl ⟨_, _, rfl, rfl⟩
  · simp only [Bool.and_eq_true, decide_eq_true_eq] at h
    exact .inr ⟨h.1.1.1, h.1.1.2, h.1.2, h.2⟩
theorem shaped_py {d : D} (h : dat d = true) (z : dep d ≤ 60) : SeqAt.shaped (py d) = true := by
  obtain ⟨h1, h2⟩ := lay_py h
  unfold SeqAt.shaped
  rw [h1, decide_eq_true (by omega)]
  rfl
theorem c_eq (hu : X.A.units + 64 < cLine) : CmpOk X N .eq := ⟨_, op_eq.or (op_eqD hu), rb_of fun Z σ H F ρ M x y a b Q K S ra rb hq hk => by
  obtain ⟨h, q⟩ := hq
  rcases eqOk_cases h with ⟨i, j, rfl, rfl⟩ | ⟨h1, h2, h3, h4⟩
  · refine .inl ?_
    rw [v_str ra, v_str rb]
    refine ⟨rfl, hk _ H F _ S (Le.refl _) (bl_rep _) ?_⟩
    have e : decide (V.str i = V.str j) = deq (.str i) (.str j) := by rw [dec_str]; exact Bool.beq_eq_decide_eq _ _
    rw [e]; exact q
  · refine .inr ⟨py a, py b, VRep.dp S.sub h1 ra, VRep.dp S.sub h2 rb, shaped_py h1 h3, shaped_py h2 h4, hk _ H F _ S (Le.refl _) (bl_rep _) ?_⟩
    rw [eqv_py h1 h2]; exact q⟩
theorem c_ne (hu : X.A.units + 64 < cLine) : CmpOk X N .ne := ⟨_, op_ne.or (op_neD hu), rb_of fun Z σ H F ρ M x y a b Q K S ra rb hq hk => by
  obtain ⟨h, q⟩ := hq
  rcases eqOk_cases h with ⟨i, j, rfl, rfl⟩ | ⟨h1, h2, h3, h4⟩
  · refine .inl ?_
    rw [v_str ra, v_str rb]
    refine ⟨rfl, hk _ H F _ S (Le.refl _) (bl_rep _) ?_⟩
    have e : decide (V.str i = V.str j) = deq (.str i) (.str j) := by rw [dec_str]; exact Bool.beq_eq_decide_eq _ _
    rw [e]; exact q
  · refine .inr ⟨py a, py b, VRep.dp S.sub h1 ra, VRep.dp S.sub h2 rb, shaped_py h1 h3, shaped_py h2 h4, hk _ H F _ S (Le.refl _) (bl_rep _) ?_⟩
    rw [eqv_py h1 h2]; exact q⟩
theorem flat_view {F H : Hp} {x : D} {v : V} (h : flatD x = true) (r : VRep N F H x v) : Rep N F x v := by
  cases x with
  | lst _ => cases h
  | dct _ _ => cases h
  | _ => exact r
theorem key_view {F H : Hp} {x : D} {v : V} {k : Key} (h : keyOf x = some k) (r : VRep N F H x v) : Rep N F x v := by
  cases x with
  | lst _ => cases h
  | dct _ _ => cases h
  | _ => exact r
theorem isin_inv {a b : D} {Q : Bool → Prop} (h : cmpP .isin a b Q) : (∃ ds, b = .lst ds ∧ (flatD a && ds.all flatD) = true ∧ Q (ds.any fun d => deq d a)) ∨ (∃ ds, b = .tup ds ∧ (flatD a && ds.all flatD) = true ∧ Q (ds.any fun d => deq d a)) ∨
    (∃ ks ds k, b = .dct ks ds ∧ keyOf a = some k ∧ Q (dget ks ds k).isSome) ∨ ∃ x y, a = .str x ∧ b = .str y ∧ Q (!(Builtin.Str.occurrences y x 0 y.length 1).isEmpty) := by
  cases b with
  | lst ds => exact .inl ⟨ds, rfl, by cases a <;> exact h⟩
  | tup ds => exact .inr (.inl ⟨ds, rfl, by cases a <;> exact h⟩)
  | dct ks ds => exact .inr (.inr (.inl (by have h : ∃ k, keyOf a = some k ∧ Q (dget ks ds k).isSome := by { cases a <;> exact h }; obtain ⟨k, h1, h2⟩ := h; exact ⟨ks, ds, k, rfl, h1, h2⟩)))
  | str y =>
    cases a with
    | str x => exact .inr (.inr (.inr ⟨x, y, rfl, rfl, h⟩))
    | _ => exact (show False from h).elim
  | _ => exact (show False by cases a <;> exact h).elim
theorem notin_inv {a b : D} {Q : Bool → Prop} (h : cmpP .notin a b Q) : (∃ ds, b = .lst ds ∧ (flatD a && ds.all flatD) = true ∧ Q (!ds.any fun d => deq d a)) ∨ (∃ ds, b = .tup ds ∧ (flatD a && ds.all flatD) = true ∧ Q (!ds.any fun d => deq d a)) ∨
    (∃ ks ds k, b = .dct ks ds ∧ keyOf a = some k ∧ Q (!(dget ks ds k).isSome)) ∨ ∃ x y, a = .str x ∧ b = .str y ∧ Q (!(!(Builtin.Str.occurrences y x 0 y.length 1).isEmpty)) := by
  cases b with
  | lst ds => exact .inl ⟨ds, rfl, by cases a <;> exact h⟩
  | tup ds => exact .inr (.inl ⟨ds, rfl, by cases a <;> exact h⟩)
  | dct ks ds => exact .inr (.inr (.inl (by have h : ∃ k, keyOf a = some k ∧ Q (!(dget ks ds k).isSome) := by { cases a <;> exact h }; obtain ⟨k, h1, h2⟩ := h; exact ⟨ks, ds, k, rfl, h1, h2⟩)))
  | str y =>
    cases a with
    | str x => exact .inr (.inr (.inr ⟨x, y, rfl, rfl, h⟩))
    | _ => exact (show False from h).elim
  | _ => exact (show False by cases a <;> exact h).elim
theorem c_in (hu : X.A.units + 64 < cLine) : CmpOk X N .isin := ⟨_, op_in_seq.or ((op_in_dict (by omega)).or op_in_str), rb_of fun Z σ H F ρ M x y a b Q K S ra rb hq hk => by
  rcases isin_inv hq with ⟨ds, rfl, f, q⟩ | ⟨ds, rfl, f, q⟩ | ⟨ks, ds, k, rfl, e, q⟩ | ⟨i, j, rfl, rfl, q⟩
  · rw [Bool.and_eq_true] at f
    obtain ⟨p, vs, rfl, e, z, r⟩ := rb
    have fa := flat_view f.1 ra
    refine .inl ⟨p, vs, rfl, .inl (SqL.of e), flat_v f.1 fa, flat_vs f.2 r, hk _ H F _ S (Le.refl _) (bl_rep _) ?_⟩
    simp only [Bool.false_eq_true, if_false]
    rw [any_flat f.1 fa f.2 r]; exact q
  · rw [Bool.and_eq_true] at f
    obtain ⟨p, vs, rfl, e, z, r⟩ := rep_tup.mp (show Rep N F (.tup ds) y from rb)
    have fa := flat_view f.1 ra
    refine .inl ⟨p, vs, rfl, .inr (SqT.of (S.sub _ _ e)), flat_v f.1 fa, flat_vs f.2 r, hk _ H F _ S (Le.refl _) (bl_rep _) ?_⟩
    simp only [Bool.false_eq_true, if_false]
    rw [any_flat f.1 fa f.2 r]; exact q
  · obtain ⟨p, vs, rfl, h1, z1, z2, z3, r⟩ := rb
    have ea := key_v e (key_view e ra)
    subst ea
    refine .inr (.inl ⟨p, _, rfl, DGet.k h1, hk _ H F _ S (Le.refl _) (bl_rep _) ?_⟩)
    have v := valV_zip (k := k) z1 r
    cases g : dget ks ds k with
    | none => rw [g] at v q; rw [show valV (ks.zip vs) k = none from v]; exact q
    | some d => rw [g] at v q; obtain ⟨u, hu', _⟩ := v; rw [hu']; exact q
  · exact .inr (.inr ⟨i, j, v_str ra, v_str rb, hk _ H F _ S (Le.refl _) (bl_rep _) q⟩)⟩
theorem c_notin (hu : X.A.units + 64 < cLine) : CmpOk X N .notin := ⟨_, op_notIn_seq.or ((op_notin_dict (by omega)).or op_notIn_str), rb_of fun Z σ H F ρ M x y a b Q K S ra rb hq hk => by
  rcases notin_inv hq with ⟨ds, rfl, f, q⟩ | ⟨ds, rfl, f, q⟩ | ⟨ks, ds, k, rfl, e, q⟩ | ⟨i, j, rfl, rfl, q⟩
  · rw [Bool.and_eq_true] at f
    obtain ⟨p, vs, rfl, e, z, r⟩ := rb
    have fa := flat_view f.1 ra
    refine .inl ⟨p, vs, rfl, .inl (SqL.of e), flat_v f.1 fa, flat_vs f.2 r, hk _ H F _ S (Le.refl _) (bl_rep _) ?_⟩
    simp only [if_true]
    rw [any_flat f.1 fa f.2 r]; exact q
  · rw [Bool.and_eq_true] at f
    obtain ⟨p, vs, rfl, e, z, r⟩ := rep_tup.mp (show Rep N F (.tup ds) y from rb)
    have fa := flat_view f.1 ra
    refine .inl ⟨p, vs, rfl, .inr (SqT.of (S.sub _ _ e)), flat_v f.1 fa, flat_vs f.2 r, hk _ H F _ S (Le.refl _) (bl_rep _) ?_⟩
    simp only [if_true]
    rw [any_flat f.1 fa f.2 r]; exact q
  · obtain ⟨p, vs, rfl, h1, z1, z2, z3, r⟩ := rb
    have ea := key_v e (key_view e ra)
    subst ea
    refine .inr (.inl ⟨p, _, rfl, DGet.k h1, hk _ H F _ S (Le.refl _) (bl_rep _) ?_⟩)
    have v := valV_zip (k := k) z1 r
    cases g : dget ks ds k with
    | none => rw [g] at v q; rw [show valV (ks.zip vs) k = none from v]; exact q
    | some d => rw [g] at v q; obtain ⟨u, hu', _⟩ := v; rw [hu']; exact q
  · exact .inr (.inr ⟨i, j, v_str ra, v_str rb, hk _ H F _ S (Le.refl _) (bl_rep _) q⟩)⟩
def RBv (X : Cx) (N : Nam) (r : R2) (p : D → D → (D → Prop) → Prop) : Prop := ∀ (Z : Ety) (σ : St) (H F : Hp) (ρ : Env) (M : Mem) (x y : V) (a b : D) (Q : D → Prop) (K : VK), Sim N Z F ρ M σ H → VRep N F H a x → VRep N F H b y → p a b Q →
    (∀ v H' F' d, Sim N Z F' ρ M σ H' → Le F F' → Rep N F' d v → Q d → K v H') → r x y H K
def CmpOkV (X : Cx) (N : Nam) (o : COp) : Prop := ∃ r, OpR X (compareOp (copE o)) r ∧ RBv X N r (cmpQ o)
theorem c_inV (hu : X.A.units + 64 < cLine) : CmpOkV X N .isin := ⟨_, op_in_seq.or ((op_in_dict (by omega)).or op_in_str), fun Z σ H F ρ M x y a b Q K S ra rb hq hk => by
  rcases isin_inv hq with ⟨ds, rfl, f, q⟩ | ⟨ds, rfl, f, q⟩ | ⟨ks, ds, k, rfl, e, q⟩ | ⟨i, j, rfl, rfl, q⟩
  · rw [Bool.and_eq_true] at f
    obtain ⟨p, vs, rfl, e, z, r⟩ := rb
    have fa := flat_view f.1 ra
    refine .inl ⟨p, vs, rfl, .inl (SqL.of e), flat_v f.1 fa, flat_vs f.2 r, hk _ H F _ S (Le.refl _) (bl_rep _) ?_⟩
    simp only [Bool.false_eq_true, if_false]
    rw [any_flat f.1 fa f.2 r]; exact q
  · rw [Bool.and_eq_true] at f
    obtain ⟨p, vs, rfl, e, z, r⟩ := rep_tup.mp (show Rep N F (.tup ds) y from rb)
    have fa := flat_view f.1 ra
    refine .inl ⟨p, vs, rfl, .inr (SqT.of (S.sub _ _ e)), flat_v f.1 fa, flat_vs f.2 r, hk _ H F _ S (Le.refl _) (bl_rep _) ?_⟩
    simp only [Bool.false_eq_true, if_false]
    rw [any_flat f.1 fa f.2 r]; exact q
  · obtain ⟨p, vs, rfl, h1, z1, z2, z3, r⟩ := rb
    have ea := key_v e (key_view e ra)
    subst ea
    refine .inr (.inl ⟨p, _, rfl, DGet.k h1, hk _ H F _ S (Le.refl _) (bl_rep _) ?_⟩)
    have v := valV_zip (k := k) z1 r
    cases g : dget ks ds k with
    | none => rw [g] at v q; rw [show valV (ks.zip vs) k = none from v]; exact q
    | some d => rw [g] at v q; obtain ⟨u, hu', _⟩ := v; rw [hu']; exact q
  · exact .inr (.inr ⟨i, j, v_str ra, v_str rb, hk _ H F _ S (Le.refl _) (bl_rep _) q⟩)⟩
theorem c_notinV (hu : X.A.units + 64 < cLine) : CmpOkV X N .notin := ⟨_, op_notIn_seq.or ((op_notin_dict (by omega)).or op_notIn_str), fun Z σ H F ρ M x y a b Q K S ra rb hq hk => by
  rcases notin_inv hq with ⟨ds, rfl, f, q⟩ | ⟨ds, rfl, f, q⟩ | ⟨ks, ds, k, rfl, e, q⟩ | ⟨i, j, rfl, rfl, q⟩
  · rw [Bool.and_eq_true] at f
    obtain ⟨p, vs, rfl, e, z, r⟩ := rb
    have fa := flat_view f.1 ra
    refine .inl ⟨p, vs, rfl, .inl (SqL.of e), flat_v f.1 fa, flat_vs f.2 r, hk _ H F _ S (Le.refl _) (bl_rep _) ?_⟩
    simp only [if_true]
    rw [any_flat f.1 fa f.2 r]; exact q
  · rw [Bool.and_eq_true] at f
    obtain ⟨p, vs, rfl, e, z, r⟩ := rep_tup.mp (show Rep N F (.tup ds) y from rb)
    have fa := flat_view f.1 ra
    refine .inl ⟨p, vs, rfl, .inr (SqT.of (S.sub _ _ e)), flat_v f.1 fa, flat_vs f.2 r, hk _ H F _ S (Le.refl _) (bl_rep _) ?_⟩
    simp only [if_true]
    rw [any_flat f.1 fa f.2 r]; exact q
  · obtain ⟨p, vs, rfl, h1, z1, z2, z3, r⟩ := rb
    have ea := key_v e (key_view e ra)
    subst ea
    refine .inr (.inl ⟨p, _, rfl, DGet.k h1, hk _ H F _ S (Le.refl _) (bl_rep _) ?_⟩)
    have v := valV_zip (k := k) z1 r
    cases g : dget ks ds k with
    | none => rw [g] at v q; rw [show valV (ks.zip vs) k = none from v]; exact q
    | some d => rw [g] at v q; obtain ⟨u, hu', _⟩ := v; rw [hu']; exact q
  · exact .inr (.inr ⟨i, j, v_str ra, v_str rb, hk _ H F _ S (Le.refl _) (bl_rep _) q⟩)⟩
theorem non_iff {F H : Hp} {d : D} {v : V} (r : VRep N F H d v) : decide (v = .non) = isNon d := by
  cases d with
  | non => rw [rep_non.mp (show Rep N F .non v from r)]; rfl
  | bl b => rw [v_bl r]; rfl
  | int b => rw [v_int r]; rfl
  | str b => rw [v_str r]; rfl
  | ty n => have z : Rep N F (.ty n) v := r; unfold Rep at z; rw [z]; rfl
  | loc n => rw [rep_loc.mp (show Rep N F (.loc n) v from r)]; rfl
  | tup ds => obtain ⟨a, vs, rfl, _⟩ := rep_tup.mp (show Rep N F (.tup ds) v from r); rfl
  | lst ds => obtain ⟨a, vs, rfl, _⟩ := r; rfl
  | dct ks ds => obtain ⟨a, vs, rfl, _⟩ := r; rfl
  | obj c ds => obtain ⟨a, dx, vs, rfl, _⟩ := rep_obj.mp (show Rep N F (.obj c ds) v from r); rfl
  | scr ns => obtain ⟨a, rfl, _⟩ := rep_scr.mp (show Rep N F (.scr ns) v from r); rfl
  | kemp i => have z : Rep N F (.kemp i) v := r; unfold Rep at z; obtain ⟨a, _, rfl⟩ := z; rfl
theorem c_isN : CmpOk X N .isN := ⟨_, op_isN, rb_of fun Z σ H F ρ M x y a b Q K S ra rb hq hk => by
  have e : b = .non := by cases b <;> first | rfl | (exact (show False by cases a <;> exact hq).elim)
  subst e
  have q : Q (.bl (isNon a)) := by cases a <;> exact hq
  refine ⟨rep_non.mp (show Rep N F .non y from rb), hk _ H F _ S (Le.refl _) (bl_rep _) ?_⟩
  rw [non_iff ra]; exact q⟩
theorem c_notN : CmpOk X N .notN := ⟨_, op_notN, rb_of fun Z σ H F ρ M x y a b Q K S ra rb hq hk => by
  have e : b = .non := by cases b <;> first | rfl | (exact (show False by cases a <;> exact hq).elim)
  subst e
  have q : Q (.bl (!isNon a)) := by cases a <;> exact hq
  refine ⟨rep_non.mp (show Rep N F .non y from rb), hk _ H F _ S (Le.refl _) (bl_rep _) ?_⟩
  rw [non_iff ra]; exact q⟩
theorem c_isB : CmpOk X N .isB := ⟨_, op_isBl, rb_of fun Z σ H F ρ M x y a b Q K S ra rb hq hk => by
  cases a with
  | bl i =>
    cases b with
    | bl j => exact ⟨i, j, v_bl ra, v_bl rb, hk _ H F _ S (Le.refl _) (bl_rep _) hq⟩
    | _ => exact (show False from hq).elim
  | _ => exact (show False by cases b <;> exact hq).elim⟩
theorem cmp_ok (hu : X.A.units + 64 < cLine) (o : COp) : CmpOk X N o := by
  cases o with
  | lt => exact c_lt | le => exact c_le | gt => exact c_gt | ge => exact c_ge | eq => exact c_eq hu | ne => exact c_ne hu | isin => exact c_in hu | notin => exact c_notin hu | isN => exact c_isN | notN => exact c_notN | isB => exact c_isB
end
end DL

set_option Elab.async false
set_option linter.all false
set_option maxRecDepth 100000
namespace DL
open PySem L2

section
variable (N : Nam)
def ER (t : TE) (wp : WE) : Prop := ∀ (Z : Ety) (σ : St) (H F : Hp) (ρ : Env) (M : Mem) (Q : D → Env → Mem → Prop) (K : VK), Sim N Z F ρ M σ H → wp ρ M Q →
  (∀ v H' F' d ρ' M', Sim N Z F' ρ' M' σ H' → Le F F' → Rep N F' d v → Q d ρ' M' → K v H') → t σ H K
def TR (t : TT) (wp : WE) : Prop := ∀ (Z : Ety) (σ : St) (H F : Hp) (ρ : Env) (M : Mem) (Q : Bool → Env → Mem → Prop) (K : Bool → Hp → Prop), Sim N Z F ρ M σ H → wp ρ M (fun d ρ M => ∃ b, d = .bl b ∧ Q b ρ M) →
  (∀ b H' F' ρ' M', Sim N Z F' ρ' M' σ H' → Le F F' → Q b ρ' M' → K b H') → t σ H K
def AR (t : TA) (wp : WA) : Prop := ∀ (Z : Ety) (σ : St) (H F : Hp) (ρ : Env) (M : Mem) (Q : List D → Env → Mem → Prop) (K : List V → Hp → Prop), Sim N Z F ρ M σ H → wp ρ M Q →
  (∀ vs H' F' ds ρ' M', Sim N Z F' ρ' M' σ H' → Le F F' → Reps N F' ds vs → Q ds ρ' M' → K vs H') → t σ H K
/-- a new container comes out -/
def OR' (t : TE) (wp : WE) : Prop := ∀ (Z : Ety) (σ : St) (H F : Hp) (ρ : Env) (M : Mem) (Q : D → Env → Mem → Prop) (K : VK), Sim N Z F ρ M σ H → wp ρ M Q →
  (∀ p H' F' c ρ' M', Sim N Z F' (ρ' ++ [.own c]) M' (σ ++ [some (.ref p)]) H' → ρ'.length = σ.length → Le F F' → Q c.tree ρ' M' → K (.ref p) H') → t σ H K
end
section
variable {X : Cx} {N : Nam} {t u ta tb : TE} {wa wb wp : WE} {Z : Ety} {F F' : Hp} {ρ ρ' : Env} {M M' : Mem} {σ σ' : St} {H H' : Hp}
theorem er_op2 {r : R2} {p : D → D → (D → Prop) → Prop} (hr : RB X N r p) (ka : ER N ta wa) (kb : ER N tb wb) : ER N (tOp r ta tb) (fun ρ M Q => wa ρ M fun x ρ M => wb ρ M fun y ρ M => p (view M x) (view M y) fun z => Q z ρ M) := by
  intro Z σ H F ρ M Q K S hw hk
  refine ka Z σ H F ρ M _ _ S hw fun v1 H1 F1 d1 ρ1 M1 S1 l1 r1 q1 => ?_
  refine kb Z σ H1 F1 ρ1 M1 _ _ S1 q1 fun v2 H2 F2 d2 ρ2 M2 S2 l2 r2 q2 => ?_
  exact hr Z σ H2 F2 ρ2 M2 v1 v2 d1 d2 _ K S2 (r1.mono l2) r2 q2 fun v H' F' d S' l' r' q' => hk v H' F' d ρ2 M2 S' ((l1.trans l2).trans l') r' q'
theorem tr_test (h : ER N t wp) : TR N (tTest t) wp := fun Z σ H F ρ M Q K S hw hk =>
  h Z σ H F ρ M _ _ S hw fun v H' F' d ρ' M' S' l r ⟨b, e, q⟩ => by
    subst e
    exact ⟨b, rep_bl.mp r, hk b H' F' ρ' M' S' l q⟩
theorem tr_B (h : ER N t wp) : TR N (tB t) wp := fun Z σ H F ρ M Q K S hw hk =>
  h Z σ H F ρ M _ _ S hw fun v H' F' d ρ' M' S' l r ⟨b, e, q⟩ => by
    subst e
    exact ⟨b, rep_bl.mp r, hk b H' F' ρ' M' S' l q⟩
theorem Sim.cutv {c : CO} {d : D} {p : Addr} (S : Sim N Z F ((ρ ++ [LV.own c]).set ρ.length (.val d)) M (σ ++ [some (.ref p)]) H) (hl : ρ.length = σ.length) : Sim N Z F ρ M σ H := by
  refine S.drop hl fun i lv e => .inr ?_
  have hi : i < ρ.length := (List.getElem?_eq_some_iff.mp e).1
  refine ⟨?_, ?_⟩
  · rw [List.getElem?_set_ne (by omega), List.getElem?_append_left hi]; exact e
  · rw [List.getElem?_append_left (by omega)]
/-- what a sealing makes of a new container -/
theorem OR'.er (h : OR' N t wp) : ER N t wp := fun Z σ H F ρ M Q K S hw hk =>
  h Z σ H F ρ M Q K S hw fun p H' F' c ρ' M' S' hl l q => by
    have e1 : (ρ' ++ [LV.own c])[ρ'.length]? = some (.own c) := by simp
    obtain ⟨p', ho, h1, h2, h3, S2⟩ := S'.seal e1
    have e2 : p' = p := by
      rw [hl] at h1
      simp at h1
      exact h1.symm
    subst e2
    exact hk _ H' _ _ ρ' M' (S2.cutv hl) (l.trans (Le.new h2)) h3 q

theorem er_var {i : Nat} {B : Tab} : ER N (tVar i) (wpE B (.var i)) := by
  intro Z σ H F ρ M Q K S hw hk
  have hw : readP ρ i M Q := hw
  unfold readP at hw
  cases e : ρ[i]? with
  | none => rw [e] at hw; exact hw.elim
  | some l =>
    rw [e] at hw
    cases l with
    | no => exact hw.elim
    | val d =>
      obtain ⟨v, h1, h2⟩ := S.val e
      exact ⟨v, h1, hk v H F d ρ M S (Le.refl _) h2 hw⟩
    | own c =>
      obtain ⟨p, ho, h1, h2, h3, S'⟩ := S.seal e
      exact ⟨_, h1, hk _ H _ _ _ _ S' (Le.new h2) h3 hw⟩
theorem er_c {d : D} {v : V} (r : ∀ F, Rep N F d v) : ER N (tC v) (fun ρ M Q => Q d ρ M) := fun Z σ H F ρ M Q K S hw hk => hk v H F d ρ M S (Le.refl _) (r F) hw
theorem er_andV (ha : ER N ta wa) (hb : ER N tb wb) : ER N (tAndV ta tb) (fun ρ M Q => wa ρ M fun x ρ M => ∃ c, x = .bl c ∧ iteN (Bool.toNat c) (wb ρ M Q) (Q (.bl false) ρ M)) := fun Z σ H F ρ M Q K S hw hk =>
  ha Z σ H F ρ M _ _ S hw fun v H1 F1 d ρ1 M1 S1 l r ⟨c, e, q⟩ => by
    subst e
    refine ⟨c, rep_bl.mp r, ?_⟩
    cases c with
    | true => exact hb Z σ H1 F1 ρ1 M1 Q K S1 q fun v H' F' d ρ' M' S' l' r' q' => hk v H' F' d ρ' M' S' (l.trans l') r' q'
    | false => exact hk _ H1 F1 _ ρ1 M1 S1 l (bl_rep _) q
theorem er_orV (ha : ER N ta wa) (hb : ER N tb wb) : ER N (tOrV ta tb) (fun ρ M Q => wa ρ M fun x ρ M => ∃ c, x = .bl c ∧ iteN (Bool.toNat c) (Q (.bl true) ρ M) (wb ρ M Q)) := fun Z σ H F ρ M Q K S hw hk =>
  ha Z σ H F ρ M _ _ S hw fun v H1 F1 d ρ1 M1 S1 l r ⟨c, e, q⟩ => by
    subst e
    refine ⟨c, rep_bl.mp r, ?_⟩
    cases c with
    | false => exact hb Z σ H1 F1 ρ1 M1 Q K S1 q fun v H' F' d ρ' M' S' l' r' q' => hk v H' F' d ρ' M' S' (l.trans l') r' q'
    | true => exact hk _ H1 F1 _ ρ1 M1 S1 l (bl_rep _) q
theorem er_notV (ha : ER N ta wa) : ER N (tNotV ta) (fun ρ M Q => wa ρ M fun x ρ M => ∃ c, x = .bl c ∧ Q (.bl (!c)) ρ M) := fun Z σ H F ρ M Q K S hw hk =>
  ha Z σ H F ρ M _ _ S hw fun v H1 F1 d ρ1 M1 S1 l r ⟨c, e, q⟩ => by
    subst e
    exact ⟨c, rep_bl.mp r, hk _ H1 F1 _ ρ1 M1 S1 l (bl_rep _) q⟩
theorem tr_and {ta tb : TT} (ha : TR N ta wa) (hb : TR N tb wb) : TR N (tAnd ta tb) (fun ρ M Q => wa ρ M fun x ρ M => ∃ c, x = .bl c ∧ iteN (Bool.toNat c) (wb ρ M Q) (Q (.bl false) ρ M)) := fun Z σ H F ρ M Q K S hw hk =>
  ha Z σ H F ρ M (fun c ρ M => iteN (Bool.toNat c) (wb ρ M _) (_)) _ S hw fun c H1 F1 ρ1 M1 S1 l q => by
    cases c with
    | true => exact hb Z σ H1 F1 ρ1 M1 Q K S1 q fun v H' F' ρ' M' S' l' q' => hk v H' F' ρ' M' S' (l.trans l') q'
    | false =>
      obtain ⟨b, e, q⟩ := (q : ∃ b, D.bl false = .bl b ∧ Q b ρ1 M1)
      cases e
      exact hk _ H1 F1 ρ1 M1 S1 l q
theorem tr_or {ta tb : TT} (ha : TR N ta wa) (hb : TR N tb wb) : TR N (tOr ta tb) (fun ρ M Q => wa ρ M fun x ρ M => ∃ c, x = .bl c ∧ iteN (Bool.toNat c) (Q (.bl true) ρ M) (wb ρ M Q)) := fun Z σ H F ρ M Q K S hw hk =>
  ha Z σ H F ρ M (fun c ρ M => iteN (Bool.toNat c) (_) (wb ρ M _)) _ S hw fun c H1 F1 ρ1 M1 S1 l q => by
    cases c with
    | false => exact hb Z σ H1 F1 ρ1 M1 Q K S1 q fun v H' F' ρ' M' S' l' q' => hk v H' F' ρ' M' S' (l.trans l') q'
    | true =>
      obtain ⟨b, e, q⟩ := (q : ∃ b, D.bl true = .bl b ∧ Q b ρ1 M1)
      cases e
      exact hk _ H1 F1 ρ1 M1 S1 l q
theorem tr_not {ta : TT} (ha : TR N ta wa) : TR N (tNot ta) (fun ρ M Q => wa ρ M fun x ρ M => ∃ c, x = .bl c ∧ Q (.bl (!c)) ρ M) := fun Z σ H F ρ M Q K S hw hk =>
  ha Z σ H F ρ M (fun c ρ M => ∃ b, D.bl (!c) = .bl b ∧ Q b ρ M) _ S hw fun c H1 F1 ρ1 M1 S1 l ⟨b, e, q⟩ => by
    cases e
    exact hk _ H1 F1 ρ1 M1 S1 l q
theorem er_if {tc : TT} {wc : WE} (hc : TR N tc wc) (ha : ER N ta wa) (hb : ER N tb wb) : ER N (tIf tc ta tb) (fun ρ M Q => wc ρ M fun x ρ M => ∃ k, x = .bl k ∧ iteN (Bool.toNat k) (wa ρ M Q) (wb ρ M Q)) := fun Z σ H F ρ M Q K S hw hk =>
  hc Z σ H F ρ M (fun k ρ M => iteN (Bool.toNat k) (wa ρ M Q) (wb ρ M Q)) _ S hw fun c H1 F1 ρ1 M1 S1 l q => by
    cases c with
    | true => exact ha Z σ H1 F1 ρ1 M1 Q K S1 q fun v H' F' d ρ' M' S' l' r' q' => hk v H' F' d ρ' M' S' (l.trans l') r' q'
    | false => exact hb Z σ H1 F1 ρ1 M1 Q K S1 q fun v H' F' d ρ' M' S' l' r' q' => hk v H' F' d ρ' M' S' (l.trans l') r' q'
theorem cmp_mono {o : COp} {a b : D} {Q Q' : Bool → Prop} (h : ∀ z, Q z → Q' z) (x : cmpP o a b Q) : cmpP o a b Q' := by
  unfold cmpP at x ⊢
  split at x <;> first | exact h _ x | exact ⟨x.1, h _ x.2⟩ | (obtain ⟨k, x1, x2⟩ := x; exact ⟨k, x1, h _ x2⟩) | exact x.elim
theorem er_chain {r r' : R2} {tc : TE} {wc : WE} {o p : COp} (hr : RB X N r (cmpQ o)) (hr' : RB X N r' (cmpQ p)) (ka : ER N ta wa) (kb : ER N tb wb) (kc : ER N tc wc) : ER N (tChain r r' ta tb tc) (fun ρ M Q => wa ρ M fun x ρ M => wb ρ M fun y ρ M => cmpP o (view M x) (view M y) fun z =>
    iteN (Bool.toNat z) (wc ρ M fun u ρ M => cmpP p (view M y) (view M u) fun z' => Q (.bl z') ρ M) (Q (.bl false) ρ M)) := by
  intro Z σ H F ρ M Q K S hw hk
  refine ka Z σ H F ρ M _ _ S hw fun v1 H1 F1 d1 ρ1 M1 S1 l1 r1 q1 => ?_
  refine kb Z σ H1 F1 ρ1 M1 _ _ S1 q1 fun v2 H2 F2 d2 ρ2 M2 S2 l2 r2 q2 => ?_
  refine hr Z σ H2 F2 ρ2 M2 v1 v2 d1 d2 (fun z => ∃ b, z = .bl b ∧ iteN (Bool.toNat b) (wc ρ2 M2 fun u ρ M => cmpP p (view M d2) (view M u) fun z' => Q (.bl z') ρ M) (Q (.bl false) ρ2 M2)) _ S2 (r1.mono l2) r2 ?_ fun v H3 F3 d S3 l3 r3 ⟨b, e, q3⟩ => ?_
  · show cmpP o (view M2 d1) (view M2 d2) _
    refine cmp_mono ?_ q2
    intro z q
    exact ⟨z, rfl, q⟩
  · subst e
    refine ⟨b, rep_bl.mp r3, ?_⟩
    cases b with
    | false => exact hk _ H3 F3 _ ρ2 M2 S3 ((l1.trans l2).trans l3) (bl_rep _) q3
    | true =>
      refine kc Z σ H3 F3 ρ2 M2 _ _ S3 q3 fun v4 H4 F4 d4 ρ4 M4 S4 l4 r4 q4 => ?_
      exact hr' Z σ H4 F4 ρ4 M4 v2 v4 d2 d4 (fun d => Q d ρ4 M4) K S4 (r2.mono (l3.trans l4)) r4 q4 fun v H' F' d S' l' r' q' => hk v H' F' d ρ4 M4 S' (((l1.trans l2).trans (l3.trans l4)).trans l') r' q'
theorem ar_nil : AR N tNil (fun ρ M Q => Q [] ρ M) := fun Z σ H F ρ M Q K S hw hk => hk [] H F [] ρ M S (Le.refl _) (reps_nil.mpr rfl) hw
theorem ar_cons {tr : TA} {wr : WA} (ha : ER N ta wa) (hr : AR N tr wr) : AR N (tCons ta tr) (fun ρ M Q => wa ρ M fun x ρ M => wr ρ M fun xs ρ M => Q (x :: xs) ρ M) := fun Z σ H F ρ M Q K S hw hk =>
  ha Z σ H F ρ M _ _ S hw fun v1 H1 F1 d1 ρ1 M1 S1 l1 r1 q1 =>
    hr Z σ H1 F1 ρ1 M1 _ _ S1 q1 fun vs H2 F2 ds ρ2 M2 S2 l2 r2 q2 => hk _ H2 F2 _ ρ2 M2 S2 (l1.trans l2) (reps_cons.mpr ⟨v1, vs, rfl, r1.mono l2, r2⟩) q2
theorem er_tup {tr : TA} {wr : WA} (h : AR N tr wr) : ER N (tTup tr) (fun ρ M Q => wr ρ M fun ds ρ M => ds.length ≤ sizeLine ∧ Q (.tup ds) ρ M) := fun Z σ H F ρ M Q K S hw hk =>
  h Z σ H F ρ M _ _ S hw fun vs H1 F1 ds ρ1 M1 S1 l r ⟨z, q⟩ => by
    have hz : vs.length ≤ sizeLine := by rw [r.length]; exact z
    refine ⟨hz, fun p hp => ?_⟩
    have le := Le.new (o := .tup vs) (S1.fnone hp)
    exact hk _ _ _ _ ρ1 M1 (S1.alloc hp) (l.trans le) (rep_tup.mpr ⟨p, vs, rfl, upd_same, hz, r.mono le⟩) q
theorem or_lst {tr : TA} {wr : WA} (h : AR N tr wr) : OR' N (tLst tr) (fun ρ M Q => wr ρ M fun ds ρ M => ds.length ≤ sizeLine ∧ Q (.lst ds) ρ M) := fun Z σ H F ρ M Q K S hw hk =>
  h Z σ H F ρ M _ _ S hw fun vs H1 F1 ds ρ1 M1 S1 l r ⟨z, q⟩ => by
    have hz : vs.length ≤ sizeLine := by rw [r.length]; exact z
    exact ⟨hz, fun p hp => hk p _ F1 (.L ds) ρ1 M1 (S1.newO hp ⟨vs, upd_same, hz, r⟩) S1.len l q⟩
theorem or_dnew : OR' N tDNewK (fun ρ M Q => Q (.dct [] []) ρ M) := fun Z σ H F ρ M Q K S hw hk p hp =>
  hk p _ F (.K [] []) ρ M (S.newO hp ⟨[], upd_same, rfl, Nat.zero_le _, List.nodup_nil, reps_nil.mpr rfl⟩) S.len (Le.refl _) hw
end
end DL

set_option Elab.async false
set_option linter.all false
set_option maxRecDepth 100000
namespace DL
open PySem L2

theorem atI_len {α β : Type} {xs : List α} {ys : List β} (h : xs.length = ys.length) {i : Int} {y : β} (e : atI ys i = some y) : ∃ j : Nat, ys[j]? = some y ∧ ∀ x, xs[j]? = some x → atI xs i = some x := by
  unfold atI at *
  rw [← h] at e
  cases q : ixN xs.length i with
  | none => rw [q] at e; cases e
  | some j => rw [q] at e; exact ⟨j, e, fun x z => z⟩
section
variable {X : Cx} {N : Nam} {B : Tab} {pos : Pos}
theorem ix_dict (hu : X.A.units + 1 < cLine) : IxR X (fun x y H Q => ∃ a v, x = .ref a ∧ DGet H a y (some v) ∧ Q v H) := by
  intro value slice pins s σ H x y v u Q I rx ry h hs
  obtain ⟨a, z, rfl, g, q⟩ := h
  cases rx
  exact PyProof.Rows.tail_any (dict_typeIs I g) PySem.F.slot_dict_getitem.lookup (d_getItem hu I g ry fun w' s3 I3 rw' => ⟨z, H, I3, rw', q⟩) hs
theorem rep_key {F H : Hp} {x : D} {v : V} (r : VRep N F H x v) (h : ∃ k, keyOf x = some k) : Rep N F x v := by
  obtain ⟨k, e⟩ := h
  exact key_view e r
theorem rb_idx_v (Z : Ety) (σ : St) (H F : Hp) (ρ : Env) (M : Mem) (x y : V) (a b : D) (Q : D → Prop) (K : VK) (S : Sim N Z F ρ M σ H) (ra : VRep N F H a x) (rb : VRep N F H b y) (hq : idxP a b Q)
    (hk : ∀ v H' F' d, Sim N Z F' ρ M σ H' → Le F F' → Rep N F' d v → Q d → K v H') : rIx X.K x y H K ∨ ∃ a v, x = .ref a ∧ DGet H a y (some v) ∧ K v H := by
  cases a with
  | lst ds =>
    cases b with
    | int i =>
      obtain ⟨d, h1, h2⟩ := hq
      obtain ⟨p, vs, rfl, e, z, r⟩ := ra
      obtain ⟨j, h3, h4⟩ := atI_len r.length h1
      obtain ⟨w, h5, h6⟩ := r.get h3
      exact .inl (.inl ⟨p, vs, i, w, rfl, v_int rb, SqL.of e, h4 w h5, hk _ H F _ S (Le.refl _) h6 h2⟩)
    | _ => exact (show False from hq).elim
  | tup ds =>
    cases b with
    | int i =>
      obtain ⟨d, h1, h2⟩ := hq
      obtain ⟨p, vs, rfl, e, z, r⟩ := rep_tup.mp (show Rep N F (.tup ds) x from ra)
      obtain ⟨j, h3, h4⟩ := atI_len r.length h1
      obtain ⟨w, h5, h6⟩ := r.get h3
      exact .inl (.inr (.inl ⟨p, vs, i, w, rfl, v_int rb, SqT.of (S.sub _ _ e), h4 w h5, hk _ H F _ S (Le.refl _) h6 h2⟩))
    | _ => exact (show False from hq).elim
  | str s =>
    cases b with
    | int i =>
      obtain ⟨c, h0, h1, h2⟩ := hq
      exact .inl (.inr (.inr ⟨s, i, c, v_str ra, v_int rb, h0, h1, hk _ H F _ S (Le.refl _) (rep_str.mpr rfl) h2⟩))
    | _ => exact (show False from hq).elim
  | dct ks ds =>
    have hq : ∃ k d, keyOf b = some k ∧ dget ks ds k = some d ∧ Q d := by cases b <;> exact hq
    obtain ⟨k, d, h1, h2, h3⟩ := hq
    obtain ⟨p, vs, rfl, e, z, z2, z3, r⟩ := ra
    have v := valV_zip (k := k) z r
    rw [h2] at v
    obtain ⟨u, hu', hr⟩ := v
    refine .inr ⟨p, u, rfl, ?_, hk _ H F _ S (Le.refl _) hr h3⟩
    rw [key_v h1 (key_view h1 rb), ← hu']
    exact DGet.k e
  | _ => exact (show False by cases b <;> exact hq).elim
theorem rb_idx : RB X N (fun x y H Q => rIx X.K x y H Q ∨ ∃ a v, x = .ref a ∧ DGet H a y (some v) ∧ Q v H) idxP := rb_of fun Z σ H F ρ M x y a b Q K S ra rb hq hk => rb_idx_v Z σ H F ρ M x y a b Q K S ra rb hq hk
/-- the parts of a slice -/
def PR (N : Nam) (t : TO) (wp : Env → Mem → (Option Int → Env → Mem → Prop) → Prop) : Prop := ∀ (Z : Ety) (σ : St) (H F : Hp) (ρ : Env) (M : Mem) (Q : Option Int → Env → Mem → Prop) (K : Option Int → Hp → Prop), Sim N Z F ρ M σ H → wp ρ M Q →
  (∀ i H' F' ρ' M', Sim N Z F' ρ' M' σ H' → Le F F' → Q i ρ' M' → K i H') → t σ H K
theorem pr_none : PR N tNoPart (fun ρ M Q => Q none ρ M) := fun Z σ H F ρ M Q K S hw hk => hk none H F ρ M S (Le.refl _) hw
theorem pr_some {t : TE} {w : WE} (h : ER N t w) : PR N (tPart t) (fun ρ M Q => w ρ M fun x ρ M => ∃ i, x = .int i ∧ Q (some i) ρ M) := fun Z σ H F ρ M Q K S hw hk =>
  h Z σ H F ρ M _ _ S hw fun v H1 F1 d ρ1 M1 S1 l r ⟨i, e, q⟩ => by
    subst e
    exact ⟨i, rep_int.mp r, hk _ H1 F1 ρ1 M1 S1 l q⟩
def rSlAll (K : PySem.W.Frag) : V → Option Int → Option Int → Hp → VK → Prop := fun x lo hi H Q => rSlL K x lo hi H Q ∨ rSlA K x lo hi H Q ∨ rSlS x lo hi H Q
theorem sl_all : SlR X (rSlAll X.K) := sl_list.or (sl_tupA.or sl_str)
theorem cutD_v {F : Hp} {ds : List D} {vs : List V} (r : Reps N F ds vs) (lo hi : Option Int) : Reps N F (cutD ds lo hi) (cutV vs lo hi) := by
  unfold cutD cutV
  rw [r.length]
  exact (r.drop _).take _
theorem cutV_all {vs : List V} {lo hi : Option Int} (h : HT.sIx vs.length 0 lo = 0 ∧ HT.sIx vs.length vs.length hi = vs.length) : cutV vs lo hi = vs := by
  unfold cutV
  rw [h.1, h.2]
  simp
theorem reps_ints {F : Hp} : ∀ ns : List Int, Reps N F (ns.map D.int) (ns.map V.int)
  | [] => reps_nil.mpr rfl
  | n :: ns => reps_cons.mpr ⟨_, _, rfl, int_rep n, reps_ints ns⟩
theorem er_slice {te : TE} {tl th : TO} {we : WE} {wl wh : Env → Mem → (Option Int → Env → Mem → Prop) → Prop} (kl : ∀ a ns, N.kl a ns → ∀ H, SqL X.K H a (ns.map V.int)) (he : ER N te we) (hl : PR N tl wl) (hh : PR N th wh) : ER N (tSl (rSlAll X.K) te tl th) (fun ρ M Q => we ρ M fun x ρ M => wl ρ M fun i ρ M => wh ρ M fun j ρ M => slP (view M x) i j fun z => Q z ρ M) := by
  intro Z σ H F ρ M Q K S hw hk
  refine he Z σ H F ρ M _ _ S hw fun v1 H1 F1 d1 ρ1 M1 S1 l1 r1 q1 => ?_
  refine hl Z σ H1 F1 ρ1 M1 (fun i ρ M => wh ρ M fun j ρ M => slP (view M d1) i j fun z => Q z ρ M) _ S1 q1 fun i H2 F2 ρ2 M2 S2 l2 q2 => ?_
  refine hh Z σ H2 F2 ρ2 M2 (fun j ρ M => slP (view M d1) i j fun z => Q z ρ M) _ S2 q2 fun j H3 F3 ρ3 M3 S3 l3 q3 => ?_
  have rv := (r1.mono (l2.trans l3)).view S3
  have ll := (l1.trans l2).trans l3
  cases e : view M3 d1 with
  | lst ds =>
    rw [e] at rv q3
    obtain ⟨p, vs, rfl, h1, z, r⟩ := rv
    refine .inl ⟨p, vs, rfl, SqL.of h1, fun a ha => ?_⟩
    have le := Le.new (o := .lst (cutV vs i j)) (S3.fnone ha)
    exact hk _ _ _ _ ρ3 M3 (S3.alloc ha) (ll.trans le) (rep_lst.mpr ⟨a, _, rfl, upd_same, Nat.le_trans (cutV_length _ _ _) z, (cutD_v r i j).mono le⟩) q3
  | scr ns =>
    rw [e] at rv q3
    obtain ⟨p, rfl, h1, z⟩ := rep_scr.mp (show Rep N F3 (.scr ns) _ from rv)
    refine .inl ⟨p, ns.map V.int, rfl, scr_sq kl S3 h1, fun a ha => ?_⟩
    have le := Le.new (o := .lst (cutV (ns.map V.int) i j)) (S3.fnone ha)
    exact hk _ _ _ _ ρ3 M3 (S3.alloc ha) (ll.trans le) (rep_lst.mpr ⟨a, _, rfl, upd_same, Nat.le_trans (cutV_length _ _ _) (by rw [List.length_map]; exact z), (cutD_v (reps_ints ns) i j).mono le⟩) q3
  | tup ds =>
    rw [e] at rv q3
    obtain ⟨p, vs, rfl, h1, z, r⟩ := rep_tup.mp (show Rep N F3 (.tup ds) _ from rv)
    refine .inr (.inl ⟨p, vs, rfl, SqT.of (S3.sub _ _ h1), fun hwh => ?_, fun _ a ha => ?_⟩)
    · refine hk _ H3 F3 _ ρ3 M3 S3 ll (rep_tup.mpr ⟨p, vs, rfl, h1, z, ?_⟩) q3
      have := cutD_v r i j
      rwa [cutV_all hwh] at this
    · have le := Le.new (o := .tup (cutV vs i j)) (S3.fnone ha)
      exact hk _ _ _ _ ρ3 M3 (S3.alloc ha) (ll.trans le) (rep_tup.mpr ⟨a, _, rfl, upd_same, Nat.le_trans (cutV_length _ _ _) z, (cutD_v r i j).mono le⟩) q3
  | str s =>
    rw [e] at rv q3
    exact .inr (.inr ⟨s, v_str rv, q3.1, hk _ H3 F3 _ ρ3 M3 S3 ll (rep_str.mpr rfl) q3.2⟩)
  | _ => rw [e] at q3; exact (show False from q3).elim
theorem or_revL {te : TE} {we : WE} (he : ER N te we) : OR' N (tRevL X.K te) (fun ρ M Q => we ρ M fun x ρ M => ∃ ds, view M x = .lst ds ∧ Q (.lst ds.reverse) ρ M) := fun Z σ H F ρ M Q K S hw hk =>
  he Z σ H F ρ M _ _ S hw fun v H1 F1 d ρ1 M1 S1 l r ⟨ds, e, q⟩ => by
    have rv := r.view S1
    rw [e] at rv
    obtain ⟨p, vs, rfl, h1, z, r'⟩ := rv
    exact ⟨p, vs, rfl, SqL.of h1, fun a ha => hk a _ F1 (.L ds.reverse) ρ1 M1 (S1.newO ha ⟨_, upd_same, by rw [List.length_reverse]; exact z, r'.reverse⟩) S1.len l q⟩

/-! ### attributes -/
/-- names of the attributes -/
structure NmOk (B : Tab) (N : Nam) : Prop where
  nms : ∀ c, N.nms c = (B.cfs c).map fun f => (Str.ofString (B.attr f) : Str)
  inj : ∀ c f g, f ∈ B.cfs c → g ∈ B.cfs c → (Str.ofString (B.attr f) : Str) = Str.ofString (B.attr g) → f = g
  few : ∀ c, (B.cfs c).length < 1000
  nd : ∀ c, (B.cfs c).Nodup
theorem posOf_get : ∀ {gs : List Nat} {f k : Nat}, posOf gs f = some k → gs[k]? = some f
  | [], _, _, e => by cases e
  | g :: gs, f, k, e => by
    unfold posOf at e
    split at e
    · cases e; rename_i h; rw [h]; rfl
    · cases q : posOf gs f with
      | none => rw [q] at e; cases e
      | some j => rw [q] at e; cases e; show gs[j]? = some f; exact posOf_get q
theorem lookup_zip {α : Type} : ∀ {xs : List Str} {vs : List α} {k : Nat} {x : Str} {v : α}, xs.Nodup → xs[k]? = some x → vs[k]? = some v → (xs.zip vs).lookup x = some v
  | [], _, _, _, _, _, e, _ => by simp at e
  | _ :: _, [], _, _, _, _, _, e => by simp at e
  | y :: xs, u :: vs, 0, x, v, nd, h1, h2 => by
    simp at h1 h2; subst h1; subst h2
    rw [List.zip_cons_cons, List.lookup_cons, beq_self_eq_true]
  | y :: xs, u :: vs, k + 1, x, v, nd, h1, h2 => by
    have hne : ¬ x = y := by
      rintro rfl
      exact (List.nodup_cons.mp nd).1 (List.mem_of_getElem? (by simpa using h1))
    rw [List.zip_cons_cons, List.lookup_cons, beq_eq_false_iff_ne.mpr hne]
    exact lookup_zip (List.nodup_cons.mp nd).2 (by simpa using h1) (by simpa using h2)
theorem map_nodup {f : Nat → Str} : ∀ {l : List Nat}, l.Nodup → (∀ a b, a ∈ l → b ∈ l → f a = f b → a = b) → (l.map f).Nodup
  | [], _, _ => List.nodup_nil
  | a :: l, nd, h => by
    rw [List.map_cons, List.nodup_cons]
    refine ⟨fun m => ?_, map_nodup (List.nodup_cons.mp nd).2 fun x y hx hy => h x y (List.mem_cons_of_mem _ hx) (List.mem_cons_of_mem _ hy)⟩
    obtain ⟨b, hb, e⟩ := List.mem_map.mp m
    have := h b a (List.mem_cons_of_mem _ hb) List.mem_cons_self e
    subst this
    exact (List.nodup_cons.mp nd).1 hb
theorem NmOk.ndN (h : NmOk B N) (c : Nat) : (N.nms c).Nodup := by
  rw [h.nms c]
  exact map_nodup (h.nd c) (h.inj c)
theorem NmOk.at (h : NmOk B N) {c f k : Nat} (e : posOf (B.cfs c) f = some k) : (N.nms c)[k]? = some (Str.ofString (B.attr f) : Str) := by
  rw [h.nms c, List.getElem?_map, posOf_get e]
  rfl
theorem NmOk.len (h : NmOk B N) (c : Nat) : (N.nms c).length = (B.cfs c).length := by rw [h.nms c, List.length_map]
/-- the classes' facts -/
def ClsOk (K : PySem.W.Frag) (B : Tab) (N : Nam) : Prop := ∀ c f, f ∈ B.cfs c → Cls K (N.cad c) ∧ NoAttr K (N.cad c) (Str.ofString (B.attr f))
theorem attrP_inv {cfs : Nat → List Nat} {M : Mem} {d : D} {f : Nat} {Q : D → Prop} (h : attrP cfs M d f Q) : ∃ c fs k x, (d = .obj c fs ∨ ∃ a, d = .loc a ∧ M a = some (.obj c fs)) ∧ posOf (cfs c) f = some k ∧ fs[k]? = some x ∧ Q x := by
  cases d with
  | obj c fs => obtain ⟨k, x, h1, h2, h3⟩ := h; exact ⟨c, fs, k, x, .inl rfl, h1, h2, h3⟩
  | loc a =>
    have h : (match M a with | some (.obj c fs) => ∃ k x, posOf (cfs c) f = some k ∧ fs[k]? = some x ∧ Q x | _ => False) := h
    cases e : M a with
    | none => rw [e] at h; exact h.elim
    | some mo =>
      rw [e] at h
      cases mo with
      | co c => exact h.elim
      | obj c fs => obtain ⟨k, x, h1, h2, h3⟩ := h; exact ⟨c, fs, k, x, .inr ⟨a, rfl, e⟩, h1, h2, h3⟩
  | _ => exact h.elim
/-- an object with its attributes as it stands -/
theorem Sim.objAt {Z : Ety} {F H : Hp} {ρ : Env} {M : Mem} {σ : St} (S : Sim N Z F ρ M σ H) (hn : NmOk B N) {d : D} {v : V} (r : Rep N F d v) {c : Nat} {fs : List D} (h : d = .obj c fs ∨ ∃ a, d = .loc a ∧ M a = some (.obj c fs)) :
    ∃ a dx vs, v = .ref a ∧ H a = some (.ins (N.cad c) dx (((N.nms c).take vs.length).zip vs)) ∧ vs.length ≤ (N.nms c).length ∧ Reps N F fs vs := by
  rcases h with rfl | ⟨a, rfl, e⟩
  · obtain ⟨a, dx, vs, rfl, h1, h2, h3⟩ := rep_obj.mp r
    refine ⟨a, dx, vs, rfl, ?_, by omega, h3⟩
    rw [← h2, List.take_length]
    exact S.sub _ _ h1
  · rw [rep_loc.mp r]
    obtain ⟨dx, vs, h1, h2, h3⟩ := S.mem a _ e
    exact ⟨a, dx, vs, rfl, h1, h2, h3⟩
theorem look_fs (hn : NmOk B N) {c f k : Nat} {vs : List V} {v : V} (h : posOf (B.cfs c) f = some k) (hv : vs[k]? = some v) : (((N.nms c).take vs.length).zip vs).lookup (Str.ofString (B.attr f) : Str) = some v := by
  have hk : k < vs.length := (List.getElem?_eq_some_iff.mp hv).1
  exact lookup_zip ((hn.ndN c).sublist (List.take_sublist _ _)) (by rw [List.getElem?_take_of_lt hk]; exact hn.at h) hv
theorem er_attr {te : TE} {we : WE} {f : Nat} (hn : NmOk B N) (hc : ClsOk X.K B N) (he : ER N te we) : ER N (tFld X.K te (Str.ofString (B.attr f))) (fun ρ M Q => we ρ M fun x ρ M => attrP B.cfs M x f fun z => Q z ρ M) := fun Z σ H F ρ M Q K S hw hk =>
  he Z σ H F ρ M _ _ S hw fun v H1 F1 d ρ1 M1 S1 l r q => by
    obtain ⟨c, fs, k, x, h1, h2, h3, h4⟩ := attrP_inv q
    obtain ⟨a, dx, vs, rfl, h5, h6, h7⟩ := S1.objAt hn r h1
    obtain ⟨u, h8, h9⟩ := h7.get h3
    have hm : f ∈ B.cfs c := List.mem_of_getElem? (posOf_get h2)
    exact ⟨a, _, dx, _, u, rfl, h5, (hc c f hm).1, (hc c f hm).2, look_fs hn h2 h8, hk _ H1 F1 _ ρ1 M1 S1 l h9 h4⟩
end
end DL

set_option Elab.async false
set_option linter.all false
set_option maxRecDepth 100000
namespace DL
open PySem L2 PySem.W

section
variable {X : Cx} {N : Nam} {B : Tab} {pos : Pos}
theorem dpInts {K : PySem.W.Frag} {H : Hp} : ∀ ns : List Int, DpAll K H (ns.map V.int) (ns.map PyData.int)
  | [] => .nil
  | n :: ns => .cons (.int n) (dpInts ns)
theorem alikeInts (ns : List Int) : AlikeAll (ns.map PyData.int) := by
  refine ⟨fun x hx y hy => ?_, fun x hx => ?_⟩
  · obtain ⟨i, _, rfl⟩ := List.mem_map.mp hx
    obtain ⟨j, _, rfl⟩ := List.mem_map.mp hy
    rfl
  · obtain ⟨i, _, rfl⟩ := List.mem_map.mp hx
    exact fun z => by cases z
theorem depInts : ∀ ns : List Int, PyData.depthAll (ns.map PyData.int) = 0
  | [] => rfl
  | n :: ns => by simp only [List.map_cons, PyData.depthAll, PyData.depth, depInts ns]; rfl
theorem foldl_max : ∀ (ns : List Int) (a : Int), ns.foldl max a ∈ a :: ns ∧ ∀ y ∈ a :: ns, y ≤ ns.foldl max a
  | [], a => ⟨by simp, by simp⟩
  | n :: ns, a => by
    obtain ⟨h1, h2⟩ := foldl_max ns (max a n)
    rw [List.foldl_cons]
    refine ⟨?_, fun y hy => ?_⟩
    · rcases List.mem_cons.mp h1 with e | e
      · rw [e]
        rcases Int.le_total a n with z | z
        · rw [Int.max_eq_right z]; simp
        · rw [Int.max_eq_left z]; simp
      · exact List.mem_cons_of_mem _ (List.mem_cons_of_mem _ e)
    · have h3 := h2 (max a n) List.mem_cons_self
      rcases List.mem_cons.mp hy with rfl | hy
      · exact Int.le_trans (Int.le_max_left _ _) h3
      · rcases List.mem_cons.mp hy with rfl | hy
        · exact Int.le_trans (Int.le_max_right _ _) h3
        · exact h2 y (List.mem_cons_of_mem _ hy)
theorem foldl_min : ∀ (ns : List Int) (a : Int), ns.foldl min a ∈ a :: ns ∧ ∀ y ∈ a :: ns, ns.foldl min a ≤ y
  | [], a => ⟨by simp, by simp⟩
  | n :: ns, a => by
    obtain ⟨h1, h2⟩ := foldl_min ns (min a n)
    rw [List.foldl_cons]
    refine ⟨?_, fun y hy => ?_⟩
    · rcases List.mem_cons.mp h1 with e | e
      · rw [e]
        rcases Int.le_total a n with z | z
        · rw [Int.min_eq_left z]; simp
        · rw [Int.min_eq_right z]; simp
      · exact List.mem_cons_of_mem _ (List.mem_cons_of_mem _ e)
    · have h3 := h2 (min a n) List.mem_cons_self
      rcases List.mem_cons.mp hy with rfl | hy
      · exact Int.le_trans h3 (Int.min_le_left _ _)
      · rcases List.mem_cons.mp hy with rfl | hy
        · exact Int.le_trans h3 (Int.min_le_right _ _)
        · exact h2 y (List.mem_cons_of_mem _ hy)
theorem reads_int {h : Heap} {v : Value} {k : Int} {as : List Addr} (r : Reads h v (.int k) as) : ∃ t, v = .int k t := by
  cases r
  exact ⟨_, rfl⟩
def rMaxDf (K : PySem.W.Frag) : List V → List V → Hp → VK → Prop := fun vs zs H Q => ∃ (a : Addr) (ns : List Int) (d : V), vs = [V.ref a] ∧ zs = [d] ∧ SqL K H a (ns.map V.int) ∧ (ns = [] → Q d H) ∧ ∀ m, m ∈ ns → (∀ y, y ∈ ns → y ≤ m) → Q (.int m) H
def rMinDf (K : PySem.W.Frag) : List V → List V → Hp → VK → Prop := fun vs zs H Q => ∃ (a : Addr) (ns : List Int) (d : V), vs = [V.ref a] ∧ zs = [d] ∧ SqL K H a (ns.map V.int) ∧ (ns = [] → Q d H) ∧ ∀ m, m ∈ ns → (∀ y, y ∈ ns → m ≤ y) → Q (.int m) H
theorem cr_maxDf (hc : X.calm = true) (hu : X.A.units + 64 < cLine) : CallRK X (.builtin "max") [Str.ofString "default"] (rMaxDf X.K) := by
  intro pins s σ H xs zs us ws Q I r1 r2 h
  obtain ⟨a, ns, d, rfl, rfl, hs, h0, h1⟩ := h
  obtain ⟨its, rv, hl, _⟩ := I.list hs
  rw [Vals.ref1 r1]
  obtain ⟨u, rfl, ru⟩ := vals1 r2
  obtain ⟨as, hr⟩ := Dp.readsAll I (ns.map PyData.int) _ its (dpInts ns) rv
  refine max_list_default (I.ok.hd hc) hl.isList (by simpa using hr) (alikeInts ns) (by rw [depInts]; omega) (fun e h' tk k => ?_) fun y ys i v h' tk bs e hv hR k => ?_
  · exact ⟨d, H, I.kept k, ru, h0 (by simpa using e)⟩
  · cases ns with
    | nil => cases e
    | cons n ns =>
      simp only [List.map_cons, List.cons.injEq] at e
      obtain ⟨rfl, rfl⟩ := e
      rw [maxD_ints] at hR
      obtain ⟨t, rfl⟩ := reads_int hR
      obtain ⟨q1, q2⟩ := foldl_max ns n
      exact ⟨.int _, H, I.kept k, ⟨t, rfl⟩, h1 _ q1 q2⟩
theorem cr_minDf (hc : X.calm = true) (hu : X.A.units + 64 < cLine) : CallRK X (.builtin "min") [Str.ofString "default"] (rMinDf X.K) := by
  intro pins s σ H xs zs us ws Q I r1 r2 h
  obtain ⟨a, ns, d, rfl, rfl, hs, h0, h1⟩ := h
  obtain ⟨its, rv, hl, _⟩ := I.list hs
  rw [Vals.ref1 r1]
  obtain ⟨u, rfl, ru⟩ := vals1 r2
  obtain ⟨as, hr⟩ := Dp.readsAll I (ns.map PyData.int) _ its (dpInts ns) rv
  refine min_list_default (I.ok.hd hc) hl.isList (by simpa using hr) (alikeInts ns) (by rw [depInts]; omega) (fun e h' tk k => ?_) fun y ys i v h' tk bs e hv hR k => ?_
  · exact ⟨d, H, I.kept k, ru, h0 (by simpa using e)⟩
  · cases ns with
    | nil => cases e
    | cons n ns =>
      simp only [List.map_cons, List.cons.injEq] at e
      obtain ⟨rfl, rfl⟩ := e
      rw [minD_ints] at hR
      obtain ⟨t, rfl⟩ := reads_int hR
      obtain ⟨q1, q2⟩ := foldl_min ns n
      exact ⟨.int _, H, I.kept k, ⟨t, rfl⟩, h1 _ q1 q2⟩

/-! ### built-ins by values -/
def CRb (N : Nam) (r : List V → Hp → VK → Prop) (p : Mem → List D → (D → Prop) → Prop) : Prop :=
  ∀ (Z : Ety) (σ : St) (H F : Hp) (ρ : Env) (M : Mem) (vs : List V) (ds : List D) (Q : D → Prop) (K : VK), Sim N Z F ρ M σ H → Reps N F ds vs → p M ds Q →
    (∀ v H' F' d, Sim N Z F' ρ M σ H' → Le F F' → Rep N F' d v → Q d → K v H') → r vs H K
theorem er_cb {r : List V → Hp → VK → Prop} {p : Mem → List D → (D → Prop) → Prop} {ta : TA} {wa : WA} (h : AR N ta wa) (hr : CRb N r p) : ER N (tCB r ta) (fun ρ M Q => wa ρ M fun ds ρ M => p M ds fun z => Q z ρ M) := fun Z σ H F ρ M Q K S hw hk =>
  h Z σ H F ρ M _ _ S hw fun vs H1 F1 ds ρ1 M1 S1 l r1 q => hr Z σ H1 F1 ρ1 M1 vs ds _ K S1 r1 q fun v H' F' d S' l' r' q' => hk v H' F' d ρ1 M1 S' (l.trans l') r' q'
theorem reps1 {F : Hp} {d : D} {vs : List V} (r : Reps N F [d] vs) : ∃ v, vs = [v] ∧ Rep N F d v := by
  obtain ⟨v, t, rfl, q, w⟩ := reps_cons.mp r
  rw [reps_nil.mp w]
  exact ⟨v, rfl, q⟩
theorem reps2 {F : Hp} {d e : D} {vs : List V} (r : Reps N F [d, e] vs) : ∃ v u, vs = [v, u] ∧ Rep N F d v ∧ Rep N F e u := by
  obtain ⟨v, t, rfl, q, w⟩ := reps_cons.mp r
  obtain ⟨u, rfl, q2⟩ := reps1 w
  exact ⟨v, u, rfl, q, q2⟩
def rLen (K : PySem.W.Frag) : List V → Hp → VK → Prop := fun xs H Q => (∃ p ys, xs = [.ref p] ∧ (SqL K H p ys ∨ SqT K H p ys) ∧ Q (.int ys.length) H) ∨ (∃ z, xs = [.str z] ∧ z.length ≤ sizeLine ∧ Q (.int z.length) H) ∨ ∃ a kvs, xs = [V.ref a] ∧ H a = some (.dK kvs) ∧ Q (.int kvs.length) H
theorem cl_len : CallR X (.builtin "len") (rLen X.K) := call_len_seq.or (call_len_str.or call_lenD)
theorem lenP_ok (kl : ∀ a ns, N.kl a ns → ∀ H, SqL X.K H a (ns.map V.int)) {Z : Ety} {F H : Hp} {ρ : Env} {M : Mem} {σ : St} (S : Sim N Z F ρ M σ H) {d : D} {v : V} {Q : Nat → Prop} {K : VK} (r : VRep N F H d v) (h : lenP d Q) (hk : ∀ n, Q n → K (.int n) H) : rLen X.K [v] H K := by
  cases d with
  | lst ds =>
    obtain ⟨a, vs, rfl, e, z, q⟩ := r
    exact .inl ⟨a, vs, rfl, .inl (SqL.of e), by rw [q.length]; exact hk _ h⟩
  | tup ds =>
    obtain ⟨a, vs, rfl, e, z, q⟩ := rep_tup.mp (show Rep N F (.tup ds) v from r)
    exact .inl ⟨a, vs, rfl, .inr (SqT.of (S.sub _ _ e)), by rw [q.length]; exact hk _ h⟩
  | str s => exact .inr (.inl ⟨s, by rw [v_str r], h.1, hk _ h.2⟩)
  | dct ks ds =>
    obtain ⟨a, vs, rfl, e, z, q⟩ := r
    refine .inr (.inr ⟨a, _, rfl, e, ?_⟩)
    rw [List.length_zip, ← z, Nat.min_self]
    exact hk _ h
  | scr ns =>
    obtain ⟨a, rfl, e, z⟩ := rep_scr.mp (show Rep N F (.scr ns) v from r)
    exact .inl ⟨a, _, rfl, .inl (scr_sq kl S e), by rw [List.length_map]; exact hk _ h⟩
  | _ => exact (show False from h).elim
theorem cb_len (kl : ∀ a ns, N.kl a ns → ∀ H, SqL X.K H a (ns.map V.int)) : CRb N (rLen X.K) (fun M => biP M .len) := fun Z σ H F ρ M vs ds Q K S r h hk => by
  obtain ⟨d, rfl, h⟩ := h
  obtain ⟨v, rfl, q⟩ := reps1 r
  exact lenP_ok kl S (q.view S) h fun n z => hk _ H F _ S (Le.refl _) (int_rep _) z
theorem cb_abs : CRb N (fun xs H Q => ∃ i, xs = [.int i] ∧ Q (.int (if i < 0 then -i else i)) H) (fun M => biP M .abs) := fun Z σ H F ρ M vs ds Q K S r h hk => by
  obtain ⟨i, rfl, h⟩ := h
  obtain ⟨v, rfl, q⟩ := reps1 r
  exact ⟨i, by rw [rep_int.mp q], hk _ H F _ S (Le.refl _) (int_rep _) h⟩
theorem cb_max2 : CRb N (fun xs H Q => ∃ i j, xs = [.int i, .int j] ∧ Q (.int (if j > i then j else i)) H) (fun M => biP M .max2) := fun Z σ H F ρ M vs ds Q K S r h hk => by
  obtain ⟨i, j, rfl, h⟩ := h
  obtain ⟨v, u, rfl, q, q2⟩ := reps2 r
  exact ⟨i, j, by rw [rep_int.mp q, rep_int.mp q2], hk _ H F _ S (Le.refl _) (int_rep _) h⟩
theorem cb_min2 : CRb N (fun xs H Q => ∃ i j, xs = [.int i, .int j] ∧ Q (.int (if j < i then j else i)) H) (fun M => biP M .min2) := fun Z σ H F ρ M vs ds Q K S r h hk => by
  obtain ⟨i, j, rfl, h⟩ := h
  obtain ⟨v, u, rfl, q, q2⟩ := reps2 r
  exact ⟨i, j, by rw [rep_int.mp q, rep_int.mp q2], hk _ H F _ S (Le.refl _) (int_rep _) h⟩
theorem reps_intv {F : Hp} : ∀ {ns : List Int} {vs : List V}, Reps N F (ns.map D.int) vs → vs = ns.map V.int
  | [], vs, r => reps_nil.mp r
  | n :: ns, vs, r => by
    obtain ⟨v, t, rfl, q, w⟩ := reps_cons.mp r
    rw [rep_int.mp q, reps_intv w]; rfl
theorem reps_blv {F : Hp} : ∀ {ns : List Bool} {vs : List V}, Reps N F (ns.map D.bl) vs → vs = ns.map V.bl
  | [], vs, r => reps_nil.mp r
  | n :: ns, vs, r => by
    obtain ⟨v, t, rfl, q, w⟩ := reps_cons.mp r
    rw [rep_bl.mp q, reps_blv w]; rfl
theorem len_pos {ns : List Int} (h : ns ≠ []) : 0 < ns.length := List.length_pos_iff.mpr h
theorem cb_maxL : CRb N (rMax X.K) (fun M => biP M .maxL) := fun Z σ H F ρ M vs ds Q K S r h hk => by
  obtain ⟨es, ns, rfl, rfl, hne, h⟩ := h
  obtain ⟨v, rfl, q⟩ := reps1 r
  obtain ⟨a, us, rfl, e, z, w⟩ := rep_lst.mp q
  exact ⟨a, ns, rfl, by rw [← reps_intv w]; exact SqL.of (S.sub _ _ e), len_pos hne, fun m h1 h2 => hk _ H F _ S (Le.refl _) (int_rep _) (h m h1 h2)⟩
theorem cb_minL : CRb N (rMin X.K) (fun M => biP M .minL) := fun Z σ H F ρ M vs ds Q K S r h hk => by
  obtain ⟨es, ns, rfl, rfl, hne, h⟩ := h
  obtain ⟨v, rfl, q⟩ := reps1 r
  obtain ⟨a, us, rfl, e, z, w⟩ := rep_lst.mp q
  exact ⟨a, ns, rfl, by rw [← reps_intv w]; exact SqL.of (S.sub _ _ e), len_pos hne, fun m h1 h2 => hk _ H F _ S (Le.refl _) (int_rep _) (h m h1 h2)⟩
theorem cb_sum : CRb N (rSum X.K) (fun M => biP M .sum) := fun Z σ H F ρ M vs ds Q K S r h hk => by
  obtain ⟨es, ns, rfl, rfl, h⟩ := h
  obtain ⟨v, rfl, q⟩ := reps1 r
  obtain ⟨a, us, rfl, e, z, w⟩ := rep_lst.mp q
  exact ⟨a, ns, rfl, by rw [← reps_intv w]; exact SqL.of (S.sub _ _ e), hk _ H F _ S (Le.refl _) (int_rep _) h⟩
theorem cb_all : CRb N (rAll X.K) (fun M => biP M .all) := fun Z σ H F ρ M vs ds Q K S r h hk => by
  obtain ⟨es, ns, rfl, rfl, h⟩ := h
  obtain ⟨v, rfl, q⟩ := reps1 r
  obtain ⟨a, us, rfl, e, z, w⟩ := rep_lst.mp q
  exact ⟨a, ns, rfl, by rw [← reps_blv w]; exact SqL.of (S.sub _ _ e), hk _ H F _ S (Le.refl _) (bl_rep _) h⟩
theorem cb_any : CRb N (rAny X.K) (fun M => biP M .any) := fun Z σ H F ρ M vs ds Q K S r h hk => by
  obtain ⟨es, ns, rfl, rfl, h⟩ := h
  obtain ⟨v, rfl, q⟩ := reps1 r
  obtain ⟨a, us, rfl, e, z, w⟩ := rep_lst.mp q
  exact ⟨a, ns, rfl, by rw [← reps_blv w]; exact SqL.of (S.sub _ _ e), hk _ H F _ S (Le.refl _) (bl_rep _) h⟩
/-- default= -/
theorem er_dflt {r : List V → List V → Hp → VK → Prop} {p : Mem → List D → (D → Prop) → Prop} {ta tk : TA} {te td : TE} {we wd : WE} (h1 : ER N te we) (h2 : ER N td wd)
    (hr : ∀ (Z : Ety) (σ : St) (H F : Hp) (ρ : Env) (M : Mem) (v u : V) (d e : D) (Q : D → Prop) (K : VK), Sim N Z F ρ M σ H → Rep N F d v → Rep N F e u → p M [d, e] Q → (∀ v H' F' d, Sim N Z F' ρ M σ H' → Le F F' → Rep N F' d v → Q d → K v H') → r [v] [u] H K) :
    ER N (tCKw r (tCons te tNil) (tCons td tNil)) (fun ρ M Q => we ρ M fun x ρ M => wd ρ M fun y ρ M => p M [x, y] fun z => Q z ρ M) := fun Z σ H F ρ M Q K S hw hk =>
  h1 Z σ H F ρ M _ _ S hw fun v1 H1 F1 d1 ρ1 M1 S1 l1 r1 q1 => h2 Z σ H1 F1 ρ1 M1 _ _ S1 q1 fun v2 H2 F2 d2 ρ2 M2 S2 l2 r2 q2 =>
    hr Z σ H2 F2 ρ2 M2 v1 v2 d1 d2 _ K S2 (r1.mono l2) r2 q2 fun v H' F' d S' l' r' q' => hk v H' F' d ρ2 M2 S' ((l1.trans l2).trans l') r' q'
theorem kb_maxD (Z : Ety) (σ : St) (H F : Hp) (ρ : Env) (M : Mem) (v u : V) (d e : D) (Q : D → Prop) (K : VK) (S : Sim N Z F ρ M σ H) (r1 : Rep N F d v) (r2 : Rep N F e u) (h : biP M .maxD [d, e] Q) (hk : ∀ v H' F' d, Sim N Z F' ρ M σ H' → Le F F' → Rep N F' d v → Q d → K v H') : rMaxDf X.K [v] [u] H K := by
  obtain ⟨es, x, ns, e1, rfl, h0, h1⟩ := h
  cases e1
  obtain ⟨a, us, rfl, e, z, w⟩ := rep_lst.mp r1
  exact ⟨a, ns, u, rfl, rfl, by rw [← reps_intv w]; exact SqL.of (S.sub _ _ e), fun e => hk _ H F _ S (Le.refl _) r2 (h0 e), fun m q1 q2 => hk _ H F _ S (Le.refl _) (int_rep _) (h1 m q1 q2)⟩
theorem kb_minD (Z : Ety) (σ : St) (H F : Hp) (ρ : Env) (M : Mem) (v u : V) (d e : D) (Q : D → Prop) (K : VK) (S : Sim N Z F ρ M σ H) (r1 : Rep N F d v) (r2 : Rep N F e u) (h : biP M .minD [d, e] Q) (hk : ∀ v H' F' d, Sim N Z F' ρ M σ H' → Le F F' → Rep N F' d v → Q d → K v H') : rMinDf X.K [v] [u] H K := by
  obtain ⟨es, x, ns, e1, rfl, h0, h1⟩ := h
  cases e1
  obtain ⟨a, us, rfl, e, z, w⟩ := rep_lst.mp r1
  exact ⟨a, ns, u, rfl, rfl, by rw [← reps_intv w]; exact SqL.of (S.sub _ _ e), fun e => hk _ H F _ S (Le.refl _) r2 (h0 e), fun m q1 q2 => hk _ H F _ S (Le.refl _) (int_rep _) (h1 m q1 q2)⟩
theorem seq_v {Z : Ety} {F H : Hp} {ρ : Env} {M : Mem} {σ : St} (S : Sim N Z F ρ M σ H) {d : D} {v : V} {es : List D} (r : VRep N F H d v) (h : seqOf d = some es) : ∃ p vs, v = .ref p ∧ (H p = some (.lst vs) ∨ (H p = some (.tup vs) ∧ F p = some (.tup vs))) ∧ vs.length ≤ sizeLine ∧ Reps N F es vs := by
  cases d with
  | lst ds => cases h; obtain ⟨a, vs, rfl, e, z, q⟩ := r; exact ⟨a, vs, rfl, .inl e, z, q⟩
  | tup ds => cases h; obtain ⟨a, vs, rfl, e, z, q⟩ := rep_tup.mp (show Rep N F (.tup _) v from r); exact ⟨a, vs, rfl, .inr ⟨S.sub _ _ e, e⟩, z, q⟩
  | _ => cases h
/-- built-ins whose answer is a new list -/
theorem or_list {ta : TA} {wa : WA} (h : AR N ta wa) : OR' N (tCB (fun xs H Q => ∃ p ys, xs = [.ref p] ∧ (SqL X.K H p ys ∨ SqT X.K H p ys) ∧ ∀ l, H l = none → Q (.ref l) (upd H l (.lst ys))) ta) (fun ρ M Q => wa ρ M fun ds ρ M => biP M .list ds fun z => Q z ρ M) := fun Z σ H F ρ M Q K S hw hk =>
  h Z σ H F ρ M _ _ S hw fun vs H1 F1 ds ρ1 M1 S1 l r q => by
    obtain ⟨d, es, rfl, h1, h2⟩ := q
    obtain ⟨v, rfl, r1⟩ := reps1 r
    obtain ⟨p, us, rfl, hp, z, w⟩ := seq_v S1 (r1.view S1) h1
    exact ⟨p, us, rfl, hp.elim (fun e => .inl (SqL.of e)) fun e => .inr (SqT.of e.1), fun a ha => hk a _ F1 (.L es) ρ1 M1 (S1.newO ha ⟨us, upd_same, z, w⟩) S1.len l h2⟩
theorem cb_tuple : CRb N (fun xs H Q => ∃ p ys, xs = [.ref p] ∧ ((SqL X.K H p ys ∧ ∀ l, H l = none → Q (.ref l) (upd H l (.tup ys))) ∨ (SqT X.K H p ys ∧ Q (.ref p) H))) (fun M => biP M .tuple) := fun Z σ H F ρ M vs ds Q K S r h hk => by
  obtain ⟨d, es, rfl, h1, h2⟩ := h
  obtain ⟨v, rfl, r1⟩ := reps1 r
  obtain ⟨p, us, rfl, hp, z, w⟩ := seq_v S (r1.view S) h1
  rcases hp with e | ⟨e, e'⟩
  · refine ⟨p, us, rfl, .inl ⟨SqL.of e, fun a ha => ?_⟩⟩
    have le := Le.new (o := .tup us) (S.fnone ha)
    exact hk _ _ _ _ (S.alloc ha) le (rep_tup.mpr ⟨a, us, rfl, upd_same, z, w.mono le⟩) h2
  · exact ⟨p, us, rfl, .inr ⟨SqT.of e, hk _ H F _ S (Le.refl _) (rep_tup.mpr ⟨p, us, rfl, e', z, w⟩) h2⟩⟩
theorem reps_strs {F : Hp} : ∀ ns : List Str, Reps N F (ns.map D.str) (ns.map V.str)
  | [] => reps_nil.mpr rfl
  | n :: ns => reps_cons.mpr ⟨_, _, rfl, rep_str.mpr rfl, reps_strs ns⟩
theorem reps_strv {F : Hp} : ∀ {ns : List Str} {vs : List V}, Reps N F (ns.map D.str) vs → vs = ns.map V.str
  | [], vs, r => reps_nil.mp r
  | n :: ns, vs, r => by
    obtain ⟨v, t, rfl, q, w⟩ := reps_cons.mp r
    rw [rep_str.mp q, reps_strv w]; rfl
theorem perm_line {α : Type} {a b : List α} (h : a.Perm b) (z : b.length < 64) {β : Type} (f : α → β) : (a.map f).length ≤ sizeLine := by
  rw [List.length_map, h.length_eq]; exact small64 z
theorem or_sorted {ta : TA} {wa : WA} (h : AR N ta wa) : OR' N (tCB (rSorted X.K) ta) (fun ρ M Q => wa ρ M fun ds ρ M => biP M .sorted ds fun z => Q z ρ M) := fun Z σ H F ρ M Q K S hw hk =>
  h Z σ H F ρ M _ _ S hw fun vs H1 F1 ds ρ1 M1 S1 l r q => by
    obtain ⟨es, ns, rfl, rfl, hl, h2⟩ := q
    obtain ⟨v, rfl, r1⟩ := reps1 r
    obtain ⟨a, us, rfl, e, z, w⟩ := rep_lst.mp r1
    refine ⟨a, ns, rfl, by rw [← reps_intv w]; exact SqL.of (S1.sub _ _ e), hl, fun ms p hp hs ha => ?_⟩
    exact hk p _ F1 (.L (ms.map .int)) ρ1 M1 (S1.newO ha ⟨_, upd_same, perm_line hp hl _, reps_ints ms⟩) S1.len l (h2 ms hp hs)
theorem or_sortedS {ta : TA} {wa : WA} (h : AR N ta wa) : OR' N (tCB (rSortedS X.K) ta) (fun ρ M Q => wa ρ M fun ds ρ M => biP M .sortedS ds fun z => Q z ρ M) := fun Z σ H F ρ M Q K S hw hk =>
  h Z σ H F ρ M _ _ S hw fun vs H1 F1 ds ρ1 M1 S1 l r q => by
    obtain ⟨es, ns, rfl, rfl, hl, h2⟩ := q
    obtain ⟨v, rfl, r1⟩ := reps1 r
    obtain ⟨a, us, rfl, e, z, w⟩ := rep_lst.mp r1
    refine ⟨a, ns, rfl, by rw [← reps_strv w]; exact SqL.of (S1.sub _ _ e), hl, fun ms p hp hs ha => ?_⟩
    exact hk p _ F1 (.L (ms.map .str)) ρ1 M1 (S1.newO ha ⟨_, upd_same, perm_line hp hl _, reps_strs ms⟩) S1.len l (h2 ms hp hs)
def rSDI : List V → Hp → VK → Prop := fun xs H Q => ∃ (a : Addr) (kvs : List (Key × V)) (ks : List Int), xs = [.ref a] ∧ Rd H a (.dK kvs) ∧ kvs.map (·.1) = ks.map Sum.inl ∧ ks.length < 64 ∧
    ∀ (ys : List Int) (p : Addr), ys.Perm ks → ys.Pairwise (· ≤ ·) → H p = none → Q (.ref p) (upd H p (.lst (ys.map V.int)))
def rSDS : List V → Hp → VK → Prop := fun xs H Q => ∃ (a : Addr) (kvs : List (Key × V)) (ks : List Str), xs = [.ref a] ∧ Rd H a (.dK kvs) ∧ kvs.map (·.1) = ks.map Sum.inr ∧ ks.length < 64 ∧
    ∀ ys p, ys.Perm ks → PyProof.Rows.sortedS ys = true → H p = none → Q (.ref p) (upd H p (.lst (ys.map V.str)))
theorem zip_fst {α β : Type} : ∀ {xs : List α} {ys : List β}, xs.length = ys.length → (xs.zip ys).map (·.1) = xs
  | [], _, _ => rfl
  | x :: xs, [], h => by cases h
  | x :: xs, y :: ys, h => by rw [List.zip_cons_cons, List.map_cons, zip_fst (by simpa using h)]
theorem or_sDI {ta : TA} {wa : WA} (h : AR N ta wa) : OR' N (tCB rSDI ta) (fun ρ M Q => wa ρ M fun ds ρ M => biP M .sortedDI ds fun z => Q z ρ M) := fun Z σ H F ρ M Q K S hw hk =>
  h Z σ H F ρ M _ _ S hw fun vs H1 F1 ds ρ1 M1 S1 l r q => by
    obtain ⟨d, ks, es, ns, rfl, hv, rfl, hl, h2⟩ := q
    obtain ⟨v, rfl, r1⟩ := reps1 r
    have rv := r1.view S1
    rw [hv] at rv
    obtain ⟨a, us, rfl, e, z, z2, z3, w⟩ := rv
    refine ⟨a, _, ns, rfl, .inl e, zip_fst z, hl, fun ms p hp hs ha => ?_⟩
    exact hk p _ F1 (.L (ms.map .int)) ρ1 M1 (S1.newO ha ⟨_, upd_same, perm_line hp hl _, reps_ints ms⟩) S1.len l (h2 ms hp hs)
theorem or_sDS {ta : TA} {wa : WA} (h : AR N ta wa) : OR' N (tCB rSDS ta) (fun ρ M Q => wa ρ M fun ds ρ M => biP M .sortedDS ds fun z => Q z ρ M) := fun Z σ H F ρ M Q K S hw hk =>
  h Z σ H F ρ M _ _ S hw fun vs H1 F1 ds ρ1 M1 S1 l r q => by
    obtain ⟨d, ks, es, ns, rfl, hv, rfl, hl, h2⟩ := q
    obtain ⟨v, rfl, r1⟩ := reps1 r
    have rv := r1.view S1
    rw [hv] at rv
    obtain ⟨a, us, rfl, e, z, z2, z3, w⟩ := rv
    refine ⟨a, _, ns, rfl, .inl e, zip_fst z, hl, fun ms p hp hs ha => ?_⟩
    exact hk p _ F1 (.L (ms.map .str)) ρ1 M1 (S1.newO ha ⟨_, upd_same, perm_line hp hl _, reps_strs ms⟩) S1.len l (h2 ms hp hs)

/-! ### isinstance with built-in classes -/
def tyN : D → Option String
  | .int _ => some "int" | .bl _ => some "bool" | .str _ => some "str" | .non => some "NoneType" | .tup _ => some "tuple" | .lst _ => some "list" | .dct _ _ => some "dict"
  | _ => none
theorem ty_of {K : PySem.W.Frag} {F H : Hp} (sub : ∀ a o, F a = some o → H a = some o) {d : D} {v : V} {n : String} (r : VRep N F H d v) (h : tyN d = some n) : TyX K H v (.type n) := by
  cases d with
  | int i => cases h; rw [v_int r]; exact .base (.int i)
  | bl i => cases h; rw [v_bl r]; exact .base (.bl i)
  | str i => cases h; rw [v_str r]; exact .base (.str i)
  | non => cases h; rw [rep_non.mp (show Rep N F .non v from r)]; exact .base .non
  | tup ds => cases h; obtain ⟨a, vs, rfl, e, z, q⟩ := rep_tup.mp (show Rep N F (.tup _) v from r); exact .base (.tup (sub _ _ e))
  | lst ds => cases h; obtain ⟨a, vs, rfl, e, z, q⟩ := r; exact .base (.lst e)
  | dct ks ds => cases h; obtain ⟨a, vs, rfl, e, z, q⟩ := r; exact .base (.dK e)
  | _ => cases h
theorem isiB_of {d : D} {t : Ty} {b : Bool} (h : isiB d t = some b) : ∃ n x, tyN d = some n ∧ t = .b x ∧ kitB n x = some b := by
  cases t with
  | c k => cases d <;> cases h
  | b x => cases d <;> first | exact ⟨_, x, rfl, rfl, h⟩ | cases h
/-- one class -/
theorem er_isi1 {te : TE} {we : WE} {x : String} (he : ER N te we) : ER N (tCB (rIsi X.K) (tCons te (tCons (tC (.ty x)) tNil))) (fun ρ M Q => we ρ M fun y ρ M => ∃ b, isiP (view M y) [.b x] = some b ∧ Q (.bl b) ρ M) := fun Z σ H F ρ M Q K S hw hk =>
  he Z σ H F ρ M _ _ S hw fun v H1 F1 d ρ1 M1 S1 l r ⟨b, e, q⟩ => by
    have e2 : isiB (view M1 d) (.b x) = some b := by
      unfold isiP at e
      cases g : isiB (view M1 d) (.b x) with
      | none => rw [g] at e; cases e
      | some c => rw [g] at e; cases c <;> exact e
    obtain ⟨n, x', h1, h2, h3⟩ := isiB_of e2
    cases h2
    exact ⟨v, .ty x, .type n, .type x, b, rfl, .ty x, ty_of S1.sub (r.view S1) h1, kit_ty h3, hk _ H1 F1 _ ρ1 M1 S1 l (bl_rep _) q⟩
/-- two classes in a tuple -/
theorem kitAny2 {K : PySem.W.Frag} {d : D} {n x y : String} {b : Bool} (hn : tyN d = some n) (h : isiP d [.b x, .b y] = some b) : PySem.W.kitAny K (.type n) [.type x, .type y] = some b := by
  unfold isiP at h
  cases g : isiB d (.b x) with
  | none => rw [g] at h; cases h
  | some c =>
    rw [g] at h
    obtain ⟨n', x', h1, h2, h3⟩ := isiB_of g
    cases h2
    rw [hn] at h1; cases h1
    cases c with
    | true => cases h; exact kitAny_cons (kit_ty h3) (fun z => by cases z) fun _ => rfl
    | false =>
      have h : isiP d [.b y] = some b := h
      unfold isiP at h
      cases g2 : isiB d (.b y) with
      | none => rw [g2] at h; cases h
      | some c2 =>
        rw [g2] at h
        obtain ⟨n'', x'', k1, k2, k3⟩ := isiB_of g2
        cases k2
        rw [hn] at k1; cases k1
        refine kitAny_cons (kit_ty h3) (fun _ => ?_) fun z => by cases z
        cases c2 with
        | true => cases h; exact kitAny_cons (kit_ty k3) (fun z => by cases z) fun _ => rfl
        | false => cases h; exact kitAny_cons (kit_ty k3) (fun _ => kitAny_nil) fun z => by cases z
theorem isiP_ty {d : D} {x : String} {ts : List Ty} {b : Bool} (h : isiP d (.b x :: ts) = some b) : ∃ n, tyN d = some n := by
  unfold isiP at h
  cases g : isiB d (.b x) with
  | none => rw [g] at h; cases h
  | some c => obtain ⟨n, _, h1, _⟩ := isiB_of g; exact ⟨n, h1⟩
theorem er_isi2 {te : TE} {we : WE} {x y : String} (he : ER N te we) : ER N (tCB (rIsiT X.K) (tCons te (tCons (tTup (tCons (tC (.ty x)) (tCons (tC (.ty y)) tNil))) tNil))) (fun ρ M Q => we ρ M fun z ρ M => ∃ b, isiP (view M z) [.b x, .b y] = some b ∧ Q (.bl b) ρ M) := fun Z σ H F ρ M Q K S hw hk =>
  he Z σ H F ρ M _ _ S hw fun v H1 F1 d ρ1 M1 S1 l r ⟨b, e, q⟩ => by
    obtain ⟨n, hn⟩ := isiP_ty e
    refine ⟨by show 2 ≤ sizeLine; decide, fun p hp => ?_⟩
    have S2 := S1.more (o := .tup [V.ty x, V.ty y]) hp
    have rv : VRep N F1 (upd H1 p (.tup [V.ty x, V.ty y])) (view M1 d) v := r.view S2
    exact ⟨v, p, [.ty x, .ty y], .type n, [.type x, .type y], b, rfl, upd_same, .cons (.ty x) (.cons (.ty y) .nil), ty_of S2.sub rv hn, kitAny2 hn e, hk _ _ F1 _ ρ1 M1 S2 l (bl_rep _) q⟩
end
end DL

set_option Elab.async false
set_option linter.all false
set_option maxRecDepth 100000
namespace DL
open PySem L2 PySem.W

theorem upd_id {H : Hp} {p : Addr} {o : HO} (h : H p = some o) : upd H p o = H := by
  funext b
  by_cases z : b = p
  · subst z; rw [upd_same, h]
  · rw [upd_ne z]
section
variable {X : Cx} {N : Nam} {B : Tab} {pos : Pos}
def rSetd : V → List V → Hp → VK → Prop := fun x vs H Q => ∃ (a : Addr) (kvs : List (Key × V)) (k : Key) (d : V), x = .ref a ∧ vs = [kV k, d] ∧ H a = some (.dK kvs) ∧ kvs.length < sizeLine ∧
  (∀ v, valV kvs k = some v → Q v H) ∧ (valV kvs k = none → Q d (upd H a (.dK (putK kvs k d))))
theorem mt_setd : MtR X "dict.setdefault" rSetd := by
  intro pins s σ H x vs v us Q I rx rv h
  obtain ⟨a, kvs, k, d, rfl, rfl, hH, hz, h1, h2⟩ := h
  cases rx
  obtain ⟨u, w', rfl, ru, rw'⟩ := rv.two
  exact d_setd I hH ru rw' hz (fun v hv w' s' I' r => ⟨v, H, I', r, h1 v hv⟩) fun hn w' s' I' r => ⟨d, _, I', r, h2 hn⟩
/-- a method that changes a container, by values -/
def PMok (N : Nam) (m : PM) (r : V → List V → Hp → VK → Prop) : Prop :=
  ∀ (F H : Hp) (p : Addr) (c : CO) (ds : List D) (vs : List V) (Q : D → CO → Prop) (K : VK), (∀ a o, F a = some o → H a = some o) → CoOk N F H p c → Reps N F ds vs → pmP m c ds Q →
    (∀ v d c' ho, Rep N F d v → CoOk N F (upd H p ho) p c' → Q d c' → K v (upd H p ho)) → r (.ref p) vs H K
theorem pm_append : PMok N .append rAppend := fun F H p c ds vs Q K sub x r h hk => by
  cases c with
  | K ks es => exact (show False by cases ds <;> exact h).elim
  | L es =>
    match ds, r, h with
    | [d], r, h =>
      obtain ⟨v, rfl, q⟩ := reps1 r
      obtain ⟨us, e, z, w⟩ := x
      have hl := w.length
      refine ⟨p, us, v, rfl, rfl, e, by rw [hl]; exact h.1, hk _ .non (.L (es ++ [d])) _ (rep_non.mpr rfl) ⟨_, upd_same, ?_, w.append (.one q)⟩ h.2⟩
      rw [List.length_append, hl]; exact h.1
    | [], r, h => exact (show False from h).elim
    | _ :: _ :: _, r, h => exact (show False from h).elim
theorem pm_extend : PMok N .extend rExtend := fun F H p c ds vs Q K sub x r h hk => by
  cases c with
  | K ks es => exact (show False by cases ds <;> exact h).elim
  | L es =>
    match ds, r, h with
    | [d], r, h =>
      cases d with
      | lst fs =>
        obtain ⟨v, rfl, q⟩ := reps1 r
        obtain ⟨us, e, z, w⟩ := x
        obtain ⟨b, zs, rfl, e2, z2, w2⟩ := rep_lst.mp q
        have hl : us.length + zs.length ≤ sizeLine := by rw [w.length, w2.length]; exact h.1
        exact ⟨p, b, us, zs, rfl, rfl, e, sub _ _ e2, hl, hk _ .non (.L (es ++ fs)) _ (rep_non.mpr rfl) ⟨_, upd_same, by rw [List.length_append]; exact hl, w.append w2⟩ h.2⟩
      | _ => exact (show False from h).elim
    | [], r, h => exact (show False from h).elim
    | a :: _ :: _, r, h => exact (show False by cases a <;> exact h).elim
theorem pm_popAt : PMok N .popAt rPopAt := fun F H p c ds vs Q K sub x r h hk => by
  cases c with
  | K ks es => exact (show False by cases ds <;> exact h).elim
  | L es =>
    match ds, r, h with
    | [d], r, h =>
      cases d with
      | int i =>
        obtain ⟨v, rfl, q⟩ := reps1 r
        obtain ⟨us, e, z, w⟩ := x
        obtain ⟨k, d, h0, rfl, h2, h3⟩ := h
        obtain ⟨y, h4, h5⟩ := w.get h2
        have hk2 : k < us.length := (List.getElem?_eq_some_iff.mp h4).1
        have hz := z
        rw [sizeLine_eq] at hz
        refine ⟨p, us, (k : Nat), k, y, rfl, by rw [rep_int.mp q], e, by omega, by omega, ?_, h4, hk _ d (.L (es.eraseIdx k)) _ h5 ⟨_, upd_same, Nat.le_trans (len_erase _ _) z, w.eraseIdx k⟩ h3⟩
        unfold seqIndex?
        have n0 : ¬ ((k : Int) < 0) := by omega
        simp [n0, hk2]
      | _ => exact (show False from h).elim
    | [], r, h => exact (show False from h).elim
    | a :: _ :: _, r, h => exact (show False by cases a <;> exact h).elim
theorem pm_clear : PMok N .clear rClear := fun F H p c ds vs Q K sub x r h hk => by
  cases c with
  | K ks es => exact (show False by cases ds <;> exact h).elim
  | L es =>
    match ds, r, h with
    | [], r, h =>
      rw [reps_nil.mp r]
      obtain ⟨us, e, z, w⟩ := x
      exact ⟨p, us, rfl, rfl, e, hk _ .non (.L []) _ (rep_non.mpr rfl) ⟨[], upd_same, Nat.zero_le _, reps_nil.mpr rfl⟩ h⟩
    | _ :: _, r, h => exact (show False from h).elim
theorem dget_none : ∀ {ks : List Key} {ds : List D} {j : Key}, ks.length = ds.length → dget ks ds j = none → j ∉ ks
  | [], _, _, _, _ => by simp
  | k :: ks, [], _, h, _ => by cases h
  | k :: ks, d :: ds, j, h, e => by
    unfold dget at e
    rw [List.zip_cons_cons, List.find?_cons] at e
    by_cases z : k = j
    · simp [z] at e
    · simp only [z, decide_false] at e
      have := dget_none (ks := ks) (ds := ds) (j := j) (by simpa using h) e
      simp only [List.mem_cons, not_or]
      exact ⟨fun q => z q.symm, this⟩
theorem nodup_snoc {ks : List Key} {j : Key} (h : ks.Nodup) (hj : j ∉ ks) : (ks ++ [j]).Nodup := by
  rw [List.nodup_append]
  exact ⟨h, by simp, fun a ha b hb => by
    rw [List.mem_singleton] at hb
    rintro rfl
    exact hj (hb ▸ ha)⟩
theorem pm_setd : PMok N .setdefault rSetd := fun F H p c ds vs Q K sub x r h hk => by
  cases c with
  | L es => exact (show False by cases ds <;> exact h).elim
  | K ks es =>
    match ds, r, h with
    | [k, d], r, h =>
      obtain ⟨v, u, rfl, q, q2⟩ := reps2 r
      obtain ⟨us, e, z1, z2, nd, w⟩ := x
      obtain ⟨j, h1, h2, h3⟩ := h
      have hl := w.length
      have hv := valV_zip (k := j) z1 w
      have ez : (ks.zip us).length = us.length := by rw [List.length_zip, z1, Nat.min_self]
      refine ⟨p, _, j, u, rfl, by rw [key_v h1 q], e, by rw [ez, hl]; exact h2, fun y hy => ?_, fun hn => ?_⟩
      · cases g : dget ks es j with
        | none => rw [g] at hv; rw [hv] at hy; cases hy
        | some t =>
          rw [g] at hv h3
          obtain ⟨y', h4, h5⟩ := hv
          rw [h4] at hy; cases hy
          have := hk y t (.K ks es) (.dK (ks.zip us)) h5 ⟨us, by rw [upd_id e]; exact e, z1, z2, nd, w⟩ h3
          rw [upd_id e] at this
          exact this
      · cases g : dget ks es j with
        | some t => rw [g] at hv; obtain ⟨y', h4, h5⟩ := hv; rw [h4] at hn; cases hn
        | none =>
          rw [g] at h3
          have hj := dget_none (by omega) g
          refine hk u d (.K (ks ++ [j]) (es ++ [d])) _ q2 ⟨us ++ [u], ?_, by simp [z1], by rw [List.length_append, hl]; exact h2, nodup_snoc nd hj, w.append (.one q2)⟩ h3
          rw [upd_same, putK_new _ hn, List.zip_append z1]
          rfl
    | [], r, h => exact (show False from h).elim
    | [a], r, h => exact (show False from h).elim
    | _ :: _ :: _ :: _, r, h => exact (show False from h).elim
def pmT : PM → String
  | .setdefault => "dict" | _ => "list"
theorem kind_ty {K : PySem.W.Frag} {F H : Hp} {p : Addr} {c : CO} {m : PM} (x : CoOk N F H p c) (h : kindP m c) : tyV K (pmT m) (.ref p) H := by
  cases c with
  | L es =>
    obtain ⟨us, e, _⟩ := x
    cases m <;> first | exact .inl ⟨rfl, us, SqL.of e⟩ | exact h.elim
  | K ks es =>
    obtain ⟨us, e, _⟩ := x
    cases m <;> first | exact .inr (.inr (.inl ⟨rfl, .inl ⟨_, e⟩⟩)) | exact h.elim
theorem er_pmO {m : PM} {i : Nat} {r : V → List V → Hp → VK → Prop} {ta : TA} {wa : WA} (hm : PMok N m r) (h : AR N ta wa) : ER N (tBM X.K (pmT m) r (tVar i) ta) (fun ρ M Q => (∃ c, ρ[i]? = some (.own c) ∧ kindP m c) ∧ wa ρ M fun ds ρ M => ∃ c, ρ[i]? = some (.own c) ∧ pmP m c ds fun z c' => Q z (ρ.set i (.own c')) M) := fun Z σ H F ρ M Q K S ⟨⟨c0, e0, k0⟩, hw⟩ hk => by
  obtain ⟨p, hp, x0, _⟩ := S.ownAt e0
  refine ⟨_, hp, kind_ty x0 k0, ?_⟩
  refine h Z σ H F ρ M _ _ S hw fun vs H1 F1 ds ρ1 M1 S1 l r1 ⟨c, e, q⟩ => ?_
  obtain ⟨p', hp', x, _⟩ := S1.ownAt e
  rw [hp] at hp'; cases hp'
  exact hm F1 H1 p c ds vs _ K S1.sub x r1 q fun v d c' ho rv x' q' => hk v _ F1 d _ M1 (S1.putO e hp x') l rv q'
theorem er_pmO0 {m : PM} {i : Nat} {r : V → List V → Hp → VK → Prop} (hm : PMok N m r) : ER N (tBM0 X.K (pmT m) r (tVar i)) (fun ρ M Q => (∃ c, ρ[i]? = some (.own c) ∧ kindP m c) ∧ ∃ c, ρ[i]? = some (.own c) ∧ pmP m c [] fun z c' => Q z (ρ.set i (.own c')) M) := fun Z σ H F ρ M Q K S ⟨⟨c0, e0, k0⟩, c, e, q⟩ hk => by
  obtain ⟨p, hp, x0, _⟩ := S.ownAt e0
  refine ⟨_, hp, kind_ty x0 k0, ?_⟩
  obtain ⟨p', hp', x, _⟩ := S.ownAt e
  rw [hp] at hp'; cases hp'
  exact hm F H p c [] [] _ K S.sub x (reps_nil.mpr rfl) q fun v d c' ho rv x' q' => hk v _ F d _ M (S.putO e hp x') (Le.refl _) rv q'
theorem er_pm {m : PM} {r : V → List V → Hp → VK → Prop} {te : TE} {we : WE} {ta : TA} {wa : WA} (hm : PMok N m r) (he : ER N te we) (h : AR N ta wa) : ER N (tBM X.K (pmT m) r te ta) (fun ρ M Q => we ρ M fun x ρ M => ∃ a, x = .loc a ∧ (∃ c, M a = some (.co c) ∧ kindP m c) ∧ wa ρ M fun ds ρ M => ∃ c, M a = some (.co c) ∧ pmP m c ds fun z c' => Q z ρ (updM M a (.co c'))) := fun Z σ H F ρ M Q K S hw hk => by
  refine he Z σ H F ρ M _ _ S hw fun v H0 F0 d ρ0 M0 S0 l0 r0 ⟨a, e, ⟨c0, e0, k0⟩, hw⟩ => ?_
  subst e
  rw [rep_loc.mp r0]
  refine ⟨kind_ty (S0.mem a _ e0) k0, ?_⟩
  refine h Z σ H0 F0 ρ0 M0 _ _ S0 hw fun vs H1 F1 ds ρ1 M1 S1 l r1 ⟨c, e, q⟩ => ?_
  exact hm F1 H1 a c ds vs _ K S1.sub (S1.mem a _ e) r1 q fun v d c' ho rv x' q' => hk v _ F1 d _ _ (S1.putM (mo' := .co c') e x') (l0.trans l) rv q'
theorem er_pm0 {m : PM} {r : V → List V → Hp → VK → Prop} {te : TE} {we : WE} (hm : PMok N m r) (he : ER N te we) : ER N (tBM0 X.K (pmT m) r te) (fun ρ M Q => we ρ M fun x ρ M => ∃ a, x = .loc a ∧ (∃ c, M a = some (.co c) ∧ kindP m c) ∧ ∃ c, M a = some (.co c) ∧ pmP m c [] fun z c' => Q z ρ (updM M a (.co c'))) := fun Z σ H F ρ M Q K S hw hk => by
  refine he Z σ H F ρ M _ _ S hw fun v H0 F0 d ρ0 M0 S0 l0 r0 ⟨a, e, ⟨c0, e0, k0⟩, c, e1, q⟩ => ?_
  subst e
  rw [rep_loc.mp r0]
  refine ⟨kind_ty (S0.mem a _ e0) k0, ?_⟩
  exact hm F0 H0 a c [] [] _ K S0.sub (S0.mem a _ e1) (reps_nil.mpr rfl) q fun v d c' ho rv x' q' => hk v _ F0 d _ _ (S0.putM (mo' := .co c') e1 x') l0 rv q'

/-! ### own containers read -/
theorem er_idxO {i : Nat} {tb : TE} {wb : WE} (hb : ER N tb wb) : ER N (tOp (fun x y H Q => rIx X.K x y H Q ∨ ∃ a v, x = .ref a ∧ DGet H a y (some v) ∧ Q v H) (tVar i) tb) (fun ρ M Q => (∃ c, ρ[i]? = some (.own c)) ∧ wb ρ M fun y ρ M => ∃ c, ρ[i]? = some (.own c) ∧ idxP c.tree (view M y) fun z => Q z ρ M) := fun Z σ H F ρ M Q K S ⟨⟨c0, e0⟩, hw⟩ hk => by
  obtain ⟨p, hp, x0, _⟩ := S.ownAt e0
  refine ⟨_, hp, ?_⟩
  refine hb Z σ H F ρ M _ _ S hw fun v H1 F1 d ρ1 M1 S1 l r ⟨c, e, q⟩ => ?_
  obtain ⟨p', hp', x, _⟩ := S1.ownAt e
  rw [hp] at hp'; cases hp'
  exact rb_idx_v Z σ H1 F1 ρ1 M1 _ _ _ _ _ K S1 x.vrep (r.view S1) q fun v H' F' d' S' l' r' q' => hk v H' F' d' ρ1 M1 S' (l.trans l') r' q'
theorem er_lenO (kl : ∀ a ns, N.kl a ns → ∀ H, SqL X.K H a (ns.map V.int)) {i : Nat} : ER N (tCB (rLen X.K) (tCons (tVar i) tNil)) (fun ρ M Q => ∃ c, ρ[i]? = some (.own c) ∧ lenP c.tree fun n => Q (.int n) ρ M) := fun Z σ H F ρ M Q K S ⟨c, e, q⟩ hk => by
  obtain ⟨p, hp, x, _⟩ := S.ownAt e
  refine ⟨_, hp, ?_⟩
  exact lenP_ok kl S x.vrep q fun n z => hk _ H F _ ρ M S (Le.refl _) (int_rep _) z
end
end DL

set_option Elab.async false
set_option linter.all false
set_option maxRecDepth 100000
namespace DL
open PySem L2 PySem.W

section
variable {X : Cx} {N : Nam} {B : Tab} {pos : Pos}
/-- what is walked: the items are ds -/
def IterOk (N : Nam) (J : It) (F : Hp) (ds : List D) : Prop := ds.length ≤ sizeLine ∧ ∃ G Y, Walk J ds.length G Y ∧
  (∀ (Z : Ety) (F' H' : Hp) (ρ : Env) (M : Mem) (σ : St), Sim N Z F' ρ M σ H' → Le F F' → G H') ∧
  ∀ (Z : Ety) (F' H' : Hp) (ρ : Env) (M : Mem) (σ : St) (i : Nat) (x : V) (H'' : Hp), Sim N Z F' ρ M σ H' → Le F F' → i < ds.length → Y i H' x H'' → ∃ F'' d, ds[i]? = some d ∧ Sim N Z F'' ρ M σ H'' ∧ Le F' F'' ∧ Rep N F'' d x
def IR (N : Nam) (wi : TI) (wp : WA) : Prop := ∀ (Z : Ety) (σ : St) (H F : Hp) (ρ : Env) (M : Mem) (Q : List D → Env → Mem → Prop) (R : It → Hp → Prop), Sim N Z F ρ M σ H → wp ρ M Q →
  (∀ J H' F' ds ρ' M', Sim N Z F' ρ' M' σ H' → Le F F' → IterOk N J F' ds → Q ds ρ' M' → R J H') → wi σ H R
/-- a list, a tuple, a text -/
def iSeq (K : PySem.W.Frag) (tl : TE) : TI := fun σ H R => tl σ H fun x H1 => (∃ a, x = .ref a ∧ (∃ xs, SqL K H1 a xs) ∧ R (Itl K a) H1) ∨ (∃ a, x = .ref a ∧ (∃ xs, SqT K H1 a xs) ∧ R (Itt K a) H1) ∨ ∃ z, x = .str z ∧ R (Its z) H1
theorem pi_seq {tg l : Expr} {tl : TE} (hl : PE X l tl) : PI X tg l (iSeq X.K tl) := by
  -- each of the three by its own rule, over a reading that has been run already
  refine ⟨fun pins s σ H R I h => ?_⟩
  refine thn (hl.run pins s σ H _ I h) fun v s1 ⟨x, H1, I1, r1, q1⟩ => ?_
  rcases q1 with ⟨a, e, ⟨xs, hq⟩, q⟩ | ⟨a, e, ⟨xs, hq⟩, q⟩ | ⟨z, e, q⟩
  · subst e
    cases r1
    obtain ⟨its, rv, p, hz⟩ := I1.list hq
    refine PySem.wpAny_pyIter_list p.isList ?_
    refine ⟨s1.heap.objs.size, [s1.heap.objs.size], _, _, H1, rfl, I1.kept (t' := s1.toks) fun b o e => Heap.get?_push_of_some _ e, turn_list a _, ⟨_, Heap.get?_push_size _ rfl, rfl, rfl⟩, fun b hb => ?_, q⟩
    have e : b = s1.heap.objs.size := by simpa using hb
    subst e
    exact I1.fpOk (Nat.le_refl _) (I1.hok.fresh (Nat.le_refl _))
  · subst e
    cases r1
    obtain ⟨its, rv, p, hz⟩ := I1.tuple hq
    refine PySem.wpAny_pyIter_tuple (show s1.heap.IsTuple a its.toArray from p) ?_
    refine ⟨s1.heap.objs.size, [s1.heap.objs.size], _, _, H1, rfl, I1.kept (t' := s1.toks) fun b o e => Heap.get?_push_of_some _ e, turn_tuple a _, ⟨_, Heap.get?_push_size _ rfl, rfl, rfl⟩, fun b hb => ?_, q⟩
    have e : b = s1.heap.objs.size := by simpa using hb
    subst e
    exact I1.fpOk (Nat.le_refl _) (I1.hok.fresh (Nat.le_refl _))
  · subst e
    obtain ⟨t, rfl⟩ := r1
    cases ha : z.cps.all (· < 128)
    · exact PySem.wpAny_pyIter_wide ha (pi_one (tk := s1.toks) I1 _ (turn_str _ z t "str_iterator" (.inr rfl)) ⟨_, Heap.get?_push_size _ rfl, rfl, rfl⟩ q)
    · exact PySem.wpAny_pyIter_ascii ha (pi_one (tk := s1.toks) I1 _ (turn_str _ z t "str_ascii_iterator" (.inl rfl)) ⟨_, Heap.get?_push_size _ rfl, rfl, rfl⟩ q)
theorem it_vs {J : It} {G : Hp → Prop} {F : Hp} {ds : List D} {vs : List V} (w : Walk J vs.length G (YAt vs)) (hG : ∀ (Z : Ety) (F' H' : Hp) (ρ : Env) (M : Mem) (σ : St), Sim N Z F' ρ M σ H' → Le F F' → G H') (r : Reps N F ds vs) (z : vs.length ≤ sizeLine) : IterOk N J F ds := by
  refine ⟨by rw [← r.length]; exact z, G, YAt vs, r.length ▸ w, hG, fun Z F' H' ρ M σ i x H'' S l hi y => ?_⟩
  obtain ⟨rfl, e⟩ := y
  obtain ⟨d, h1, h2⟩ := r.get' e
  exact ⟨F', d, h1, S, Le.refl _, h2.mono l⟩
theorem iter_lst {K : PySem.W.Frag} {F : Hp} {a : Addr} {ds : List D} {vs : List V} (h : F a = some (.lst vs)) (r : Reps N F ds vs) (z : vs.length ≤ sizeLine) : IterOk N (Itl K a) F ds :=
  it_vs (walk_list (K := K) (a := a) (xs := vs)) (fun Z F' H' ρ M σ S l => SqL.of (S.sub _ _ (l _ _ h))) r z
theorem iter_scr {K : PySem.W.Frag} (kl : ∀ a ns, N.kl a ns → ∀ H, SqL K H a (ns.map V.int)) {F : Hp} {a : Addr} {ns : List Int} (h : Rd F a (.lst (ns.map V.int)) ∨ N.kl a ns) (z : ns.length ≤ sizeLine) : IterOk N (Itl K a) F (ns.map D.int) :=
  it_vs (walk_list (K := K) (a := a) (xs := ns.map V.int)) (fun Z F' H' ρ M σ S l => scr_sq kl S (h.imp (fun h => h.imp (fun z => l _ _ z) fun ⟨o, z⟩ => ⟨o, l _ _ z⟩) id)) (reps_ints ns) (by rw [List.length_map]; exact z)
theorem iter_tup {K : PySem.W.Frag} {F : Hp} {a : Addr} {ds : List D} {vs : List V} (h : F a = some (.tup vs)) (r : Reps N F ds vs) (z : vs.length ≤ sizeLine) : IterOk N (Itt K a) F ds :=
  it_vs (walk_tup (K := K) (a := a) (xs := vs)) (fun Z F' H' ρ M σ S l => SqT.of (S.sub _ _ (l _ _ h))) r z
theorem iter_str {F : Hp} (s : Str) (z : s.length ≤ sizeLine) : IterOk N (Its s) F (s.cps.toList.map fun c => .str ⟨#[c]⟩) := by
  refine ⟨by rw [List.length_map, Array.length_toList]; exact z, fun _ => True, fun i H v H' => H' = H ∧ ∃ c, s.cps[i]? = some c ∧ v = .str ⟨#[c]⟩, ?_, fun _ _ _ _ _ _ _ _ => trivial, fun Z F' H' ρ M σ i x H'' S l hi y => ?_⟩
  · have e : (s.cps.toList.map fun c => D.str ⟨#[c]⟩).length = s.cps.size := by simp
    rw [e]
    exact walk_str
  · obtain ⟨rfl, c, h, rfl⟩ := y
    refine ⟨F', .str ⟨#[c]⟩, ?_, S, Le.refl _, rep_str.mpr rfl⟩
    rw [List.getElem?_map, Array.getElem?_toList, h]
    rfl
theorem iter_rng {F : Hp} (lo : Int) (n : Nat) (z : n ≤ sizeLine) : IterOk N (Itr lo n) F ((List.range n).map fun k => .int (lo + (k : Nat))) := by
  refine ⟨by simpa using z, fun _ => True, YFn fun i => .int (lo + i), ?_, fun _ _ _ _ _ _ _ _ => trivial, fun Z F' H' ρ M σ i x H'' S l hi y => ?_⟩
  · have e : ((List.range n).map fun k => D.int (lo + (k : Nat))).length = n := by simp
    rw [e]
    exact walk_range
  · obtain ⟨rfl, rfl⟩ := y
    have hi : i < n := by simpa using hi
    refine ⟨F', .int (lo + i), ?_, S, Le.refl _, int_rep _⟩
    rw [List.getElem?_map, List.getElem?_range hi]
    rfl
theorem pair_new {Z : Ety} {F H : Hp} {ρ : Env} {M : Mem} {σ : St} (S : Sim N Z F ρ M σ H) {T : Addr} {x y : V} {a b : D} (h : H T = none) (ra : Rep N F a x) (rb : Rep N F b y) : Sim N Z (upd F T (.tup [x, y])) ρ M σ (upd H T (.tup [x, y])) ∧ Le F (upd F T (.tup [x, y])) ∧ Rep N (upd F T (.tup [x, y])) (.tup [a, b]) (.ref T) := by
  have le := Le.new (o := .tup [x, y]) (S.fnone h)
  exact ⟨S.alloc h, le, rep_tup.mpr ⟨T, _, rfl, upd_same, by show 2 ≤ sizeLine; decide, reps_cons.mpr ⟨x, [y], rfl, ra.mono le, .one (rb.mono le)⟩⟩⟩
theorem iter_enum {K : PySem.W.Frag} {F : Hp} {a : Addr} {ds : List D} {vs : List V} (h : F a = some (.lst vs)) (r : Reps N F ds vs) (z : vs.length ≤ sizeLine) : IterOk N (Ite K a) F (ds.zipIdx.map fun p => .tup [.int (p.2 : Nat), p.1]) := by
  refine ⟨by simpa [← r.length] using z, fun H => SqL K H a vs, YPair (fun i => some (.int (i : Nat))) (fun i => vs[i]?), ?_, fun Z F' H' ρ M σ S l => SqL.of (S.sub _ _ (l _ _ h)), fun Z F' H' ρ M σ i x H'' S l hi y => ?_⟩
  · have e : (ds.zipIdx.map fun p => D.tup [.int (p.2 : Nat), p.1]).length = vs.length := by simp [r.length]
    rw [e]
    exact walk_enum
  · obtain ⟨T, u, v, rfl, hT, rfl, h1, h2⟩ := y
    cases h1
    obtain ⟨d, h3, h4⟩ := r.get' h2
    obtain ⟨q1, q2, q3⟩ := pair_new S hT (int_rep (i : Nat)) (h4.mono l)
    refine ⟨_, .tup [.int (i : Nat), d], ?_, q1, q2, q3⟩
    rw [List.getElem?_map, List.getElem?_zipIdx, h3]
    simp
theorem iter_zip {K : PySem.W.Frag} {F : Hp} {a b : Addr} {ds es : List D} {vs us : List V} (h : F a = some (.lst vs)) (h' : F b = some (.lst us)) (r : Reps N F ds vs) (r' : Reps N F es us) (z : vs.length ≤ sizeLine) : IterOk N (Itz K a b) F ((ds.zip es).map fun p => .tup [p.1, p.2]) := by
  refine ⟨by rw [List.length_map, List.length_zip, ← r.length]; exact Nat.le_trans (Nat.min_le_left _ _) z, fun H => SqL K H a vs ∧ SqL K H b us, YPair (fun i => vs[i]?) (fun i => us[i]?), walk_zip (by simp [r.length, r'.length]), fun Z F' H' ρ M σ S l => ⟨SqL.of (S.sub _ _ (l _ _ h)), SqL.of (S.sub _ _ (l _ _ h'))⟩, fun Z F' H' ρ M σ i x H'' S l hi y => ?_⟩
  obtain ⟨T, u, v, rfl, hT, rfl, h1, h2⟩ := y
  obtain ⟨d, h3, h4⟩ := r.get' h1
  obtain ⟨e, h5, h6⟩ := r'.get' h2
  obtain ⟨q1, q2, q3⟩ := pair_new S hT (h4.mono l) (h6.mono l)
  refine ⟨_, .tup [d, e], ?_, q1, q2, q3⟩
  rw [List.getElem?_map, List.getElem?_zip_eq_some (z := (d, e)) |>.mpr ⟨h3, h5⟩]
  rfl
theorem ir_seq {te : TE} {we : WE} (em : ∀ i a, N.emp i = some a → ∀ H, SqT X.K H a []) (kl : ∀ a ns, N.kl a ns → ∀ H, SqL X.K H a (ns.map V.int)) (he : ER N te we) : IR N (iSeq X.K te) (fun ρ M Q => we ρ M fun x ρ M => ∃ ds, itemsOf x = some ds ∧ strSz x ∧ (ds.length ≤ sizeLine → Q ds ρ M)) := fun Z σ H F ρ M Q R S hw hk =>
  he Z σ H F ρ M _ _ S hw fun v H1 F1 d ρ1 M1 S1 l r ⟨ds, e, sz, q⟩ => by
    cases d with
    | lst es =>
      cases e
      obtain ⟨a, vs, rfl, h, z, w⟩ := rep_lst.mp r
      exact .inl ⟨a, rfl, ⟨vs, SqL.of (S1.sub _ _ h)⟩, hk _ H1 F1 _ ρ1 M1 S1 l (iter_lst h w z) (q (by rw [← w.length]; exact z))⟩
    | tup es =>
      cases e
      obtain ⟨a, vs, rfl, h, z, w⟩ := rep_tup.mp r
      exact .inr (.inl ⟨a, rfl, ⟨vs, SqT.of (S1.sub _ _ h)⟩, hk _ H1 F1 _ ρ1 M1 S1 l (iter_tup h w z) (q (by rw [← w.length]; exact z))⟩)
    | str s =>
      cases e
      exact .inr (.inr ⟨s, rep_str.mp r, hk _ H1 F1 _ ρ1 M1 S1 l (iter_str s sz) (q (by rw [List.length_map, Array.length_toList]; exact sz))⟩)
    | scr ns =>
      cases e
      obtain ⟨a, rfl, h, z⟩ := rep_scr.mp r
      exact .inl ⟨a, rfl, ⟨_, scr_sq kl S1 h⟩, hk _ H1 F1 _ ρ1 M1 S1 l (iter_scr kl h z) (q (by rw [List.length_map]; exact z))⟩
    | kemp i =>
      cases e
      have z : Rep N F1 (.kemp i) v := r
      unfold Rep at z
      obtain ⟨a, ha, rfl⟩ := z
      exact .inr (.inl ⟨a, rfl, ⟨[], em i a ha H1⟩, hk _ H1 F1 _ ρ1 M1 S1 l (it_vs (walk_tup (K := X.K) (a := a) (xs := [])) (fun Z F' H' ρ M σ S l => em i a ha H') (reps_nil.mpr rfl) (Nat.zero_le _)) (q (Nat.zero_le _))⟩)
    | _ => cases e
theorem ir_rng1 {te : TE} {we : WE} (he : ER N te we) : IR N (iRng1 (tCons te tNil)) (fun ρ M Q => we ρ M fun x ρ M => ∃ j : Int, x = .int j ∧ (-(2 ^ 62) ≤ j ∧ j ≤ 16777216) ∧ Q ((List.range j.toNat).map fun k => .int (k : Nat)) ρ M) := fun Z σ H F ρ M Q R S hw hk =>
  he Z σ H F ρ M _ _ S hw fun v H1 F1 d ρ1 M1 S1 l r ⟨j, e, ⟨h1, h2⟩, q⟩ => by
    subst e
    refine ⟨j, by rw [rep_int.mp r], h1, by omega, hk _ H1 F1 _ ρ1 M1 S1 l (iter_rng 0 j.toNat (by rw [sizeLine_eq]; omega)) ?_⟩
    have e : ((List.range j.toNat).map fun k => D.int (0 + (k : Nat))) = (List.range j.toNat).map fun k => D.int (k : Nat) := List.map_congr_left fun k _ => by rw [Int.zero_add]
    rw [e]
    exact q
theorem ir_rng2 {ta tb : TE} {wa wb : WE} (ha : ER N ta wa) (hb : ER N tb wb) : IR N (iRng2 (tCons ta (tCons tb tNil))) (fun ρ M Q => wa ρ M fun x ρ M => wb ρ M fun y ρ M => ∃ i j : Int, x = .int i ∧ y = .int j ∧ (-(2 ^ 62) ≤ i ∧ i < 2 ^ 62 ∧ -(2 ^ 62) ≤ j ∧ j < 2 ^ 62 ∧ j - i ≤ 16777216) ∧ Q ((List.range (j - i).toNat).map fun k => .int (i + (k : Nat))) ρ M) := fun Z σ H F ρ M Q R S hw hk =>
  ha Z σ H F ρ M _ _ S hw fun v H1 F1 d ρ1 M1 S1 l r q1 => hb Z σ H1 F1 ρ1 M1 _ _ S1 q1 fun v2 H2 F2 d2 ρ2 M2 S2 l2 r2 ⟨i, j, e1, e2, h, q⟩ => by
    subst e1; subst e2
    exact ⟨i, j, by rw [rep_int.mp r, rep_int.mp r2], ⟨h.1, h.2.1, h.2.2.1, h.2.2.2.1⟩, hk _ H2 F2 _ ρ2 M2 S2 (l.trans l2) (iter_rng i (j - i).toNat (by rw [sizeLine_eq]; omega)) q⟩
theorem ir_enum {te : TE} {we : WE} (he : ER N te we) : IR N (iEnum X.K (tCons te tNil)) (fun ρ M Q => we ρ M fun x ρ M => ∃ ds, x = .lst ds ∧ (ds.length ≤ sizeLine → Q (ds.zipIdx.map fun p => .tup [.int (p.2 : Nat), p.1]) ρ M)) := fun Z σ H F ρ M Q R S hw hk =>
  he Z σ H F ρ M _ _ S hw fun v H1 F1 d ρ1 M1 S1 l r ⟨ds, e, q⟩ => by
    subst e
    obtain ⟨a, vs, rfl, h, z, w⟩ := rep_lst.mp r
    exact ⟨a, vs, rfl, SqL.of (S1.sub _ _ h), hk _ H1 F1 _ ρ1 M1 S1 l (iter_enum h w z) (q (by rw [← w.length]; exact z))⟩
theorem ir_zip {ta tb : TE} {wa wb : WE} (ha : ER N ta wa) (hb : ER N tb wb) : IR N (iZip X.K (tCons ta (tCons tb tNil))) (fun ρ M Q => wa ρ M fun x ρ M => wb ρ M fun y ρ M => ∃ ds es, x = .lst ds ∧ y = .lst es ∧ (ds.length ≤ sizeLine → es.length ≤ sizeLine → Q ((ds.zip es).map fun p => .tup [p.1, p.2]) ρ M)) := fun Z σ H F ρ M Q R S hw hk =>
  ha Z σ H F ρ M _ _ S hw fun v H1 F1 d ρ1 M1 S1 l r q1 => hb Z σ H1 F1 ρ1 M1 _ _ S1 q1 fun v2 H2 F2 d2 ρ2 M2 S2 l2 r2 ⟨ds, es, e1, e2, q⟩ => by
    subst e1; subst e2
    obtain ⟨a, vs, rfl, h, z, w⟩ := rep_lst.mp (r.mono l2)
    obtain ⟨b, us, rfl, h', z', w'⟩ := rep_lst.mp r2
    exact ⟨a, b, vs, us, rfl, SqL.of (S2.sub _ _ h), SqL.of (S2.sub _ _ h'), hk _ H2 F2 _ ρ2 M2 S2 (l.trans l2) (iter_zip h h' w w' z) (q (by rw [← w.length]; exact z) (by rw [← w'.length]; exact z'))⟩

/-! ### targets -/
def slotsT : T → List Nat
  | .tname i => [i]
  | .ttup r => slotsT r
  | .cons a r => slotsT a ++ slotsT r
  | _ => []
def GR (N : Nam) (K : PySem.W.Frag) (g : TG) (tg : T) : Prop := ∀ (Z : Ety) (σ : St) (H F : Hp) (ρ : Env) (M : Mem) (d : D) (v : V) (P : Env → Prop) (KK : St → Hp → Prop), Sim N Z F ρ M σ H → Rep N F d v → bindP tg d ρ P →
  (∀ σ' ρ', Sim N Z F ρ' M σ' H → (∀ vs : List Nat, (∀ i ∈ slotsT tg, i ∈ vs) → wipe σ' vs = wipe σ vs) → P ρ' → KK σ' H) → g v σ H KK
def GsR (N : Nam) (K : PySem.W.Frag) (g : TGs) (r : T) : Prop := ∀ (Z : Ety) (σ : St) (H F : Hp) (ρ : Env) (M : Mem) (ds : List D) (vs : List V) (P : Env → Prop) (KK : St → Hp → Prop), Sim N Z F ρ M σ H → Reps N F ds vs → bindP.binds r ds ρ P →
  (∀ σ' ρ', Sim N Z F ρ' M σ' H → (∀ vs : List Nat, (∀ i ∈ slotsT r, i ∈ vs) → wipe σ' vs = wipe σ vs) → P ρ' → KK σ' H) → g vs σ H KK
theorem wipe_set {σ : St} {i : Nat} {o : Option V} : ∀ {vs : List Nat}, i ∈ vs → wipe (σ.set i o) vs = wipe σ vs
  | [], h => by cases h
  | v :: vs, h => by
    unfold wipe
    by_cases z : i ∈ vs
    · rw [wipe_set z]
    · have e : i = v := by
        rcases List.mem_cons.mp h with e | e
        · exact e
        · exact absurd e z
      subst e
      have : ∀ us : List Nat, i ∉ us → wipe (σ.set i o) us = (wipe σ us).set i o := by
        intro us
        induction us with
        | nil => intro _; rfl
        | cons u us ih =>
          intro hu
          simp only [List.mem_cons, not_or] at hu
          unfold wipe
          rw [ih hu.2, List.set_comm _ _ hu.1]
      rw [this vs z, List.set_set]
theorem gr_name {K : PySem.W.Frag} (i : Nat) : GR N K (gName i) (.tname i) := fun Z σ H F ρ M d v P KK S r hb hk =>
  hk _ _ (S.set i r) (fun vs h => wipe_set (h i (by simp [slotsT]))) hb
theorem gr_tup {K : PySem.W.Frag} {g : TGs} {r : T} (h : GsR N K g r) : GR N K (gTup K (lenT r) g) (.ttup r) := fun Z σ H F ρ M d v P KK S rr hb hk => by
  cases d with
  | tup ds =>
    obtain ⟨a, vs, rfl, e, z, w⟩ := rep_tup.mp rr
    have hb : ds.length = lenT r ∧ bindP.binds r ds ρ P := hb
    exact ⟨a, vs, rfl, SqT.of (S.sub _ _ e), by rw [w.length]; exact hb.1, h Z σ H F ρ M ds vs P KK S w hb.2 hk⟩
  | _ => exact (show False from hb).elim
theorem gs_nil {K : PySem.W.Frag} : GsR N K gNil .nil := fun Z σ H F ρ M ds vs P KK S r hb hk => by
  cases ds with
  | nil =>
    rw [reps_nil.mp r]
    exact ⟨rfl, hk σ ρ S (fun _ _ => rfl) (by unfold bindP.binds at hb; exact hb)⟩
  | cons d ds => exact (show False by unfold bindP.binds at hb; exact hb).elim
theorem binds_cons {a r : T} {ds : List D} {ρ : Env} {P : Env → Prop} (h : bindP.binds (.cons a r) ds ρ P) : ∃ d es, ds = d :: es ∧ bindP a d ρ fun ρ' => bindP.binds r es ρ' P := by
  cases ds with
  | nil => exact (show False by unfold bindP.binds at h; cases a <;> exact h).elim
  | cons d es =>
    refine ⟨d, es, rfl, ?_⟩
    cases a with
    | tname i => unfold bindP.binds at h; unfold bindP; exact h
    | ttup q =>
      cases d with
      | tup fs => unfold bindP.binds at h; unfold bindP; exact h
      | _ => exact (show False by unfold bindP.binds at h; exact h).elim
    | _ => exact (show False by unfold bindP.binds at h; exact h).elim
theorem gs_cons {K : PySem.W.Frag} {g : TG} {gs : TGs} {a r : T} (ha : GR N K g a) (hr : GsR N K gs r) : GsR N K (gCons g gs) (.cons a r) := fun Z σ H F ρ M ds vs P KK S rr hb hk => by
  obtain ⟨d, es, rfl, h1⟩ := binds_cons hb
  obtain ⟨v, t, rfl, q, w⟩ := reps_cons.mp rr
  refine ⟨v, t, rfl, ha Z σ H F ρ M d v _ _ S q h1 fun σ1 ρ1 S1 k1 h2 => ?_⟩
  refine hr Z σ1 H F ρ1 M es t P KK S1 w h2 fun σ2 ρ2 S2 k2 h3 => hk σ2 ρ2 S2 (fun vs hv => ?_) h3
  rw [k2 vs fun i hi => hv i (by simp [slotsT, hi]), k1 vs fun i hi => hv i (by simp [slotsT, hi])]
end
end DL

set_option Elab.async false
set_option linter.all false
set_option maxRecDepth 100000
namespace DL
open PySem L2 PySem.W

section
variable {X : Cx} {N : Nam} {B : Tab} {pos : Pos}
/-- a clause's tests -/
def CR' (N : Nam) (tt : TT) (wc : Env → Mem → (Bool → Env → Mem → Prop) → Prop) : Prop := ∀ (Z : Ety) (σ : St) (H F : Hp) (ρ : Env) (M : Mem) (Q : Bool → Env → Mem → Prop) (K : Bool → Hp → Prop), Sim N Z F ρ M σ H → wc ρ M Q →
  (∀ b H' F' ρ' M', Sim N Z F' ρ' M' σ H' → Le F F' → Q b ρ' M' → K b H') → tt σ H K
theorem cr_nil : CR' N tYes (fun ρ M Q => Q true ρ M) := fun Z σ H F ρ M Q K S hw hk => hk true H F ρ M S (Le.refl _) hw
theorem cr_one {tt : TT} {w : WE} (h : TR N tt w) : CR' N tt (fun ρ M Q => w ρ M fun x ρ M => ∃ b, x = .bl b ∧ Q b ρ M) := fun Z σ H F ρ M Q K S hw hk => h Z σ H F ρ M Q K S hw hk
theorem wipe_get_at {σ : St} {i : Nat} : ∀ {vs : List Nat}, i ∈ vs → (wipe σ vs)[i]? = none ∨ (wipe σ vs)[i]? = some none
  | [], h => by cases h
  | v :: vs, h => by
    unfold wipe
    by_cases z : v = i
    · subst z
      by_cases y : v < (wipe σ vs).length
      · rw [List.getElem?_set_self y]; exact .inr rfl
      · exact .inl (List.getElem?_eq_none (by simpa using y))
    · rw [List.getElem?_set_ne z]
      exact wipe_get_at ((List.mem_cons.mp h).resolve_left fun e => z e.symm)
theorem wipe_wipe (σ : St) (vs : List Nat) : wipe (wipe σ vs) vs = wipe σ vs := by
  apply List.ext_getElem?
  intro i
  by_cases h : i ∈ vs
  · have hl : (wipe (wipe σ vs) vs).length = (wipe σ vs).length := by rw [wipe_length]
    rcases wipe_get_at (σ := wipe σ vs) h with e | e
    · rw [e]
      rw [List.getElem?_eq_none_iff] at e
      rw [hl] at e
      exact (List.getElem?_eq_none e).symm
    · rw [e]
      rcases wipe_get_at (σ := σ) h with e2 | e2
      · have := (List.getElem?_eq_some_iff.mp e).1
        rw [hl] at this
        rw [List.getElem?_eq_none_iff] at e2
        omega
      · exact e2.symm
  · exact wipe_get' h
theorem Sim.block {Z : Ety} {F H : Hp} {ρ : Env} {M : Mem} {σ : St} {c : CO} {p : Addr} (S : Sim N Z F (ρ ++ [LV.own c]) M (σ ++ [some (.ref p)]) H) (hl : ρ.length = σ.length) (vs : List Nat) : Sim N ⟨H, M, F⟩ F (hideD (wipeD ρ vs)) M (L2.wipe σ vs) H := by
  refine S.start.drop ?_ fun i lv e => ?_
  · unfold hideD; rw [List.length_map, wipeD_length, wipe_length]; exact hl
  · unfold hideD at e
    rw [List.getElem?_map] at e
    cases q : (wipeD ρ vs)[i]? with
    | none => rw [q] at e; cases e
    | some l =>
      rw [q] at e
      cases e
      rcases wipeD_get q with rfl | ⟨q1, q2⟩
      · exact .inl rfl
      · refine .inr ⟨?_, ?_⟩
        · unfold hideD
          have hi : i < ρ.length := (List.getElem?_eq_some_iff.mp q1).1
          rw [List.getElem?_map, List.getElem?_append_left hi, q1]
          rfl
        · have hi : i < ρ.length := (List.getElem?_eq_some_iff.mp q1).1
          rw [wipe_get' q2, List.getElem?_append_left (by omega)]
theorem or_comp {wi : TI} {wI : WA} {g : TG} {tg : T} {tt : TT} {wc : Env → Mem → (Bool → Env → Mem → Prop) → Prop} {te : TE} {we : WE} {own : List Nat} {K : PySem.W.Frag} (hi : IR N wi wI) (hg : GR N K g tg) (hc : CR' N tt wc) (he : ER N te we) (hs : ∀ i ∈ slotsT tg, i ∈ own) :
    OR' N (tLc wi g tt te own) (fun ρ M Q => wI ρ M fun ds ρ M => compL (fun d M K => bindP tg d (hideD (wipeD ρ own)) fun ρ1 => wc ρ1 M fun b ρ2 M1 => ρ2 = ρ1 ∧
      iteN (Bool.toNat b) (we ρ1 M1 fun x ρ3 M2 => ρ3 = ρ1 ∧ K (some x) M2) (K none M1)) ds [] M fun es M => Q (.lst es) ρ M) := by
  intro Z σ H F ρ M Q KK S hw hk
  refine hi Z σ H F ρ M _ _ S hw fun J H1 F1 ds ρ0 M1 S1 l1 ⟨hz, G, Y, w, hG, hY⟩ q1 D hD => ?_
  refine lc_it w (fun i H' => ∃ F' M' acc, Sim N Z F' (ρ0 ++ [.own (.L acc)]) M' (σ ++ [some (.ref D)]) H' ∧ Le F1 F' ∧ acc.length ≤ i ∧ compL (fun d M K => bindP tg d (hideD (wipeD ρ0 own)) fun ρ1 => wc ρ1 M fun b ρ2 M1 => ρ2 = ρ1 ∧
      iteN (Bool.toNat b) (we ρ1 M1 fun x ρ3 M2 => ρ3 = ρ1 ∧ K (some x) M2) (K none M1)) (ds.drop i) acc M' fun es M => Q (.lst es) ρ0 M) ?_ ?_ ?_ ?_
  · exact ⟨F1, M1, [], S1.newO hD ⟨[], upd_same, Nat.zero_le _, reps_nil.mpr rfl⟩, Le.refl _, Nat.le_refl _, q1⟩
  · rintro i H' _ ⟨F', M', acc, S', l', _, _⟩
    exact hG Z F' H' _ M' _ S' l'
  · rintro i x H2 H3 hlt ⟨F2, M2, acc, S2, l2, ha, q2⟩ y
    obtain ⟨F3, d, hd, S3, l3, r3⟩ := hY Z F2 H2 _ M2 _ i x H3 S2 l2 hlt y
    have ed : ds.drop i = d :: ds.drop (i + 1) := by
      obtain ⟨h1, h2⟩ := List.getElem?_eq_some_iff.mp hd
      rw [List.drop_eq_getElem_cons h1, h2]
    rw [ed, compL_consE] at q2
    have q2 : bindP tg d (hideD (wipeD ρ0 own)) _ := q2
    have S4 := S3.block S1.len own
    refine hg _ _ H3 F3 _ M2 d x _ _ S4 r3 q2 fun σ5 ρ5 S5 k5 q5 => ⟨?_, ?_⟩
    · rw [k5 own hs, wipe_wipe]
    · refine hc _ σ5 H3 F3 ρ5 M2 _ _ S5 q5 fun b H6 F6 ρ6 M6 S6 l6 ⟨e6, q6⟩ => ?_
      subst e6
      cases b with
      | false =>
        have S7 := S3.back S6
        exact ⟨F6, M6, acc, S7, (l2.trans l3).trans l6, by omega, q6⟩
      | true =>
        refine he _ σ5 H6 F6 ρ6 M6 _ _ S6 q6 fun v H7 F7 d7 ρ7 M7 S7 l7 r7 ⟨e7, q7⟩ => ?_
        have S8 := S3.back S7
        have e8 : (ρ0 ++ [LV.own (.L acc)])[ρ0.length]? = some (.own (.L acc)) := by simp
        obtain ⟨p', hp', ⟨vs, h1, h2, h3⟩, _⟩ := S8.ownAt e8
        have ep : p' = D := by
          rw [S1.len] at hp'
          simp at hp'
          exact hp'.symm
        subst ep
        have hl : vs.length < sizeLine := by rw [h3.length]; omega
        refine ⟨vs, h1, hl, F7, M7, acc ++ [d7], ?_, ((l2.trans l3).trans l6).trans l7, by rw [List.length_append, List.length_singleton]; omega, q7⟩
        have S9 := S8.putO (c' := .L (acc ++ [d7])) (ho := .lst (vs ++ [v])) e8 hp' ⟨_, upd_same, by rw [List.length_append]; exact hl, h3.append (.one r7)⟩
        have e9 : (ρ0 ++ [LV.own (.L acc)]).set ρ0.length (.own (.L (acc ++ [d7]))) = ρ0 ++ [.own (.L (acc ++ [d7]))] := by
          rw [List.set_append_right _ _ (Nat.le_refl _)]
          simp
        rw [e9] at S9
        exact S9
  · rintro H' ⟨F', M', acc, S', l', _, q'⟩
    rw [List.drop_length, compL_nilE] at q'
    exact hk D H' F' (.L acc) ρ0 M' S' S1.len (l1.trans l') q'
end
end DL

set_option Elab.async false
set_option linter.all false
set_option maxRecDepth 100000
namespace DL
open PySem L2 PySem.W

/-! ### syntax facts -/
def plainE : Expr → Bool
  | .Starred _ _ => false
  | _ => true
def plainEs (es : List Expr) : Bool := es.all plainE
theorem star_cons {e : Expr} {es : List Expr} (env : PySem.Env) (h : plainE e = true) : starEach (e :: es) env = (false, eval e env) :: starEach es env := by
  cases e <;> first | rfl | cases h
theorem star_any {pos : Pos} (env : PySem.Env) : ∀ {es : List Expr}, plainEs es = true → (backTo pos (starEach es env)).any (·.1) = false
  | [], _ => rfl
  | e :: es, h => by
    unfold plainEs at h
    rw [List.all_cons, Bool.and_eq_true] at h
    rw [star_cons env h.1]
    exact star_any env (es := es) h.2
def kwOf : List Keyword → Option (List Str)
  | [] => some []
  | ⟨some x, _, _⟩ :: r => (kwOf r).map (x :: ·)
  | _ => none
theorem kw_facts {pos : Pos} (env : PySem.Env) : ∀ {kws : List Keyword} {ks : List Str}, kwOf kws = some ks → (backToKw pos (keywordEach kws env)).all (·.1.isSome) = true ∧ (backToKw pos (keywordEach kws env)).any (·.1.isNone) = false ∧ (backToKw pos (keywordEach kws env)).filterMap (·.1) = ks
  | [], ks, h => by cases h; exact ⟨rfl, rfl, rfl⟩
  | ⟨some x, v, p⟩ :: r, ks, h => by
    unfold kwOf at h
    cases q : kwOf r with
    | none => rw [q] at h; cases h
    | some l =>
      rw [q] at h
      cases h
      obtain ⟨h1, h2, h3⟩ := kw_facts (pos := pos) env q
      refine ⟨?_, ?_, ?_⟩
      · show (true && _) = true
        rw [Bool.true_and]; exact h1
      · show (false || _) = false
        rw [Bool.false_or]; exact h2
      · show x :: _ = x :: l
        rw [← h3]
        rfl
  | ⟨none, v, p⟩ :: r, ks, h => by cases h

/-! ### calls -/
structure MSim (N : Nam) (F : Hp) (M : Mem) (H : Hp) : Prop where
  sub : ∀ a o, F a = some o → H a = some o
  mf : ∀ a mo, M a = some mo → F a = none
  mem : ∀ a mo, M a = some mo → MoOk N F H a mo
def lift (N : Nam) (sp : DSp) : List V → Hp → VK → Prop := fun vs H Q => ∃ F M ds Qd, MSim N F M H ∧ Reps N F ds vs ∧ sp ds M Qd ∧ ∀ d M' v H' F', Qd d M' → Sim N ⟨H, M, F⟩ F' [] M' [] H' → Rep N F' d v → Q v H'
theorem Sim.ms {N : Nam} {Z : Ety} {F H : Hp} {ρ : Env} {M : Mem} {σ : St} (S : Sim N Z F ρ M σ H) : MSim N F M H := ⟨S.sub, S.mf, S.mem⟩
theorem MSim.start {N : Nam} {F M H} (S : MSim N F M H) : Sim N ⟨H, M, F⟩ F [] M [] H :=
  ⟨S.sub, Le.refl _, S.mf, S.mem, fun a mo e h => (by have h : M a = none := h; rw [h] at e; cases e), fun a o e h => (by have h : F a = none := h; rw [h] at e; cases e), fun a o e _ => e, fun a o e => ⟨o, e⟩, ⟨fun _ => none, fun _ _ e => (nomatch e), fun i lv e => by simp at e⟩, rfl⟩
section
variable {P : Program} {w : World} {K : PySem.W.Frag} {mg : Str → Option Value} {base : Heap} {A : Around} {N : Nam} {x : Str} {sp : DSp} {B : Tab}
abbrev liftS (N : Nam) (sp : DSp) : Sp := fun vs H Q _ => lift N sp vs H Q
/-- more arguments that stand for the defaults -/
theorem lift_dflt {dd : List D} {dvs : List V} (hd : ∀ F, Reps N F dd dvs) {vs : List V} {H : Hp} {Q : VK} (h : lift N (fun ds => sp (ds ++ dd)) vs H Q) : lift N sp (vs ++ dvs) H Q := by
  obtain ⟨F, M, ds, Qd, S, r, q, k⟩ := h
  exact ⟨F, M, ds ++ dd, Qd, S, r.append (hd F), q, k⟩
/-- the callee's promise is what is wanted -/
theorem lift_run {Z : Ety} {F H : Hp} {ρ : Env} {M : Mem} {σ : St} {vs : List V} {ds : List D} {Q : D → Env → Mem → Prop} {KK : VK} (S : Sim N Z F ρ M σ H) (r : Reps N F ds vs) (h : sp ds M fun d M' => Q d ρ M')
    (hk : ∀ v H' F' d ρ' M', Sim N Z F' ρ' M' σ H' → Le F F' → Rep N F' d v → Q d ρ' M' → KK v H') : lift N sp vs H KK :=
  ⟨F, M, ds, _, S.ms, r, h, fun d M' v H' F' q S' r' => hk v H' F' d ρ M' (S.back S') S'.le0 r' q⟩
theorem lookup_none {α : Type} {m : Str} : ∀ {xs : List Str} {vs : List α}, m ∉ xs → (xs.zip vs).lookup m = none
  | [], _, _ => rfl
  | x :: xs, [], _ => rfl
  | x :: xs, v :: vs, h => by
    simp only [List.mem_cons, not_or] at h
    rw [List.zip_cons_cons, List.lookup_cons, beq_eq_false_iff_ne.mpr h.1]
    exact lookup_none h.2
end
end DL

set_option Elab.async false
set_option linter.all false
set_option maxRecDepth 100000
namespace DL
open PySem L2 PySem.W

section
variable {X : Cx} {N : Nam} {B : Tab} {pos : Pos}
/-- the ends of the heaps' side for those of the trees' -/
structure LE (N : Nam) (Z : Ety) (E : En) (D : Ends) : Prop where
  nx : ∀ σ H F ρ M, Sim N Z F ρ M σ H → E.nx ρ M → D.nx σ H
  bk : ∀ σ H F ρ M, Sim N Z F ρ M σ H → E.bk ρ M → D.bk σ H
  ct : ∀ σ H F ρ M, Sim N Z F ρ M σ H → E.ct ρ M → D.ct σ H
  rt : ∀ σ H F ρ M d v, Sim N Z F ρ M σ H → Rep N F d v → E.rt d M → D.rt v H
def SR (N : Nam) (t : TS) (ws : WS) : Prop := ∀ (Z : Ety) (σ : St) (H F : Hp) (ρ : Env) (M : Mem) (E : En) (D : Ends), Sim N Z F ρ M σ H → ws ρ M E → LE N Z E D → t D σ H
theorem sr_skip : SR N tNext (fun ρ M E => E.nx ρ M) := fun Z σ H F ρ M E D S h le => le.nx σ H F ρ M S h
theorem sr_seq {t u : TS} {a b : WS} (ha : SR N t a) (hb : SR N u b) : SR N (tSeq t u) (fun ρ M E => a ρ M { E with nx := fun ρ M => b ρ M E }) := fun Z σ H F ρ M E D S h le =>
  ha Z σ H F ρ M _ { D with nx := u D } S h ⟨fun σ H F ρ M S q => hb Z σ H F ρ M E D S q le, le.bk, le.ct, le.rt⟩
theorem sr_seal {t : TS} {i : Nat} {a : WS} (ha : SR N t a) : SR N t (fun ρ M E => readP ρ i M fun _ ρ M => a ρ M E) := fun Z σ H F ρ M E D S h le => by
  have h : readP ρ i M (fun _ ρ M => a ρ M E) := h
  unfold readP at h
  cases e : ρ[i]? with
  | none => rw [e] at h; exact h.elim
  | some l =>
    rw [e] at h
    cases l with
    | no => exact h.elim
    | val d => exact ha Z σ H F ρ M E D S h le
    | own c =>
      obtain ⟨p, ho, _, _, _, S'⟩ := S.seal e
      exact ha Z σ H _ _ M E D S' h le
theorem sr_set {te : TE} {we : WE} {i : Nat} (he : ER N te we) : SR N (tAsg te (gName i)) (fun ρ M E => we ρ M fun x ρ M => E.nx (ρ.set i (.val x)) M) := fun Z σ H F ρ M E D S h le =>
  he Z σ H F ρ M _ _ S h fun v H' F' d ρ' M' S' _ r q => le.nx _ _ _ _ _ (S'.set i r) q
/-- the slot behind all others moves to i -/
theorem Sim.take {Z : Ety} {F H : Hp} {ρ : Env} {M : Mem} {σ : St} {c : CO} {p : Addr} (S : Sim N Z F (ρ ++ [LV.own c]) M (σ ++ [some (.ref p)]) H) (hl : ρ.length = σ.length) (i : Nat) : Sim N Z F (ρ.set i (.own c)) M (σ.set i (some (.ref p))) H := by
  obtain ⟨ow, o1, o2⟩ := S.own
  obtain ⟨p', h1, h2, h3⟩ := o2 ρ.length (.own c) (by simp)
  have ep : p' = p := by rw [hl] at h1; simp at h1; exact h1.symm
  subst ep
  refine ⟨S.sub, S.le0, S.mf, S.mem, S.mnew, S.fnew, S.keep, S.there, ⟨fun b => if b = p' then some i else ow b, fun b j q => ?_, fun j lv e => ?_⟩, by rw [List.length_set, List.length_set]; exact hl⟩
  · have q : (if b = p' then some i else ow b) = some j := q
    by_cases z : b = p'
    · subst z; exact o1 b _ h2
    · rw [if_neg z] at q; exact o1 b j q
  · by_cases z : i = j
    · subst z
      have hi : i < ρ.length := by
        have := (List.getElem?_eq_some_iff.mp e).1
        rwa [List.length_set] at this
      rw [List.getElem?_set_self hi] at e
      cases e
      rw [List.getElem?_set_self (by omega)]
      exact ⟨p', rfl, by show (if p' = p' then some i else ow p') = some i; rw [if_pos rfl], h3⟩
    · rw [List.getElem?_set_ne z] at e ⊢
      have hj : j < ρ.length := (List.getElem?_eq_some_iff.mp e).1
      have y := o2 j lv (by rw [List.getElem?_append_left hj]; exact e)
      rw [List.getElem?_append_left (by omega)] at y
      cases lv with
      | no => trivial
      | val d => exact y
      | own c' =>
        obtain ⟨q, k1, k2, k3⟩ := y
        refine ⟨q, k1, ?_, k3⟩
        show (if q = p' then some i else ow q) = some j
        rw [if_neg (fun r => by subst r; rw [h2] at k2; cases k2; omega)]
        exact k2
theorem sr_setO {te : TE} {we : WE} {i : Nat} (he : OR' N te we) : SR N (tAsg te (gName i)) (fun ρ M E => we ρ M fun x ρ M => ∃ c, freshLst x = some c ∧ E.nx (ρ.set i (.own c)) M) := fun Z σ H F ρ M E D S h le =>
  he Z σ H F ρ M _ _ S h fun p H' F' c ρ' M' S' hl _ ⟨c', e, q⟩ => by
    have e2 : c' = c := by cases c <;> exact (Option.some.inj e).symm
    subst e2
    exact le.nx _ _ _ _ _ (S'.take hl i) q
theorem sr_asgT {te : TE} {we : WE} {g : TG} {tg : T} {K : PySem.W.Frag} (he : ER N te we) (hg : GR N K g tg) : SR N (tAsg te g) (fun ρ M E => we ρ M fun x ρ M => bindP tg x ρ fun ρ => E.nx ρ M) := fun Z σ H F ρ M E D S h le =>
  he Z σ H F ρ M _ _ S h fun v H' F' d ρ' M' S' _ r q => hg Z σ H' F' ρ' M' d v _ _ S' r q fun σ2 ρ2 S2 _ q2 => le.nx _ _ _ _ _ S2 q2
/-! ### stores into containers -/
theorem set_dict (hu : X.A.units + 1 < cLine) : PSet X (fun o i v H Q => ∃ a H', o = .ref a ∧ DPut H a i v H' ∧ Q H') := by
  intro pins s σ H o i v ov iv u Q I r1 r2 r3 h
  obtain ⟨a, H', rfl, g, q⟩ := h
  cases r1
  exact d_setItem hu I g r2 r3 fun s' I' => ⟨H', I', q⟩
def rSetA : TSet := fun o i v H Q => rSetL o i v H Q ∨ ∃ a H', o = .ref a ∧ DPut H a i v H' ∧ Q H'
theorem set_any (hu : X.A.units + 1 < cLine) : PSet X rSetA := fun pins s σ H o i v ov iv u Q I r1 r2 r3 h => by
  rcases h with h | h
  · exact set_list pins s σ H o i v ov iv u Q I r1 r2 r3 h
  · exact set_dict hu pins s σ H o i v ov iv u Q I r1 r2 r3 h
theorem dput_len : ∀ {ks : List Key} {ds : List D} (j : Key) (x : D), ks.length = ds.length → (dput ks ds j x).1.length = (dput ks ds j x).2.length
  | [], [], j, x, _ => rfl
  | [], _ :: _, j, x, h => by cases h
  | _ :: _, [], j, x, h => by cases h
  | k :: ks, d :: ds, j, x, h => by
    unfold dput
    by_cases z : k = j
    · rw [if_pos z]; exact h
    · rw [if_neg z]
      simp only [List.length_cons]
      rw [dput_len j x (by simpa using h)]
theorem dput_mem : ∀ {ks : List Key} {ds : List D} {j : Key} {x : D} {k : Key}, k ∈ (dput ks ds j x).1 → k ∈ ks ∨ k = j
  | [], ds, j, x, k, h => by unfold dput at h; simp at h; exact .inr h
  | a :: ks, [], j, x, k, h => by unfold dput at h; simp at h; exact .inr h
  | a :: ks, d :: ds, j, x, k, h => by
    unfold dput at h
    by_cases z : a = j
    · rw [if_pos z] at h; exact .inl h
    · rw [if_neg z] at h
      rcases List.mem_cons.mp h with e | e
      · exact .inl (by rw [e]; exact List.mem_cons_self)
      · rcases dput_mem e with e | e
        · exact .inl (List.mem_cons_of_mem _ e)
        · exact .inr e
theorem dput_nodup : ∀ {ks : List Key} {ds : List D} {j : Key} {x : D}, ks.Nodup → (dput ks ds j x).1.Nodup
  | [], ds, j, x, _ => by unfold dput; simp
  | a :: ks, [], j, x, _ => by unfold dput; simp
  | a :: ks, d :: ds, j, x, h => by
    obtain ⟨h1, h2⟩ := List.nodup_cons.mp h
    unfold dput
    by_cases z : a = j
    · rw [if_pos z]; exact h
    · rw [if_neg z]
      refine List.nodup_cons.mpr ⟨fun m => ?_, dput_nodup h2⟩
      rcases dput_mem m with e | e
      · exact h1 e
      · exact z e
theorem notIn_val : ∀ {ks : List Key} {vs : List V} {j : Key}, j ∉ ks → valV (ks.zip vs) j = none
  | [], _, _, _ => rfl
  | k :: ks, [], _, _ => rfl
  | k :: ks, v :: vs, j, h => by
    simp only [List.mem_cons, not_or] at h
    rw [List.zip_cons_cons, valV_neg (fun e => h.1 e.symm)]
    exact notIn_val h.2
theorem putK_cons_eq {k : Key} {v y : V} {r : List (Key × V)} (h : ∀ p ∈ r, p.1 ≠ k) : putK ((k, v) :: r) k y = (k, y) :: r := by
  unfold putK
  have e1 : ((k, v) :: r).any (fun kv => decide (kv.1 = k)) = true := by simp
  have e2 : r.map (fun kv => if kv.1 = k then (kv.1, y) else kv) = r := by
    conv => rhs; rw [← List.map_id r]
    exact List.map_congr_left fun p hp => by rw [if_neg (h p hp)]; rfl
  simp only [e1, if_true, List.map_cons, e2]
theorem putK_cons_ne {k j : Key} {v y : V} {r : List (Key × V)} (h : k ≠ j) : putK ((k, v) :: r) j y = (k, v) :: putK r j y := by
  unfold putK
  have e1 : ((k, v) :: r).any (fun kv => decide (kv.1 = j)) = r.any (fun kv => decide (kv.1 = j)) := by simp [h]
  rw [e1]
  by_cases z : r.any (fun kv => decide (kv.1 = j)) = true
  · simp [z, h]
  · simp [z]
theorem dput_v {F : Hp} {j : Key} {x : D} {u : V} (rx : Rep N F x u) : ∀ {ks : List Key} {ds : List D} {vs : List V}, ks.Nodup → ks.length = vs.length → Reps N F ds vs → ∃ us, putK (ks.zip vs) j u = (dput ks ds j x).1.zip us ∧ (dput ks ds j x).1.length = us.length ∧ Reps N F (dput ks ds j x).2 us
  | [], ds, vs, _, h, r => by
    have e : vs = [] := List.eq_nil_of_length_eq_zero (by rw [← h]; rfl)
    subst e
    have e : ds = [] := List.eq_nil_of_length_eq_zero (by rw [← r.length]; rfl)
    subst e
    exact ⟨[u], rfl, rfl, .one rx⟩
  | k :: ks, ds, [], _, h, r => by cases h
  | k :: ks, [], v :: vs, _, h, r => by rw [reps_nil] at r; cases r
  | k :: ks, d :: ds, v :: vs, nd, h, r => by
    obtain ⟨v', t, e, q, w⟩ := reps_cons.mp r
    cases e
    obtain ⟨n1, n2⟩ := List.nodup_cons.mp nd
    unfold dput
    by_cases z : k = j
    · subst z
      rw [if_pos rfl]
      refine ⟨u :: vs, ?_, by simpa using h, reps_cons.mpr ⟨u, vs, rfl, rx, w⟩⟩
      rw [List.zip_cons_cons, List.zip_cons_cons]
      exact putK_cons_eq fun p hp e => n1 (e ▸ (List.of_mem_zip hp).1)
    · rw [if_neg z]
      obtain ⟨us, h1, h2, h3⟩ := dput_v rx (ks := ks) (ds := ds) (vs := vs) n2 (by simpa using h) w
      refine ⟨v :: us, ?_, by simpa using h2, reps_cons.mpr ⟨v, us, rfl, q, h3⟩⟩
      rw [List.zip_cons_cons, putK_cons_ne z, h1]
      rfl
theorem setIx_ok {F H : Hp} {p : Addr} {c : CO} {iv xv : V} {i x : D} {P : CO → Prop} {KK : Hp → Prop} (hc : CoOk N F H p c) (ri : VRep N F H i iv) (rx : Rep N F x xv) (h : setIxP c i x P)
    (hk : ∀ c' ho, CoOk N F (upd H p ho) p c' → P c' → KK (upd H p ho)) : rSetA (.ref p) iv xv H KK := by
  cases c with
  | L ds =>
    cases i with
    | int k =>
      obtain ⟨vs, e, z, r⟩ := hc
      obtain ⟨j, h1, h2⟩ := h
      refine .inl ⟨p, vs, k, j, rfl, v_int ri, e, by rw [r.length]; exact h1, hk (.L (ds.set j x)) _ ⟨_, upd_same, by rw [List.length_set]; exact z, r.set j rx⟩ h2⟩
    | _ => exact (show False from h).elim
  | K ks ds =>
    have h : ∃ j, keyOf i = some j ∧ ds.length < sizeLine ∧ P (.K (dput ks ds j x).1 (dput ks ds j x).2) := by cases i <;> exact h
    obtain ⟨j, h1, h2, h3⟩ := h
    obtain ⟨vs, e, z1, z2, nd, r⟩ := hc
    have ez : (ks.zip vs).length = vs.length := by rw [List.length_zip, z1, Nat.min_self]
    obtain ⟨us, k1, k2, k3⟩ := dput_v (j := j) rx nd z1 r
    have hlen : us.length ≤ sizeLine := by
      have := length_putK (ks.zip vs) j xv
      rw [k1, List.length_zip, k2, Nat.min_self, ez, r.length] at this
      omega
    refine .inr ⟨p, _, rfl, ?_, hk (.K (dput ks ds j x).1 (dput ks ds j x).2) (.dK ((dput ks ds j x).1.zip us)) ⟨us, upd_same, k2, hlen, dput_nodup nd, k3⟩ h3⟩
    rw [key_v h1 (key_view h1 ri), ← k1]
    exact DPut.k e (by rw [ez, r.length]; exact h2)
theorem sr_setIxO {te ti : TE} {we wi : WE} {i : Nat} (he : ER N te we) (hi : ER N ti wi) : SR N (tAsg te (gSub (tVar i) ti rSetA)) (fun ρ M E => we ρ M fun x ρ M => (∃ c, ρ[i]? = some (.own c)) ∧ wi ρ M fun y ρ M => ∃ c, ρ[i]? = some (.own c) ∧ setIxP c (view M y) x fun c' => E.nx (ρ.set i (.own c')) M) := fun Z σ H F ρ M E D S h le =>
  he Z σ H F ρ M _ _ S h fun v H1 F1 d ρ1 M1 S1 _ r1 ⟨⟨c0, e0⟩, h1⟩ => by
    obtain ⟨p, hp, _, _⟩ := S1.ownAt e0
    refine ⟨_, hp, ?_⟩
    refine hi Z σ H1 F1 ρ1 M1 _ _ S1 h1 fun u H2 F2 y ρ2 M2 S2 l2 r2 ⟨c, e, q⟩ => ?_
    obtain ⟨p', hp', x, _⟩ := S2.ownAt e
    rw [hp] at hp'; cases hp'
    exact setIx_ok x (r2.view S2) (r1.mono l2) q fun c' ho x' q' => le.nx _ _ _ _ _ (S2.putO e hp x') q'
theorem sr_setIx {te tp ti : TE} {we wp wi : WE} (he : ER N te we) (hp : ER N tp wp) (hi : ER N ti wi) : SR N (tAsg te (gSub tp ti rSetA)) (fun ρ M E => we ρ M fun x ρ M => wp ρ M fun q ρ M => wi ρ M fun y ρ M => ∃ a c, q = .loc a ∧ M a = some (.co c) ∧ setIxP c (view M y) x fun c' => E.nx ρ (updM M a (.co c'))) := fun Z σ H F ρ M E D S h le =>
  he Z σ H F ρ M _ _ S h fun v H1 F1 d ρ1 M1 S1 _ r1 h1 => hp Z σ H1 F1 ρ1 M1 _ _ S1 h1 fun w H2 F2 q ρ2 M2 S2 l2 r2 h2 => hi Z σ H2 F2 ρ2 M2 _ _ S2 h2 fun u H3 F3 y ρ3 M3 S3 l3 r3 ⟨a, c, e1, e2, h3⟩ => by
    subst e1
    rw [rep_loc.mp r2]
    exact setIx_ok (S3.mem a _ e2) (r3.view S3) (r1.mono (l2.trans l3)) h3 fun c' ho x' q' => le.nx _ _ _ _ _ (S3.putM (mo' := .co c') e2 x') q'
end
end DL

set_option Elab.async false
set_option linter.all false
set_option maxRecDepth 100000
namespace DL
open PySem L2 PySem.W

section
variable {X : Cx} {N : Nam} {B : Tab} {pos : Pos}
/-! ### stores into objects -/
theorem putF_zip : ∀ {xs : List Str} {vs : List V} {k : Nat} {x : Str} {v : V}, xs.Nodup → xs[k]? = some x → k < vs.length → putF x v ((xs.take vs.length).zip vs) = (xs.take vs.length).zip (vs.set k v)
  | [], _, _, _, _, _, e, _ => by simp at e
  | _ :: _, [], _, _, _, _, _, h => by simp at h
  | y :: xs, u :: vs, 0, x, v, nd, h1, _ => by
    simp at h1; subst h1
    show putF y v ((y, u) :: _) = (y, v) :: _
    unfold putF
    rw [if_pos rfl]
  | y :: xs, u :: vs, k + 1, x, v, nd, h1, h2 => by
    have h1 : xs[k]? = some x := by simpa using h1
    have hne : ¬ y = x := by
      rintro rfl
      exact (List.nodup_cons.mp nd).1 (List.mem_of_getElem? h1)
    show putF x v ((y, u) :: (xs.take vs.length).zip vs) = (y, u) :: (xs.take vs.length).zip (vs.set k v)
    unfold putF
    rw [if_neg hne, putF_zip (List.nodup_cons.mp nd).2 h1 (by simpa using h2)]
theorem putF_new : ∀ {xs : List Str} {vs : List V} {x : Str} {v : V}, xs.Nodup → xs[vs.length]? = some x → putF x v ((xs.take vs.length).zip vs) = (xs.take (vs ++ [v]).length).zip (vs ++ [v])
  | [], _, _, _, _, e => by simp at e
  | y :: xs, [], x, v, nd, h1 => by
    simp at h1; subst h1
    rfl
  | y :: xs, u :: vs, x, v, nd, h1 => by
    have h1 : xs[vs.length]? = some x := by simpa using h1
    have hne : ¬ y = x := by
      rintro rfl
      exact (List.nodup_cons.mp nd).1 (List.mem_of_getElem? h1)
    show putF x v ((y, u) :: (xs.take vs.length).zip vs) = (y, u) :: (xs.take (vs ++ [v]).length).zip (vs ++ [v])
    unfold putF
    rw [if_neg hne, putF_new (List.nodup_cons.mp nd).2 h1]
theorem putAt_ok {Z : Ety} {F H : Hp} {ρ : Env} {M : Mem} {σ : St} (hn : NmOk B N) (hc : ClsOk X.K B N) (S : Sim N Z F ρ M σ H) {a : Addr} {f : Nat} {x : D} {v : V} {P : Mem → Prop} {KK : Hp → Prop} (r : Rep N F x v) (h : putAt B.cfs M a f x P) (hk : ∀ H' M', Sim N Z F ρ M' σ H' → P M' → KK H') :
    ∃ c dx fs, (∃ fs0, M a = some (.obj c fs0)) ∧ H a = some (.ins (N.cad c) dx fs) ∧ Cls X.K (N.cad c) ∧ NoAttr X.K (N.cad c) (Str.ofString (B.attr f)) ∧ fs.length < 1000 ∧ KK (upd H a (.ins (N.cad c) dx (putF (Str.ofString (B.attr f)) v fs))) := by
  have h : (match M a with | some (.obj c fs) => ∃ k, posOf (B.cfs c) f = some k ∧ ((k < fs.length ∧ P (updM M a (.obj c (fs.set k x)))) ∨ (k = fs.length ∧ P (updM M a (.obj c (fs ++ [x]))))) | _ => False) := h
  cases e : M a with
  | none => rw [e] at h; exact h.elim
  | some mo =>
    rw [e] at h
    cases mo with
    | co c => exact h.elim
    | obj c fs =>
      obtain ⟨k, h1, h2⟩ := h
      obtain ⟨dx, vs, h3, h4, h5⟩ := S.mem a _ e
      have hm : f ∈ B.cfs c := List.mem_of_getElem? (posOf_get h1)
      have hx := hn.at h1
      have hkl : k < (N.nms c).length := (List.getElem?_eq_some_iff.mp hx).1
      have hl := h5.length
      have hsmall : ((N.nms c).take vs.length |>.zip vs).length < 1000 := by
        rw [List.length_zip, List.length_take]
        have := hn.few c
        rw [← hn.len c] at this
        omega
      refine ⟨c, dx, _, ⟨fs, rfl⟩, h3, (hc c f hm).1, (hc c f hm).2, hsmall, ?_⟩
      rcases h2 with ⟨h6, h7⟩ | ⟨h6, h7⟩
      · refine hk _ _ (S.putM (mo' := .obj c (fs.set k x)) e ⟨dx, vs.set k v, ?_, by rw [List.length_set]; exact h4, h5.set k r⟩) h7
        rw [upd_same, putF_zip (hn.ndN c) hx (by omega), List.length_set]
      · have e2 : vs.length = k := by omega
        refine hk _ _ (S.putM (mo' := .obj c (fs ++ [x])) e ⟨dx, vs ++ [v], ?_, by rw [List.length_append, List.length_singleton]; omega, h5.append (.one r)⟩) h7
        rw [upd_same, putF_new (hn.ndN c) (by rw [e2]; exact hx)]
theorem sr_setAt {te to : TE} {we wo : WE} {f : Nat} (hn : NmOk B N) (hc : ClsOk X.K B N) (he : ER N te we) (ho : ER N to wo) : SR N (sFld X.K to te (Str.ofString (B.attr f))) (fun ρ M E => we ρ M fun x ρ M => wo ρ M fun q ρ M => ∃ a, q = .loc a ∧ putAt B.cfs M a f x fun M => E.nx ρ M) := fun Z σ H F ρ M E D S h le =>
  he Z σ H F ρ M _ _ S h fun v H1 F1 d ρ1 M1 S1 _ r1 h1 => ho Z σ H1 F1 ρ1 M1 _ _ S1 h1 fun u H2 F2 q ρ2 M2 S2 l2 r2 ⟨a, e, h2⟩ => by
    subst e
    obtain ⟨c, dx, fs, _, k1, k2, k3, k4, k5⟩ := putAt_ok (X := X) hn hc S2 (r1.mono l2) h2 (KK := fun H => D.nx σ H) fun H' M' S' q' => le.nx _ _ _ _ _ S' q'
    exact ⟨a, _, dx, fs, rep_loc.mp r2, k1, k2, k3, k4, k5⟩
/-- the slot behind all others becomes an object of the memory -/
theorem Sim.toM {Z : Ety} {F H : Hp} {ρ : Env} {M : Mem} {σ : St} {c : CO} {p : Addr} (S : Sim N Z F (ρ ++ [LV.own c]) M (σ ++ [some (.ref p)]) H) (hl : ρ.length = σ.length) : M p = none ∧ Sim N Z F ρ (updM M p (.co c)) σ H := by
  obtain ⟨ow, o1, o2⟩ := S.own
  obtain ⟨p', h1, h2, h3⟩ := o2 ρ.length (.own c) (by simp)
  have ep : p' = p := by rw [hl] at h1; simp at h1; exact h1.symm
  subst ep
  obtain ⟨k1, k2, k3, k4⟩ := o1 p' _ h2
  refine ⟨k2, S.sub, S.le0, fun b m q => ?_, fun b m q => ?_, fun b m q z => ?_, S.fnew, S.keep, S.there, ⟨fun b => if b = p' then none else ow b, fun b j q => ?_, fun j lv e => ?_⟩, hl⟩
  · unfold updM at q
    by_cases z : b = p'
    · subst z; exact k1
    · rw [if_neg z] at q; exact S.mf b m q
  · unfold updM at q
    by_cases z : b = p'
    · subst z; rw [if_pos rfl] at q; cases q; exact h3
    · rw [if_neg z] at q; exact S.mem b m q
  · unfold updM at q
    by_cases y : b = p'
    · subst y; exact k3
    · rw [if_neg y] at q; exact S.mnew b m q z
  · have q : (if b = p' then none else ow b) = some j := q
    by_cases z : b = p'
    · rw [if_pos z] at q; cases q
    · rw [if_neg z] at q
      obtain ⟨g1, g2, g3, g4⟩ := o1 b j q
      exact ⟨g1, by unfold updM; rw [if_neg z]; exact g2, g3, g4⟩
  · have hj : j < ρ.length := (List.getElem?_eq_some_iff.mp e).1
    have y := o2 j lv (by rw [List.getElem?_append_left hj]; exact e)
    rw [List.getElem?_append_left (by omega)] at y
    cases lv with
    | no => trivial
    | val d => exact y
    | own c' =>
      obtain ⟨q, g1, g2, g3⟩ := y
      refine ⟨q, g1, ?_, g3⟩
      show (if q = p' then none else ow q) = some j
      rw [if_neg (fun r => by subst r; rw [h2] at g2; cases g2; omega)]
      exact g2
theorem sr_setAtO {te to : TE} {we wo : WE} {f : Nat} (hn : NmOk B N) (hc : ClsOk X.K B N) (he : OR' N te we) (ho : ER N to wo) : SR N (sFld X.K to te (Str.ofString (B.attr f))) (fun ρ M E => we ρ M fun x ρ M => ∃ c, freshLst x = some c ∧ ∀ p, M p = none → wo ρ (updM M p (.co c)) fun q ρ M => ∃ a, q = .loc a ∧ putAt B.cfs M a f (.loc p) fun M => E.nx ρ M) := fun Z σ H F ρ M E D S h le =>
  he Z σ H F ρ M _ _ S h fun p H1 F1 c ρ1 M1 S1 hl _ ⟨c', e, h1⟩ => by
    have e2 : c' = c := by cases c <;> exact (Option.some.inj e).symm
    subst e2
    obtain ⟨g1, S2⟩ := S1.toM hl
    refine ho Z σ H1 F1 ρ1 _ _ _ S2 (h1 p g1) fun u H3 F3 q ρ3 M3 S3 l3 r3 ⟨a, e, h3⟩ => ?_
    subst e
    obtain ⟨c, dx, fs, _, k1, k2, k3, k4, k5⟩ := putAt_ok (X := X) hn hc S3 (v := .ref p) (rep_loc.mpr rfl) h3 (KK := fun H => D.nx σ H) fun H' M' S' q' => le.nx _ _ _ _ _ S' q'
    exact ⟨a, _, dx, fs, rep_loc.mp r3, k1, k2, k3, k4, k5⟩
/-! ### op= -/
def iopOk (o : BOp) : Bool := match o with | .add => true | .sub => true | .mul => true | _ => false
def rIop (o : BOp) : R2 := match o with
  | .add => rI0 fun i j => .int (i + j)
  | .sub => rI0 fun i j => .int (i - j)
  | .mul => rI CMul fun i j => .int (i * j)
  | _ => fun _ _ _ _ => False
theorem iop_ok (o : BOp) (h : iopOk o = true) : OpR X (inplaceOp (opE o)) (rIop o) := by
  cases o <;> first | exact iop_add | exact iop_sub | exact iop_mul | cases h
theorem iop_run {o : BOp} {F H : Hp} {x y : V} {a b : D} {Q : D → Prop} {KK : VK} (h : iopOk o = true) (ra : Rep N F a x) (rb : Rep N F b y) (q : binI o a b Q) (hk : ∀ v d, Rep N F d v → Q d → KK v H) : rIop o x y H KK := by
  obtain ⟨⟨i, j, rfl, rfl⟩, q⟩ := q
  cases o with
  | add => exact ⟨i, j, rep_int.mp ra, rep_int.mp rb, hk _ _ (int_rep _) q⟩
  | sub => exact ⟨i, j, rep_int.mp ra, rep_int.mp rb, hk _ _ (int_rep _) q⟩
  | mul => exact ⟨i, j, rep_int.mp ra, rep_int.mp rb, q.1, hk _ _ (int_rep _) q.2⟩
  | _ => cases h
theorem sr_aug {o : BOp} {i : Nat} {te : TE} {we : WE} (h : iopOk o = true) (he : ER N te we) : SR N (tAug i te (rIop o)) (fun ρ M E => ∃ x, ρ[i]? = some (.val x) ∧ we ρ M fun y ρ M => binI o x y fun z => E.nx (ρ.set i (.val z)) M) := fun Z σ H F ρ M E D S ⟨x, e, hw⟩ le => by
  obtain ⟨v, h1, h2⟩ := S.val e
  refine ⟨v, h1, ?_⟩
  refine he Z σ H F ρ M _ _ S hw fun u H1 F1 d ρ1 M1 S1 l r q => ?_
  exact iop_run h (h2.mono l) r q fun w z rw' q' => le.nx _ _ _ _ _ (S1.set i rw') q'
theorem sr_augAt {o : BOp} {f : Nat} {te ta : TE} {we wa : WE} (h : iopOk o = true) (hn : NmOk B N) (hc : ClsOk X.K B N) (ha : ER N ta wa) (he : ER N te we) : SR N (sFldAug X.K ta te (rIop o) (Str.ofString (B.attr f))) (fun ρ M E => wa ρ M fun q ρ M => ∃ l c, q = .loc l ∧ (∃ fs, M l = some (.obj c fs)) ∧ attrP B.cfs M q f fun x => we ρ M fun y ρ M => (∃ fs, M l = some (.obj c fs)) ∧ binI o x y fun z => putAt B.cfs M l f z fun M => E.nx ρ M) := fun Z σ H F ρ M E D S hw le =>
  ha Z σ H F ρ M _ _ S hw fun v H1 F1 d ρ1 M1 S1 l1 r1 ⟨a, c0, e, ⟨g0, eg⟩, q1⟩ => by
    subst e
    obtain ⟨c, fs, k, x, h1, h2, h3, h4⟩ := attrP_inv q1
    obtain ⟨a', dx, vs, e, h5, h6, h7⟩ := S1.objAt hn r1 h1
    rw [rep_loc.mp r1] at e
    cases e
    have ec : c = c0 := by
      rcases h1 with z | ⟨a2, z1, z2⟩
      · cases z
      · cases z1; rw [eg] at z2; cases z2; rfl
    subst ec
    obtain ⟨u, h8, h9⟩ := h7.get h3
    have hm : f ∈ B.cfs c := List.mem_of_getElem? (posOf_get h2)
    refine ⟨a, _, dx, _, u, rep_loc.mp r1, h5, (hc c f hm).1, (hc c f hm).2, look_fs hn h2 h8, ?_⟩
    refine he Z σ H1 F1 ρ1 M1 _ _ S1 h4 fun y H2 F2 d2 ρ2 M2 S2 l2 r2 ⟨⟨g2, eg2⟩, q2⟩ => ?_
    refine iop_run h (h9.mono l2) r2 q2 fun w z rz q3 => ?_
    obtain ⟨c2, dx', fs', ⟨g3, eg3⟩, k1, k2, k3, k4, k5⟩ := putAt_ok (X := X) hn hc S2 rz q3 (KK := fun H => D.nx σ H) fun H' M' S' q' => le.nx _ _ _ _ _ S' q'
    rw [eg2] at eg3
    cases eg3
    exact ⟨dx', fs', k1, k4, k5⟩
theorem sr_cond {tc : TT} {wc : WE} {t u : TS} {a b : WS} (hc : TR N tc wc) (ha : SR N t a) (hb : SR N u b) : SR N (tIfS tc t u) (fun ρ M E => wc ρ M fun x ρ M => ∃ k, x = .bl k ∧ iteN (Bool.toNat k) (a ρ M E) (b ρ M E)) := fun Z σ H F ρ M E D S h le =>
  hc Z σ H F ρ M (fun k ρ M => iteN (Bool.toNat k) (a ρ M E) (b ρ M E)) _ S h fun k H' F' ρ' M' S' _ q => by
    cases k with
    | true => exact ha Z σ H' F' ρ' M' E D S' q le
    | false => exact hb Z σ H' F' ρ' M' E D S' q le
theorem Sim.rebase {Z : Ety} {F H : Hp} {ρ : Env} {M : Mem} {σ : St} (S : Sim N Z F ρ M σ H) : Sim N ⟨Z.H_0, Z.M_0, F⟩ F ρ M σ H :=
  ⟨S.sub, Le.refl _, S.mf, S.mem, S.mnew, fun a o e h => (by have h : F a = none := h; rw [h] at e; cases e), S.keep, S.there, S.own, S.len⟩
theorem Sim.unbase {Z : Ety} {F F' H H' : Hp} {ρ ρ' : Env} {M M' : Mem} {σ σ' : St} (S : Sim N Z F ρ M σ H) (S' : Sim N ⟨Z.H_0, Z.M_0, F⟩ F' ρ' M' σ' H') : Sim N Z F' ρ' M' σ' H' := by
  refine ⟨S'.sub, S.le0.trans S'.le0, S'.mf, S'.mem, S'.mnew, fun a o e h1 h2 => ?_, S'.keep, S'.there, S'.own, S'.len⟩
  cases q : F a with
  | some u => exact S.fnew a u q h1 h2
  | none => exact S'.fnew a o e q h2
theorem sr_for {wi : TI} {wI : WA} {g : TG} {tg : T} {tb : TS} {b : WS} {K : PySem.W.Frag} (hi : IR N wi wI) (hg : GR N K g tg) (hb : SR N tb b) : SR N (tFor wi g tb) (fun ρ M E => wI ρ M fun ds ρ M => forL (fun d ρ M E => bindP tg d ρ fun ρ => b ρ M E) ds ρ M E) := fun Z σ H F ρ M E D S h le =>
  hi Z σ H F ρ M _ _ S h fun J H1 F1 ds ρ1 M1 S1 _ ⟨hz, G, Y, w, hG, hY⟩ q1 => by
    refine for_it w (fun i σ' H' => ∃ F' ρ' M', Sim N Z F' ρ' M' σ' H' ∧ Le F1 F' ∧ forL (fun d ρ M E => bindP tg d ρ fun ρ => b ρ M E) (ds.drop i) ρ' M' E) ⟨F1, ρ1, M1, S1, Le.refl _, q1⟩ ?_ ?_ ?_
    · rintro i σ' H' _ ⟨F', ρ', M', S', l', _⟩
      exact hG Z F' H' ρ' M' σ' S' l'
    · rintro i x σ2 H2 H3 hlt ⟨F2, ρ2, M2, S2, l2, q2⟩ y
      obtain ⟨F3, d, hd, S3, l3, r3⟩ := hY Z F2 H2 ρ2 M2 σ2 i x H3 S2 l2 hlt y
      have ed : ds.drop i = d :: ds.drop (i + 1) := by
        obtain ⟨h1, h2⟩ := List.getElem?_eq_some_iff.mp hd
        rw [List.drop_eq_getElem_cons h1, h2]
      rw [ed, forL_consE] at q2
      have q2 : bindP tg d ρ2 (fun ρ => b ρ M2 _) := q2
      refine hg Z σ2 H3 F3 ρ2 M2 d x _ _ S3 r3 q2 fun σ5 ρ5 S5 _ q5 => ?_
      refine hb _ σ5 H3 F3 ρ5 M2 _ _ S5.rebase q5 ⟨fun σ6 H6 F6 ρ6 M6 S6 q6 => ?_, fun σ6 H6 F6 ρ6 M6 S6 q6 => ?_, fun σ6 H6 F6 ρ6 M6 S6 q6 => ?_, fun σ6 H6 F6 ρ6 M6 d6 v6 S6 r6 q6 => ?_⟩
      · exact ⟨F6, ρ6, M6, S5.unbase S6, (l2.trans l3).trans S6.le0, q6⟩
      · exact le.nx _ _ _ _ _ (S5.unbase S6) q6
      · exact ⟨F6, ρ6, M6, S5.unbase S6, (l2.trans l3).trans S6.le0, q6⟩
      · exact le.rt _ _ _ _ _ _ _ (S5.unbase S6) r6 q6
    · rintro σ' H' ⟨F', ρ', M', S', _, q'⟩
      rw [List.drop_length, forL_nilE] at q'
      exact le.nx _ _ _ _ _ S' q'
theorem sr_while {tc : TT} {wc : WE} {tb : TS} {b : WS} (hc : TR N tc wc) (hb : SR N tb b) : SR N (tWhile tc tb) (fun ρ M E => ∃ n, whileN wc b n ρ M E) := fun Z σ H F ρ M E D S ⟨n, h⟩ le => by
  refine ⟨fun m σ H => ∃ F ρ M, Sim N Z F ρ M σ H ∧ whileN wc b m ρ M E, ⟨n, F, ρ, M, S, h⟩, ?_⟩
  rintro m σ H ⟨F, ρ, M, S, h⟩
  cases m with
  | zero => rw [whileN_zeroE] at h; exact h.elim
  | succ m =>
    rw [whileN_succE] at h
    refine hc Z σ H F ρ M (fun k ρ M => iteN (Bool.toNat k) (b ρ M _) (E.nx ρ M)) _ S h fun k H' F' ρ' M' S' _ q => ?_
    cases k with
    | false => exact le.nx _ _ _ _ _ S' q
    | true =>
      refine ⟨fun σ H => ∃ F ρ M, Sim N Z F ρ M σ H ∧ whileN wc b m ρ M E, fun σ' H' z => ⟨m, Nat.lt_succ_self m, z⟩, ?_⟩
      exact hb Z σ H' F' ρ' M' _ _ S' q ⟨fun σ6 H6 F6 ρ6 M6 S6 q6 => ⟨F6, ρ6, M6, S6, q6⟩, fun σ6 H6 F6 ρ6 M6 S6 q6 => le.nx _ _ _ _ _ S6 q6, fun σ6 H6 F6 ρ6 M6 S6 q6 => ⟨F6, ρ6, M6, S6, q6⟩, le.rt⟩
theorem sr_ret {te : TE} {we : WE} (he : ER N te we) : SR N (tRet te) (fun ρ M E => we ρ M fun x _ M => E.rt x M) := fun Z σ H F ρ M E D S h le =>
  he Z σ H F ρ M _ _ S h fun v H' F' d ρ' M' S' _ r q => le.rt _ _ _ _ _ _ _ S' r q
theorem sr_retN : SR N tRetN (fun _ M E => E.rt .non M) := fun Z σ H F ρ M E D S h le => le.rt _ _ _ _ _ _ _ S (rep_non.mpr rfl) h
theorem sr_expr {te : TE} {we : WE} (he : ER N te we) : SR N (tDrop te) (fun ρ M E => we ρ M fun _ ρ M => E.nx ρ M) := fun Z σ H F ρ M E D S h le =>
  he Z σ H F ρ M _ _ S h fun v H' F' d ρ' M' S' _ r q => le.nx _ _ _ _ _ S' q
theorem sr_brk : SR N tBreak (fun ρ M E => E.bk ρ M) := fun Z σ H F ρ M E D S h le => le.bk σ H F ρ M S h
theorem sr_cnt : SR N tCont (fun ρ M E => E.ct ρ M) := fun Z σ H F ρ M E D S h le => le.ct σ H F ρ M S h
theorem sr_never : SR N tNever (fun _ _ _ => False) := fun Z σ H F ρ M E D S h le => h.elim
end
end DL

set_option Elab.async false
set_option linter.all false
set_option maxRecDepth 100000
namespace DL
open PySem L2 PySem.W

/-- what stays in the whole program -/
structure Bz where
  P : Program
  w : World
  K : PySem.W.Frag
  mg : Str → Option Value
  base : Heap
  B : Tab
  N : Nam
structure Bz.Good (b : Bz) : Prop where
  nm : NmOk b.B b.N
  cl : ClsOk b.K b.B b.N
  em : ∀ i a, b.N.emp i = some a → ∀ H, SqT b.K H a []
  kl : ∀ a ns, b.N.kl a ns → ∀ H, SqL b.K H a (ns.map V.int)
/-- a block: its slots' names, its scope, which cells are its own -/
structure Kt where
  ns : List Str
  sc : Scope
  fn : Str → Bool
structure Cok (b : Bz) (A : Around) (κ : Kt) (X : Cx) : Prop where
  g : b.Good
  p : X.prog = b.P
  w : X.w = b.w
  k : X.K = b.K
  m : X.mg = b.mg
  b : X.base = b.base
  a : X.A = A
  c : X.calm = true
  n : X.N = κ.ns
  s : X.env.scope = κ.sc
  f : X.fn = κ.fn
  nd : X.N.Nodup
  xe : X.xe = fun _ _ => False
  hu : X.A.units + 64 < cLine
  st : (∀ x, κ.fn x = true) → X.stack = X.env :: X.outer ∧ X.env.frame = some X.env.locals
def relS (scope sc : Scope) : Scope := { scope with names := scope.names.map fun (n, k) => if (k == .free && sc.kind == .function && sc.names.lookup n == some .cell) then (n, .cell) else (n, k) }
def Kt.sub (κ : Kt) (scope : Scope) : Kt := ⟨κ.ns, relS scope κ.sc, fun x => scope.names.lookup x == some .cell⟩
theorem look_none {α : Type} {x : Str} : ∀ {l : List (Str × α)}, (∀ p ∈ l, p.1.cps.size < x.cps.size) → l.lookup x = none
  | [], _ => rfl
  | (y, a) :: l, h => by
    have h1 : y.cps.size < x.cps.size := h (y, a) List.mem_cons_self
    have e : (x == y) = false := beq_eq_false_iff_ne.mpr fun z => by rw [z] at h1; exact Nat.lt_irrefl _ h1
    rw [List.lookup_cons, e]
    exact look_none fun p m => h p (List.mem_cons_of_mem _ m)
theorem size_bound {α : Type} : ∀ (l : List (Str × α)), ∃ n, ∀ p ∈ l, p.1.cps.size < n
  | [] => ⟨0, fun p m => by cases m⟩
  | (y, a) :: l => by
    obtain ⟨n, h⟩ := size_bound l
    refine ⟨n + y.cps.size + 1, fun p m => ?_⟩
    rcases List.mem_cons.mp m with rfl | m
    · show y.cps.size < n + y.cps.size + 1; omega
    · have := h p m; omega
theorem not_top {α : Type} (l : List (Str × α)) : ∃ x : Str, l.lookup x = none := by
  obtain ⟨n, h⟩ := size_bound l
  exact ⟨⟨Array.replicate n 0⟩, look_none fun p m => by rw [Array.size_replicate]; exact h p m⟩
theorem Cok.blk {b : Bz} {A : Around} {κ : Kt} {X : Cx} (c : Cok b A κ X) (scope : Scope) (s : Shared) (H : Hp) (C : Addr) (cl : List (Str × Addr)) (fp : List Addr) : Cok b A (κ.sub scope) (X.blk s H scope (compEnvC scope cl C X.env) fp) := by
  refine ⟨c.g, c.p, c.w, c.k, c.m, c.b, c.a, c.c, c.n, ?_, rfl, c.nd, rfl, c.hu, fun h => ?_⟩
  case refine_2 =>
    obtain ⟨x, e⟩ := not_top scope.names
    have z := h x
    have z : (scope.names.lookup x == some .cell) = true := z
    rw [e] at z
    cases z
  show relS scope X.env.scope = _
  rw [c.s]
  rfl
def visB (κ : Kt) (x : Str) : Bool := match κ.sc.names.lookup x with | some .local => true | some .cell => true | some .free => true | _ => false
def locB (κ : Kt) (x : Str) : Bool := match κ.sc.names.lookup x with | some .local => true | some .cell => κ.fn x | _ => false
def lclB (κ : Kt) (x : Str) : Bool := match κ.sc.names.lookup x with | some .local => true | _ => false
def glB (κ : Kt) (x : Str) : Bool := match κ.sc.names.lookup x with | some .globalImplicit => true | _ => false
section
variable {b : Bz} {A : Around} {κ : Kt} {X : Cx}
theorem Cok.vis (c : Cok b A κ X) {x : Str} (h : visB κ x = true) : Vis X.env.scope x := by
  unfold visB at h
  rw [c.s]
  split at h
  · exact .inl (by assumption)
  · exact .inr (.inl (by assumption))
  · exact .inr (.inr (by assumption))
  · cases h
theorem Cok.loc (c : Cok b A κ X) {x : Str} (h : locB κ x = true) : Loc X.env.scope x ∧ (X.fn x = true ∨ X.env.scope.names.lookup x = some .local) := by
  unfold locB at h
  rw [c.s, c.f]
  split at h
  · rename_i e; exact ⟨.inl e, .inr e⟩
  · rename_i e; exact ⟨.inr e, .inl h⟩
  · cases h
theorem Cok.lcl (c : Cok b A κ X) {x : Str} (h : lclB κ x = true) : X.env.scope.names.lookup x = some .local := by
  unfold lclB at h
  rw [c.s]
  split at h
  · assumption
  · cases h
theorem Cok.gl (c : Cok b A κ X) {x : Str} (h : glB κ x = true) : Gl X x := by
  unfold glB at h
  show X.env.scope.names.lookup x = _
  rw [c.s]
  split at h
  · assumption
  · cases h
end
section
variable (b : Bz) (A : Around) (κ : Kt)
def HE (e : Expr) (T : T) : Prop := ∀ X, Cok b A κ X → ∃ t, PE X e t ∧ ER b.N t (wpE b.B T)
def HO (e : Expr) (T : T) : Prop := ∀ X, Cok b A κ X → ∃ t, PE X e t ∧ OR' b.N t (wpE b.B T)
def HT (e : Expr) (T : T) : Prop := ∀ X, Cok b A κ X → ∃ t, PT X e t ∧ TR b.N t (wpE b.B T)
def HW (e : Expr) (T : T) : Prop := ∀ X, Cok b A κ X → ∃ t, PW X e t ∧ TR b.N t (wpE b.B T)
def HA (es : List Expr) (T : T) : Prop := ∀ X, Cok b A κ X → ∃ t, PA X es t ∧ AR b.N t (wpA b.B T)
def HK (es : List Keyword) (T : T) : Prop := ∀ X, Cok b A κ X → ∃ t, PK X es t ∧ AR b.N t (wpA b.B T)
def HP (o : Option Expr) (T : T) : Prop := ∀ X, Cok b A κ X → ∃ t, PO X o t ∧ PR b.N t (wpP b.B T)
def HC (es : List Expr) (T : T) : Prop := ∀ X, Cok b A κ X → ∃ t, PTs X es t ∧ CR' b.N t (wpC b.B T)
def HI (tg e : Expr) (T : T) : Prop := ∀ X, Cok b A κ X → ∃ t, PI X tg e t ∧ IR b.N t (wpI b.B T)
def HG (e : Expr) (T : T) : Prop := ∀ X, Cok b A κ X → ∃ t, PG X e t ∧ GR b.N X.K t T
def HGs (es : List Expr) (T : T) : Prop := ∀ X, Cok b A κ X → ∃ t, PGs X es t ∧ GsR b.N X.K t T
def HS (s : Stmt) (T : T) : Prop := ∀ X, Cok b A κ X → ∃ t, PS X s t ∧ SR b.N t (wpS b.B T)
def HSs (s : List Stmt) (T : T) : Prop := ∀ X, Cok b A κ X → ∃ t, PSs X s t ∧ SR b.N t (wpS b.B T)
end
section
variable {b : Bz} {A : Around} {κ : Kt} {pos pos' p p2 p3 apos : Pos} {e e1 e2 e3 c o : Expr} {es rest : List Expr} {T0 T1 T2 T3 Tr Tg Ti Tc To : DL.T}
/-! ### expressions -/
theorem HO.he (h : HO b A κ e T0) : HE b A κ e T0 := fun X g => let ⟨t, p, r⟩ := h X g; ⟨t, p, r.er⟩
theorem h_var (i : Nat) {x : Str} (h1 : κ.ns[i]? = some x) (h2 : visB κ x = true) (hd : (x == ("__debug__" : Str)) = false) (hcd : (x == ("__classdict__" : Str)) = false) : HE b A κ (.Name x pos) (.var i) := fun X c => ⟨_, pe_var (by rw [c.n]; exact h1) (c.vis h2) hd hcd, er_var⟩
theorem h_int {i : Int} {j} : HE b A κ (.Constant (.int i) j pos) (.int i) := fun X c => ⟨_, pe_int, er_c fun F => int_rep i⟩
theorem h_str {x : Str} {j} : HE b A κ (.Constant (.str x) j pos) (.str x) := fun X c => ⟨_, pe_str, er_c fun F => rep_str.mpr rfl⟩
theorem h_bl {x : Bool} {j} : HE b A κ (.Constant (.bool x) j pos) (.bl x) := fun X c => ⟨_, pe_bl, er_c fun F => bl_rep x⟩
theorem h_non {j} : HE b A κ (.Constant .none j pos) .non := fun X c => ⟨_, pe_non, er_c fun F => rep_non.mpr rfl⟩
/-- a global that holds a value that never changes -/
theorem h_glob (k : Nat) {x : Str} {v : V} {u : Value} (h2 : glB κ x = true) (hm : b.mg x = some u) (r : RelV v u) (hr : ∀ F, Rep b.N F (b.B.glb k).2 v) (hd : (x == ("__debug__" : Str)) = false) : HE b A κ (.Name x pos) (.glob k) := fun X c =>
  ⟨_, pe_glob (c.gl h2) (by rw [c.m]; exact hm) r hd, er_c hr⟩
theorem bin_ok {X : Cx} {N : Nam} (o : BOp) : ∃ r, OpR X (binaryOp (opE o)) r ∧ RB X N r (binP o) := by
  cases o with
  | add => exact ⟨_, op_addA, rb_add⟩
  | sub => exact ⟨_, op_sub, rb_sub⟩
  | mul => exact ⟨_, op_mul, rb_mul⟩
  | fdiv => exact ⟨_, op_fdiv.or op_fdivW, rb_fdiv⟩
  | mod => exact ⟨_, op_mod, rb_mod⟩
  | pow => exact ⟨_, op_pow, rb_pow⟩
theorem h_bin {op : Operator} (q : BOp) (ho : op = opE q) (h1 : HE b A κ e1 T1) (h2 : HE b A κ e2 T2) : HE b A κ (.BinOp e1 op e2 pos) (.bin q T1 T2) := fun X c => by
  obtain ⟨t1, p1, r1⟩ := h1 X c
  obtain ⟨t2, p2, r2⟩ := h2 X c
  obtain ⟨r, k1, k2⟩ := bin_ok (X := X) (N := b.N) q
  subst ho
  exact ⟨_, pe_op k1 p1 p2, er_op2 k2 r1 r2⟩
theorem h_neg (h1 : HE b A κ e1 T1) : HE b A κ (.UnaryOp .USub e1 pos) (.neg T1) := fun X c => by
  obtain ⟨t1, p1, r1⟩ := h1 X c
  refine ⟨_, pe_un un_neg p1, fun Z σ H F ρ M Q K S hw hk => r1 Z σ H F ρ M _ _ S hw fun v H1 F1 d ρ1 M1 S1 l r ⟨i, e, q⟩ => ?_⟩
  subst e
  exact ⟨i, rep_int.mp r, hk _ H1 F1 _ ρ1 M1 S1 l (int_rep _) q⟩
theorem cmp_er {X : Cx} {q : COp} (c : Cok b A κ X) {t1 t2 : TE} (r1 : ER b.N t1 (wpE b.B T1)) (r2 : ER b.N t2 (wpE b.B T2)) : ∃ r, OpR X (compareOp (copE q)) r ∧ ER b.N (tOp r t1 t2) (wpE b.B (.cmp q T1 T2)) := by
  obtain ⟨r, k1, k2⟩ := cmp_ok (X := X) (N := b.N) c.hu q
  exact ⟨r, k1, er_op2 k2 r1 r2⟩
theorem h_cmp {op : CmpOp} (q : COp) (ho : op = copE q) (hm : behindInMarks op e2 = false) (h1 : HE b A κ e1 T1) (h2 : HE b A κ e2 T2) : HE b A κ (.Compare e1 [op] [e2] pos) (.cmp q T1 T2) := fun X c => by
  obtain ⟨t1, p1, r1⟩ := h1 X c
  obtain ⟨t2, p2, r2⟩ := h2 X c
  obtain ⟨r, k1, k2⟩ := cmp_er (q := q) c r1 r2
  subst ho
  exact ⟨_, pe_cmpR k1 p1 p2 hm, k2⟩
theorem t_cmp {op : CmpOp} (q : COp) (ho : op = copE q) (hm : behindInMarks op e2 = false) (h1 : HE b A κ e1 T1) (h2 : HE b A κ e2 T2) : HT b A κ (.Compare e1 [op] [e2] pos) (.cmp q T1 T2) := fun X c => by
  obtain ⟨t1, p1, r1⟩ := h1 X c
  obtain ⟨t2, p2, r2⟩ := h2 X c
  obtain ⟨r, k1, k2⟩ := cmp_er (q := q) c r1 r2
  subst ho
  exact ⟨_, pt_cmpR k1 p1 p2 hm, tr_test k2⟩
theorem chain_er {X : Cx} {q q' : COp} (c : Cok b A κ X) {t1 t2 t3 : TE} (r1 : ER b.N t1 (wpE b.B T1)) (r2 : ER b.N t2 (wpE b.B T2)) (r3 : ER b.N t3 (wpE b.B T3)) : ∃ r r', OpR X (compareOp (copE q)) r ∧ OpR X (compareOp (copE q')) r' ∧ ER b.N (tChain r r' t1 t2 t3) (wpE b.B (.chain q q' T1 T2 T3)) := by
  obtain ⟨r, k1, k2⟩ := cmp_ok (X := X) (N := b.N) c.hu q
  obtain ⟨r', k1', k2'⟩ := cmp_ok (X := X) (N := b.N) c.hu q'
  exact ⟨r, r', k1, k1', er_chain k2 k2' r1 r2 r3⟩
theorem h_chain {op op' : CmpOp} (q q' : COp) (ho : op = copE q) (ho' : op' = copE q') (hm : lastMarks [op, op'] [e2, e3] = false) (h1 : HE b A κ e1 T1) (h2 : HE b A κ e2 T2) (h3 : HE b A κ e3 T3) : HE b A κ (.Compare e1 [op, op'] [e2, e3] pos) (.chain q q' T1 T2 T3) := fun X c => by
  obtain ⟨t1, p1, r1⟩ := h1 X c
  obtain ⟨t2, p2, r2⟩ := h2 X c
  obtain ⟨t3, p3, r3⟩ := h3 X c
  obtain ⟨r, r', k1, k1', k2⟩ := chain_er (q := q) (q' := q') c r1 r2 r3
  subst ho ho'
  exact ⟨_, pe_chain k1 k1' p1 p2 p3 hm, k2⟩
theorem t_chain {op op' : CmpOp} (q q' : COp) (ho : op = copE q) (ho' : op' = copE q') (hm : lastMarks [op, op'] [e2, e3] = false) (h1 : HE b A κ e1 T1) (h2 : HE b A κ e2 T2) (h3 : HE b A κ e3 T3) : HT b A κ (.Compare e1 [op, op'] [e2, e3] pos) (.chain q q' T1 T2 T3) := fun X c => by
  obtain ⟨t1, p1, r1⟩ := h1 X c
  obtain ⟨t2, p2, r2⟩ := h2 X c
  obtain ⟨t3, p3, r3⟩ := h3 X c
  obtain ⟨r, r', k1, k1', k2⟩ := chain_er (q := q) (q' := q') c r1 r2 r3
  subst ho ho'
  exact ⟨_, pt_chain k1 k1' p1 p2 p3 hm, tr_test k2⟩
theorem h_and (h1 : HE b A κ e1 T1) (h2 : HE b A κ (.BoolOp .And (e2 :: rest) pos) T2) : HE b A κ (.BoolOp .And (e1 :: e2 :: rest) pos) (.and T1 T2) := fun X c => by
  obtain ⟨t1, p1, r1⟩ := h1 X c
  obtain ⟨t2, p2, r2⟩ := h2 X c
  exact ⟨_, pe_and p1 p2, er_andV r1 r2⟩
theorem h_or (h1 : HE b A κ e1 T1) (h2 : HE b A κ (.BoolOp .Or (e2 :: rest) pos) T2) : HE b A κ (.BoolOp .Or (e1 :: e2 :: rest) pos) (.or T1 T2) := fun X c => by
  obtain ⟨t1, p1, r1⟩ := h1 X c
  obtain ⟨t2, p2, r2⟩ := h2 X c
  exact ⟨_, pe_or p1 p2, er_orV r1 r2⟩
theorem h_one {op} (h1 : HE b A κ e1 T1) : HE b A κ (.BoolOp op [e1] pos) T1 := fun X c => by
  obtain ⟨t1, p1, r1⟩ := h1 X c
  exact ⟨_, pe_one p1, r1⟩
theorem h_not (h1 : HE b A κ e1 T1) : HE b A κ (.UnaryOp .Not e1 pos) (.not T1) := fun X c => by
  obtain ⟨t1, p1, r1⟩ := h1 X c
  exact ⟨_, pe_not p1, er_notV r1⟩
theorem w_and (h1 : HT b A κ e1 T1) (h2 : HW b A κ (.BoolOp .And (e2 :: rest) pos) T2) : HW b A κ (.BoolOp .And (e1 :: e2 :: rest) pos) (.and T1 T2) := fun X c => by
  obtain ⟨t1, p1, r1⟩ := h1 X c
  obtain ⟨t2, p2, r2⟩ := h2 X c
  exact ⟨_, pw_and p1 p2, tr_and r1 r2⟩
theorem w_or (h1 : HT b A κ e1 T1) (h2 : HW b A κ (.BoolOp .Or (e2 :: rest) pos) T2) : HW b A κ (.BoolOp .Or (e1 :: e2 :: rest) pos) (.or T1 T2) := fun X c => by
  obtain ⟨t1, p1, r1⟩ := h1 X c
  obtain ⟨t2, p2, r2⟩ := h2 X c
  exact ⟨_, pw_or p1 p2, tr_or r1 r2⟩
theorem w_and1 (h1 : HT b A κ e1 T1) : HW b A κ (.BoolOp .And [e1] pos) T1 := fun X c => by
  obtain ⟨t1, p1, r1⟩ := h1 X c
  exact ⟨_, pw_and1 p1, r1⟩
theorem w_or1 (h1 : HT b A κ e1 T1) : HW b A κ (.BoolOp .Or [e1] pos) T1 := fun X c => by
  obtain ⟨t1, p1, r1⟩ := h1 X c
  exact ⟨_, pw_or1 p1, r1⟩
theorem HW.ht (h1 : HW b A κ e1 T1) : HT b A κ e1 T1 := fun X c => by
  obtain ⟨t1, p1, r1⟩ := h1 X c
  exact ⟨_, p1.pt, r1⟩
theorem t_not (h1 : HT b A κ e1 T1) : HT b A κ (.UnaryOp .Not e1 pos) (.not T1) := fun X c => by
  obtain ⟨t1, p1, r1⟩ := h1 X c
  exact ⟨_, pt_not p1, tr_not r1⟩
theorem t_val (he : ∀ (env : PySem.Env) (whole : Sem Value), isTrue e1 env whole = (do let v ← whole; standAt e1.pos; holding [v] (truthy v))) (h1 : HE b A κ e1 T1) : HT b A κ e1 T1 := fun X c => by
  obtain ⟨t1, p1, r1⟩ := h1 X c
  exact ⟨_, pt_val p1 (he X.env), tr_B r1⟩
theorem h_if (h3 : HT b A κ e3 T3) (h1 : HE b A κ e1 T1) (h2 : HE b A κ e2 T2) : HE b A κ (.IfExp e3 e1 e2 pos) (.ife T3 T1 T2) := fun X c => by
  obtain ⟨t1, p1, r1⟩ := h1 X c
  obtain ⟨t2, p2, r2⟩ := h2 X c
  obtain ⟨t3, p3, r3⟩ := h3 X c
  exact ⟨_, pe_ifExp p3 p1 p2, er_if r3 r1 r2⟩
theorem a_nil : HA b A κ [] .nil := fun X c => ⟨_, pa_nil, ar_nil⟩
theorem a_cons (hp : plainE e1 = true) (h1 : HE b A κ e1 T1) (h2 : HA b A κ es T2) : HA b A κ (e1 :: es) (.cons T1 T2) := fun X c => by
  obtain ⟨t1, p1, r1⟩ := h1 X c
  obtain ⟨t2, p2, r2⟩ := h2 X c
  exact ⟨_, pa_cons p1 p2 (star_cons _ hp), ar_cons r1 r2⟩
theorem k_nil : HK b A κ [] .nil := fun X c => ⟨_, pk_nil, ar_nil⟩
theorem k_cons {nm : Option Str} {kws : List Keyword} (h1 : HE b A κ e1 T1) (h2 : HK b A κ kws T2) : HK b A κ (⟨nm, e1, p⟩ :: kws) (.cons T1 T2) := fun X c => by
  obtain ⟨t1, p1, r1⟩ := h1 X c
  obtain ⟨t2, p2, r2⟩ := h2 X c
  exact ⟨_, pk_cons p1 p2, ar_cons r1 r2⟩
theorem h_tup {x1} (h1 : HA b A κ es T1) : HE b A κ (.Tuple es x1 pos) (.tup T1) := fun X c => by
  obtain ⟨t1, p1, r1⟩ := h1 X c
  exact ⟨_, pe_tup p1, er_tup r1⟩
theorem o_lst (h1 : HA b A κ es T1) : HO b A κ (.List es pos) (.lst T1) := fun X c => by
  obtain ⟨t1, p1, r1⟩ := h1 X c
  exact ⟨_, pe_lst p1, or_lst r1⟩
theorem o_dnew : HO b A κ (.Dict [] [] pos) .dnew := fun X c => ⟨_, pe_dnewK, or_dnew⟩
theorem ix_any {X : Cx} (hu : X.A.units + 64 < cLine) : IxR X (fun x y H Q => rIx X.K x y H Q ∨ ∃ a v, x = .ref a ∧ DGet H a y (some v) ∧ Q v H) := ix_seq.or (ix_dict (by omega))
end
end DL

set_option Elab.async false
set_option linter.all false
set_option maxRecDepth 100000
namespace DL
open PySem L2 PySem.W
section
variable {b : Bz} {A : Around} {κ : Kt} {pos pos' p p1 p2 p3 apos cpos tpos : Pos} {e e1 e2 e3 c o : Expr} {es rest : List Expr} {T0 T1 T2 T3 Tr Tg Ti Tc To : DL.T}
theorem h_idx (hs : PlainIx e2) (h1 : HE b A κ e1 T1) (h2 : HE b A κ e2 T2) : HE b A κ (.Subscript e1 e2 pos) (.idx T1 T2) := fun X c => by
  obtain ⟨t1, p1, r1⟩ := h1 X c
  obtain ⟨t2, p2, r2⟩ := h2 X c
  exact ⟨_, pe_ix (ix_any c.hu) p1 p2 hs, er_op2 (X := X) rb_idx r1 r2⟩
theorem p_none : HP b A κ none .non := fun X c => ⟨_, po_none, pr_none⟩
theorem p_some (h1 : HE b A κ e1 T1) : HP b A κ (some e1) (.prt T1) := fun X c => by
  obtain ⟨t1, p1, r1⟩ := h1 X c
  exact ⟨_, po_some p1, pr_some r1⟩
theorem h_sl {lo hi : Option Expr} (h1 : HE b A κ e1 T1) (h2 : HP b A κ lo T2) (h3 : HP b A κ hi T3) : HE b A κ (.Subscript e1 (.Slice lo hi none p2) pos) (.sl T1 T2 T3) := fun X c => by
  obtain ⟨t1, p1, r1⟩ := h1 X c
  obtain ⟨t2, p2, r2⟩ := h2 X c
  obtain ⟨t3, p3, r3⟩ := h3 X c
  exact ⟨_, pe_slice sl_all p1 p2 p3, er_slice (by rw [c.k]; exact c.g.kl) r1 r2 r3⟩
theorem o_rev {k} (h1 : HE b A κ e1 T1) : HO b A κ (.Subscript e1 (.Slice none none (some (.UnaryOp .USub (.Constant (.int 1) k p1) p2)) p3) pos) (.rev T1) := fun X c => by
  obtain ⟨t1, p1, r1⟩ := h1 X c
  exact ⟨_, pe_revL p1, or_revL r1⟩
theorem h_attr (f : Nat) {x : Str} (hx : x = Str.ofString (b.B.attr f)) (hb : ∀ env : PySem.Env, attributeBase e1 x env (eval e1 env) = eval e1 env) (h1 : HE b A κ e1 T1) : HE b A κ (.Attribute e1 x pos) (.attr T1 f) := fun X c => by
  obtain ⟨t1, p1, r1⟩ := h1 X c
  subst hx
  exact ⟨_, pe_fld p1 (hb _), er_attr c.g.nm (by rw [c.k]; exact c.g.cl) r1⟩
/-! ### built-in functions -/
def BiOk (X : Cx) (N : Nam) (B : BI) (id : String) : Prop := ∃ r, CallR X (.builtin id) r ∧ CRb N r (fun M => biP M B)
section
variable {X : Cx} {N : Nam}
theorem bi_len (kl : ∀ a ns, N.kl a ns → ∀ H, SqL X.K H a (ns.map V.int)) : BiOk X N .len "len" := ⟨_, cl_len, cb_len kl⟩
theorem bi_abs : BiOk X N .abs "abs" := ⟨_, call_abs, cb_abs⟩
theorem bi_max2 (hc : X.calm = true) : BiOk X N .max2 "max" := ⟨_, call_max2 hc, cb_max2⟩
theorem bi_min2 (hc : X.calm = true) : BiOk X N .min2 "min" := ⟨_, call_min2 hc, cb_min2⟩
theorem bi_maxL (hc : X.calm = true) : BiOk X N .maxL "max" := ⟨_, cr_max hc, cb_maxL⟩
theorem bi_minL (hc : X.calm = true) : BiOk X N .minL "min" := ⟨_, cr_min hc, cb_minL⟩
theorem bi_sum (hc : X.calm = true) : BiOk X N .sum "sum" := ⟨_, cr_sum hc, cb_sum⟩
theorem bi_all (hc : X.calm = true) : BiOk X N .all "all" := ⟨_, cr_all hc, cb_all⟩
theorem bi_any (hc : X.calm = true) : BiOk X N .any "any" := ⟨_, cr_any hc, cb_any⟩
end
theorem h_biG {x : Str} {id : String} {B : BI} (hk : ∀ X : Cx, X.K = b.K → b.Good → X.calm = true → X.A.units + 64 < cLine → BiOk X b.N B id) (hg : glB κ x = true) (hm : b.mg x = none) (hv : bootBuiltins x = some (.builtin id)) (hn : x ≠ "__name__") (hdb : (x == ("__debug__" : Str)) = false) (hp : plainEs (e1 :: es) = true)
    (h1 : HA b A κ (e1 :: es) T1) : HE b A κ (.Call (.Name x p) (e1 :: es) [] pos) (.bi B T1) := fun X c => by
  obtain ⟨t1, p1, r1⟩ := h1 X c
  obtain ⟨r, k1, k2⟩ := hk X c.k c.g c.c c.hu
  have hp' := hp
  unfold plainEs at hp
  rw [List.all_cons, Bool.and_eq_true] at hp
  exact ⟨_, pe_callB k1 (c.gl hg) (by rw [c.m]; exact hm) hv p1 hn hdb (star_cons _ hp.1) (star_any _ hp.2), er_cb r1 k2⟩

theorem h_len (hm : b.mg "len" = none) (hg : glB κ "len" = true) (hp : plainE e1 = true) (h1 : HE b A κ e1 T1) : HE b A κ (.Call (.Name "len" p) [e1] [] pos) (.bi .len (.cons T1 .nil)) :=
  h_biG (fun X k g _ _ => bi_len (by rw [k]; exact g.kl)) hg hm PySem.boot_len (by decide) (by decide) (by unfold plainEs; simp [hp]) (a_cons hp h1 a_nil)
theorem h_abs (hm : b.mg "abs" = none) (hg : glB κ "abs" = true) (hp : plainE e1 = true) (h1 : HE b A κ e1 T1) : HE b A κ (.Call (.Name "abs" p) [e1] [] pos) (.bi .abs (.cons T1 .nil)) :=
  h_biG (fun X _ _ _ _ => bi_abs) hg hm (by decide +kernel) (by decide) (by decide) (by unfold plainEs; simp [hp]) (a_cons hp h1 a_nil)
theorem boot_max' : bootBuiltins "max" = some (.builtin "max") := by decide +kernel
theorem boot_min' : bootBuiltins "min" = some (.builtin "min") := by decide +kernel
theorem boot_sum' : bootBuiltins "sum" = some (.builtin "sum") := by decide +kernel
theorem boot_all' : bootBuiltins "all" = some (.builtin "all") := by decide +kernel
theorem boot_any' : bootBuiltins "any" = some (.builtin "any") := by decide +kernel
theorem boot_sorted' : bootBuiltins "sorted" = some (.builtin "sorted") := by decide +kernel
theorem boot_list' : bootBuiltins "list" = some (.type "list") := by decide +kernel
theorem boot_tuple' : bootBuiltins "tuple" = some (.type "tuple") := by decide +kernel
theorem boot_isi' : bootBuiltins "isinstance" = some (.builtin "isinstance") := by decide +kernel
theorem pl2 (h : plainE e1 = true) (h' : plainE e2 = true) : plainEs [e1, e2] = true := by unfold plainEs; simp [h, h']
theorem pl1 (h : plainE e1 = true) : plainEs [e1] = true := by unfold plainEs; simp [h]
theorem h_max2 (hm : b.mg "max" = none) (hg : glB κ "max" = true) (hp : plainE e1 = true) (hq : plainE e2 = true) (h1 : HE b A κ e1 T1) (h2 : HE b A κ e2 T2) : HE b A κ (.Call (.Name "max" p) [e1, e2] [] pos) (.bi .max2 (.cons T1 (.cons T2 .nil))) :=
  h_biG (fun X _ _ c _ => bi_max2 c) hg hm boot_max' (by decide) (by decide) (pl2 hp hq) (a_cons hp h1 (a_cons hq h2 a_nil))
theorem h_min2 (hm : b.mg "min" = none) (hg : glB κ "min" = true) (hp : plainE e1 = true) (hq : plainE e2 = true) (h1 : HE b A κ e1 T1) (h2 : HE b A κ e2 T2) : HE b A κ (.Call (.Name "min" p) [e1, e2] [] pos) (.bi .min2 (.cons T1 (.cons T2 .nil))) :=
  h_biG (fun X _ _ c _ => bi_min2 c) hg hm boot_min' (by decide) (by decide) (pl2 hp hq) (a_cons hp h1 (a_cons hq h2 a_nil))
theorem h_maxL (hm : b.mg "max" = none) (hg : glB κ "max" = true) (hp : plainE e1 = true) (h1 : HE b A κ e1 T1) : HE b A κ (.Call (.Name "max" p) [e1] [] pos) (.bi .maxL (.cons T1 .nil)) :=
  h_biG (fun X _ _ c _ => bi_maxL c) hg hm boot_max' (by decide) (by decide) (pl1 hp) (a_cons hp h1 a_nil)
theorem h_minL (hm : b.mg "min" = none) (hg : glB κ "min" = true) (hp : plainE e1 = true) (h1 : HE b A κ e1 T1) : HE b A κ (.Call (.Name "min" p) [e1] [] pos) (.bi .minL (.cons T1 .nil)) :=
  h_biG (fun X _ _ c _ => bi_minL c) hg hm boot_min' (by decide) (by decide) (pl1 hp) (a_cons hp h1 a_nil)
theorem h_sum (hm : b.mg "sum" = none) (hg : glB κ "sum" = true) (hp : plainE e1 = true) (h1 : HE b A κ e1 T1) : HE b A κ (.Call (.Name "sum" p) [e1] [] pos) (.bi .sum (.cons T1 .nil)) :=
  h_biG (fun X _ _ c _ => bi_sum c) hg hm boot_sum' (by decide) (by decide) (pl1 hp) (a_cons hp h1 a_nil)
theorem h_all (hm : b.mg "all" = none) (hg : glB κ "all" = true) (hp : plainE e1 = true) (h1 : HE b A κ e1 T1) : HE b A κ (.Call (.Name "all" p) [e1] [] pos) (.bi .all (.cons T1 .nil)) :=
  h_biG (fun X _ _ c _ => bi_all c) hg hm boot_all' (by decide) (by decide) (pl1 hp) (a_cons hp h1 a_nil)
theorem h_any (hm : b.mg "any" = none) (hg : glB κ "any" = true) (hp : plainE e1 = true) (h1 : HE b A κ e1 T1) : HE b A κ (.Call (.Name "any" p) [e1] [] pos) (.bi .any (.cons T1 .nil)) :=
  h_biG (fun X _ _ c _ => bi_any c) hg hm boot_any' (by decide) (by decide) (pl1 hp) (a_cons hp h1 a_nil)
/-- max(l, default=d), min(l, default=d) -/
theorem h_maxD {kp : Pos} (hm : b.mg "max" = none) (hg : glB κ "max" = true) (hp : plainE e1 = true) (h1 : HE b A κ e1 T1) (h2 : HE b A κ e2 T2) : HE b A κ (.Call (.Name "max" p) [e1] [⟨some "default", e2, kp⟩] pos) (.bi .maxD (.cons T1 (.cons T2 .nil))) := fun X c => by
  obtain ⟨t1, p1, r1⟩ := h1 X c
  obtain ⟨t2, p2, r2⟩ := h2 X c
  exact ⟨_, pe_callBK (cr_maxDf c.c c.hu) (c.gl hg) (by rw [c.m]; exact hm) boot_max' (pa_cons p1 pa_nil (star_cons _ hp)) (pk_cons p2 pk_nil) (he := by rw [star_cons (es := []) X.env hp]; rfl) (hpl := by rw [star_cons (es := []) X.env hp]; rfl), er_dflt (ta := tNil) (tk := tNil) (p := fun M => biP M .maxD) r1 r2 fun Z σ H F ρ M => kb_maxD Z σ H F ρ M⟩
theorem h_minD {kp : Pos} (hm : b.mg "min" = none) (hg : glB κ "min" = true) (hp : plainE e1 = true) (h1 : HE b A κ e1 T1) (h2 : HE b A κ e2 T2) : HE b A κ (.Call (.Name "min" p) [e1] [⟨some "default", e2, kp⟩] pos) (.bi .minD (.cons T1 (.cons T2 .nil))) := fun X c => by
  obtain ⟨t1, p1, r1⟩ := h1 X c
  obtain ⟨t2, p2, r2⟩ := h2 X c
  exact ⟨_, pe_callBK (cr_minDf c.c c.hu) (c.gl hg) (by rw [c.m]; exact hm) boot_min' (pa_cons p1 pa_nil (star_cons _ hp)) (pk_cons p2 pk_nil) (he := by rw [star_cons (es := []) X.env hp]; rfl) (hpl := by rw [star_cons (es := []) X.env hp]; rfl), er_dflt (ta := tNil) (tk := tNil) (p := fun M => biP M .minD) r1 r2 fun Z σ H F ρ M => kb_minD Z σ H F ρ M⟩
theorem o_list (hm : b.mg "list" = none) (hg : glB κ "list" = true) (hp : plainE e1 = true) (h1 : HE b A κ e1 T1) : HO b A κ (.Call (.Name "list" p) [e1] [] pos) (.bi .list (.cons T1 .nil)) := fun X c => by
  obtain ⟨t1, p1, r1⟩ := a_cons hp h1 a_nil X c
  exact ⟨_, pe_callTy call_list_of (c.gl hg) (by rw [c.m]; exact hm) boot_list' p1 (he := star_cons _ hp), or_list r1⟩
theorem h_tuple (hm : b.mg "tuple" = none) (hg : glB κ "tuple" = true) (hp : plainE e1 = true) (h1 : HE b A κ e1 T1) : HE b A κ (.Call (.Name "tuple" p) [e1] [] pos) (.bi .tuple (.cons T1 .nil)) := fun X c => by
  obtain ⟨t1, p1, r1⟩ := a_cons hp h1 a_nil X c
  exact ⟨_, pe_callTy call_tuple_of (c.gl hg) (by rw [c.m]; exact hm) boot_tuple' p1 (he := star_cons _ hp), er_cb (p := fun M => biP M .tuple) r1 cb_tuple⟩
theorem o_sortedG {B : BI} {r : PySem.W.Frag → List V → Hp → VK → Prop} (hr : ∀ X : Cx, X.calm = true → CallR X (.builtin "sorted") (r X.K)) (hm : b.mg "sorted" = none) (hg : glB κ "sorted" = true) (hp : plainE e1 = true) (h1 : HE b A κ e1 T1)
    (ho : ∀ (X : Cx) (ta : TA) (wa : WA), AR b.N ta wa → OR' b.N (tCB (r X.K) ta) (fun ρ M Q => wa ρ M fun ds ρ M => biP M B ds fun z => Q z ρ M)) : HO b A κ (.Call (.Name "sorted" p) [e1] [] pos) (.bi B (.cons T1 .nil)) := fun X c => by
  obtain ⟨t1, p1, r1⟩ := a_cons hp h1 a_nil X c
  exact ⟨_, pe_callB (hr X c.c) (c.gl hg) (by rw [c.m]; exact hm) boot_sorted' p1 (he := star_cons _ hp), ho X _ _ r1⟩
end
end DL

set_option Elab.async false
set_option linter.all false
set_option maxRecDepth 100000
namespace DL
open PySem L2 PySem.W
section
variable {b : Bz} {A : Around} {κ : Kt} {pos pos' p p1 p2 p3 apos cpos tpos spos : Pos} {e e1 e2 e3 c o tg : Expr} {es rest : List Expr} {T0 T1 T2 T3 Tr Tg Ti Tc To : DL.T}
theorem o_sorted (hm : b.mg "sorted" = none) (hg : glB κ "sorted" = true) (hp : plainE e1 = true) (h1 : HE b A κ e1 T1) : HO b A κ (.Call (.Name "sorted" p) [e1] [] pos) (.bi .sorted (.cons T1 .nil)) :=
  o_sortedG (B := .sorted) (r := rSorted) (fun X _ => cr_sorted) hm hg hp h1 fun X ta wa h => or_sorted (X := X) h
theorem o_sortedS (hm : b.mg "sorted" = none) (hg : glB κ "sorted" = true) (hp : plainE e1 = true) (h1 : HE b A κ e1 T1) : HO b A κ (.Call (.Name "sorted" p) [e1] [] pos) (.bi .sortedS (.cons T1 .nil)) :=
  o_sortedG (B := .sortedS) (r := rSortedS) (fun X _ => cr_sortedS) hm hg hp h1 fun X ta wa h => or_sortedS (X := X) h
theorem o_sortedDI (hm : b.mg "sorted" = none) (hg : glB κ "sorted" = true) (hp : plainE e1 = true) (h1 : HE b A κ e1 T1) : HO b A κ (.Call (.Name "sorted" p) [e1] [] pos) (.bi .sortedDI (.cons T1 .nil)) :=
  o_sortedG (B := .sortedDI) (r := fun _ => rSDI) (fun X c => call_sortedDI c) hm hg hp h1 fun X ta wa h => or_sDI h
theorem o_sortedDS (hm : b.mg "sorted" = none) (hg : glB κ "sorted" = true) (hp : plainE e1 = true) (h1 : HE b A κ e1 T1) : HO b A κ (.Call (.Name "sorted" p) [e1] [] pos) (.bi .sortedDS (.cons T1 .nil)) :=
  o_sortedG (B := .sortedDS) (r := fun _ => rSDS) (fun X c => call_sortedD c) hm hg hp h1 fun X ta wa h => or_sDS h
/-! ### isinstance of built-in types -/
theorem pe_ty {X : Cx} {x : Str} {n : String} (hg : Gl X x) (hm : X.mg x = none) (hv : bootBuiltins x = some (.type n)) (hn : x ≠ "__name__") (hdb : (x == ("__debug__" : Str)) = false) : PE X (.Name x pos) (tC (.ty n)) := pe_bltn hg hm hv rfl hn hdb
theorem h_isi1 {x : Str} {n : String} (hm : b.mg "isinstance" = none) (hg : glB κ "isinstance" = true) (hmx : b.mg x = none) (hgx : glB κ x = true) (hv : bootBuiltins x = some (.type n)) (hn : x ≠ "__name__") (hdb : (x == ("__debug__" : Str)) = false) (hp : plainE e1 = true) (h1 : HE b A κ e1 T1) :
    HE b A κ (.Call (.Name "isinstance" p) [e1, .Name x p2] [] pos) (.isi T1 [.b n]) := fun X c => by
  obtain ⟨t1, p1, r1⟩ := h1 X c
  exact ⟨_, pe_callB call_isi (c.gl hg) (by rw [c.m]; exact hm) boot_isi' (pa_cons p1 (pa_cons (pe_ty (c.gl hgx) (by rw [c.m]; exact hmx) hv hn hdb) pa_nil) (star_cons _ hp)) (he := star_cons _ hp), er_isi1 (X := X) r1⟩

theorem h_isi2 {x y : Str} {n m : String} {k : Nat} (hm : b.mg "isinstance" = none) (hg : glB κ "isinstance" = true) (hmx : b.mg x = none) (hgx : glB κ x = true) (hv : bootBuiltins x = some (.type n)) (hn : x ≠ "__name__") (hdb : (x == ("__debug__" : Str)) = false)
    (hmy : b.mg y = none) (hgy : glB κ y = true) (hvy : bootBuiltins y = some (.type m)) (hny : y ≠ "__name__") (hdby : (y == ("__debug__" : Str)) = false) (hp : plainE e1 = true) (h1 : HE b A κ e1 T1) :
    HE b A κ (.Call (.Name "isinstance" p) [e1, .Tuple [.Name x p2, .Name y p3] k tpos] [] pos) (.isi T1 [.b n, .b m]) := fun X c => by
  obtain ⟨t1, p1, r1⟩ := h1 X c
  exact ⟨_, pe_callB call_isiT (c.gl hg) (by rw [c.m]; exact hm) boot_isi' (pa_cons p1 (pa_cons (pe_tup (pa_cons (pe_ty (c.gl hgx) (by rw [c.m]; exact hmx) hv hn hdb) (pa_cons (pe_ty (c.gl hgy) (by rw [c.m]; exact hmy) hvy hny hdby) pa_nil))) pa_nil) (star_cons _ hp)) (he := star_cons _ hp), er_isi2 (X := X) r1⟩
/-! ### what this def alone holds -/
theorem h_idxO (i : Nat) {x : Str} (hs : PlainIx e2) (h1 : κ.ns[i]? = some x) (h2 : visB κ x = true) (hd : (x == ("__debug__" : Str)) = false) (hcd : (x == ("__classdict__" : Str)) = false) (h3 : HE b A κ e2 T2) : HE b A κ (.Subscript (.Name x p) e2 pos) (.idxO i T2) := fun X c => by
  obtain ⟨t2, p2, r2⟩ := h3 X c
  exact ⟨_, pe_ix (ix_any c.hu) (pe_var (by rw [c.n]; exact h1) (c.vis h2) hd hcd) p2 hs, er_idxO (X := X) r2⟩
theorem h_lenO (i : Nat) {x : Str} (hm : b.mg "len" = none) (hg : glB κ "len" = true) (h1 : κ.ns[i]? = some x) (h2 : visB κ x = true) (hd : (x == ("__debug__" : Str)) = false) (hcd : (x == ("__classdict__" : Str)) = false) : HE b A κ (.Call (.Name "len" p) [.Name x p2] [] pos) (.lenO i) := fun X c =>
  ⟨_, pe_callB cl_len (c.gl hg) (by rw [c.m]; exact hm) PySem.boot_len (pa_cons (pe_var (by rw [c.n]; exact h1) (c.vis h2) hd hcd) pa_nil), er_lenO (X := X) (by rw [c.k]; exact c.g.kl)⟩
theorem inO_er {X : Cx} {q : COp} {r : R2} {t1 : TE} {w1 : WE} {i : Nat} (hr : RBv X b.N r (cmpQ q)) (r1 : ER b.N t1 w1) : ER b.N (tOp r t1 (tVar i)) (fun ρ M Q => w1 ρ M fun x ρ M => ∃ c, ρ[i]? = some (.own c) ∧ cmpP q (view M x) c.tree fun z => Q (.bl z) ρ M) := fun Z σ H F ρ M Q K S hw hk =>
  r1 Z σ H F ρ M _ _ S hw fun v H1 F1 d ρ1 M1 S1 l r' ⟨c, e, q1⟩ => by
    obtain ⟨p, hp, x, _⟩ := S1.ownAt e
    refine ⟨_, hp, ?_⟩
    exact hr Z σ H1 F1 ρ1 M1 v (.ref p) _ _ (fun z => Q z ρ1 M1) K S1 (r'.view S1) x.vrep q1 fun v' H' F' d' S' l' r2 q2 => hk v' H' F' d' ρ1 M1 S' (l.trans l') r2 q2
theorem h_inO (i : Nat) {x : Str} (h1 : κ.ns[i]? = some x) (h2 : visB κ x = true) (hd : (x == ("__debug__" : Str)) = false) (hcd : (x == ("__classdict__" : Str)) = false) (h3 : HE b A κ e1 T1) : HE b A κ (.Compare e1 [.In] [.Name x p] pos) (.inO false T1 i) := fun X c => by
  obtain ⟨t1, p1, r1⟩ := h3 X c
  obtain ⟨r, k1, k2⟩ := c_inV (X := X) (N := b.N) c.hu
  exact ⟨_, pe_cmpR k1 p1 (pe_var (by rw [c.n]; exact h1) (c.vis h2) hd hcd) rfl, inO_er (q := .isin) k2 r1⟩
theorem h_notinO (i : Nat) {x : Str} (h1 : κ.ns[i]? = some x) (h2 : visB κ x = true) (hd : (x == ("__debug__" : Str)) = false) (hcd : (x == ("__classdict__" : Str)) = false) (h3 : HE b A κ e1 T1) : HE b A κ (.Compare e1 [.NotIn] [.Name x p] pos) (.inO true T1 i) := fun X c => by
  obtain ⟨t1, p1, r1⟩ := h3 X c
  obtain ⟨r, k1, k2⟩ := c_notinV (X := X) (N := b.N) c.hu
  exact ⟨_, pe_cmpR k1 p1 (pe_var (by rw [c.n]; exact h1) (c.vis h2) hd hcd) rfl, inO_er (q := .notin) k2 r1⟩
theorem t_inO (i : Nat) {x : Str} (h1 : κ.ns[i]? = some x) (h2 : visB κ x = true) (hd : (x == ("__debug__" : Str)) = false) (hcd : (x == ("__classdict__" : Str)) = false) (h3 : HE b A κ e1 T1) : HT b A κ (.Compare e1 [.In] [.Name x p] pos) (.inO false T1 i) := fun X c => by
  obtain ⟨t1, p1, r1⟩ := h3 X c
  obtain ⟨r, k1, k2⟩ := c_inV (X := X) (N := b.N) c.hu
  exact ⟨_, pt_cmpR k1 p1 (pe_var (by rw [c.n]; exact h1) (c.vis h2) hd hcd) rfl, tr_test (inO_er (q := .isin) k2 r1)⟩
theorem t_notinO (i : Nat) {x : Str} (h1 : κ.ns[i]? = some x) (h2 : visB κ x = true) (hd : (x == ("__debug__" : Str)) = false) (hcd : (x == ("__classdict__" : Str)) = false) (h3 : HE b A κ e1 T1) : HT b A κ (.Compare e1 [.NotIn] [.Name x p] pos) (.inO true T1 i) := fun X c => by
  obtain ⟨t1, p1, r1⟩ := h3 X c
  obtain ⟨r, k1, k2⟩ := c_notinV (X := X) (N := b.N) c.hu
  exact ⟨_, pt_cmpR k1 p1 (pe_var (by rw [c.n]; exact h1) (c.vis h2) hd hcd) rfl, tr_test (inO_er (q := .notin) k2 r1)⟩
/-- methods that change a container: the name, the method's rule -/
structure PmRow (m : PM) (name : Str) (id : String) where
  pa : PlainAttrs (pmT m)
  slot : Slot (pmT m) name id
  hty : typeOf (.builtin id) = pure (.type "method_descriptor")
  r : V → List V → Hp → VK → Prop
  hm : ∀ X : Cx, MtR X id r
  ok : ∀ N, PMok N m r
def row_append : PmRow .append "append" "list.append" := ⟨PySem.F.plainAttrs_list, PySem.F.slot_list_append, PySem.F.type_list_append, rAppend, fun X => mt_append, fun N => pm_append⟩
def row_extend : PmRow .extend "extend" "list.extend" := ⟨PySem.F.plainAttrs_list, PySem.F.slot_list_extend, PySem.F.type_list_extend, rExtend, fun X => mt_extend, fun N => pm_extend⟩
def row_popAt : PmRow .popAt "pop" "list.pop" := ⟨PySem.F.plainAttrs_list, PySem.F.slot_list_pop, PySem.F.type_list_pop, rPopAt, fun X => mt_popAt, fun N => pm_popAt⟩
def row_clear : PmRow .clear "clear" "list.clear" := ⟨PySem.F.plainAttrs_list, PySem.F.slot_list_clear, PySem.F.type_list_clear, rClear, fun X => mt_clear, fun N => pm_clear⟩
def row_setd : PmRow .setdefault "setdefault" "dict.setdefault" := ⟨PySem.F.plainAttrs_dict, PySem.F.slot_dict_setdefault, PySem.F.type_dict_setdefault, rSetd, fun X => mt_setd, fun N => pm_setd⟩

def FewOk (e : Expr) (es : List Expr) (cpos : Pos) : Prop := ∀ env : PySem.Env, ((backTo cpos (starEach (e :: es) env)).all (fun x => !x.1) && (backToKw cpos (keywordEach [] env)).all (fun x => x.1.isSome)
      && decide ((e :: es).length + ([] : List Keyword).length + (if ([] : List Keyword).isEmpty then 0 else 1) < 30)) = true
theorem few1 (h : plainE e1 = true) : FewOk e1 [] cpos := fun env => by rw [star_cons env h]; rfl
theorem few2 (h : plainE e1 = true) (h' : plainE e2 = true) : FewOk e1 [e2] cpos := fun env => by rw [star_cons env h, star_cons env h']; rfl
theorem h_pmO (i : Nat) {x : Str} {m : PM} {name : Str} {id : String} (R : PmRow m name id) (hf : FewOk e1 es cpos) (hl : (apos.endLine == cpos.line) = true) (hp : plainEs (e1 :: es) = true) (h1 : κ.ns[i]? = some x) (h2 : visB κ x = true) (hd : (x == ("__debug__" : Str)) = false) (hcd : (x == ("__classdict__" : Str)) = false) (h3 : HA b A κ (e1 :: es) T1) :
    HE b A κ (.Call (.Attribute (.Name x p) name apos) (e1 :: es) [] cpos) (.pmO m i T1) := fun X c => by
  obtain ⟨t1, p1, r1⟩ := h3 X c
  have hp' := hp
  unfold plainEs at hp
  rw [List.all_cons, Bool.and_eq_true] at hp
  exact ⟨_, pe_bm R.pa R.slot R.hty (R.hm X) (pe_var (by rw [c.n]; exact h1) (c.vis h2) hd hcd) p1 (hfew := hf _) (hline := hl) (hs := star_cons _ hp.1) (hplain := star_any _ hp.2), er_pmO (X := X) (R.ok b.N) r1⟩
theorem h_pm {m : PM} {name : Str} {id : String} (R : PmRow m name id) (hb : ∀ env : PySem.Env, attributeBase o name env (eval o env) = eval o env) (hf : FewOk e1 es cpos) (hl : (apos.endLine == cpos.line) = true) (hp : plainEs (e1 :: es) = true) (h1 : HE b A κ o To) (h3 : HA b A κ (e1 :: es) T1) :
    HE b A κ (.Call (.Attribute o name apos) (e1 :: es) [] cpos) (.pm m To T1) := fun X c => by
  obtain ⟨t1, p1, r1⟩ := h3 X c
  obtain ⟨t2, p2, r2⟩ := h1 X c
  have hp' := hp
  unfold plainEs at hp
  rw [List.all_cons, Bool.and_eq_true] at hp
  exact ⟨_, pe_bm R.pa R.slot R.hty (R.hm X) p2 p1 (hbase := hb _) (hfew := hf _) (hline := hl) (hs := star_cons _ hp.1) (hplain := star_any _ hp.2), er_pm (X := X) (R.ok b.N) r2 r1⟩
theorem h_pmO0 (i : Nat) {x : Str} {m : PM} {name : Str} {id : String} (R : PmRow m name id) (hl : (apos.endLine == cpos.line) = true) (h1 : κ.ns[i]? = some x) (h2 : visB κ x = true) (hd : (x == ("__debug__" : Str)) = false) (hcd : (x == ("__classdict__" : Str)) = false) :
    HE b A κ (.Call (.Attribute (.Name x p) name apos) [] [] cpos) (.pmO m i .nil) := fun X c =>
  ⟨_, pe_bm0 R.pa R.slot R.hty (R.hm X) (pe_var (by rw [c.n]; exact h1) (c.vis h2) hd hcd) (hline := hl), er_pmO0 (X := X) (R.ok b.N)⟩
theorem h_pm0 {m : PM} {name : Str} {id : String} (R : PmRow m name id) (hb : ∀ env : PySem.Env, attributeBase o name env (eval o env) = eval o env) (hl : (apos.endLine == cpos.line) = true) (h1 : HE b A κ o To) :
    HE b A κ (.Call (.Attribute o name apos) [] [] cpos) (.pm m To .nil) := fun X c => by
  obtain ⟨t2, p2, r2⟩ := h1 X c
  exact ⟨_, pe_bm0 R.pa R.slot R.hty (R.hm X) p2 (hbase := hb _) (hline := hl), er_pm0 (X := X) (R.ok b.N) r2⟩
/-! ### what is walked -/
theorem i_seq (h1 : HE b A κ e1 T1) : HI b A κ tg e1 (.it T1) := fun X c => by
  obtain ⟨t1, p1, r1⟩ := h1 X c
  exact ⟨_, pi_seq p1, ir_seq (by rw [c.k]; exact c.g.em) (by rw [c.k]; exact c.g.kl) r1⟩
theorem i_rng1 (hm : b.mg "range" = none) (hg : glB κ "range" = true) (hp : plainE e1 = true) (h1 : HE b A κ e1 T1) : HI b A κ tg (.Call (.Name "range" p) [e1] [] pos) (.rng1 T1) := fun X c => by
  obtain ⟨t1, p1, r1⟩ := h1 X c
  exact ⟨_, pi_range1 (c.gl hg) (by rw [c.m]; exact hm) (pa_cons p1 pa_nil (star_cons _ hp)) (star_cons _ hp), ir_rng1 r1⟩
theorem i_rng2 (hm : b.mg "range" = none) (hg : glB κ "range" = true) (hp : plainE e1 = true) (hq : plainE e2 = true) (h1 : HE b A κ e1 T1) (h2 : HE b A κ e2 T2) : HI b A κ tg (.Call (.Name "range" p) [e1, e2] [] pos) (.rng2 T1 T2) := fun X c => by
  obtain ⟨t1, p1, r1⟩ := h1 X c
  obtain ⟨t2, p2, r2⟩ := h2 X c
  exact ⟨_, pi_range2 (c.gl hg) (by rw [c.m]; exact hm) (pa_cons p1 (pa_cons p2 pa_nil (star_cons _ hq)) (star_cons _ hp)) (by rw [star_cons _ hp, star_cons _ hq]; rfl) (hs2 := star_cons _ hq), ir_rng2 r1 r2⟩
theorem i_enum {elts : List Expr} {kk : Nat} (hm : b.mg "enumerate" = none) (hg : glB κ "enumerate" = true) (hp : plainE e1 = true) (h1 : HE b A κ e1 T1) : HI b A κ (.Tuple elts kk tpos) (.Call (.Name "enumerate" p) [e1] [] pos) (.enum T1) := fun X c => by
  obtain ⟨t1, p1, r1⟩ := h1 X c
  exact ⟨_, pi_enum (c.gl hg) (by rw [c.m]; exact hm) (pa_cons p1 pa_nil (star_cons _ hp)) (star_cons _ hp), ir_enum (X := X) r1⟩
theorem i_zip {elts : List Expr} {kk : Nat} (hm : b.mg "zip" = none) (hg : glB κ "zip" = true) (hp : plainE e1 = true) (hq : plainE e2 = true) (h1 : HE b A κ e1 T1) (h2 : HE b A κ e2 T2) : HI b A κ (.Tuple elts kk tpos) (.Call (.Name "zip" p) [e1, e2] [] pos) (.zip T1 T2) := fun X c => by
  obtain ⟨t1, p1, r1⟩ := h1 X c
  obtain ⟨t2, p2, r2⟩ := h2 X c
  exact ⟨_, pi_zip (c.gl hg) (by rw [c.m]; exact hm) (pa_cons p1 (pa_cons p2 pa_nil (star_cons _ hq)) (star_cons _ hp)) (star_cons _ hp) (by rw [star_cons _ hq]; rfl), ir_zip (X := X) r1 r2⟩
/-! ### targets -/
theorem g_name (i : Nat) {x : Str} (h1 : κ.ns[i]? = some x) (h2 : locB κ x = true) : HG b A κ (.Name x pos) (.tname i) := fun X c =>
  ⟨_, pg_name c.nd (by rw [c.n]; exact h1) (c.loc h2).1 (c.loc h2).2, gr_name i⟩
theorem gs_nil' : HGs b A κ [] .nil := fun X c => ⟨_, pgs_nil, gs_nil⟩
theorem gs_cons' (hs : ∀ env : PySem.Env, (assignEach (e1 :: es) env).map (·.2) = assign e1 env :: (assignEach es env).map (·.2)) (h1 : HG b A κ e1 T1) (h2 : HGs b A κ es T2) : HGs b A κ (e1 :: es) (.cons T1 T2) := fun X c => by
  obtain ⟨t1, p1, r1⟩ := h1 X c
  obtain ⟨t2, p2, r2⟩ := h2 X c
  exact ⟨_, pgs_cons p1 p2 (hs _), gs_cons r1 r2⟩
theorem g_tup {k : Nat} (hn : ∀ env : PySem.Env, (assignEach es env).length = lenT T1) (hst : ∀ env : PySem.Env, (assignEach es env).findIdx? (·.1) = none) (h1 : HGs b A κ es T1) : HG b A κ (.Tuple es k pos) (.ttup T1) := fun X c => by
  obtain ⟨t1, p1, r1⟩ := h1 X c
  exact ⟨_, pg_tup c.c p1 (hn _) (hst _), gr_tup r1⟩
end
end DL

set_option Elab.async false
set_option linter.all false
set_option maxRecDepth 100000
namespace DL
open PySem L2 PySem.W
section
variable {b : Bz} {A : Around} {κ : Kt} {pos pos' p p1 p2 p3 apos cpos tpos spos py : Pos} {e e1 e2 e3 c o tg iter elt value : Expr} {es rest ifs : List Expr} {T0 T1 T2 T3 Tr Tg Ti Tc To Te : DL.T}
theorem HE.uni (h : HE b A κ e T0) : ∃ te, (∀ X, Cok b A κ X → PE X e te) ∧ ER b.N te (wpE b.B T0) :=
  ⟨fun σ H Q => ∀ X, Cok b A κ X → ∀ t, PE X e t → ER b.N t (wpE b.B T0) → t σ H Q, fun X c => ⟨fun pins s σ H Q I q => by
    obtain ⟨t, p, r⟩ := h X c
    exact p.run pins s σ H Q I (q X c t p r)⟩, fun Z σ H F ρ M Q K S hw hk X c t p r => r Z σ H F ρ M Q K S hw hk⟩
theorem HC.uni (h : HC b A κ es T0) : ∃ te, (∀ X, Cok b A κ X → PTs X es te) ∧ CR' b.N te (wpC b.B T0) :=
  ⟨fun σ H Q => ∀ X, Cok b A κ X → ∀ t, PTs X es t → CR' b.N t (wpC b.B T0) → t σ H Q, fun X c => ⟨fun pins s σ H Q I q => by
    obtain ⟨t, p, r⟩ := h X c
    exact p.run pins s σ H Q I (q X c t p r)⟩, fun Z σ H F ρ M Q K S hw hk X c t p r => r Z σ H F ρ M Q K S hw hk⟩
theorem HG.uni (h : HG b A κ e T0) : ∃ te, (∀ X, Cok b A κ X → PG X e te) ∧ GR b.N b.K te T0 :=
  ⟨fun v σ H Q => ∀ X, Cok b A κ X → ∀ t, PG X e t → GR b.N X.K t T0 → t v σ H Q, fun X c => ⟨fun pins s σ H v u Q I r q => by
    obtain ⟨t, p, r'⟩ := h X c
    exact p.run pins s σ H v u Q I r (q X c t p r')⟩, fun Z σ H F ρ M d v P KK S rr hb hk X c t p r => r Z σ H F ρ M d v P KK S rr hb hk⟩
theorem c_nil : HC b A κ [] .nil := fun X c => ⟨_, pts_nil, cr_nil⟩
theorem c_one (h1 : HT b A κ e1 T1) : HC b A κ [e1] (.cons T1 .nil) := fun X c => by
  obtain ⟨t1, p1, r1⟩ := h1 X c
  exact ⟨_, pts_one p1, cr_one r1⟩
structure CompOk (κ : Kt) (scope : Scope) (own : List (Str × Nat)) (Tg : DL.T) : Prop where
  blk : blkC κ.ns κ.sc scope own = true
  slots : ∀ i ∈ slotsT Tg, i ∈ own.map (·.2)
theorem comp_er {X : Cx} {scope : Scope} {own : List (Str × Nat)} (c : Cok b A κ X) (ok : CompOk κ scope own Tg) (hi : HI b A κ tg iter Ti) (hg : HG b A (κ.sub scope) tg Tg) (hc : HC b A (κ.sub scope) ifs Tc) (he : HE b A (κ.sub scope) elt Te) :
    ∃ wi g tt te, PI X tg iter wi ∧ BlkOk X.N X.env.scope scope own ∧ (∀ (s : Shared) (H : Hp) (C : Addr) (cl : List (Str × Addr)) (fp : List Addr), PG (X.blk s H scope (compEnvC scope cl C X.env) fp) tg g) ∧ (∀ (s : Shared) (H : Hp) (C : Addr) (cl : List (Str × Addr)) (fp : List Addr), PTs (X.blk s H scope (compEnvC scope cl C X.env) fp) ifs tt) ∧
      (∀ (s : Shared) (H : Hp) (C : Addr) (cl : List (Str × Addr)) (fp : List Addr), PE (X.blk s H scope (compEnvC scope cl C X.env) fp) elt te) ∧ OR' b.N (tLc wi g tt te (own.map (·.2))) (wpE b.B (.comp (own.map (·.2)) Tg Ti Tc Te)) := by
  obtain ⟨wi, p1, r1⟩ := hi X c
  obtain ⟨g, p2, r2⟩ := hg.uni
  obtain ⟨tt, p3, r3⟩ := hc.uni
  obtain ⟨te, p4, r4⟩ := he.uni
  exact ⟨wi, g, tt, te, p1, by rw [c.n, c.s]; exact blkOk_by ok.blk, fun s H C cl fp => p2 _ (c.blk scope s H C cl fp), fun s H C cl fp => p3 _ (c.blk scope s H C cl fp), fun s H C cl fp => p4 _ (c.blk scope s H C cl fp), or_comp r1 r2 r3 r4 ok.slots⟩
theorem o_comp {scope : Scope} (own : List (Str × Nat)) (ok : CompOk κ scope own Tg) (hf : ∀ (env : PySem.Env) x, foldedSetIterable iter env x = pure x) (hi : HI b A κ tg iter Ti) (hg : HG b A (κ.sub scope) tg Tg) (hc : HC b A (κ.sub scope) ifs Tc) (he : HE b A (κ.sub scope) elt Te) :
    HO b A κ (.ListComp elt [⟨tg, iter, ifs, 0⟩] scope pos) (.comp (own.map (·.2)) Tg Ti Tc Te) := fun X c => by
  obtain ⟨wi, g, tt, te, q1, q2, q3, q4, q5, q6⟩ := comp_er c ok hi hg hc he
  exact ⟨_, pe_lc c.c c.nd q1 q2 q3 q4 q5 (hf X.env), q6⟩
/-! ### statements -/
theorem ss_nil : HSs b A κ [] .skip := fun X c => ⟨_, pss_nil, sr_skip⟩
theorem ss_one {s : Stmt} (h1 : HS b A κ s T1) : HSs b A κ [s] T1 := fun X c => by
  obtain ⟨t1, p1, r1⟩ := h1 X c
  exact ⟨_, pss_one p1, r1⟩
theorem ss_cons {s : Stmt} {ss : List Stmt} (h1 : HS b A κ s T1) (h2 : HSs b A κ ss T2) : HSs b A κ (s :: ss) (.seq T1 T2) := fun X c => by
  obtain ⟨t1, p1, r1⟩ := h1 X c
  obtain ⟨t2, p2, r2⟩ := h2 X c
  exact ⟨_, pss_cons p1 p2, sr_seq (a := wpS b.B T1) (b := wpS b.B T2) r1 r2⟩
theorem ss_seal {ss : List Stmt} (i : Nat) (h2 : HSs b A κ ss T2) : HSs b A κ ss (.sealS i T2) := fun X c => by
  obtain ⟨t2, p2, r2⟩ := h2 X c
  exact ⟨_, p2, sr_seal r2⟩
theorem s_doc {x : Str} {j} : HS b A κ (.Expr (.Constant (.str x) j pos) pos') .skip := fun X c => ⟨_, ps_doc, sr_skip⟩
theorem s_pass : HS b A κ (.Pass pos) .skip := fun X c => ⟨_, ps_pass, sr_skip⟩
theorem s_set (i : Nat) {x : Str} (h1 : κ.ns[i]? = some x) (h2 : locB κ x = true) (hs : ∀ (env : PySem.Env), swapsWith e1 (some (.Name x pos')) pos.line env = pure false) (h : HE b A κ e1 T1) : HS b A κ (.Assign [.Name x pos'] e1 pos) (.set i T1) := fun X c => by
  obtain ⟨t1, p1, r1⟩ := h X c
  exact ⟨_, ps_set c.nd (by rw [c.n]; exact h1) (c.loc h2).1 p1 (hs _) (c.loc h2).2, sr_set r1⟩
theorem s_setO (i : Nat) {x : Str} (h1 : κ.ns[i]? = some x) (h2 : locB κ x = true) (hs : ∀ (env : PySem.Env), swapsWith e1 (some (.Name x pos')) pos.line env = pure false) (h : HO b A κ e1 T1) : HS b A κ (.Assign [.Name x pos'] e1 pos) (.setO i T1) := fun X c => by
  obtain ⟨t1, p1, r1⟩ := h X c
  exact ⟨_, ps_set c.nd (by rw [c.n]; exact h1) (c.loc h2).1 p1 (hs _) (c.loc h2).2, sr_setO r1⟩
theorem setLc {X : Cx} {scope : Scope} (i : Nat) {x : Str} (own : List (Str × Nat)) (c : Cok b A κ X) (h1 : κ.ns[i]? = some x) (h2 : lclB κ x = true) (hk : κ.sc.kind = .function) (hl : (py.line == pos.line) = true) (ha : (scope.names.any fun (n, k) => n == x && (k == .local || k == .cell)) = false)
    (ok : CompOk κ scope own Tg) (hf : ∀ (env : PySem.Env) x, foldedSetIterable iter env x = pure x) (hi : HI b A κ tg iter Ti) (hg : HG b A (κ.sub scope) tg Tg) (hc : HC b A (κ.sub scope) ifs Tc) (he : HE b A (κ.sub scope) elt Te) :
    ∃ t, PS X (.Assign [.Name x py] (.ListComp elt [⟨tg, iter, ifs, 0⟩] scope pos) spos) (tAsg t (gName i)) ∧ OR' b.N t (wpE b.B (.comp (own.map (·.2)) Tg Ti Tc Te)) := by
  obtain ⟨wi, g, tt, te, q1, q2, q3, q4, q5, q6⟩ := comp_er c ok hi hg hc he
  exact ⟨_, ps_setLc c.c c.nd (by rw [c.n]; exact h1) (c.lcl h2) (sw_true (by rw [c.s]; exact hk) (c.lcl h2) hl ha) q1 q2 q3 q4 q5 (hf X.env), q6⟩
theorem s_setC {scope : Scope} (i : Nat) {x : Str} (own : List (Str × Nat)) (h1 : κ.ns[i]? = some x) (h2 : lclB κ x = true) (hk : κ.sc.kind = .function) (hl : (py.line == pos.line) = true) (ha : (scope.names.any fun (n, k) => n == x && (k == .local || k == .cell)) = false)
    (ok : CompOk κ scope own Tg) (hf : ∀ (env : PySem.Env) x, foldedSetIterable iter env x = pure x) (hi : HI b A κ tg iter Ti) (hg : HG b A (κ.sub scope) tg Tg) (hc : HC b A (κ.sub scope) ifs Tc) (he : HE b A (κ.sub scope) elt Te) :
    HS b A κ (.Assign [.Name x py] (.ListComp elt [⟨tg, iter, ifs, 0⟩] scope pos) spos) (.set i (.comp (own.map (·.2)) Tg Ti Tc Te)) := fun X c => by
  obtain ⟨t, q1, q2⟩ := setLc (spos := spos) i own c h1 h2 hk hl ha ok hf hi hg hc he
  exact ⟨_, q1, sr_set q2.er⟩
theorem s_setCO {scope : Scope} (i : Nat) {x : Str} (own : List (Str × Nat)) (h1 : κ.ns[i]? = some x) (h2 : lclB κ x = true) (hk : κ.sc.kind = .function) (hl : (py.line == pos.line) = true) (ha : (scope.names.any fun (n, k) => n == x && (k == .local || k == .cell)) = false)
    (ok : CompOk κ scope own Tg) (hf : ∀ (env : PySem.Env) x, foldedSetIterable iter env x = pure x) (hi : HI b A κ tg iter Ti) (hg : HG b A (κ.sub scope) tg Tg) (hc : HC b A (κ.sub scope) ifs Tc) (he : HE b A (κ.sub scope) elt Te) :
    HS b A κ (.Assign [.Name x py] (.ListComp elt [⟨tg, iter, ifs, 0⟩] scope pos) spos) (.setO i (.comp (own.map (·.2)) Tg Ti Tc Te)) := fun X c => by
  obtain ⟨t, q1, q2⟩ := setLc (spos := spos) i own c h1 h2 hk hl ha ok hf hi hg hc he
  exact ⟨_, q1, sr_setO q2⟩
theorem s_asgT {elts : List Expr} {kk : Nat} (hs : ∀ (env : PySem.Env), swapsWithSole [.Tuple elts kk tpos] e1 pos.line env = pure false) (hw : ∀ (env : PySem.Env), swappedStores [.Tuple elts kk tpos] e1 env = pure none) (h1 : HE b A κ e1 T1) (h2 : HG b A κ (.Tuple elts kk tpos) Tg) : HS b A κ (.Assign [.Tuple elts kk tpos] e1 pos) (.asgT Tg T1) := fun X c => by
  obtain ⟨t1, p1, r1⟩ := h1 X c
  obtain ⟨t2, p2, r2⟩ := h2 X c
  exact ⟨_, ps_asg p1 p2 (hs _) (hw _), sr_asgT r1 r2⟩
theorem set_frame {X : Cx} {to ti : TE} (hu : X.A.units + 64 < cLine) (ho : PE X o to) (hi : PE X e1 ti) (ha : ∀ (env : PySem.Env) v, assign (.Subscript o e1 pos) env v = (do
      let ov ← holding [v] (eval o env)
      let iv ← holding [v, ov] (eval e1 env)
      standAt pos
      holding [v, ov, iv] (setItem ov iv v)
      release [v, ov, iv] [])) : PG X (.Subscript o e1 pos) (gSub to ti rSetA) := pg_sub ho hi (set_any (by omega)) (ha X.env)
theorem s_setIxO (i : Nat) {x : Str} (ha : ∀ (env : PySem.Env) v, assign (.Subscript (.Name x p) e1 tpos) env v = (do
      let ov ← holding [v] (eval (.Name x p) env)
      let iv ← holding [v, ov] (eval e1 env)
      standAt tpos
      holding [v, ov, iv] (setItem ov iv v)
      release [v, ov, iv] [])) (hs : ∀ (env : PySem.Env), swapsWithSole [.Subscript (.Name x p) e1 tpos] e2 pos.line env = pure false) (hw : ∀ (env : PySem.Env), swappedStores [.Subscript (.Name x p) e1 tpos] e2 env = pure none)
    (hq : ∀ (env : PySem.Env), (assignEach [.Subscript (.Name x p) e1 tpos] env).map (·.2) = [assign (.Subscript (.Name x p) e1 tpos) env]) (h1 : κ.ns[i]? = some x) (h2 : visB κ x = true) (hd : (x == ("__debug__" : Str)) = false) (hcd : (x == ("__classdict__" : Str)) = false) (h3 : HE b A κ e1 T1) (h4 : HE b A κ e2 T2) :
    HS b A κ (.Assign [.Subscript (.Name x p) e1 tpos] e2 pos) (.setIxO i T1 T2) := fun X c => by
  obtain ⟨t1, p1, r1⟩ := h3 X c
  obtain ⟨t2, p2, r2⟩ := h4 X c
  exact ⟨_, ps_asg p2 (set_frame c.hu (pe_var (by rw [c.n]; exact h1) (c.vis h2) hd hcd) p1 ha) (hs _) (hw _) (hq _), sr_setIxO r2 r1⟩
theorem s_setIx (ha : ∀ (env : PySem.Env) v, assign (.Subscript o e1 tpos) env v = (do
      let ov ← holding [v] (eval o env)
      let iv ← holding [v, ov] (eval e1 env)
      standAt tpos
      holding [v, ov, iv] (setItem ov iv v)
      release [v, ov, iv] [])) (hs : ∀ (env : PySem.Env), swapsWithSole [.Subscript o e1 tpos] e2 pos.line env = pure false) (hw : ∀ (env : PySem.Env), swappedStores [.Subscript o e1 tpos] e2 env = pure none)
    (hq : ∀ (env : PySem.Env), (assignEach [.Subscript o e1 tpos] env).map (·.2) = [assign (.Subscript o e1 tpos) env]) (h0 : HE b A κ o To) (h3 : HE b A κ e1 T1) (h4 : HE b A κ e2 T2) :
    HS b A κ (.Assign [.Subscript o e1 tpos] e2 pos) (.setIx To T1 T2) := fun X c => by
  obtain ⟨t1, p1, r1⟩ := h3 X c
  obtain ⟨t2, p2, r2⟩ := h4 X c
  obtain ⟨t0, p0, r0⟩ := h0 X c
  exact ⟨_, ps_asg p2 (set_frame c.hu p0 p1 ha) (hs _) (hw _) (hq _), sr_setIx r2 r0 r1⟩
theorem s_setAt (f : Nat) {x : Str} (hx : x = Str.ofString (b.B.attr f)) (hs : ∀ (env : PySem.Env), swapsWith e1 (some (.Attribute o x tpos)) pos.line env = pure false) (h0 : HE b A κ o To) (h1 : HE b A κ e1 T1) : HS b A κ (.Assign [.Attribute o x tpos] e1 pos) (.setAt To f T1) := fun X c => by
  obtain ⟨t1, p1, r1⟩ := h1 X c
  obtain ⟨t0, p0, r0⟩ := h0 X c
  subst hx
  exact ⟨_, ps_fld p0 p1 (hs _), sr_setAt (X := X) c.g.nm (by rw [c.k]; exact c.g.cl) r1 r0⟩
theorem s_setAtO (f : Nat) {x : Str} (hx : x = Str.ofString (b.B.attr f)) (hs : ∀ (env : PySem.Env), swapsWith e1 (some (.Attribute o x tpos)) pos.line env = pure false) (h0 : HE b A κ o To) (h1 : HO b A κ e1 T1) : HS b A κ (.Assign [.Attribute o x tpos] e1 pos) (.setAtO To f T1) := fun X c => by
  obtain ⟨t1, p1, r1⟩ := h1 X c
  obtain ⟨t0, p0, r0⟩ := h0 X c
  subst hx
  exact ⟨_, ps_fld p0 p1 (hs _), sr_setAtO (X := X) c.g.nm (by rw [c.k]; exact c.g.cl) r1 r0⟩
theorem s_augAt (f : Nat) {x : Str} {op : Operator} (q : BOp) (ho : op = opE q) (hk : iopOk q = true) (hx : x = Str.ofString (b.B.attr f)) (h0 : HE b A κ o To) (h1 : HE b A κ e1 T1) : HS b A κ (.AugAssign (.Attribute o x tpos) op e1 pos) (.augAt To f q T1) := fun X c => by
  obtain ⟨t1, p1, r1⟩ := h1 X c
  obtain ⟨t0, p0, r0⟩ := h0 X c
  subst hx ho
  exact ⟨_, ps_fldaug p0 p1 (iop_ok q hk), sr_augAt (X := X) hk c.g.nm (by rw [c.k]; exact c.g.cl) r0 r1⟩
theorem s_aug (i : Nat) {x : Str} {op : Operator} (q : BOp) (ho : op = opE q) (hk : iopOk q = true) (h1 : κ.ns[i]? = some x) (h2 : locB κ x = true) (h : HE b A κ e1 T1) : HS b A κ (.AugAssign (.Name x pos') op e1 pos) (.aug i q T1) := fun X c => by
  obtain ⟨t1, p1, r1⟩ := h X c
  subst ho
  exact ⟨_, ps_aug c.nd (by rw [c.n]; exact h1) (c.loc h2).1 p1 (iop_ok q hk) (c.loc h2).2, sr_aug hk r1⟩
theorem s_if {s1 s2 : List Stmt} (h0 : HT b A κ e1 T0) (h1 : HSs b A κ s1 T1) (h2 : HSs b A κ s2 T2) : HS b A κ (.If e1 s1 s2 pos) (.cond T0 T1 T2) := fun X c => by
  obtain ⟨t0, p0, r0⟩ := h0 X c
  obtain ⟨t1, p1, r1⟩ := h1 X c
  obtain ⟨t2, p2, r2⟩ := h2 X c
  exact ⟨_, ps_if p0 p1 p2, sr_cond r0 r1 r2⟩
theorem s_for {body : List Stmt} (hf : ∀ (env : PySem.Env) x, foldedSetIterable iter env x = pure x) (hi : HI b A κ tg iter Ti) (hg : HG b A κ tg Tg) (h1 : HSs b A κ body T1) : HS b A κ (.For tg iter body [] pos) (.for Tg Ti T1) := fun X c => by
  obtain ⟨t0, p0, r0⟩ := hi X c
  obtain ⟨t2, p2, r2⟩ := hg X c
  obtain ⟨t1, p1, r1⟩ := h1 X c
  exact ⟨_, ps_for (by rw [c.xe]; exact PassesOwn.never) c.c p0 p2 p1 (hf _), sr_for r0 r2 r1⟩
theorem s_while {body : List Stmt} (h0 : HT b A κ e1 T0) (h1 : HSs b A κ body T1) : HS b A κ (.While e1 body [] pos) (.while T0 T1) := fun X c => by
  obtain ⟨t0, p0, r0⟩ := h0 X c
  obtain ⟨t1, p1, r1⟩ := h1 X c
  exact ⟨_, ps_while (by rw [c.xe]; exact PassesOwn.never) p0 p1, sr_while r0 r1⟩
theorem s_ret (h : HE b A κ e1 T1) : HS b A κ (.Return (some e1) pos) (.ret T1) := fun X c => by
  obtain ⟨t1, p1, r1⟩ := h X c
  exact ⟨_, ps_ret p1, sr_ret r1⟩
theorem s_retN : HS b A κ (.Return none pos) .retN := fun X c => ⟨_, ps_retN, sr_retN⟩
theorem s_expr (hs : ∀ (env : PySem.Env), swapsWith e1 none pos.line env = pure false) (h : HE b A κ e1 T1) : HS b A κ (.Expr e1 pos) (.expr T1) := fun X c => by
  obtain ⟨t1, p1, r1⟩ := h X c
  exact ⟨_, ps_expr p1 (hs _), sr_expr r1⟩
theorem s_brk : HS b A κ (.Break pos) .brk := fun X c => ⟨_, ps_break, sr_brk⟩
theorem s_cnt : HS b A κ (.Continue pos) .cnt := fun X c => ⟨_, ps_continue, sr_cnt⟩
theorem s_never {s : Stmt} : HS b A κ s .never := fun X c => ⟨_, ps_never, sr_never⟩
end
end DL

set_option Elab.async false
set_option linter.all false
set_option maxRecDepth 100000
namespace DL
open PySem L2 PySem.W PySem.Spec PyProof.Rows

/-! ### a def keeps its promise -/
def startD (n : Nat) (ds : List D) : Env := ds.map .val ++ List.replicate (n - ds.length) .no
theorem Reps.args {N : Nam} {F : Hp} {n : Nat} : ∀ {ds : List D} {vs : List V} {i : Nat} {lv : LV}, Reps N F ds vs → (ds.map LV.val ++ List.replicate n .no)[i]? = some lv → lv = .no ∨ ∃ d v, lv = .val d ∧ (vs.map some ++ List.replicate n none)[i]? = some (some v) ∧ Rep N F d v
  | [], vs, i, lv, r, e => by
    rw [reps_nil] at r; subst r
    have e : (List.replicate n LV.no)[i]? = some lv := by simpa using e
    rw [List.getElem?_replicate] at e
    split at e
    · exact .inl (Option.some.inj e).symm
    · cases e
  | d :: ds, vs, 0, lv, r, e => by
    rw [reps_cons] at r
    obtain ⟨v, t, rfl, q, _⟩ := r
    simp at e
    exact .inr ⟨d, v, e.symm, rfl, q⟩
  | d :: ds, vs, i + 1, lv, r, e => by
    rw [reps_cons] at r
    obtain ⟨v, t, rfl, q, w⟩ := r
    exact Reps.args (i := i) w (by simpa using e)
theorem MSim.env {N : Nam} {F : Hp} {M : Mem} {H : Hp} (S : MSim N F M H) {n : Nat} {ds : List D} {vs : List V} (r : Reps N F ds vs) : Sim N ⟨H, M, F⟩ F (startD n ds) M (vs.map some ++ List.replicate (n - vs.length) none) H := by
  have S0 := S.start
  refine ⟨S0.sub, S0.le0, S0.mf, S0.mem, S0.mnew, S0.fnew, S0.keep, S0.there, ⟨fun _ => none, fun _ _ e => (nomatch e), fun i lv e => ?_⟩, by simp [startD, r.length]⟩
  have e' : (ds.map LV.val ++ List.replicate (n - ds.length) .no)[i]? = some lv := e
  rw [← r.length] at e'
  rcases r.args e' with rfl | ⟨d, v, rfl, h1, h2⟩
  · trivial
  · exact ⟨v, by rw [h1]; rfl, h2⟩
abbrev enOf (Q : D → Mem → Prop) : En := { nx := fun _ M => Q .non M, rt := Q, bk := fun _ _ => False, ct := fun _ _ => False }
def Fits (B : Tab) (n : Nat) (T : DL.T) (sp : DSp) : Prop := ∀ ds M Q, sp ds M Q → wpS B T (startD n ds) M (enOf Q)
section
variable {b : Bz} {x qual : Str} {st : Stmt} {f : Addr} {fd : FuncData} {ns ps : List Str} {k : Nat} {sp : DSp} {T : DL.T}
theorem fit_run {A : Around} {κ : Kt} {X : Cx} {body : List Stmt} {n : Nat} (c : Cok b A κ X) (h : HSs b A κ body T) (hw : Fits b.B n T sp) {vs : List V} {H : Hp} {Q : VK} (hl : lift b.N sp vs H Q) : ∃ t, PSs X body t ∧ t { nx := fun _ H' => Q .non H', rt := Q } (vs.map some ++ List.replicate (n - vs.length) none) H := by
  obtain ⟨F, M, ds, Qd, S, r, q, kk⟩ := hl
  obtain ⟨t, p, rt⟩ := h X c
  refine ⟨t, p, rt _ _ _ _ _ _ _ _ (S.env r) (hw ds M Qd q) ⟨fun σ H' F' ρ M' S' q' => ?_, fun _ _ _ _ _ _ z => z, fun _ _ _ _ _ _ z => z, fun σ H' F' ρ M' d v S' r' q' => ?_⟩⟩
  · exact kk .non M' .non H' F' q' (S'.drop rfl fun i lv e => by simp at e) (rep_non.mpr rfl)
  · exact kk d M' v H' F' q' (S'.drop rfl fun i lv e => by simp at e) r'
theorem lift_len {N : Nam} (len : ∀ ds M Q, sp ds M Q → ds.length = ps.length) : ∀ vs H Q (E : XK), liftS N sp vs H Q E → vs.length = ps.length := by
  rintro vs H Q E ⟨F, M, ds, Qd, S, r, q, kk⟩
  rw [r.length]; exact len _ _ _ q
theorem cok_def {P w K mg base} {A : Around} {scope : Scope} {cdv : Value} {outer : List PySem.Env} {s : Shared} {H : Hp} {E : XK} {B : Tab} {N : Nam} {k : Nat} (g : Bz.Good ⟨P, w, K, mg, base, B, N⟩) (nd : ns.Nodup) (hr : Room k (A.deeper (envOfC qual scope s.heap.objs.size f cdv))) :
    Cok ⟨P, w, K, mg, base, B, N⟩ (A.deeper (envOfC qual scope s.heap.objs.size f cdv)) ⟨ns, scope, fun _ => true⟩ (cxOf CX0 P w K mg base ns qual scope f cdv A outer s H E).nox :=
  ⟨g, rfl, rfl, rfl, rfl, rfl, rfl, rfl, rfl, rfl, rfl, nd, rfl, hr.units, fun _ => ⟨rfl, rfl⟩⟩
/-- THE RULE for a def without defaults -/
theorem fn_ok (F : Fun b.K x qual st f fd) (S : FnScope ns ps (defScope st)) (g : b.Good) (len : ∀ ds M Q, sp ds M Q → ds.length = ps.length) (h : ∀ A, Room k A → HSs b A ⟨ns, defScope st, fun _ => true⟩ (defBody st) T) (hw : Fits b.B ns.length T sp) :
    FnOk b.P b.w b.K b.mg b.base CX0 (k + 1) f fd ps (liftS b.N sp) :=
  F.ok S (lift_len len) fun cdv A outer s H vs Q E hr hl => fit_run (cok_def g S.nd hr) (h _ hr) hw hl
/-- with defaults -/
theorem fn_okD {params : Arguments} {body : List Stmt} {scope : Scope} {dvs : List V} {kws : List (Str × V)} (F : FunD b.K x qual params body scope dvs kws f fd) (S : FnScope ns ps scope) (g : b.Good) (len : ∀ ds M Q, sp ds M Q → ds.length = ps.length) (h : ∀ A, Room k A → HSs b A ⟨ns, scope, fun _ => true⟩ body T) (hw : Fits b.B ns.length T sp) :
    FnOk b.P b.w b.K b.mg b.base CX0 (k + 1) f fd ps (liftS b.N sp) :=
  F.ok S (lift_len len) fun cdv A outer s H vs Q E hr hl => by
    obtain ⟨t, p, q⟩ := fit_run (cok_def (E := E) (outer := outer) g S.nd hr) (h _ hr) hw hl
    exact ⟨t, p.nox, q⟩
end

/-! ### what can be called -/
def callForm (X : Cx) (o : Expr) (m : Str) (es : List Expr) (apos pos : Pos) : Prop := ∃ pl, eval (.Call (.Attribute o m apos) es [] pos) X.env = (do
      let ov ← eval o X.env
      standAt apos.atName
      let (f, first) ← holding [ov] (getMethod ov m pl)
      callWith pos f first (backTo pos (starEach es X.env)) (backToKw pos (keywordEach [] X.env)))
def FnI (b : Bz) (k : Nat) (x : Str) (n : Nat) (sp : DSp) : Prop := ∀ (A : Around) (κ : Kt) (es : List Expr) (p pos : Pos) (Tr : DL.T) (kk : Nat), Room k A → es.length = n → plainEs es = true → glB κ x = true → (es = [] → Tr = .nil) → b.B.sp kk = sp → HA b A κ es Tr → HE b A κ (.Call (.Name x p) es [] pos) (.call kk Tr)
def FnKI (b : Bz) (k : Nat) (x : Str) (n : Nat) (ks : List Str) (sp : DSp) : Prop := ∀ (A : Around) (κ : Kt) (es : List Expr) (kws : List Keyword) (p pos : Pos) (Tr Tk : DL.T) (kk : Nat), Room k A → es.length = n → plainEs es = true → kwOf kws = some ks → glB κ x = true → (b.B.ent kk).npos = n → (b.B.ent kk).nkw = ks.length → b.B.sp kk = sp →
  HA b A κ es Tr → HK b A κ kws Tk → HE b A κ (.Call (.Name x p) es kws pos) (.callK kk Tr Tk)
def MtI (b : Bz) (k : Nat) (c : Nat) (m : Str) (n : Nat) (sp : DSp) : Prop := ∀ (A : Around) (κ : Kt) (o : Expr) (es : List Expr) (apos pos : Pos) (To Tr : DL.T) (kk : Nat), Room k A → es.length = n → plainEs es = true → (es = [] → Tr = .nil) → (∀ X : Cx, callForm X o m es apos pos) → (b.B.ent kk).cls = c → b.B.sp kk = sp →
  HE b A κ o To → HA b A κ es Tr → HE b A κ (.Call (.Attribute o m apos) es [] pos) (.meth kk To Tr)
section
variable {b : Bz} {x : Str} {sp : DSp} {k : Nat} {f : Addr} {fd : FuncData} {ps : List Str} {ds : List Value} {dvs : List V} {dd : List D} {n : Nat}
theorem fnI_of (F : FnOk b.P b.w b.K b.mg b.base CX0 k f fd ps (liftS b.N sp)) (hm : b.mg x = some (.ref f)) (hk : PySem.W.keepIn b.K (.ref f) = true) (hb : Binds b.K fd ps ds)
    (hd : Vals dvs ds) (hdd : ∀ F, Reps b.N F dd dvs) (hdb : (x == ("__debug__" : Str)) = false) : FnI b k x n (fun ds => sp (ds ++ dd)) := by
  intro A κ es p pos Tr kk hr hl hp hg h0 hs ha X c
  obtain ⟨t, pa, ka⟩ := ha X c
  obtain ⟨hc1, hc2, hc3, hc4, hc5, hc6⟩ : X.prog = b.P ∧ X.w = b.w ∧ X.K = b.K ∧ X.mg = b.mg ∧ X.base = b.base ∧ X.A = A := ⟨c.p, c.w, c.k, c.m, c.b, c.a⟩
  rw [← hc1, ← hc2, ← hc3, ← hc4, ← hc5] at F
  rw [← hc3] at hk hb
  rw [← hc4] at hm
  rw [← hc6] at hr
  cases es with
  | nil =>
    refine ⟨_, pe_call0 F hr (c.gl hg) hm hk hb hd pass0 hdb, fun Z σ H F ρ M Q KK S hw hk => ?_⟩
    cases h0 rfl
    have hw : b.B.sp kk [] M fun d M' => Q d ρ M' := hw
    rw [hs] at hw
    exact lift_dflt hdd (lift_run S (reps_nil.mpr rfl) hw hk)
  | cons e es =>
    have hp' := hp
    unfold plainEs at hp
    rw [List.all_cons, Bool.and_eq_true] at hp
    refine ⟨_, pe_call F hr (c.gl hg) hm hk hb hd pass0 pa hdb (star_cons _ hp.1) (star_any _ hp.2), fun Z σ H F ρ M Q KK S hw hk =>
      ka Z σ H F ρ M _ _ S hw fun vs H1 F1 ds ρ1 M1 S1 l r q => ?_⟩
    rw [hs] at q
    exact lift_dflt hdd (lift_run S1 r q fun v H' F' d ρ' M' S' l' r' q' => hk v H' F' d ρ' M' S' (l.trans l') r' q')
end
end DL

set_option Elab.async false
set_option linter.all false
set_option maxRecDepth 100000
namespace DL
open PySem L2 PySem.W PySem.Spec PyProof.Rows
section
variable {b : Bz} {x : Str} {sp : DSp} {k : Nat} {f : Addr} {fd : FuncData} {ps ks : List Str} {ds : List Value} {dvs : List V} {dd : List D} {n : Nat}
theorem fnKI_of {g : List Value → List Value → List Value} {gV : List V → List V → List V} {gD : List D → List D → List D} {sp' : DSp} (F : FnOk b.P b.w b.K b.mg b.base CX0 k f fd ps (liftS b.N sp)) (hm : b.mg x = some (.ref f)) (hk : PySem.W.keepIn b.K (.ref f) = true)
    (hb : KBn b.K fd ps (n + 1) ks g gV) (hdb : (x == ("__debug__" : Str)) = false) (hg : ∀ F as bs vs us, as.length = n + 1 → bs.length = ks.length → Reps b.N F as vs → Reps b.N F bs us → Reps b.N F (gD as bs) (gV vs us)) (hsp : ∀ as bs M Q, as.length = n + 1 → bs.length = ks.length → sp' (as ++ bs) M Q → sp (gD as bs) M Q) : FnKI b k x (n + 1) ks sp' := by
  intro A κ es kws p pos Tr Tk kk hr hl hp hks hgl h1 h2 hs ha hkw X c
  obtain ⟨t, pa, ka⟩ := ha X c
  obtain ⟨tk, pk, kk'⟩ := hkw X c
  obtain ⟨hc1, hc2, hc3, hc4, hc5, hc6⟩ : X.prog = b.P ∧ X.w = b.w ∧ X.K = b.K ∧ X.mg = b.mg ∧ X.base = b.base ∧ X.A = A := ⟨c.p, c.w, c.k, c.m, c.b, c.a⟩
  rw [← hc1, ← hc2, ← hc3, ← hc4, ← hc5] at F
  rw [← hc3] at hk hb
  rw [← hc4] at hm
  rw [← hc6] at hr
  cases es with
  | nil => cases hl
  | cons e es =>
    obtain ⟨k1, k2, k3⟩ := kw_facts (pos := pos) X.env hks
    have hp' := hp
    unfold plainEs at hp
    rw [List.all_cons, Bool.and_eq_true] at hp
    refine ⟨_, pe_callN F hr (c.gl hgl) hm hk hb pass0 pa pk k1 k3 hdb (star_cons _ hp.1) (by rw [star_any _ hp', k2]; rfl), fun Z σ H F ρ M Q KK S hw hk => ?_⟩
    refine ka Z σ H F ρ M _ _ S hw fun vs H1 F1 ds ρ1 M1 S1 l1 r1 q1 => kk' Z σ H1 F1 ρ1 M1 _ _ S1 q1 fun us H2 F2 es2 ρ2 M2 S2 l2 r2 ⟨⟨z1, z2⟩, q2⟩ => ?_
    rw [hs] at q2
    rw [h1] at z1
    rw [h2] at z2
    have q3 := hsp ds es2 M2 _ z1 z2 q2
    exact ⟨by rw [r1.length]; exact z1, by rw [r2.length]; exact z2, lift_run S2 (hg F2 ds es2 vs us z1 z2 (r1.mono l2) r2) q3 fun v H' F' d ρ' M' S' l' r' q' => hk v H' F' d ρ' M' S' ((l1.trans l2).trans l') r' q'⟩
theorem mtI_of {c : Nat} {m : Str} (F : FnOk b.P b.w b.K b.mg b.base CX0 k f fd ps (liftS b.N sp)) (g : b.Good) (cl : Cls b.K (b.N.cad c)) (hm : Meth b.K (b.N.cad c) m f) (hb : Binds b.K fd ps ds)
    (hd : Vals dvs ds) (hdd : ∀ F, Reps b.N F dd dvs) (hno : m ∉ b.N.nms c) : MtI b k c m n (fun ds => sp (ds ++ dd)) := by
  intro A κ o es apos pos To Tr kk hr hl hp h0 hf hcl hs ho ha X cx
  obtain ⟨to, po, ko⟩ := ho X cx
  obtain ⟨t, pa, ka⟩ := ha X cx
  obtain ⟨pl, ht⟩ := hf X
  obtain ⟨hc1, hc2, hc3, hc4, hc5, hc6⟩ : X.prog = b.P ∧ X.w = b.w ∧ X.K = b.K ∧ X.mg = b.mg ∧ X.base = b.base ∧ X.A = A := ⟨cx.p, cx.w, cx.k, cx.m, cx.b, cx.a⟩
  rw [← hc1, ← hc2, ← hc3, ← hc4, ← hc5] at F
  rw [← hc3] at hb cl hm
  rw [← hc6] at hr
  have obj : ∀ {Z : Ety} {F H : Hp} {ρ : Env} {M : Mem} {σ : L2.St} {d : D} {v : V}, Sim b.N Z F ρ M σ H → Rep b.N F d v → insD c M d → ∃ a dx fs, v = .ref a ∧ H a = some (.ins (b.N.cad c) dx fs) ∧ fs.lookup m = none := by
    intro Z F H ρ M σ d v S r h
    have h : ∃ fs, d = .obj c fs ∨ ∃ a, d = .loc a ∧ M a = some (.obj c fs) := by
      rcases h with ⟨fs, h⟩ | ⟨a, fs, h1, h2⟩
      · exact ⟨fs, .inl h⟩
      · exact ⟨fs, .inr ⟨a, h1, h2⟩⟩
    obtain ⟨fs, h⟩ := h
    obtain ⟨a, dx, vs, e, h1, _, _⟩ := S.objAt g.nm r h
    exact ⟨a, dx, _, e, h1, lookup_none fun z => hno (List.mem_of_mem_take z)⟩
  cases es with
  | nil =>
    refine ⟨_, pe_meth0 (pl := pl) po cl hm F hr hb hd pass0 ht, fun Z σ H F ρ M Q KK S hw hk => ?_⟩
    cases h0 rfl
    refine ko Z σ H F ρ M _ _ S hw fun v H1 F1 d ρ1 M1 S1 l1 r1 ⟨hi, hw1⟩ => ?_
    rw [hcl] at hi
    obtain ⟨a, dx, fs, rfl, h1, h2⟩ := obj S1 r1 hi
    have hw1 : b.B.sp kk [d] M1 fun d M' => Q d ρ1 M' := hw1
    rw [hs] at hw1
    exact ⟨a, dx, fs, rfl, h1, h2, lift_dflt (vs := [.ref a]) hdd (lift_run S1 (.one r1) hw1 fun v H' F' d ρ' M' S' l' r' q' => hk v H' F' d ρ' M' S' (l1.trans l') r' q')⟩
  | cons e es =>
    unfold plainEs at hp
    rw [List.all_cons, Bool.and_eq_true] at hp
    refine ⟨_, pe_meth (pl := pl) po cl hm F hr hb hd pass0 pa (star_cons _ hp.1) (star_any _ hp.2) ht, fun Z σ H F ρ M Q KK S hw hk => ?_⟩
    refine ko Z σ H F ρ M _ _ S hw fun v H1 F1 d ρ1 M1 S1 l1 r1 ⟨hi, hw1⟩ => ?_
    rw [hcl] at hi
    obtain ⟨a, dx, fs, rfl, h1, h2⟩ := obj S1 r1 hi
    refine ⟨a, dx, fs, rfl, h1, h2, ?_⟩
    refine ka Z σ H1 F1 ρ1 M1 _ _ S1 hw1 fun vs H2 F2 ds2 ρ2 M2 S2 l2 r2 q2 => ?_
    rw [hs] at q2
    exact lift_dflt (vs := .ref a :: vs) hdd (lift_run S2 (reps_cons.mpr ⟨_, _, rfl, r1.mono l2, r2⟩) q2 fun v H' F' d ρ' M' S' l' r' q' => hk v H' F' d ρ' M' S' ((l1.trans l2).trans l') r' q')
/-! ### new objects -/
/-- a new object, as __init__ leaves it: it may change on -/
def mkSp (c : Nat) (spI : DSp) : DSp := fun ds M Q => ∀ a, M a = none → spI (.loc a :: ds) (updM M a (.obj c [])) fun d M' => d = .non ∧ Q (.loc a) M'
/-- a new object that never changes behind __init__ -/
def mkSpF (c : Nat) (n : Nat) (spI : DSp) : DSp := fun ds M Q => ∀ a, M a = none → spI (.loc a :: ds) (updM M a (.obj c [])) fun d M' => d = .non ∧ ∃ fs, M' a = some (.obj c fs) ∧ fs.length = n ∧ Q (.obj c fs) (rmM M' a)
theorem Sim.freeze {N : Nam} {Z : Ety} {F H : Hp} {ρ : Env} {M : Mem} {σ : L2.St} (S : Sim N Z F ρ M σ H) {a : Addr} {c : Nat} {fs : List D} (e : M a = some (.obj c fs)) (hl : fs.length = (N.nms c).length) :
    ∃ F', Sim N Z F' ρ (rmM M a) σ H ∧ Le F F' ∧ Rep N F' (.obj c fs) (.ref a) := by
  obtain ⟨dx, vs, h1, h2, h3⟩ := S.mem a _ e
  have fa : F a = none := S.mf a _ e
  have lf : Le F (upd F a (.ins (N.cad c) dx (((N.nms c).take vs.length).zip vs))) := Le.new fa
  have hv : vs.length = (N.nms c).length := by rw [h3.length]; exact hl
  refine ⟨upd F a (.ins (N.cad c) dx (((N.nms c).take vs.length).zip vs)), ⟨fun b o q => ?_, S.le0.trans lf, fun b m q => ?_, fun b m q => ?_, fun b m q => ?_, fun b o q z1 z2 => ?_, S.keep, S.there, ?_, S.len⟩, lf, ?_⟩
  · by_cases hb : b = a
    · subst hb; rw [upd_same] at q; cases q; exact h1
    · rw [upd_ne hb] at q; exact S.sub b o q
  · by_cases hb : b = a
    · subst hb; simp [rmM] at q
    · simp [rmM, hb] at q; rw [upd_ne hb]; exact S.mf b m q
  · by_cases hb : b = a
    · subst hb; simp [rmM] at q
    · simp [rmM, hb] at q; exact (S.mem b m q).mono lf fun o h => h
  · by_cases hb : b = a
    · subst hb; simp [rmM] at q
    · simp [rmM, hb] at q; exact S.mnew b m q
  · by_cases hb : b = a
    · subst hb; exact S.mnew b _ e z2
    · rw [upd_ne hb] at q; exact S.fnew b o q z1 z2
  · obtain ⟨ow, w1, w2⟩ := S.own
    refine ⟨ow, fun p i q => ?_, fun i lv q => (w2 i lv q).mono lf fun _ _ _ h => h⟩
    obtain ⟨y1, y2, y3, y4⟩ := w1 p i q
    have hp : p ≠ a := fun z => by subst z; rw [e] at y2; cases y2
    exact ⟨by rw [upd_ne hp]; exact y1, by simp [rmM, hp]; exact y2, y3, y4⟩
  · refine rep_obj.mpr ⟨a, dx, vs, rfl, ?_, hv.symm, h3.mono lf⟩
    rw [upd_same, hv, List.take_length]
theorem mk_lift {N : Nam} {c : Nat} {spI : DSp} {Z : Ety} {F H : Hp} {ρ : Env} {M : Mem} {σ : L2.St} {vs : List V} {ds : List D} {Q : D → Env → Mem → Prop} {KK : VK} (S : Sim N Z F ρ M σ H) (r : Reps N F ds vs) (h : mkSp c spI ds M fun d M' => Q d ρ M')
    (hk : ∀ v H' F' d ρ' M', Sim N Z F' ρ' M' σ H' → Le F F' → Rep N F' d v → Q d ρ' M' → KK v H') (y dx : Addr) (h1 : H y = none) (h2 : H dx = none) (h3 : dx ≠ y) :
    lift N spI (.ref y :: vs) (upd (upd H dx (.own y)) y (.ins (N.cad c) dx [])) (fun v H2 => v = .non ∧ KK (.ref y) H2) := by
  have S1 := S.more (p := dx) (o := .own y) h2
  have S2 := S1.newM (p := y) (o := .ins (N.cad c) dx []) (mo := .obj c []) (by rw [upd_ne h3.symm]; exact h1) ⟨dx, [], by rw [upd_same]; simp, Nat.zero_le _, reps_nil.mpr rfl⟩
  refine lift_run (Q := fun d ρ M' => d = .non ∧ Q (.loc y) ρ M') S2 (reps_cons.mpr ⟨_, _, rfl, rep_loc.mpr rfl, r⟩) (h y (S.mnone h1)) fun v H' F' d ρ' M' S' l' r' ⟨e, q'⟩ => ?_
  subst e
  exact ⟨rep_non.mp r', hk _ H' F' _ ρ' M' S' l' (rep_loc.mpr rfl) q'⟩
theorem mk_liftF {N : Nam} {c : Nat} {spI : DSp} {Z : Ety} {F H : Hp} {ρ : Env} {M : Mem} {σ : L2.St} {vs : List V} {ds : List D} {Q : D → Env → Mem → Prop} {KK : VK} (S : Sim N Z F ρ M σ H) (r : Reps N F ds vs) (h : mkSpF c (N.nms c).length spI ds M fun d M' => Q d ρ M')
    (hk : ∀ v H' F' d ρ' M', Sim N Z F' ρ' M' σ H' → Le F F' → Rep N F' d v → Q d ρ' M' → KK v H') (y dx : Addr) (h1 : H y = none) (h2 : H dx = none) (h3 : dx ≠ y) :
    lift N spI (.ref y :: vs) (upd (upd H dx (.own y)) y (.ins (N.cad c) dx [])) (fun v H2 => v = .non ∧ KK (.ref y) H2) := by
  have S1 := S.more (p := dx) (o := .own y) h2
  have S2 := S1.newM (p := y) (o := .ins (N.cad c) dx []) (mo := .obj c []) (by rw [upd_ne h3.symm]; exact h1) ⟨dx, [], by rw [upd_same]; simp, Nat.zero_le _, reps_nil.mpr rfl⟩
  refine lift_run (Q := fun d ρ M' => d = .non ∧ ∃ fs, M' y = some (.obj c fs) ∧ fs.length = (N.nms c).length ∧ Q (.obj c fs) ρ (rmM M' y)) S2 (reps_cons.mpr ⟨_, _, rfl, rep_loc.mpr rfl, r⟩) (h y (S.mnone h1)) fun v H' F' d ρ' M' S' l' r' ⟨e, fs, e1, e2, q'⟩ => ?_
  subst e
  obtain ⟨F2, S3, l3, r3⟩ := S'.freeze e1 e2
  exact ⟨rep_non.mp r', hk _ H' F2 _ ρ' _ S3 (l'.trans l3) r3 q'⟩
end
end DL

set_option Elab.async false
set_option linter.all false
set_option maxRecDepth 100000
namespace DL
open PySem L2 PySem.W PySem.Spec PyProof.Rows
/-- what a call of a class promises, by what its __init__ does -/
def MkP (N : Nam) (c : Nat) (spI spC : DSp) : Prop := ∀ {Z : Ety} {F H : Hp} {ρ : Env} {M : Mem} {σ : L2.St} {vs : List V} {ds : List D} {Q : D → Env → Mem → Prop} {KK : VK}, Sim N Z F ρ M σ H → Reps N F ds vs → spC ds M (fun d M' => Q d ρ M') →
    (∀ v H' F' d ρ' M', Sim N Z F' ρ' M' σ H' → Le F F' → Rep N F' d v → Q d ρ' M' → KK v H') → ∀ (y dx : Addr), H y = none → H dx = none → dx ≠ y →
    lift N spI (.ref y :: vs) (upd (upd H dx (.own y)) y (.ins (N.cad c) dx [])) (fun v H2 => v = .non ∧ KK (.ref y) H2)
theorem mkP_live {N : Nam} {c : Nat} {spI : DSp} : MkP N c spI (mkSp c spI) := fun S r h hk => mk_lift S r h hk
theorem mkP_frozen {N : Nam} {c n : Nat} {spI : DSp} (hn : n = (N.nms c).length) : MkP N c spI (mkSpF c n spI) := by subst hn; exact fun S r h hk => mk_liftF S r h hk
section
variable {b : Bz} {x : Str} {spI spC : DSp} {k c : Nat} {f : Addr} {fd : FuncData} {ps ks : List Str} {ds : List Value} {dvs : List V} {dd : List D} {n : Nat}
theorem mkI_of (mk : Mk b.K (b.N.cad c) f) (hp : MkP b.N c (fun ds => spI (ds ++ dd)) spC) (F : FnOk b.P b.w b.K b.mg b.base CX0 k f fd ps (liftS b.N spI)) (hm : b.mg x = some (.ref (b.N.cad c))) (hb : Binds b.K fd ps ds)
    (hd : Vals dvs ds) (hdd : ∀ F, Reps b.N F dd dvs) (hdb : (x == ("__debug__" : Str)) = false) : FnI b (k + 1) x n spC := by
  intro A κ es p pos Tr kk hr hl hpl hg h0 hs ha X cx
  obtain ⟨t, pa, ka⟩ := ha X cx
  obtain ⟨hc1, hc2, hc3, hc4, hc5, hc6⟩ : X.prog = b.P ∧ X.w = b.w ∧ X.K = b.K ∧ X.mg = b.mg ∧ X.base = b.base ∧ X.A = A := ⟨cx.p, cx.w, cx.k, cx.m, cx.b, cx.a⟩
  rw [← hc1, ← hc2, ← hc3, ← hc4, ← hc5] at F
  rw [← hc3] at mk hb
  rw [← hc4] at hm
  rw [← hc6] at hr
  cases es with
  | nil =>
    refine ⟨_, pe_make0 mk F hr (cx.gl hg) hm hb hd pass0 hdb, fun Z σ H F ρ M Q KK S hw hk y dx h1 h2 h3 => ?_⟩
    cases h0 rfl
    have hw : b.B.sp kk [] M fun d M' => Q d ρ M' := hw
    rw [hs] at hw
    exact lift_dflt (vs := [.ref y]) hdd (hp S (reps_nil.mpr rfl) hw hk y dx h1 h2 h3)
  | cons e es =>
    have hp' := hpl
    unfold plainEs at hpl
    rw [List.all_cons, Bool.and_eq_true] at hpl
    refine ⟨_, pe_make mk F hr (cx.gl hg) hm hb hd pass0 pa hdb (star_cons _ hpl.1) (star_any _ hpl.2), fun Z σ H F ρ M Q KK S hw hk =>
      ka Z σ H F ρ M _ _ S hw fun vs H1 F1 ds ρ1 M1 S1 l r q y dx h1 h2 h3 => ?_⟩
    rw [hs] at q
    exact lift_dflt (vs := .ref y :: vs) hdd (hp S1 r q (fun v H' F' d ρ' M' S' l' r' q' => hk v H' F' d ρ' M' S' (l.trans l') r' q') y dx h1 h2 h3)
/-- with keywords -/
theorem mkKI_of {g : List Value → List Value → List Value} {gV : List V → List V → List V} {gD : List D → List D → List D} {spC' : DSp} (mk : Mk b.K (b.N.cad c) f) (hp : MkP b.N c spI spC) (F : FnOk b.P b.w b.K b.mg b.base CX0 k f fd ps (liftS b.N spI)) (hm : b.mg x = some (.ref (b.N.cad c)))
    (hb : KBn b.K fd ps (n + 2) ks g gV) (hdb : (x == ("__debug__" : Str)) = false) (hgv : ∀ y vs us, gV (V.ref y :: vs) us = V.ref y :: (gV (V.ref y :: vs) us).tail) (hg : ∀ F y as bs vs us, as.length = n + 1 → bs.length = ks.length → Reps b.N F as vs → Reps b.N F bs us → Reps b.N F (gD as bs) (gV (V.ref y :: vs) us).tail) (hsp : ∀ as bs M Q, as.length = n + 1 → bs.length = ks.length → spC' (as ++ bs) M Q → spC (gD as bs) M Q) : FnKI b (k + 1) x (n + 1) ks spC' := by
  intro A κ es kws p pos Tr Tk kk hr hl hpl hks hgl h1 h2 hs ha hkw X cx
  obtain ⟨t, pa, ka⟩ := ha X cx
  obtain ⟨tk, pk, kk'⟩ := hkw X cx
  obtain ⟨hc1, hc2, hc3, hc4, hc5, hc6⟩ : X.prog = b.P ∧ X.w = b.w ∧ X.K = b.K ∧ X.mg = b.mg ∧ X.base = b.base ∧ X.A = A := ⟨cx.p, cx.w, cx.k, cx.m, cx.b, cx.a⟩
  rw [← hc1, ← hc2, ← hc3, ← hc4, ← hc5] at F
  rw [← hc3] at mk hb
  rw [← hc4] at hm
  rw [← hc6] at hr
  cases es with
  | nil => cases hl
  | cons e es =>
    obtain ⟨k1, k2, k3⟩ := kw_facts (pos := pos) X.env hks
    have hp' := hpl
    unfold plainEs at hpl
    rw [List.all_cons, Bool.and_eq_true] at hpl
    refine ⟨_, pe_makeK (n := n + 1) mk F hr (cx.gl hgl) hm hb pass0 pa pk k1 k3 hdb (star_cons _ hpl.1) (by rw [star_any _ hp', k2]; rfl), fun Z σ H F ρ M Q KK S hw hk => ?_⟩
    refine ka Z σ H F ρ M _ _ S hw fun vs H1 F1 ds ρ1 M1 S1 l1 r1 q1 => kk' Z σ H1 F1 ρ1 M1 _ _ S1 q1 fun us H2 F2 es2 ρ2 M2 S2 l2 r2 ⟨⟨z1, z2⟩, q2⟩ => ?_
    rw [hs] at q2
    rw [h1] at z1
    rw [h2] at z2
    have q3 := hsp ds es2 M2 _ z1 z2 q2
    refine ⟨by rw [r1.length]; exact z1, by rw [r2.length]; exact z2, fun y dx w1 w2 w3 => ?_⟩
    rw [hgv]
    exact hp S2 (hg F2 y ds es2 vs us z1 z2 (r1.mono l2) r2) q3 (fun v H' F' d ρ' M' S' l' r' q' => hk v H' F' d ρ' M' S' ((l1.trans l2).trans l') r' q') y dx w1 w2 w3
end
end DL

set_option Elab.async false
set_option linter.all false
set_option maxRecDepth 100000
namespace DL
open PySem L2 PySem.W PySem.Spec PyProof.Rows
section
variable {X : Cx} {N : Nam} {B : Tab}
/-! ### a new container for others' hands -/
theorem sr_setM {te : TE} {we : WE} {i : Nat} (he : OR' N te we) : SR N (tAsg te (gName i)) (fun ρ M E => we ρ M fun x ρ M => ∃ c, freshLst x = some c ∧ ∀ p, M p = none → E.nx (ρ.set i (.val (.loc p))) (updM M p (.co c))) := fun Z σ H F ρ M E D S h le =>
  he Z σ H F ρ M _ _ S h fun p H1 F1 c ρ1 M1 S1 hl _ ⟨c', e, h1⟩ => by
    have e2 : c' = c := by cases c <;> exact (Option.some.inj e).symm
    subst e2
    obtain ⟨g1, S2⟩ := S1.toM hl
    exact le.nx _ _ _ _ _ (S2.set i (rep_loc.mpr rfl)) (h1 p g1)
theorem sr_retM {te : TE} {we : WE} (he : OR' N te we) : SR N (tRet te) (fun ρ M E => we ρ M fun x _ M => ∃ c, freshLst x = some c ∧ ∀ p, M p = none → E.rt (.loc p) (updM M p (.co c))) := fun Z σ H F ρ M E D S h le =>
  he Z σ H F ρ M _ _ S h fun p H1 F1 c ρ1 M1 S1 hl _ ⟨c', e, h1⟩ => by
    have e2 : c' = c := by cases c <;> exact (Option.some.inj e).symm
    subst e2
    obtain ⟨g1, S2⟩ := S1.toM hl
    exact le.rt _ _ _ _ _ _ _ S2 (rep_loc.mpr rfl) (h1 p g1)
/-! ### xs[::s], s 1 or -1 -/
theorem range_all (items : Array Value) : slicePick items none none (some 1) = items := by
  have e : slicePick items none none (some 1) = slicePick items none none none := rfl
  rw [e, slicePick_all]
def tStpL (K : PySem.W.Frag) (te ts : TE) : TE := fun σ H Q => te σ H fun x H1 => ts σ H1 fun y H2 => ∃ a xs, x = .ref a ∧ SqL K H2 a xs ∧ ((y = .int 1 ∧ ∀ p, H2 p = none → Q (.ref p) (upd H2 p (.lst xs))) ∨ (y = .int (-1) ∧ ∀ p, H2 p = none → Q (.ref p) (upd H2 p (.lst xs.reverse))))
theorem pe_stpL {e st : Expr} {te ts : TE} {p3 pos : Pos} (he : PE X e te) (hst : PE X st ts) (hp : ∀ env : PySem.Env, subscriptTail e (.Slice none none (some st) p3) = subscriptTail e (.Slice none none (some st) p3)) (ht : ∀ o r, letTemporaryGo e o r = pure () := by intro _ _; rfl) : PE X (.Subscript e (.Slice none none (some st) p3) pos) (tStpL X.K te ts) := by
  refine ⟨fun pins s σ H Q I h => ?_⟩
  refine Subscript_ (thn (he.run pins s σ H _ I h) fun v s1 ⟨x, H1, I1, r1, q1⟩ => ?_)
  refine wpAny_Slice (thn (po_none.run pins s1 σ H1 (fun o H2 => o = none ∧ H2 = H1) I1 ⟨rfl, rfl⟩) fun vl s2 ⟨l, H2, I2, pl, el, e2⟩ => ?_)
  subst el e2
  refine thn (po_none.run pins s2 σ H2 (fun o H3 => o = none ∧ H3 = H2) I2 ⟨rfl, rfl⟩) fun vu s3 ⟨u, H3, I3, pu, eu, e3⟩ => ?_
  subst eu e3
  rw [evalPart_some]
  refine thn (hst.run pins s3 σ H3 _ I3 q1) fun vs s4 ⟨y, H4, I4, r4, a, xs, ex, hx, q⟩ => ?_
  subst ex
  cases r1
  have I5 : Inv X pins σ H4 { s4 with heap := s4.heap.push { cls := .type "slice", data := .fields #[vl, vu, vs] } } := I4.kept (t' := s4.toks) fun b ob q => Heap.get?_push_of_some _ q
  obtain ⟨its, r, ht', hz⟩ := I5.list hx
  have hlen := r.length
  show wpAny (model X.prog X.w) X.A (subscriptTail e (.Slice none none (some st) p3) (.ref a) (.ref s4.heap.objs.size)) (EP X pins σ Q) X.xe { s4 with heap := s4.heap.push { cls := .type "slice", data := .fields #[vl, vu, vs] } }
  refine tail_any (ops := [.ref a, .ref s4.heap.objs.size]) ht'.isList.typeIs (PySem.slot_list_getitem.lookup) ?_ (by with_unfolding_all rfl)
  rcases q with ⟨ey, q⟩ | ⟨ey, q⟩
  · subst ey
    obtain ⟨t, rfl⟩ := r4
    refine wpAny_getItem_list_slice ht'.isList (Heap.IsSliceOf.new _ vl vu _) pl pu (.int 1 t) (by decide) ?_ (by rw [List.size_toArray]; omega)
    rw [range_all]
    refine ⟨.ref _, _, I5.laid (t' := s4.toks) (o := .lst xs) (fun b ob q => Heap.get?_push_of_some _ q) (Nat.le_refl _) ?_, rfl, q _ (I5.hok.fresh (Nat.le_refl _))⟩
    exact ⟨hz, _, 0, r, Heap.get?_push_size _ rfl⟩
  · subst ey
    obtain ⟨t, rfl⟩ := r4
    refine wpAny_getItem_list_slice ht'.isList (Heap.IsSliceOf.new _ vl vu _) pl pu (.int (-1) t) (by decide) ?_ (by rw [List.size_toArray]; omega)
    rw [PySem.W.krv_pick]
    refine ⟨.ref _, _, I5.laid (t' := s4.toks) (o := .lst xs.reverse) (fun b ob q => Heap.get?_push_of_some _ q) (Nat.le_refl _) ?_, rfl, q _ (I5.hok.fresh (Nat.le_refl _))⟩
    exact ⟨by rw [List.length_reverse]; exact hz, _, 0, r.reverse, Heap.get?_push_size _ rfl⟩
theorem or_stpL {te ts : TE} {we ws : WE} (he : ER N te we) (hs : ER N ts ws) : OR' N (tStpL X.K te ts) (fun ρ M Q => we ρ M fun x ρ M => ws ρ M fun y ρ M => ∃ ds, view M x = .lst ds ∧ ((y = .int 1 ∧ Q (.lst ds) ρ M) ∨ (y = .int (-1) ∧ Q (.lst ds.reverse) ρ M))) := fun Z σ H F ρ M Q K S hw hk =>
  he Z σ H F ρ M _ _ S hw fun v H1 F1 d ρ1 M1 S1 l r q1 => hs Z σ H1 F1 ρ1 M1 _ _ S1 q1 fun u H2 F2 y ρ2 M2 S2 l2 r2 ⟨ds, e, q⟩ => by
    have rv := (r.mono l2).view S2
    rw [e] at rv
    obtain ⟨p, vs, rfl, h1, z, r'⟩ := rv
    refine ⟨p, vs, rfl, SqL.of h1, ?_⟩
    rcases q with ⟨rfl, q⟩ | ⟨rfl, q⟩
    · exact .inl ⟨rep_int.mp r2, fun a ha => hk a _ F2 (.L ds) ρ2 M2 (S2.newO ha ⟨_, upd_same, z, r'⟩) S2.len (l.trans l2) q⟩
    · exact .inr ⟨rep_int.mp r2, fun a ha => hk a _ F2 (.L ds.reverse) ρ2 M2 (S2.newO ha ⟨_, upd_same, by rw [List.length_reverse]; exact z, r'.reverse⟩) S2.len (l.trans l2) q⟩
/-! ### len(set(xs)), whole numbers -/
def tLenSetG (K : PySem.W.Frag) (ta : TE) : TE := fun σ H Q => ta σ H fun x H1 => ∃ (l : Addr) (ns : List Int), x = V.ref l ∧ SqL K H1 l (ns.map V.int) ∧ ns.length < 64 ∧ Q (.int ((ns.foldl step_dedup []).length : Nat)) H1
theorem firstMet_all (ns : List Int) : firstMet (fun i => ns.getD i 0) ns.length = ns.foldl step_dedup [] := by
  unfold firstMet
  congr 1
  apply List.ext_getElem (by simp)
  intro i h1 h2
  simp at h1
  simp [List.getD_eq_getElem?_getD, List.getElem?_eq_getElem h1]
theorem intsAre_v : ∀ {ns : List Int} {us : List Value}, Vals (ns.map V.int) us → IntsAre us ns
  | [], _, .nil => .nil
  | n :: ns, _, .cons r t => by
    obtain ⟨k, rfl⟩ := r
    exact .cons n k (intsAre_v t)
theorem pe_lenSetG {a : Expr} {ta : TE} {p p2 q pos : Pos} (hc : X.calm = true) (hg : Gl X "len") (hm : X.mg "len" = none) (hg2 : Gl X "set") (hm2 : X.mg "set" = none) (ha : PE X a ta)
    (na : starEach [a] X.env = (false, eval a X.env) :: starEach [] X.env) : PE X (.Call (.Name "len" p) [.Call (.Name "set" p2) [a] [] q] [] pos) (tLenSetG X.K ta) := by
  refine ⟨fun pins s σ H Q I h => ?_⟩
  refine Call_ (ld_blt I hg hm PySem.boot_len ?_)
  refine PyProof.Rows.callWith_builtin1 (PyProof.Rows.args_cons ?_ rfl) rfl rfl
  refine Call_ (ld_blt I hg2 hm2 PyProof.Rows.boot_set ?_)
  refine PyProof.Rows.callWith_type1 (PyProof.Rows.args_cons (thn (ha.run pins s σ H _ I h) fun v s1 ⟨x, H1, I1, r1, q1⟩ => PyProof.Rows.args_nil ?_) na) na rfl
  obtain ⟨l, ns, rfl, hq, h1, q1⟩ := q1
  cases r1
  obtain ⟨its, r, pl, hz⟩ := I1.list hq
  have hl : its.toArray.size = ns.length := by rw [List.size_toArray, ← r.length, List.length_map]
  refine call_set_list (I1.ok.hd hc) pl.isList (ns := ns) (by simpa using intsAre_v r) (by unfold scanBound; omega) fun h' tk hS hk => ?_
  rw [hl, firstMet_all] at hS
  have hlt : (ns.foldl step_dedup []).length ≤ ns.length := by
    have := firstMet_length_le (fun i => ns.getD i 0) ns.length
    rwa [firstMet_all] at this
  refine PyProof.Rows.args_nil ?_
  obtain ⟨o, es, ep, t, ho, hex, hd, _, _, _, hf, hn⟩ := hS
  have I2 : Inv X pins σ H1 { s1 with heap := h', toks := tk } := I1.kept fun b o e => hk b o (Heap.lt_size e) e
  exact call_len_set ho hex hd hf (by rw [hn] <;> omega) ⟨.int ((ns.foldl step_dedup []).length : Nat), H1, I2.tok _, ⟨_, by rw [hn]⟩, q1⟩
theorem er_lenSetG {ta : TE} {wa : WE} (ha : ER N ta wa) : ER N (tLenSetG X.K ta) (fun ρ M Q => wa ρ M fun x ρ M => ∃ ns : List Int, view M x = .lst (ns.map .int) ∧ ns.length < 64 ∧ Q (.int ((ns.foldl step_dedup []).length : Nat)) ρ M) := fun Z σ H F ρ M Q K S hw hk =>
  ha Z σ H F ρ M _ _ S hw fun v H1 F1 d ρ1 M1 S1 l r ⟨ns, e, z, q⟩ => by
    have rv := r.view S1
    rw [e] at rv
    obtain ⟨p, vs, rfl, h1, _, r'⟩ := rv
    exact ⟨p, ns, rfl, SqL.of (by rw [h1, reps_intv r']), z, hk _ H1 F1 _ ρ1 M1 S1 l (int_rep _) q⟩

/-! ### sep.join(xs) -/
def rJoin (K : PySem.W.Frag) : V → List V → Hp → VK → Prop := fun x xs H Q => ∃ a p, ∃ ys : List Str, x = .str a ∧ xs = [.ref p] ∧ (SqL K H p (ys.map V.str) ∨ SqT K H p (ys.map V.str)) ∧ (ys.map (·.length)).sum + ys.length * a.length ≤ 16777216 ∧ Q (.str (Txt.join a ys)) H
theorem er_join {to te : TE} {wo : WE} {ta : TA} {we : WE} (ho : ER N to wo) (he : ER N te we) : ER N (tM1 (rJoin X.K) to te) (fun ρ M Q => wo ρ M fun y ρ M => bmK .join (view M y) ∧ we ρ M fun z ρ M => bmP .join (view M y) [z] fun z => Q z ρ M) := fun Z σ H F ρ M Q K S hw hk =>
  ho Z σ H F ρ M _ _ S hw fun v H1 F1 d ρ1 M1 S1 l r ⟨hk1, q1⟩ => by
    obtain ⟨a, rfl⟩ : ∃ a, d = .str a := by
      cases d with
      | str a => exact ⟨a, rfl⟩
      | loc p =>
        exfalso
        have e2 : view M1 (.loc p) = match M1 p with | some (.co c) => c.tree | _ => .loc p := rfl
        rw [e2] at hk1
        cases e : M1 p with
        | none => rw [e] at hk1; exact hk1
        | some mo =>
          rw [e] at hk1
          cases mo with
          | co c => cases c <;> exact hk1
          | obj c fs => exact hk1
      | _ => exact (show False from hk1).elim
    refine ⟨⟨a, rep_str.mp r⟩, ?_⟩
    refine he Z σ H1 F1 ρ1 M1 _ _ S1 q1 fun u H2 F2 z ρ2 M2 S2 l2 r2 q2 => ?_
    cases z with
    | lst es =>
      obtain ⟨ys, rfl, hz, q⟩ := q2
      obtain ⟨p, vs, rfl, h1, _, r'⟩ := rep_lst.mp r2
      exact ⟨a, p, ys, rep_str.mp r, rfl, .inl (SqL.of (by rw [← reps_strv r']; exact S2.sub _ _ h1)), hz, hk _ H2 F2 _ ρ2 M2 S2 (l.trans l2) (rep_str.mpr rfl) q⟩
    | _ => exact (show False from q2).elim
/-! ### {k: v, ..}, the keys written texts -/
def DR (N : Nam) (trs : List (TE × TE)) (ks : List Key) (wr : WA) : Prop := ∀ (Z : Ety) (σ : L2.St) (H F : Hp) (ρ : Env) (M : Mem) (Q : List D → Env → Mem → Prop) (K : List (V × V) → Hp → Prop), Sim N Z F ρ M σ H → wr ρ M Q →
  (∀ vs H' F' ds ρ' M', Sim N Z F' ρ' M' σ H' → Le F F' → Reps N F' ds vs → ks.length = vs.length → Q ds ρ' M' → K ((ks.zip vs).map fun kv => (kV kv.1, kv.2)) H') → tPairs trs σ H K
theorem dr_nil : DR N [] [] (fun ρ M Q => Q [] ρ M) := fun Z σ H F ρ M Q K S hw hk => hk [] H F [] ρ M S (Le.refl _) (reps_nil.mpr rfl) rfl hw
theorem dr_cons {x : Str} {te : TE} {we : WE} {trs : List (TE × TE)} {ks : List Key} {wr : WA} (he : ER N te we) (hr : DR N trs ks wr) : DR N ((tC (.str x), te) :: trs) (.inr x :: ks) (fun ρ M Q => we ρ M fun y ρ M => wr ρ M fun ys ρ M => Q (y :: ys) ρ M) := fun Z σ H F ρ M Q K S hw hk =>
  he Z σ H F ρ M _ _ S hw fun v H1 F1 d ρ1 M1 S1 l1 r1 q1 => hr Z σ H1 F1 ρ1 M1 _ _ S1 q1 fun vs H2 F2 ds ρ2 M2 S2 l2 r2 z q2 =>
    hk (v :: vs) H2 F2 (d :: ds) ρ2 M2 S2 (l1.trans l2) (reps_cons.mpr ⟨v, vs, rfl, r1.mono l2, r2⟩) (by simp [z]) q2
theorem mergeK_new : ∀ {ks : List Key} {vs : List V} {acc : List (Key × V)}, ks.Nodup → (∀ k ∈ ks, k ∉ acc.map (·.1)) → mergeK acc (ks.zip vs) = acc ++ ks.zip vs
  | [], vs, acc, _, _ => by simp [mergeK]
  | k :: ks, [], acc, _, _ => by simp [mergeK]
  | k :: ks, v :: vs, acc, nd, h => by
    have e1 : valV acc k = none := by
      cases q : valV acc k with
      | none => rfl
      | some u => exact absurd (valV_in q) (h k (List.mem_cons_self ..))
    show mergeK (putK acc k v) (ks.zip vs) = _
    rw [putK_new _ e1, mergeK_new (List.nodup_cons.mp nd).2 fun j hj => ?_]
    · simp
    · rw [List.map_append, List.mem_append]
      rintro (z | z)
      · exact h j (List.mem_cons_of_mem _ hj) z
      · simp at z
        exact (List.nodup_cons.mp nd).1 (z ▸ hj)
theorem or_disp {trs : List (TE × TE)} {ks : List Key} {wr : WA} (h : DR N trs ks wr) : OR' N (tDisp trs) (fun ρ M Q => wr (hideD ρ) M fun ds ρ' M' => ρ' = hideD ρ ∧ (ks.length = ds.length ∧ ks.Nodup ∧ ks.length ≤ 15) ∧ Q (.dct ks ds) ρ M') := fun Z σ H F ρ M Q K S hw hk p hp => by
  have S1 := S.newO (c := .K [] []) (o := .dK []) hp ⟨[], upd_same, rfl, Nat.zero_le _, List.nodup_nil, reps_nil.mpr rfl⟩
  have S2 := S1.block S.len []
  refine h _ σ _ F _ M _ _ S2 hw fun vs H' F' ds ρ' M' S' l' r z ⟨e, ⟨z1, z2, z3⟩, q⟩ => ?_
  have S3 := S1.back S'
  have e8 : (ρ ++ [LV.own (.K [] [])])[ρ.length]? = some (.own (.K [] [])) := by simp
  obtain ⟨p', hp', ⟨us, h1, h2, h3⟩, _⟩ := S3.ownAt e8
  have ep : p' = p := by
    rw [S.len] at hp'
    simp at hp'
    exact hp'.symm
  subst ep
  have hz : (ks.zip vs).length ≤ sizeLine := by
    rw [List.length_zip, z, Nat.min_self, ← z, sizeLine_eq]
    omega
  refine ⟨by rw [h1]; rfl, ks.zip vs, rfl, by rw [List.length_zip, z, Nat.min_self, ← z]; exact z3, ?_⟩
  rw [mergeK_new z2 fun _ _ => by simp, List.nil_append]
  have S9 := S3.putO (c' := .K ks ds) (ho := .dK (ks.zip vs)) e8 hp' ⟨vs, upd_same, z, by rw [← z, sizeLine_eq]; omega, z2, r⟩
  have e9 : (ρ ++ [LV.own (.K [] [])]).set ρ.length (.own (.K ks ds)) = ρ ++ [.own (.K ks ds)] := by
    rw [List.set_append_right _ _ (Nat.le_refl _)]
    simp
  rw [e9] at S9
  exact hk p' _ F' (.K ks ds) ρ M' S9 S.len l' q
end
end DL

set_option Elab.async false
set_option linter.all false
set_option maxRecDepth 100000
namespace DL
open PySem L2 PySem.W PySem.Spec PyProof.Rows
section
variable {N : Nam}
theorem Sim.graft {Z Z' : Ety} {F F' H H' : Hp} {ρ ρ' : Env} {M M' : Mem} {σ σ' : L2.St} (S : Sim N Z F ρ M σ H) (S' : Sim N Z' F' ρ' M' σ' H') (l : Le F F') (vs : List Nat) : Sim N ⟨H', M', F'⟩ F' (hideD (wipeD ρ vs)) M' (L2.wipe σ vs) H' := by
  have S0 := S'.start
  refine ⟨S0.sub, S0.le0, S0.mf, S0.mem, S0.mnew, S0.fnew, S0.keep, S0.there, ⟨fun _ => none, fun _ _ e => (nomatch e), fun i lv e => ?_⟩, ?_⟩
  · unfold hideD at e
    rw [List.getElem?_map] at e
    cases q : (wipeD ρ vs)[i]? with
    | none => rw [q] at e; cases e
    | some lv' =>
      rw [q] at e
      have e : hideL lv' = lv := Option.some.inj e
      subst e
      rcases wipeD_get q with rfl | ⟨q1, q2⟩
      · trivial
      · cases lv' with
        | no => trivial
        | own c => trivial
        | val d =>
          obtain ⟨u, h1, h2⟩ := S.val q1
          refine ⟨u, ?_, h2.mono l⟩
          rw [wipe_get' q2, h1]
          rfl
  · unfold hideD
    rw [List.length_map]
    exact (S.wipe vs).len
theorem or_comp2 {wi wi1 : TI} {wI wI1 : WA} {g g1 : TG} {tg tg1 : T} {tt tt1 : TT} {wc wc1 : Env → Mem → (Bool → Env → Mem → Prop) → Prop} {te : TE} {we : WE} {own vs1 : List Nat} {K K1 : PySem.W.Frag} (hi : IR N wi wI) (hg : GR N K g tg) (hc : CR' N tt wc) (hi1 : IR N wi1 wI1) (hg1 : GR N K1 g1 tg1) (hc1 : CR' N tt1 wc1) (he : ER N te we) (hs : ∀ i ∈ slotsT tg, i ∈ own) (hs1 : ∀ i ∈ slotsT tg1, i ∈ vs1) :
    OR' N (tLc2 wi g tt wi1 g1 tt1 te own vs1) (fun ρ M Q => wI ρ M fun ds ρ M => compM (fun d acc M K => bindP tg d (hideD (wipeD ρ own)) fun ρ1 => wc ρ1 M fun b ρ2 M1 => ρ2 = ρ1 ∧
      iteN (Bool.toNat b) (wI1 ρ1 M1 fun es ρ3 M2 => ρ3 = ρ1 ∧ acc.length + es.length ≤ sizeLine ∧ compL (fun e M K' => bindP tg1 e (hideD (wipeD ρ1 vs1)) fun ρ4 => wc1 ρ4 M fun b ρ5 M3 => ρ5 = ρ4 ∧
        iteN (Bool.toNat b) (we ρ4 M3 fun x ρ6 M4 => ρ6 = ρ4 ∧ K' (some x) M4) (K' none M3)) es acc M2 K) (K acc M1)) ds [] M fun es M => Q (.lst es) ρ M) := by
  intro Z σ H F ρ M Q KK S hw hk
  refine hi Z σ H F ρ M _ _ S hw fun J H1 F1 ds ρ0 M1 S1 l1 ⟨hz, G, Y, w, hG, hY⟩ q1 D hD => ?_
  generalize hbd : (fun (d : DL.D) (acc : List DL.D) (M : Mem) (K : List DL.D → Mem → Prop) => bindP tg d (hideD (wipeD ρ0 own)) fun ρ1 => wc ρ1 M fun b ρ2 M1 => ρ2 = ρ1 ∧
      iteN (Bool.toNat b) (wI1 ρ1 M1 fun es ρ3 M2 => ρ3 = ρ1 ∧ acc.length + es.length ≤ sizeLine ∧ compL (fun e M K' => bindP tg1 e (hideD (wipeD ρ1 vs1)) fun ρ4 => wc1 ρ4 M fun b ρ5 M3 => ρ5 = ρ4 ∧
        iteN (Bool.toNat b) (we ρ4 M3 fun x ρ6 M4 => ρ6 = ρ4 ∧ K' (some x) M4) (K' none M3)) es acc M2 K) (K acc M1)) = bd at q1
  refine ⟨fun i m H => m = ds.length - i ∧ i ≤ ds.length ∧ ∃ F' M' acc, Sim N Z F' (ρ0 ++ [.own (.L acc)]) M' (σ ++ [some (.ref D)]) H ∧ Le F1 F' ∧ compM bd (ds.drop i) acc M' fun es M => Q (.lst es) ρ0 M,
    ⟨ds.length, by simp, Nat.zero_le _, F1, M1, [], S1.newO (c := .L []) (o := .lst []) hD ⟨[], upd_same, Nat.zero_le _, reps_nil.mpr rfl⟩, Le.refl _, q1⟩, ?_⟩
  rintro i m H2 ⟨rfl, hi', F2, M2, acc, S2, l2, q2⟩
  have hG2 := hG Z F2 H2 _ M2 _ S2 l2
  by_cases hlt : i < ds.length
  · refine .inr ⟨w.goes i H2 hlt hG2, fun H => ∃ F' M' acc, Sim N Z F' (ρ0 ++ [.own (.L acc)]) M' (σ ++ [some (.ref D)]) H ∧ Le F1 F' ∧ compM bd (ds.drop (i + 1)) acc M' fun es M => Q (.lst es) ρ0 M, fun H' p' => ⟨ds.length - (i + 1), by omega, rfl, hlt, p'⟩, fun x H3 y => ?_⟩
    obtain ⟨F3, d, hd, S3, l3, r3⟩ := hY Z F2 H2 _ M2 _ i x H3 S2 l2 hlt (w.yields i H2 x H3 hlt hG2 y)
    have ed : ds.drop i = d :: ds.drop (i + 1) := by
      obtain ⟨h1, h2⟩ := List.getElem?_eq_some_iff.mp hd
      rw [List.drop_eq_getElem_cons h1, h2]
    rw [ed, compM_consE] at q2
    have q2 : bd d acc M2 fun acc' M' => compM bd (ds.drop (i + 1)) acc' M' fun es M => Q (.lst es) ρ0 M := q2
    generalize hKd : (fun acc' M' => compM bd (ds.drop (i + 1)) acc' M' fun es M => Q (.lst es) ρ0 M) = Kd at q2
    have hKd' : ∀ a m, Kd a m → compM bd (ds.drop (i + 1)) a m fun es M => Q (.lst es) ρ0 M := fun a m z => by rw [← hKd] at z; exact z
    rw [← hbd] at q2
    have q2 : bindP tg d (hideD (wipeD ρ0 own)) _ := q2
    have S4 := S3.block S1.len own
    refine hg _ _ H3 F3 _ M2 d x _ _ S4 r3 q2 fun σ5 ρ5 S5 k5 q5 => ⟨?_, ?_⟩
    · rw [k5 own hs, wipe_wipe]
    · refine hc _ σ5 H3 F3 ρ5 M2 _ _ S5 q5 fun b H6 F6 ρ6 M6 S6 l6 ⟨e6, q6⟩ => ?_
      subst e6
      cases b with
      | false => exact ⟨F6, M6, acc, S3.back S6, (l2.trans l3).trans l6, hKd' _ _ q6⟩
      | true =>
        refine hi1 _ σ5 H6 F6 ρ6 M6 _ _ S6 q6 fun J1 H7 F7 es ρ7 M7 S7 l7 ⟨hz7, G7, Y7, w7, hG7, hY7⟩ ⟨e7, b7, q7⟩ => ?_
        subst e7
        generalize hbe : (fun (e : DL.D) (M : Mem) (K' : Option DL.D → Mem → Prop) => bindP tg1 e (hideD (wipeD ρ7 vs1)) fun ρ4 => wc1 ρ4 M fun b ρ5 M3 => ρ5 = ρ4 ∧
          iteN (Bool.toNat b) (we ρ4 M3 fun x ρ6 M4 => ρ6 = ρ4 ∧ K' (some x) M4) (K' none M3)) = be at q7
        have Sf := S3.back S7
        refine ⟨fun j k H => k = es.length - j ∧ j ≤ es.length ∧ ∃ F' M' acc', Sim N Z F' (ρ0 ++ [.own (.L acc')]) M' (σ ++ [some (.ref D)]) H ∧ Le F7 F' ∧ acc'.length ≤ acc.length + j ∧ compL be (es.drop j) acc' M' Kd,
          ⟨es.length, by simp, Nat.zero_le _, F7, M7, acc, Sf, Le.refl _, Nat.le_refl _, q7⟩, ?_⟩
        rintro j k H8 ⟨rfl, hj, F8, M8, acc8, S8, l8, z8, q8⟩
        have hG8 := hG7 Z F8 H8 _ M8 _ S8 l8
        have ll : Le F1 F8 := (((l2.trans l3).trans l6).trans l7).trans l8
        by_cases hlj : j < es.length
        · refine .inr ⟨w7.goes j H8 hlj hG8, fun H => ∃ F' M' acc', Sim N Z F' (ρ0 ++ [.own (.L acc')]) M' (σ ++ [some (.ref D)]) H ∧ Le F7 F' ∧ acc'.length ≤ acc.length + (j + 1) ∧ compL be (es.drop (j + 1)) acc' M' Kd, fun H' p' => ⟨es.length - (j + 1), by omega, rfl, hlj, p'⟩, fun x9 H9 y9 => ?_⟩
          obtain ⟨F9, e9, he9, S9, l9, r9⟩ := hY7 Z F8 H8 _ M8 _ j x9 H9 S8 l8 hlj (w7.yields j H8 x9 H9 hlj hG8 y9)
          have ee : es.drop j = e9 :: es.drop (j + 1) := by
            obtain ⟨h1, h2⟩ := List.getElem?_eq_some_iff.mp he9
            rw [List.drop_eq_getElem_cons h1, h2]
          rw [ee, compL_consE] at q8
          have q8 : be e9 M8 fun r M' => compL be (es.drop (j + 1)) (match r with | some x => acc8 ++ [x] | none => acc8) M' Kd := q8
          generalize hKe : (fun r M' => compL be (es.drop (j + 1)) (match r with | some x => acc8 ++ [x] | none => acc8) M' Kd) = Ke at q8
          rw [← hbe] at q8
          have q8 : bindP tg1 e9 (hideD (wipeD ρ7 vs1)) _ := q8
          have SA := S7.graft S9 (l8.trans l9) vs1
          refine hg1 _ _ H9 F9 _ M8 e9 x9 _ _ SA r9 q8 fun σA ρA SB kA qA => ⟨?_, ?_⟩
          · rw [kA vs1 hs1, wipe_wipe]
          · refine hc1 _ σA H9 F9 ρA M8 _ _ SB qA fun b HB FB ρB MB SC lB ⟨eB, qB⟩ => ?_
            subst eB
            cases b with
            | false =>
              have qB : Ke none MB := qB
              rw [← hKe] at qB
              exact ⟨FB, MB, acc8, S9.back SC, (l8.trans l9).trans lB, by omega, qB⟩
            | true =>
              refine he _ σA HB FB ρB MB _ _ SC qB fun v HC FC dC ρC MC SD lC rC ⟨eC, qC⟩ => ?_
              have qC : Ke (some dC) MC := qC
              rw [← hKe] at qC
              have SE := S9.back SD
              have e8 : (ρ0 ++ [LV.own (.L acc8)])[ρ0.length]? = some (.own (.L acc8)) := by simp
              obtain ⟨p', hp', ⟨vs, h1, h2, h3⟩, _⟩ := SE.ownAt e8
              have ep : p' = D := by
                rw [S1.len] at hp'
                simp at hp'
                exact hp'.symm
              subst ep
              have hl : vs.length < sizeLine := by rw [h3.length]; omega
              refine ⟨vs, h1, hl, FC, MC, acc8 ++ [dC], ?_, ((l8.trans l9).trans lB).trans lC, by rw [List.length_append, List.length_singleton]; omega, qC⟩
              have SG := SE.putO (c' := .L (acc8 ++ [dC])) (ho := .lst (vs ++ [v])) e8 hp' ⟨_, upd_same, by rw [List.length_append]; exact hl, h3.append (.one rC)⟩
              have e9' : (ρ0 ++ [LV.own (.L acc8)]).set ρ0.length (.own (.L (acc8 ++ [dC]))) = ρ0 ++ [.own (.L (acc8 ++ [dC]))] := by
                rw [List.set_append_right _ _ (Nat.le_refl _)]
                simp
              rw [e9'] at SG
              exact SG
        · have e : j = es.length := by omega
          subst e
          rw [List.drop_length, compL_nilE] at q8
          exact .inl ⟨w7.stops H8 hG8, F8, M8, acc8, S8, ll, hKd' _ _ q8⟩
  · have e : i = ds.length := by omega
    subst e
    rw [List.drop_length, compM_nilE] at q2
    exact .inl ⟨w.stops H2 hG2, hk D H2 F2 (.L acc) ρ0 M2 S2 S1.len (l1.trans l2) q2⟩
end
end DL

set_option Elab.async false
set_option linter.all false
set_option maxRecDepth 100000
namespace DL
open PySem L2 PySem.W
section
variable {b : Bz} {A : Around} {κ : Kt} {pos pos' p p1 p2 p3 apos cpos tpos spos py : Pos} {e e1 e2 e3 c o tg iter elt value tg1 iter1 : Expr} {es rest ifs ifs1 : List Expr} {T0 T1 T2 T3 Tr Tg Ti Tc To Te Tg1 Ti1 Tc1 : DL.T}
theorem s_setM (i : Nat) {x : Str} (h1 : κ.ns[i]? = some x) (h2 : locB κ x = true) (hs : ∀ (env : PySem.Env), swapsWith e1 (some (.Name x pos')) pos.line env = pure false) (h : HO b A κ e1 T1) : HS b A κ (.Assign [.Name x pos'] e1 pos) (.setM i T1) := fun X c => by
  obtain ⟨t1, p1, r1⟩ := h X c
  exact ⟨_, ps_set c.nd (by rw [c.n]; exact h1) (c.loc h2).1 p1 (hs _) (c.loc h2).2, sr_setM r1⟩
theorem s_retM (h : HO b A κ e1 T1) : HS b A κ (.Return (some e1) pos) (.retM T1) := fun X c => by
  obtain ⟨t1, p1, r1⟩ := h X c
  exact ⟨_, ps_ret p1, sr_retM r1⟩
theorem o_stp (ht : ∀ (o r : Value), letTemporaryGo e1 o r = pure ()) (h1 : HE b A κ e1 T1) (h2 : HE b A κ e2 T2) : HO b A κ (.Subscript e1 (.Slice none none (some e2) p3) pos) (.stp T1 T2) := fun X c => by
  obtain ⟨t1, p1, r1⟩ := h1 X c
  obtain ⟨t2, p2, r2⟩ := h2 X c
  exact ⟨_, pe_stpL p1 p2 (fun _ => rfl) ht, or_stpL r1 r2⟩
theorem h_lenSet (hm : b.mg "len" = none) (hg : glB κ "len" = true) (hm2 : b.mg "set" = none) (hg2 : glB κ "set" = true) (hp : plainE e1 = true) (h1 : HE b A κ e1 T1) : HE b A κ (.Call (.Name "len" p) [.Call (.Name "set" p2) [e1] [] p3] [] pos) (.lenSet T1) := fun X c => by
  obtain ⟨t1, p1, r1⟩ := h1 X c
  exact ⟨_, pe_lenSetG c.c (c.gl hg) (by rw [c.m]; exact hm) (c.gl hg2) (by rw [c.m]; exact hm2) p1 (star_cons _ hp), er_lenSetG r1⟩
theorem h_join (hb : ∀ env : PySem.Env, attributeBase o "join" env (eval o env) = eval o env) (hl : (apos.endLine == pos.line) = true) (hp : plainE e1 = true) (h1 : HE b A κ o To) (h2 : HE b A κ e1 T1) : HE b A κ (.Call (.Attribute o "join" apos) [e1] [] pos) (.bm .join To (.cons T1 .nil)) := fun X c => by
  obtain ⟨t1, p1, r1⟩ := h1 X c
  obtain ⟨t2, p2, r2⟩ := h2 X c
  exact ⟨_, pe_join p1 p2 (star_cons _ hp) (hb _) hl, er_join (ta := tNil) r1 r2⟩
/-- the pairs of a display -/
def HD (b : Bz) (A : Around) (κ : Kt) (pos : Pos) (keys : List (Option Expr)) (values : List Expr) (ks : List Key) (T0 : DL.T) : Prop := ∀ X, Cok b A κ X → ∃ trs, PPs X pos keys values trs ∧ DR b.N trs ks (wpA b.B T0)
theorem d_nil : HD b A κ pos [] [] [] .nil := fun X c => ⟨_, pps_nil, dr_nil⟩
theorem d_cons {x : Str} {j} {keys : List (Option Expr)} {values : List Expr} {ks : List Key} (h1 : HE b A κ e1 T1) (h2 : HD b A κ pos keys values ks T2) : HD b A κ pos (some (.Constant (.str x) j p) :: keys) (e1 :: values) (.inr x :: ks) (.cons T1 T2) := fun X c => by
  obtain ⟨t1, p1, r1⟩ := h1 X c
  obtain ⟨t2, p2, r2⟩ := h2 X c
  exact ⟨_, pps_cons pe_str p1 p2, dr_cons r1 r2⟩
theorem o_disp {keys : List (Option Expr)} {values : List Expr} {ks : List Key} (h1 : HD b A κ pos keys values ks T1) (hall : keys.all (·.isSome) = true) (hl : keys.length = values.length) (h0 : keys ≠ []) (h15 : keys.length ≤ 15) : HO b A κ (.Dict keys values pos) (.disp ks T1) := fun X c => by
  obtain ⟨t1, p1, r1⟩ := h1 X c
  exact ⟨_, pe_disp p1 hall hl h0 h15, or_disp r1⟩
theorem HI.uni (h : HI b A κ tg e T0) : ∃ te, (∀ X, Cok b A κ X → PI X tg e te) ∧ IR b.N te (wpI b.B T0) :=
  ⟨fun σ H Q => ∀ X, Cok b A κ X → ∀ t, PI X tg e t → IR b.N t (wpI b.B T0) → t σ H Q, fun X c => ⟨fun pins s σ H Q I q => by
    obtain ⟨t, p, r⟩ := h X c
    exact p.run pins s σ H Q I (q X c t p r)⟩, fun Z σ H F ρ M Q K S hw hk X c t p r => r Z σ H F ρ M Q K S hw hk⟩
structure CompOk2 (κ : Kt) (scope : Scope) (own : List (Str × Nat)) (vs1 : List Nat) (Tg Tg1 : DL.T) : Prop where
  blk : blkC κ.ns κ.sc scope own = true
  slots : ∀ i ∈ slotsT Tg, i ∈ own.map (·.2)
  slots1 : ∀ i ∈ slotsT Tg1, i ∈ vs1
  sub : ∀ i ∈ vs1, i ∈ own.map (·.2)
theorem o_comp2 {scope : Scope} (own : List (Str × Nat)) (vs1 : List Nat) (ok : CompOk2 κ scope own vs1 Tg Tg1) (hf : ∀ (env : PySem.Env) x, foldedSetIterable iter env x = pure x) (hf1 : ∀ (env : PySem.Env) x, foldedSetIterable iter1 env x = pure x) (hi : HI b A κ tg iter Ti) (hg : HG b A (κ.sub scope) tg Tg) (hc : HC b A (κ.sub scope) ifs Tc)
    (hi1 : HI b A (κ.sub scope) tg1 iter1 Ti1) (hg1 : HG b A (κ.sub scope) tg1 Tg1) (hc1 : HC b A (κ.sub scope) ifs1 Tc1) (he : HE b A (κ.sub scope) elt Te) :
    HO b A κ (.ListComp elt [⟨tg, iter, ifs, 0⟩, ⟨tg1, iter1, ifs1, 0⟩] scope pos) (.comp2 (own.map (·.2)) vs1 Tg Ti Tc Tg1 Ti1 Tc1 Te) := fun X c => by
  obtain ⟨wi, p1, r1⟩ := hi X c
  obtain ⟨g, p2, r2⟩ := hg.uni
  obtain ⟨tt, p3, r3⟩ := hc.uni
  obtain ⟨te, p4, r4⟩ := he.uni
  obtain ⟨wi1, p5, r5⟩ := hi1.uni
  obtain ⟨g1, p6, r6⟩ := hg1.uni
  obtain ⟨tt1, p7, r7⟩ := hc1.uni
  exact ⟨_, pe_lc2 c.c c.nd p1 (by rw [c.n, c.s]; exact blkOk_by ok.blk) ok.sub (fun s H C cl fp => p2 _ (c.blk scope s H C cl fp)) (fun s H C cl fp => p3 _ (c.blk scope s H C cl fp)) (fun s H C cl fp => p5 _ (c.blk scope s H C cl fp)) (fun s H C cl fp => p6 _ (c.blk scope s H C cl fp)) (fun s H C cl fp => p7 _ (c.blk scope s H C cl fp)) (fun s H C cl fp => p4 _ (c.blk scope s H C cl fp)) (hf X.env) hf1,
    or_comp2 r1 r2 r3 r5 r6 r7 r4 ok.slots ok.slots1⟩
theorem set2 {X : Cx} {scope : Scope} (i : Nat) {x : Str} (own : List (Str × Nat)) (vs1 : List Nat) (c : Cok b A κ X) (h1 : κ.ns[i]? = some x) (h2 : lclB κ x = true) (hk : κ.sc.kind = .function) (hl : (py.line == pos.line) = true) (ha : (scope.names.any fun (n, k) => n == x && (k == .local || k == .cell)) = false)
    (ok : CompOk2 κ scope own vs1 Tg Tg1) (hf : ∀ (env : PySem.Env) x, foldedSetIterable iter env x = pure x) (hf1 : ∀ (env : PySem.Env) x, foldedSetIterable iter1 env x = pure x) (hi : HI b A κ tg iter Ti) (hg : HG b A (κ.sub scope) tg Tg) (hc : HC b A (κ.sub scope) ifs Tc)
    (hi1 : HI b A (κ.sub scope) tg1 iter1 Ti1) (hg1 : HG b A (κ.sub scope) tg1 Tg1) (hc1 : HC b A (κ.sub scope) ifs1 Tc1) (he : HE b A (κ.sub scope) elt Te) :
    ∃ t, PS X (.Assign [.Name x py] (.ListComp elt [⟨tg, iter, ifs, 0⟩, ⟨tg1, iter1, ifs1, 0⟩] scope pos) spos) (tAsg t (gName i)) ∧ OR' b.N t (wpE b.B (.comp2 (own.map (·.2)) vs1 Tg Ti Tc Tg1 Ti1 Tc1 Te)) := by
  obtain ⟨wi, p1, r1⟩ := hi X c
  obtain ⟨g, p2, r2⟩ := hg.uni
  obtain ⟨tt, p3, r3⟩ := hc.uni
  obtain ⟨te, p4, r4⟩ := he.uni
  obtain ⟨wi1, p5, r5⟩ := hi1.uni
  obtain ⟨g1, p6, r6⟩ := hg1.uni
  obtain ⟨tt1, p7, r7⟩ := hc1.uni
  exact ⟨_, ps_setLc2 c.c c.nd (by rw [c.n]; exact h1) (c.lcl h2) (sw_true (by rw [c.s]; exact hk) (c.lcl h2) hl ha) p1 (by rw [c.n, c.s]; exact blkOk_by ok.blk) ok.sub (fun s H C cl fp => p2 _ (c.blk scope s H C cl fp)) (fun s H C cl fp => p3 _ (c.blk scope s H C cl fp)) (fun s H C cl fp => p5 _ (c.blk scope s H C cl fp)) (fun s H C cl fp => p6 _ (c.blk scope s H C cl fp)) (fun s H C cl fp => p7 _ (c.blk scope s H C cl fp)) (fun s H C cl fp => p4 _ (c.blk scope s H C cl fp)) (hf X.env) hf1,
    or_comp2 r1 r2 r3 r5 r6 r7 r4 ok.slots ok.slots1⟩
theorem s_setC2 {scope : Scope} (i : Nat) {x : Str} (own : List (Str × Nat)) (vs1 : List Nat) (h1 : κ.ns[i]? = some x) (h2 : lclB κ x = true) (hk : κ.sc.kind = .function) (hl : (py.line == pos.line) = true) (ha : (scope.names.any fun (n, k) => n == x && (k == .local || k == .cell)) = false)
    (ok : CompOk2 κ scope own vs1 Tg Tg1) (hf : ∀ (env : PySem.Env) x, foldedSetIterable iter env x = pure x) (hf1 : ∀ (env : PySem.Env) x, foldedSetIterable iter1 env x = pure x) (hi : HI b A κ tg iter Ti) (hg : HG b A (κ.sub scope) tg Tg) (hc : HC b A (κ.sub scope) ifs Tc)
    (hi1 : HI b A (κ.sub scope) tg1 iter1 Ti1) (hg1 : HG b A (κ.sub scope) tg1 Tg1) (hc1 : HC b A (κ.sub scope) ifs1 Tc1) (he : HE b A (κ.sub scope) elt Te) :
    HS b A κ (.Assign [.Name x py] (.ListComp elt [⟨tg, iter, ifs, 0⟩, ⟨tg1, iter1, ifs1, 0⟩] scope pos) spos) (.set i (.comp2 (own.map (·.2)) vs1 Tg Ti Tc Tg1 Ti1 Tc1 Te)) := fun X c => by
  obtain ⟨t, q1, q2⟩ := set2 (spos := spos) i own vs1 c h1 h2 hk hl ha ok hf hf1 hi hg hc hi1 hg1 hc1 he
  exact ⟨_, q1, sr_set q2.er⟩
end
end DL

set_option Elab.async false
set_option linter.all false
set_option maxRecDepth 100000
namespace DL
open PySem L2 PySem.W PySem.Spec PyProof.Rows PySem.Calls
section
variable {X : Cx} {pins : List (Addr × Obj)} {σ : L2.St} {H : Hp} {s : Shared}
theorem Inv.untrackN {a : Addr} {u0 : L2.HO} (hu0 : (∀ xs, u0 ≠ .tup xs) ∧ (∀ o u, u0 ≠ .frz o u) ∧ (∀ ps, u0 ≠ .tbl ps) ∧ (∀ c, u0 ≠ .own c)) (I : L2.Inv X pins σ H s) (ha : H a = some u0) (n0 : X.s_0.heap.get? a = none) :
    ∃ G : Heap, (∀ b o, G.get? b = some o → s.heap.get? b = some o) ∧ (∀ b o, b ≠ a → s.heap.get? b = some o → G.get? b = some o) ∧ G.get? a = none ∧ L2.Inv X pins σ (delH H a) { s with heap := G } := by
  obtain ⟨G, g1, g2⟩ := L2.restrict s.heap fun b => decide (b ≠ a)
  have gk : ∀ b o, b ≠ a → s.heap.get? b = some o → G.get? b = some o := fun b o hb e => by
    rw [g1 b (decide_eq_true hb)]
    exact e
  have ga : G.get? a = none := g2 a (decide_eq_false fun z => z rfl)
  have gs : ∀ b o, G.get? b = some o → s.heap.get? b = some o := fun b o e => by
    by_cases hb : b = a
    · rw [hb, ga] at e
      cases e
    · rw [← g1 b (decide_eq_true hb)]
      exact e
  have ne0 : ∀ b o, X.s_0.heap.get? b = some o → b ≠ a := fun b o e z => by
    rw [z, n0] at e
    cases e
  have neN : ∀ b, H b = none → b ≠ a := fun b e z => by
    rw [z, ha] at e
    cases e
  have neT : ∀ b xs, H b = some (.tup xs) → b ≠ a := fun b xs e z => by
    rw [z, ha] at e
    exact hu0.1 xs (Option.some.inj e)
  have neF : ∀ b o u, H b = some (.frz o u) → b ≠ a := fun b o u e z => by
    rw [z, ha] at e
    exact hu0.2.1 o u (Option.some.inj e)
  have neB : ∀ b ps, H b = some (.tbl ps) → b ≠ a := fun b ps e z => by
    rw [z, ha] at e
    exact hu0.2.2.1 ps (Option.some.inj e)
  have neO : ∀ b c, H b = some (.own c) → b ≠ a := fun b c e z => by
    rw [z, ha] at e
    exact hu0.2.2.2 c (Option.some.inj e)
  have cellK : ∀ x c, X.env.cells.lookup x = some c → ∀ v, s.heap.IsCell c v → G.IsCell c v := fun x c e v ⟨o, ho, hd⟩ => ⟨o, gk c o (neN c (I.freeC x c e)) ho, hd⟩
  refine ⟨G, gs, gk, ga, ⟨I.ok, I.os, I.bare, ⟨fun b o e n hb hq => ?_, fun b o e n hb hq => ?_, fun b o e n hq => ?_, fun b o e hq => ?_, fun b xs e => ?_, fun b o u e => ?_, fun b ps e => ?_⟩, ?_, fun x c e => ?_, ?_, fun x c e => ?_, fun p hp => ?_, fun b u e => ?_, I.len⟩⟩
  · exact gk b o (ne0 b o e) (I.base.keep b o e n hb hq)
  · obtain ⟨sl, q⟩ := I.base.slot b o e n hb hq
    exact ⟨sl, gk b _ (ne0 b o e) q⟩
  · rw [delH_ne (ne0 b o e)]
    exact I.base.free b o e n hq
  · obtain ⟨o', q⟩ := I.base.there b o e hq
    exact ⟨o', gk b o' (ne0 b o e) q⟩
  · have q := I.base.tups b xs e
    rw [delH_ne (neT b xs q)]
    exact q
  · have q := I.base.frzs b o u e
    rw [delH_ne (neF b o u q)]
    exact q
  · obtain ⟨m, q⟩ := I.base.tbls b ps e
    exact ⟨m, by rw [delH_ne (neB b _ q)]; exact q⟩
  · obtain ⟨m, ⟨o, es, ep, ho, r⟩, hl⟩ := I.loc
    refine ⟨m, ⟨o, es, ep, gk _ _ (neN _ I.free) ho, r⟩, fun i x v e1 e2 e3 => ?_⟩
    obtain ⟨u, r', l⟩ := hl i x v e1 e2 e3
    refine ⟨u, r', ?_⟩
    rcases l with l | ⟨k, c, ec, z⟩
    · exact .inl l
    · exact .inr ⟨k, c, ec, cellK x c ec _ z⟩
  · obtain ⟨v, z⟩ := I.cell x c e
    exact ⟨v, cellK x c e v z⟩
  · rw [delH_ne (neN _ I.free)]
    exact I.free
  · rw [delH_ne (neN _ (I.freeC x c e))]
    exact I.freeC x c e
  · obtain ⟨e, n, ne, nf, d⟩ := I.pin p hp
    exact ⟨gk _ _ (neN _ n) e, by rw [delH_ne (neN _ n)]; exact n, ne, nf, d⟩
  · have hb : b ≠ a := fun z => by
      rw [z, delH_same] at e
      cases e
    rw [delH_ne hb] at e
    refine (I.hok b u e).stay (fun c v hc q => gk c v ?_ q) (fun c q => ?_) fun c xs q => ?_
    · rcases hc with z | z
      · rw [z]
        exact hb
      · exact neO _ _ z
    · rw [delH_ne (neO c b q)]
      exact q
    · rw [delH_ne (neT c xs q)]
      exact q
/-- an object that stands just so -/
def exO (a : Addr) (o : Obj) : L2.HO := .ext fun h => h.get? a = some o
theorem exO_ok {P : Program} {w : World} {H : Hp} {h : Heap} {a : Addr} {o : Obj} (e : h.get? a = some o) : ObjOk P w H h a (exO a o) := ⟨e, ⟨o, e⟩, fun h1 h2 q k => k _ q⟩
theorem Inv.ex {a : Addr} {o : Obj} (I : L2.Inv X pins σ H s) (e : H a = some (exO a o)) : s.heap.get? a = some o := (I.hok a _ e).1
/-- a call of a def from within two built-ins -/
theorem run_in2 {k : Nat} {f : Addr} {fd : FuncData} {ps : List Str} {sp : Sp} {ds : List Value} {dvs : List V} {Q : VK} {us : List Value} {vs : List V} (F : FnOk X.prog X.w X.K X.mg X.base CX0 k f fd ps sp) (hr : Room (k + 2) X.A) (hb : Binds X.K fd ps ds) (hd : Vals dvs ds)
    (I : L2.Inv X pins σ H s) (r : Vals vs us) (h : sp (vs ++ dvs) H Q E0) : wpAny (model X.prog X.w) X.A.in1.in1 (call (.ref f) us) (EP X pins σ Q) (fun _ _ => False) s := by
  have r2 : Vals (vs ++ dvs) (us ++ ds) := r.append hd
  have hl : (us ++ ds).length = ps.length := by rw [← r2.length]; exact F.len _ _ _ _ h
  have hr2 : Room k X.A.in1.in1 := (show Room (k + 1) X.A.in1 from Room.in1 hr).in1
  refine wpAny_call (codeAny_mono (F.run X.A.in1.in1 X.stack s H ⟨us, []⟩ (us ++ ds) (vs ++ dvs) Q E0 hr2 I.env0.in1.in1 (hb s us I.kIn hl) r2 h) fun r s' hq => ?_)
  cases r with
  | error e => exact hq
  | ok fl =>
    cases fl with
    | ret u => exact I.after hq
    | next => exact False.elim hq
    | brk => exact False.elim hq
    | cont => exact False.elim hq
end
section
variable {N : Nam}
theorem Sim.touch {Z : Ety} {F H : Hp} {ρ : Env} {M : Mem} {σ : L2.St} (S : Sim N Z F (hideD ρ) M σ H) {p : Addr} {o : L2.HO} (hF : F p = none) (hM : M p = none) (hZ : Z.H_0 p = none) : Sim N Z F (hideD ρ) M σ (upd H p o) := by
  have k : ∀ b u, b ≠ p → H b = some u → upd H p o b = some u := fun b u hb e => by rw [upd_ne hb]; exact e
  refine ⟨fun b u e => k b u (fun z => by rw [z, hF] at e; cases e) (S.sub b u e), S.le0, S.mf, fun b m e => ?_, S.mnew, S.fnew, fun b u e z => k b u (fun y => by rw [y, hZ] at e; cases e) (S.keep b u e z), fun b u e => ?_, ⟨fun _ => none, fun _ _ e => (nomatch e), fun i lv e => ?_⟩, S.len⟩
  · have hb : b ≠ p := fun y => by rw [y, hM] at e; cases e
    exact (S.mem b m e).mono (Le.refl _) fun u q => k b u hb q
  · obtain ⟨u', q⟩ := S.there b u e
    by_cases hb : b = p
    · exact ⟨o, by rw [hb, upd_same]⟩
    · exact ⟨u', k b u' hb q⟩
  · unfold hideD at e
    rw [List.getElem?_map] at e
    cases q : ρ[i]? with
    | none => rw [q] at e; cases e
    | some lv' =>
      rw [q] at e
      have e : hideL lv' = lv := Option.some.inj e
      subst e
      cases lv' with
      | no => trivial
      | own c => trivial
      | val d =>
        have e1 : (hideD ρ)[i]? = some (.val d) := by unfold hideD; rw [List.getElem?_map, q]; rfl
        obtain ⟨u, h1, h2⟩ := S.val e1
        exact ⟨u, by rw [h1]; rfl, h2⟩
theorem Sim.del {Z : Ety} {F H : Hp} {ρ : Env} {M : Mem} {σ : L2.St} (S : Sim N Z F (hideD ρ) M σ H) {p : Addr} (hF : F p = none) (hM : M p = none) (hZ : Z.H_0 p = none) : Sim N Z F (hideD ρ) M σ (delH H p) := by
  have k : ∀ b u, b ≠ p → H b = some u → delH H p b = some u := fun b u hb e => by rw [delH_ne hb]; exact e
  refine ⟨fun b u e => k b u (fun z => by rw [z, hF] at e; cases e) (S.sub b u e), S.le0, S.mf, fun b m e => ?_, S.mnew, S.fnew, fun b u e z => k b u (fun y => by rw [y, hZ] at e; cases e) (S.keep b u e z), fun b u e => ?_, ⟨fun _ => none, fun _ _ e => (nomatch e), fun i lv e => ?_⟩, S.len⟩
  · have hb : b ≠ p := fun y => by rw [y, hM] at e; cases e
    exact (S.mem b m e).mono (Le.refl _) fun u q => k b u hb q
  · obtain ⟨u', q⟩ := S.there b u e
    have hb : b ≠ p := fun y => by rw [y, hZ] at e; cases e
    exact ⟨u', k b u' hb q⟩
  · unfold hideD at e
    rw [List.getElem?_map] at e
    cases q : ρ[i]? with
    | none => rw [q] at e; cases e
    | some lv' =>
      rw [q] at e
      have e : hideL lv' = lv := Option.some.inj e
      subst e
      cases lv' with
      | no => trivial
      | own c => trivial
      | val d =>
        have e1 : (hideD ρ)[i]? = some (.val d) := by unfold hideD; rw [List.getElem?_map, q]; rfl
        obtain ⟨u, h1, h2⟩ := S.val e1
        exact ⟨u, by rw [h1]; rfl, h2⟩
end
end DL

set_option Elab.async false
set_option linter.all false
set_option maxRecDepth 100000
namespace DL
open PySem L2 PySem.W PySem.Spec PyProof.Rows PySem.Calls
theorem upd_upd' {H : Hp} {a : Addr} {o u : L2.HO} : upd (upd H a o) a u = upd H a u := by
  funext b
  by_cases h : b = a
  · subst h; rw [upd_same, upd_same]
  · rw [upd_ne h, upd_ne h, upd_ne h]
theorem pys_map : ∀ ds : List DL.D, pys ds = ds.map py
  | [] => by unfold pys; rfl
  | d :: ds => by unfold pys; rw [pys_map ds]; rfl
theorem dats_mem : ∀ {ds : List DL.D} {d : DL.D}, dats ds = true → d ∈ ds → dat d = true
  | x :: ds, d, h, m => by
    unfold dats at h
    rw [Bool.and_eq_true] at h
    rcases List.mem_cons.mp m with rfl | m
    · exact h.1
    · exact dats_mem h.2 m
theorem deps_mem : ∀ {ds : List DL.D} {d : DL.D}, d ∈ ds → dep d ≤ deps ds
  | x :: ds, d, m => by
    unfold deps
    rcases List.mem_cons.mp m with rfl | m
    · exact Nat.le_max_left ..
    · exact Nat.le_trans (deps_mem m) (Nat.le_max_right ..)
theorem each_reps {N : Nam} {F : Hp} : ∀ {es : List DL.D} {vsV : List V} {vs : List Value}, Vals vsV vs → Reps N F es vsV → EachIs (fun u d => ∃ v, RelV v u ∧ Rep N F d v) vs es
  | [], vsV, vs, r, q => by rw [reps_nil] at q; subst q; cases r; exact .nil
  | d :: es, vsV, vs, r, q => by
    rw [reps_cons] at q
    obtain ⟨v, t, rfl, q1, q2⟩ := q
    cases r with
    | cons h1 h2 => exact .cons ⟨v, h1, q1⟩ (each_reps h2 q2)
theorem reps_each {N : Nam} {F : Hp} : ∀ {es : List DL.D} {vs : List Value}, EachIs (fun u d => ∃ v, RelV v u ∧ Rep N F d v) vs es → ∃ vsV, Vals vsV vs ∧ Reps N F es vsV
  | [], _, .nil => ⟨[], .nil, reps_nil.mpr rfl⟩
  | d :: es, _, .cons ⟨v, h1, h2⟩ t => by
    obtain ⟨t', q1, q2⟩ := reps_each t
    exact ⟨v :: t', .cons h1 q1, reps_cons.mpr ⟨v, t', rfl, h2, q2⟩⟩
theorem each_dp {K : PySem.W.Frag} {P : PyData → Value → Prop} : ∀ {kz : List PyData} {vsV : List V} {vs : List Value} {H : Hp}, Vals vsV vs → DpAll K H vsV kz → (∀ d v u, Dp K H v d → RelV v u → P d u) → EachIs (fun u d => P d u) vs kz
  | [], _, _, H, r, q, h => by cases q; cases r; exact .nil
  | d :: kz, _, _, H, r, q, h => by
    cases q with
    | cons q1 q2 =>
      cases r with
      | cons r1 r2 => exact .cons (h _ _ _ q1 r1) (each_dp r2 q2 h)
theorem hideD_hideD (ρ : Env) : hideD (hideD ρ) = hideD ρ := by
  unfold hideD
  rw [List.map_map]
  congr 1
  funext l
  cases l <;> rfl
section
variable {X : Cx} {pins : List (Addr × Obj)} {σ : L2.St} {N : Nam}
theorem ksk_loop {k : Nat} {fa : Addr} {fd : FuncData} {ps : List Str} {sp : DSp} {ds : List Value} {dvs : List V} {dd : List DL.D} {Q : VK} {E : Value → Shared → Prop} (Fn : FnOk X.prog X.w X.K X.mg X.base CX0 k fa fd ps (liftS N sp)) (hr : Room (k + 2) X.A) (hb : Binds X.K fd ps ds) (hd : Vals dvs ds) (hdd : ∀ F, Reps N F dd dvs) (hu : X.A.units + 64 < cLine)
    {Z : Ety} {ρ : Env} {M : Mem} {σ' : L2.St} {F0 H : Hp} {es : List DL.D} {kf : DL.D → DL.D} {a kS : Addr} {s : Shared} {vs : List Value} {vsV : List V} {e1 : Nat}
    (S : Sim N Z F0 ρ M σ' H) (ha : H a = none) (hkS : H kS = none) (hne : kS ≠ a) (I : L2.Inv X pins σ (upd (upd H a (exO a (seqObj "list" #[] e1))) kS (exO kS (seqObj "list" #[] 0))) s) (rv : Vals vsV vs) (re : Reps N F0 es vsV) (hz : vs.length ≤ sizeLine)
    (hk : SortOk (es.map kf)) (hsp : ∀ e ∈ es, sp ([e] ++ dd) M (fun d M' => M' = M ∧ d = kf e)) (n0 : X.s_0.heap.objs.size ≤ kS)
    (hQ : ∀ H' F', Sim N Z F' (ρ ++ [.own (.L (es.mergeSort fun a b => leD (kf a) (kf b)))]) M (σ' ++ [some (.ref a)]) H' → Le F0 F' → Q (.ref a) H') :
    wpAny (model X.prog X.w) X.A.in1.in1 (ksk_rest a (.ref fa) false vs.toArray e1 (.ref kS)) (fun fin s' => fin = .done (.ret .none) ∧ EP X pins σ Q (.ref a) s') E s := by
  have hlen : vs.length = es.length := by rw [← rv.length, re.length]
  have Ma : M a = none := S.mnone ha
  have Fa : F0 a = none := S.fnone ha
  have Mk : M kS = none := S.mnone hkS
  have Fk : F0 kS = none := S.fnone hkS
  unfold ksk_rest
  refine wpAny_bind (wpAny_rule ?_)
  first
    | rw [List.forIn_toArray]
    | (rw [← Array.forIn_toList]; simp only [List.toList_toArray])
    | rw [← Array.forIn_toList]
  have Z1 : Sim N ⟨H, M, F0⟩ F0 (hideD ρ) M σ' H := S.start
  refine wpAny_bind (ksk_fold (fun i s' => ∃ Hi Fi kA e ksV, L2.Inv X pins σ Hi s' ∧ Hi a = some (exO a (seqObj "list" #[] e1)) ∧ Hi kS = some (exO kS (seqObj "list" kA e)) ∧ Sim N ⟨H, M, F0⟩ Fi (hideD ρ) M σ' Hi ∧ Fi a = none ∧ Fi kS = none ∧ Vals ksV kA.toList ∧ Reps N Fi ((es.take i).map kf) ksV) vs 0 s
    ⟨_, F0, #[], 0, [], I, by rw [upd_ne hne.symm, upd_same], upd_same, (by have := Z1.touch (o := exO a (seqObj "list" #[] e1)) Fa Ma ha; exact this.touch (o := exO kS (seqObj "list" #[] 0)) Fk Mk hkS), Fa, Fk, .nil, by rw [List.take_zero]; exact reps_nil.mpr rfl⟩ ?step ?done)
  case step =>
    rintro j x s' hx ⟨Hi, Fi, kA, e, ksV, I1, ia, ik, S1, fa1, fk1, rk, qk⟩
    simp only [Nat.zero_add] at rk qk ⊢
    have hj : j < vs.length := (List.getElem?_eq_some_iff.mp hx).1
    obtain ⟨d, hdj⟩ : ∃ d, es[j]? = some d := ⟨_, List.getElem?_eq_getElem (by omega)⟩
    obtain ⟨xv, hxv, rxv⟩ := re.get hdj
    have rx : RelV xv x := by
      have : ∀ {as : List V} {bs : List Value} {i : Nat} {a : V} {b : Value}, Vals as bs → as[i]? = some a → bs[i]? = some b → RelV a b := by
        intro as bs i a b h
        induction h generalizing i with
        | nil => intro h1; simp at h1
        | cons h1 h2 ih =>
          cases i with
          | zero => intro e1 e2; simp at e1 e2; subst e1 e2; exact h1
          | succ i => intro e1 e2; exact ih (by simpa using e1) (by simpa using e2)
      exact this rv hxv hx
    have hz1 : kA.size ≤ vs.length := by
      have h1 : ksV.length = kA.size := by rw [rk.length, Array.length_toList]
      have h2 := qk.length
      rw [List.length_map, List.length_take] at h2
      have h3 := Nat.min_le_right j es.length
      omega
    have S2 : Sim N ⟨Hi, M, Fi⟩ Fi (hideD ρ) M σ' Hi := by
      have := S1.start
      rwa [hideD_hideD] at this
    refine wpAny_bind (wpAny_attempt (wpAny_mono (run_in2 (us := [x]) (vs := [xv]) (Q := fun v H' => ∃ F', Sim N ⟨Hi, M, Fi⟩ F' (hideD ρ) M σ' H' ∧ Le Fi F' ∧ Rep N F' (kf d) v) Fn hr hb hd I1 (.cons rx .nil) ?_) (fun v s'' he => ?_) fun _ _ hF => hF.elim))
    · have q := hsp d (List.mem_of_getElem? hdj)
      refine ⟨Fi, M, [d] ++ dd, _, S2.ms, reps_cons.mpr ⟨xv, dvs, rfl, rxv.mono S1.le0, hdd Fi⟩, q, fun d' M' v H' F' q' S' r' => ?_⟩
      obtain ⟨q1, q2⟩ := q'
      subst q1 q2
      exact ⟨F', S2.back S', S'.le0, r'⟩
    · obtain ⟨v', H', I2, rv', F', S3, l3, r3⟩ := he
      have ia2 : H' a = some (exO a (seqObj "list" #[] e1)) := S3.keep a _ ia Ma
      have ik2 : H' kS = some (exO kS (seqObj "list" kA e)) := S3.keep kS _ ik Mk
      have fa2 : F' a = none := by
        cases q : F' a with
        | none => rfl
        | some o => exact absurd (ia.symm.trans (S3.fnew a o q fa1 Ma)) (by simp)
      have fk2 : F' kS = none := by
        cases q : F' kS with
        | none => rfl
        | some o => exact absurd (ik.symm.trans (S3.fnew kS o q fk1 Mk)) (by simp)
      have S4 : Sim N ⟨H, M, F0⟩ F' (hideD ρ) M σ' H' := by
        have := S1.back S3
        exact this
      have nk := DL.Inv.ex I2 ik2
      obtain ⟨c2, hc2⟩ : ∃ c2, (s''.heap.update kS (Obj.mapSeq (·.push v))).get? kS = some (seqObj "list" (kA.push v) c2) := ⟨_, get?_update_seq nk (·.push v)⟩
      have s1 := Heap.SameBut.update s''.heap kS (Obj.mapSeq (·.push v))
      refine wpAny_bind (listUpdate_at nk rfl ?_ (Nat.le_trans hz1 hz) (Nat.le_trans (Nat.le_of_eq (Array.size_push ..)) (Nat.succ_le_succ (Nat.le_trans hz1 hz))))
      have I3 := I2.write (x := kS) (e := kS) (o := exO kS (seqObj "list" (kA.push v) c2)) (h' := s''.heap.update kS (Obj.mapSeq (·.push v))) (t' := s''.toks) (by rw [ik2]; trivial) (.inl rfl) (fun b u hb e => (s1.2 b hb).trans e) ⟨_, hc2⟩ (exO_ok hc2)
      refine wpAny_pure ⟨rfl, _, F', kA.push v, c2, ksV ++ [v'], I3, by rw [upd_ne hne.symm]; exact ia2, upd_same, S4.touch fk2 Mk hkS, fa2, fk2, ?_, ?_⟩
      · have ea : (kA.push v).toList = kA.toList ++ [v] := by simp
        rw [ea]
        exact rk.append (.cons rv' .nil)
      · have ek : (es.take (j + 1)).map kf = (es.take j).map kf ++ [kf d] := by rw [List.take_add_one, hdj]; simp
        rw [ek]
        exact (qk.mono l3).append (.one r3)
  case done =>
    rintro s' ⟨Hi, Fi, kA, e, ksV, I1, ia, ik, S1, fa1, fk1, rk, qk⟩
    have e3 : es.take (0 + vs.length) = es := List.take_of_length_le (by omega)
    rw [e3] at qk
    obtain ⟨z1, z2, z3, z4, z5⟩ := hk
    have hsz : kA.size = vs.length := by
      have h1 : ksV.length = kA.size := by rw [rk.length, Array.length_toList]
      have h2 := qk.length
      rw [List.length_map] at h2
      omega
    have dp := Reps.dp (K := X.K) S1.sub z2 qk
    have hk' : EachIs (fun v d => ∃ as, Reads s'.heap v d as) kA.toList (pys (es.map kf)) := each_dp (P := fun d v => ∃ as, Reads s'.heap v d as) rk dp fun d v u h1 h2 => Dp.reads I1 d v u h1 h2
    have nk := DL.Inv.ex I1 ik
    have na := DL.Inv.ex I1 ia
    refine wpAny_bind (listItems_at nk rfl ?_)
    have hn0 : X.s_0.heap.get? kS = none := Heap.get?_none_of_le n0
    obtain ⟨G, g1, g2, g3, I2⟩ := DL.Inv.untrackN (u0 := exO kS (seqObj "list" kA e)) ⟨fun _ z => (nomatch z), fun _ _ z => (nomatch z), fun _ z => (nomatch z), fun _ z => (nomatch z)⟩ I1 ik hn0
    have hud : ∀ d, d ∈ pys (es.map kf) → X.A.in1.in1.units + d.depth < cLine := fun d m => by
      rw [pys_map] at m
      obtain ⟨d0, m0, rfl⟩ := List.mem_map.mp m
      have h1 := (lay_py (dats_mem z2 m0)).2
      have h2 := deps_mem m0
      have h3 : X.A.in1.in1.units = X.A.units + 2 := rfl
      omega
    refine keyH_end (κ := dataKind s'.heap (pys (es.map kf))) (h₁ := G) (fun b o hb q => g1 b o q) g3 nk na hne (SortsAt.data (s := s') hk' z4 z5 hud) hsz hz fun h3 tk3 c k3 n3 => ⟨rfl, ?_⟩
    have ko : KeyedOut false (pys (es.map kf)) vs (sortVals (dataKind s'.heap (pys (es.map kf))) false kA.toList vs) := ⟨s'.heap, kA.toList, z4, rfl, hk'⟩
    rw [pys_map, List.map_map] at ko
    have ho := keyedOut_each (py ∘ kf) ko (each_reps (N := N) (F := Fi) rv (re.mono S1.le0))
    rw [← List.map_map, ← pys_map] at ho
    obtain ⟨outV, r1, r2⟩ := reps_each ho
    have eL : es.mergeSort (dataLe false (py ∘ kf)) = es.mergeSort (fun a b => leD (kf a) (kf b)) := rfl
    rw [eL] at r2
    have hzo : outV.length ≤ sizeLine := by
      rw [r2.length, List.length_mergeSort, ← hlen]
      exact hz
    have I3 := I2.write (x := a) (e := a) (o := .lst outV) (h' := h3) (t' := tk3) (by rw [delH_ne hne.symm, ia]; trivial) (.inl rfl) (fun b u hb e => k3 b u hb e) ⟨_, n3⟩ ⟨hzo, _, _, r1, n3⟩
    have S5 := (S1.del fk1 Mk hkS).del fa1 Ma ha
    have S6 := S.back (F' := Fi) (M' := M) (H' := delH (delH Hi kS) a) S5
    have S7 := S6.newO (p := a) (o := .lst outV) (c := .L (es.mergeSort fun a b => leD (kf a) (kf b))) delH_same ⟨outV, upd_same, hzo, r2⟩
    have eH : upd (delH (delH Hi kS) a) a (.lst outV) = upd (delH Hi kS) a (.lst outV) := by
      funext b
      by_cases hb : b = a
      · subst hb; rw [upd_same, upd_same]
      · rw [upd_ne hb, upd_ne hb, delH_ne hb]
    rw [eH] at S7
    exact ⟨.ref a, _, I3, rfl, hQ _ Fi S7 S1.le0⟩
end
end DL

set_option Elab.async false
set_option linter.all false
set_option maxRecDepth 100000
namespace DL
open PySem L2 PySem.W PySem.Spec PyProof.Rows PySem.Calls
section
variable {X : Cx} {pins : List (Addr × Obj)} {σ : L2.St} {N : Nam}
theorem ksk_whole {k : Nat} {fa : Addr} {fd : FuncData} {ps : List Str} {sp : DSp} {ds : List Value} {dvs : List V} {dd : List DL.D} {Q : VK} {E : Value → Shared → Prop} (Fn : FnOk X.prog X.w X.K X.mg X.base CX0 k fa fd ps (liftS N sp)) (hr : Room (k + 2) X.A) (hb : Binds X.K fd ps ds) (hd : Vals dvs ds) (hdd : ∀ F, Reps N F dd dvs) (hu : X.A.units + 64 < cLine)
    {Z : Ety} {ρ : Env} {M : Mem} {σ' : L2.St} {F0 H : Hp} {es : List DL.D} {kf : DL.D → DL.D} {s : Shared} {vs : List Value} {vsV : List V} {p : Addr} {T : String} {o : Obj} {n : Nat}
    (S : Sim N Z F0 ρ M σ' H) (I : L2.Inv X pins σ H s) (hT : T = "list" ∨ T = "tuple") (ho : s.heap.get? p = some o) (hc : o.cls = .type T) (hdat : o.data = .seq vs.toArray n) (rv : Vals vsV vs) (re : Reps N F0 es vsV) (hz : vs.length ≤ sizeLine)
    (hk : SortOk (es.map kf)) (hsp : ∀ e ∈ es, sp ([e] ++ dd) M (fun d M' => M' = M ∧ d = kf e))
    (hQ : ∀ a H' F', Sim N Z F' (ρ ++ [.own (.L (es.mergeSort fun a b => leD (kf a) (kf b)))]) M (σ' ++ [some (.ref a)]) H' → Le F0 F' → Q (.ref a) H') :
    wpAny (model X.prog X.w) X.A (call (.builtin "sorted") [.ref p] [(Str.ofString "key", .ref fa)]) (EP X pins σ Q) E s := by
  refine call_function_entry_kw kind_sorted plain_sorted entry_sorted (ksk_s1 _ _) ?_
  unfold Builtin.«sorted»
  refine wpAny_bind (m := checkCount "sorted" 1 1 _) (wpAny_pure ?_)
  refine wpAny_bind (wpAny_collect_seq p (o := o) (items := vs.toArray) (n := n) hT ho hc hdat (fun h' hk' => ?_) (by rw [List.size_toArray]; exact hz))
  have I1 : L2.Inv X pins σ H { s with heap := h' } := I.kept (t' := s.toks) hk'
  refine wpAny_bind (wpAny_newList ?_ hz)
  have ha : H h'.objs.size = none := I1.hok.fresh (Nat.le_refl _)
  have ea : (h'.push (seqObj "list" vs.toArray 0)).get? h'.objs.size = some (seqObj "list" vs.toArray 0) := Heap.get?_push_size _ rfl
  have I2 : L2.Inv X pins σ (upd H h'.objs.size (exO h'.objs.size (seqObj "list" vs.toArray 0))) { s with heap := h'.push (seqObj "list" vs.toArray 0) } := I1.laid (t' := s.toks) (fun b u q => Heap.get?_push_of_some _ q) (Nat.le_refl _) (exO_ok ea)
  refine wpAny_bind (wpAny_holding (wpAny_call_entry_kw slot_list_sort ⟨_, ea, rfl⟩ entry_list_sort ?body (ksk_l1 _ _)))
  case body =>
    show wpAny (model X.prog X.w) X.A.in1.in1 (Builtin.«list.sort» ⟨[.ref h'.objs.size], [(Str.ofString "key", .ref fa)]⟩) _ _ { s with heap := h'.push (seqObj "list" vs.toArray 0) }
    rw [ksk_t1]
    generalize hga : h'.objs.size = a at ha ea I2 ⊢
    generalize hgs : ({ s with heap := h'.push (seqObj "list" vs.toArray 0) } : Shared) = s2 at I2 ⊢
    have ea : s2.heap.get? a = some (seqObj "list" vs.toArray 0) := by rw [← hgs]; exact ea
    have sz2 : X.s_0.heap.objs.size ≤ s2.heap.objs.size := I2.sz
    refine wpAny_mono (?_ : wpAny (model X.prog X.w) X.A.in1.in1 (ksk_tree a (.ref fa) false) (fun fin s' => fin = .done (.ret .none) ∧ EP X pins σ Q (.ref a) s') _ s2) (fun f s' hf => ?_) fun _ _ e => e
    · have hlt : a < s2.heap.objs.size := Heap.lt_size ea
      obtain ⟨e1, ho1⟩ : ∃ e1, (s2.heap.update a (Obj.mapSeq fun _ => (#[] : Array Value))).get? a = some (seqObj "list" #[] e1) := ⟨_, get?_update_seq ea fun _ => #[]⟩
      have s1 := Heap.SameBut.update s2.heap a (Obj.mapSeq fun _ => (#[] : Array Value))
      have I3 := I2.write (x := a) (e := a) (o := exO a (seqObj "list" #[] e1)) (h' := s2.heap.update a (Obj.mapSeq fun _ => (#[] : Array Value))) (t' := s2.toks) (by rw [upd_same]; trivial) (.inl rfl) (fun b u hb e => (s1.2 b hb).trans e) ⟨_, ho1⟩ (exO_ok ho1)
      rw [upd_upd'] at I3
      unfold ksk_tree
      refine wpAny_bind (listItems_at ea rfl ?_)
      refine wpAny_bind (listUpdate_at ea rfl ?_ (by rw [List.size_toArray]; exact hz) (Nat.zero_le _))
      refine wpAny_bind (seqEpoch_at ho1 rfl ?_)
      refine wpAny_bind (wpAny_newTuple ?_ (by show vs.length ≤ _; exact hz))
      have I4 : L2.Inv X pins σ (upd H a (exO a (seqObj "list" #[] e1))) { s2 with heap := (s2.heap.update a (Obj.mapSeq fun _ => (#[] : Array Value))).push (seqObj "tuple" vs.toArray 0) } := I3.kept (t' := s2.toks) fun b u q => Heap.get?_push_of_some _ q
      refine wpAny_bind (wpAny_newList ?_ (Nat.zero_le _))
      refine wpAny_holding ?_
      have hkS : ((s2.heap.update a (Obj.mapSeq fun _ => (#[] : Array Value))).push (seqObj "tuple" vs.toArray 0)).objs.size = s2.heap.objs.size + 1 := by rw [size_push', Heap.size_update]
      have fr := I4.hok.fresh (a := ((s2.heap.update a (Obj.mapSeq fun _ => (#[] : Array Value))).push (seqObj "tuple" vs.toArray 0)).objs.size) (Nat.le_refl _)
      have hne : ((s2.heap.update a (Obj.mapSeq fun _ => (#[] : Array Value))).push (seqObj "tuple" vs.toArray 0)).objs.size ≠ a := by rw [hkS]; omega
      have fr' : H ((s2.heap.update a (Obj.mapSeq fun _ => (#[] : Array Value))).push (seqObj "tuple" vs.toArray 0)).objs.size = none := by rw [upd_ne hne] at fr; exact fr
      have ek : (((s2.heap.update a (Obj.mapSeq fun _ => (#[] : Array Value))).push (seqObj "tuple" vs.toArray 0)).push (seqObj "list" #[] 0)).get? ((s2.heap.update a (Obj.mapSeq fun _ => (#[] : Array Value))).push (seqObj "tuple" vs.toArray 0)).objs.size = some (seqObj "list" #[] 0) := Heap.get?_push_size _ rfl
      have I5 := I4.laid (a := ((s2.heap.update a (Obj.mapSeq fun _ => (#[] : Array Value))).push (seqObj "tuple" vs.toArray 0)).objs.size) (o := exO _ (seqObj "list" #[] 0)) (h' := ((s2.heap.update a (Obj.mapSeq fun _ => (#[] : Array Value))).push (seqObj "tuple" vs.toArray 0)).push (seqObj "list" #[] 0)) (t' := s2.toks) (fun b u q => Heap.get?_push_of_some _ q) (Nat.le_refl _) (exO_ok ek)
      exact ksk_loop Fn hr hb hd hdd hu S ha fr' hne I5 rv re hz hk hsp (by rw [hkS]; omega) fun H' F' S' l' => hQ a H' F' S' l'
    · obtain ⟨rfl, q⟩ := hf
      exact ⟨_, rfl, wpAny_pure ⟨_, rfl, q⟩⟩
end
end DL

set_option Elab.async false
set_option linter.all false
set_option maxRecDepth 100000
namespace DL
open PySem L2 PySem.W PySem.Spec PyProof.Rows PySem.Calls
def FnRaw (b : Bz) (k : Nat) (x : Str) (sp : DSp) : Prop := ∃ (f : Addr) (fd : FuncData) (ps : List Str) (ds : List Value) (dvs : List V) (dd : List DL.D) (sp' : DSp), FnOk b.P b.w b.K b.mg b.base CX0 k f fd ps (liftS b.N sp') ∧ b.mg x = some (.ref f) ∧ Binds b.K fd ps ds ∧ Vals dvs ds ∧ (∀ F, Reps b.N F dd dvs) ∧ sp = fun ds => sp' (ds ++ dd)
section
variable {b : Bz} {A : Around} {κ : Kt} {pos p p2 kp : Pos} {e1 : Expr} {T1 : DL.T}
theorem h_sortedK {k kk : Nat} {x : Str} {sp : DSp} (R : FnRaw b k x sp) (hr : Room (k + 2) A) (hs : b.B.sp kk = sp) (hm : b.mg "sorted" = none) (hg : glB κ "sorted" = true) (hgx : glB κ x = true) (hdb : (x == ("__debug__" : Str)) = false) (hp : plainE e1 = true) (h1 : HE b A κ e1 T1) :
    HO b A κ (.Call (.Name "sorted" p) [e1] [⟨some "key", .Name x p2, kp⟩] pos) (.sortedK kk T1) := fun X c => by
  obtain ⟨t1, p1, r1⟩ := h1 X c
  obtain ⟨f, fd, ps, ds, dvs, dd, sp', F, hmx, hb, hd, hdd, rfl⟩ := R
  obtain ⟨hc1, hc2, hc3, hc4, hc5, hc6⟩ : X.prog = b.P ∧ X.w = b.w ∧ X.K = b.K ∧ X.mg = b.mg ∧ X.base = b.base ∧ X.A = A := ⟨c.p, c.w, c.k, c.m, c.b, c.a⟩
  rw [← hc1, ← hc2, ← hc3, ← hc4, ← hc5] at F
  rw [← hc3] at hb
  rw [← hc4] at hmx
  rw [← hc6] at hr
  have cr : CallRK X (.builtin "sorted") [Str.ofString "key"] (fun vs zs H Q => ∃ v, vs = [v] ∧ zs = [.ref f] ∧ ∃ (Z : Ety) (ρ : Env) (M : Mem) (σ' : L2.St) (F0 : Hp) (d : DL.D) (es : List DL.D) (kf : DL.D → DL.D), Sim b.N Z F0 ρ M σ' H ∧ Rep b.N F0 d v ∧ seqOf (view M d) = some es ∧ SortOk (es.map kf) ∧ (∀ e ∈ es, sp' ([e] ++ dd) M fun d M' => M' = M ∧ d = kf e) ∧
      ∀ a H' F', Sim b.N Z F' (ρ ++ [.own (.L (es.mergeSort fun a b => leD (kf a) (kf b)))]) M (σ' ++ [some (.ref a)]) H' → Le F0 F' → Q (.ref a) H') := by
    intro pins s σ H xs zs us ws Q I rx rz h
    obtain ⟨v, rfl, rfl, Z, ρ, M, σ', F0, d, es, kf, S, r, e, hk, hsp, hQ⟩ := h
    obtain ⟨pp, vs, rfl, hh, hz, re⟩ := seq_v S (r.view S) e
    obtain ⟨u, rfl, ru⟩ := rx.one
    obtain ⟨w, rfl, rw'⟩ := rz.one
    obtain rfl : u = Value.ref pp := ru
    obtain rfl : w = Value.ref f := rw'
    rcases hh with h | ⟨h, _⟩
    · obtain ⟨its, rv, ⟨o, n, q1, q2, q3, q4⟩, z⟩ := I.list (SqL.of (K := X.K) h)
      exact ksk_whole F hr hb hd hdd c.hu S I (.inl rfl) q1 q2 q4 rv re (by rw [← rv.length]; exact z) hk hsp hQ
    · obtain ⟨its, rv, ⟨o, q1, q2, n, q4⟩, z⟩ := I.tuple (SqT.of (K := X.K) h)
      exact ksk_whole F hr hb hd hdd c.hu S I (.inr rfl) q1 q2 q4 rv re (by rw [← rv.length]; exact z) hk hsp hQ
  refine ⟨_, pe_callBK cr (c.gl hg) (by rw [c.m]; exact hm) boot_sorted' (pa_cons p1 pa_nil (star_cons _ hp)) (pk_cons (pe_glob (v := .ref f) (c.gl hgx) hmx rfl hdb) pk_nil) (he := by rw [star_cons (es := []) X.env hp]; rfl) (hpl := by rw [star_cons (es := []) X.env hp]; rfl), fun Z σ H F ρ M Q K S hw hk => ?_⟩
  refine r1 Z σ H F ρ M _ _ S hw fun v H1 F1 d ρ1 M1 S1 l r ⟨es, kf, e1', e2', e3', e4'⟩ => ?_
  refine ⟨v, rfl, rfl, Z, ρ1, M1, σ, F1, d, es, kf, S1, r, e1', e2', fun e m => ?_, fun a H' F' S' l' => hk a H' F' _ ρ1 M1 S' S1.len (l.trans l') e4'⟩
  have q := e3' e m
  rw [hs] at q
  exact q
end
end DL

set_option Elab.async false
set_option linter.all false
set_option maxRecDepth 100000
namespace DL
open PySem L2 PySem.W
/-! ### the same rules, each with one test -/
def okN (x : Str) : Bool := !(x == ("__debug__" : Str)) && !(x == ("__classdict__" : Str))
def nmB (κ : Kt) (i : Nat) (x : Str) : Bool := decide (κ.ns[i]? = some x) && visB κ x && okN x
def lcB (κ : Kt) (i : Nat) (x : Str) : Bool := decide (κ.ns[i]? = some x) && locB κ x
def llB (κ : Kt) (i : Nat) (x : Str) (scope : Scope) (py pos : Pos) : Bool := decide (κ.ns[i]? = some x) && lclB κ x && (κ.sc.kind == .function) && (py.line == pos.line) && !(scope.names.any fun (n, k) => n == x && (k == .local || k == .cell))
section
variable {b : Bz} {A : Around} {κ : Kt} {pos pos' p p1 p2 p3 apos cpos tpos spos py : Pos} {e e1 e2 e3 c o tg iter elt value tg1 iter1 : Expr} {es rest ifs ifs1 : List Expr} {T0 T1 T2 T3 Tr Tg Ti Tc To Te Tg1 Ti1 Tc1 : DL.T}
theorem okN_iff {x : Str} (h : okN x = true) : (x == ("__debug__" : Str)) = false ∧ (x == ("__classdict__" : Str)) = false := by
  unfold okN at h
  simpa using h
theorem nmB_iff {i : Nat} {x : Str} (h : nmB κ i x = true) : κ.ns[i]? = some x ∧ visB κ x = true ∧ (x == ("__debug__" : Str)) = false ∧ (x == ("__classdict__" : Str)) = false := by
  unfold nmB at h
  rw [Bool.and_eq_true, Bool.and_eq_true] at h
  exact ⟨of_decide_eq_true h.1.1, h.1.2, okN_iff h.2⟩
theorem lcB_iff {i : Nat} {x : Str} (h : lcB κ i x = true) : κ.ns[i]? = some x ∧ locB κ x = true := by
  unfold lcB at h
  rw [Bool.and_eq_true] at h
  exact ⟨of_decide_eq_true h.1, h.2⟩
theorem llB_iff {i : Nat} {x : Str} {scope : Scope} (h : llB κ i x scope py pos = true) : κ.ns[i]? = some x ∧ lclB κ x = true ∧ κ.sc.kind = .function ∧ (py.line == pos.line) = true ∧ (scope.names.any fun (n, k) => n == x && (k == .local || k == .cell)) = false := by
  unfold llB at h
  rw [Bool.and_eq_true, Bool.and_eq_true, Bool.and_eq_true, Bool.and_eq_true, Bool.not_eq_true'] at h
  refine ⟨of_decide_eq_true h.1.1.1.1, h.1.1.1.2, ?_, h.1.2, h.2⟩
  have := h.1.1.2
  cases q : κ.sc.kind <;> rw [q] at this <;> first | rfl | cases this
theorem v_ (i : Nat) {x : Str} (h : nmB κ i x = true) : HE b A κ (.Name x pos) (.var i) := let q := nmB_iff h; h_var i q.1 q.2.1 q.2.2.1 q.2.2.2
theorem x_idxO (i : Nat) {x : Str} (h : nmB κ i x = true) (hs : PlainIx e2) (h3 : HE b A κ e2 T2) : HE b A κ (.Subscript (.Name x p) e2 pos) (.idxO i T2) := let q := nmB_iff h; h_idxO i hs q.1 q.2.1 q.2.2.1 q.2.2.2 h3
theorem x_lenO (i : Nat) {x : Str} (hm : b.mg "len" = none) (hg : glB κ "len" = true) (h : nmB κ i x = true) : HE b A κ (.Call (.Name "len" p) [.Name x p2] [] pos) (.lenO i) := let q := nmB_iff h; h_lenO i hm hg q.1 q.2.1 q.2.2.1 q.2.2.2
theorem x_inO (i : Nat) {x : Str} (h : nmB κ i x = true) (h3 : HE b A κ e1 T1) : HE b A κ (.Compare e1 [.In] [.Name x p] pos) (.inO false T1 i) := let q := nmB_iff h; h_inO i q.1 q.2.1 q.2.2.1 q.2.2.2 h3
theorem x_notinO (i : Nat) {x : Str} (h : nmB κ i x = true) (h3 : HE b A κ e1 T1) : HE b A κ (.Compare e1 [.NotIn] [.Name x p] pos) (.inO true T1 i) := let q := nmB_iff h; h_notinO i q.1 q.2.1 q.2.2.1 q.2.2.2 h3
theorem xt_inO (i : Nat) {x : Str} (h : nmB κ i x = true) (h3 : HE b A κ e1 T1) : HT b A κ (.Compare e1 [.In] [.Name x p] pos) (.inO false T1 i) := let q := nmB_iff h; t_inO i q.1 q.2.1 q.2.2.1 q.2.2.2 h3
theorem xt_notinO (i : Nat) {x : Str} (h : nmB κ i x = true) (h3 : HE b A κ e1 T1) : HT b A κ (.Compare e1 [.NotIn] [.Name x p] pos) (.inO true T1 i) := let q := nmB_iff h; t_notinO i q.1 q.2.1 q.2.2.1 q.2.2.2 h3
theorem x_pmO (i : Nat) {x : Str} {m : PM} {name : Str} {id : String} (R : PmRow m name id) (h : nmB κ i x = true) (hf : FewOk e1 es cpos) (hl : (apos.endLine == cpos.line) = true) (hp : plainEs (e1 :: es) = true) (h3 : HA b A κ (e1 :: es) T1) :
    HE b A κ (.Call (.Attribute (.Name x p) name apos) (e1 :: es) [] cpos) (.pmO m i T1) := let q := nmB_iff h; h_pmO i R hf hl hp q.1 q.2.1 q.2.2.1 q.2.2.2 h3
theorem x_pmO0 (i : Nat) {x : Str} {m : PM} {name : Str} {id : String} (R : PmRow m name id) (h : nmB κ i x = true) (hl : (apos.endLine == cpos.line) = true) : HE b A κ (.Call (.Attribute (.Name x p) name apos) [] [] cpos) (.pmO m i .nil) := let q := nmB_iff h; h_pmO0 i R hl q.1 q.2.1 q.2.2.1 q.2.2.2
theorem g_ (i : Nat) {x : Str} (h : lcB κ i x = true) : HG b A κ (.Name x pos) (.tname i) := let q := lcB_iff h; g_name i q.1 q.2
theorem x_set (i : Nat) {x : Str} (h : lcB κ i x = true) (hs : ∀ (env : PySem.Env), swapsWith e1 (some (.Name x pos')) pos.line env = pure false) (h1 : HE b A κ e1 T1) : HS b A κ (.Assign [.Name x pos'] e1 pos) (.set i T1) := let q := lcB_iff h; s_set i q.1 q.2 hs h1
theorem x_setO (i : Nat) {x : Str} (h : lcB κ i x = true) (hs : ∀ (env : PySem.Env), swapsWith e1 (some (.Name x pos')) pos.line env = pure false) (h1 : HO b A κ e1 T1) : HS b A κ (.Assign [.Name x pos'] e1 pos) (.setO i T1) := let q := lcB_iff h; s_setO i q.1 q.2 hs h1
theorem x_setM (i : Nat) {x : Str} (h : lcB κ i x = true) (hs : ∀ (env : PySem.Env), swapsWith e1 (some (.Name x pos')) pos.line env = pure false) (h1 : HO b A κ e1 T1) : HS b A κ (.Assign [.Name x pos'] e1 pos) (.setM i T1) := let q := lcB_iff h; s_setM i q.1 q.2 hs h1
theorem x_aug (i : Nat) {x : Str} {op : Operator} (qq : BOp) (ho : op = opE qq) (hk : iopOk qq = true) (h : lcB κ i x = true) (h1 : HE b A κ e1 T1) : HS b A κ (.AugAssign (.Name x pos') op e1 pos) (.aug i qq T1) := let q := lcB_iff h; s_aug i qq ho hk q.1 q.2 h1
theorem x_setC {scope : Scope} (i : Nat) {x : Str} (own : List (Str × Nat)) (h : llB κ i x scope py pos = true)
    (ok : CompOk κ scope own Tg) (hf : ∀ (env : PySem.Env) x, foldedSetIterable iter env x = pure x) (hi : HI b A κ tg iter Ti) (hg : HG b A (κ.sub scope) tg Tg) (hc : HC b A (κ.sub scope) ifs Tc) (he : HE b A (κ.sub scope) elt Te) :
    HS b A κ (.Assign [.Name x py] (.ListComp elt [⟨tg, iter, ifs, 0⟩] scope pos) spos) (.set i (.comp (own.map (·.2)) Tg Ti Tc Te)) := let q := llB_iff h; s_setC i own q.1 q.2.1 q.2.2.1 q.2.2.2.1 q.2.2.2.2 ok hf hi hg hc he
theorem x_setCO {scope : Scope} (i : Nat) {x : Str} (own : List (Str × Nat)) (h : llB κ i x scope py pos = true)
    (ok : CompOk κ scope own Tg) (hf : ∀ (env : PySem.Env) x, foldedSetIterable iter env x = pure x) (hi : HI b A κ tg iter Ti) (hg : HG b A (κ.sub scope) tg Tg) (hc : HC b A (κ.sub scope) ifs Tc) (he : HE b A (κ.sub scope) elt Te) :
    HS b A κ (.Assign [.Name x py] (.ListComp elt [⟨tg, iter, ifs, 0⟩] scope pos) spos) (.setO i (.comp (own.map (·.2)) Tg Ti Tc Te)) := let q := llB_iff h; s_setCO i own q.1 q.2.1 q.2.2.1 q.2.2.2.1 q.2.2.2.2 ok hf hi hg hc he
theorem x_setC2 {scope : Scope} (i : Nat) {x : Str} (own : List (Str × Nat)) (vs1 : List Nat) (h : llB κ i x scope py pos = true)
    (ok : CompOk2 κ scope own vs1 Tg Tg1) (hf : ∀ (env : PySem.Env) x, foldedSetIterable iter env x = pure x) (hf1 : ∀ (env : PySem.Env) x, foldedSetIterable iter1 env x = pure x) (hi : HI b A κ tg iter Ti) (hg : HG b A (κ.sub scope) tg Tg) (hc : HC b A (κ.sub scope) ifs Tc)
    (hi1 : HI b A (κ.sub scope) tg1 iter1 Ti1) (hg1 : HG b A (κ.sub scope) tg1 Tg1) (hc1 : HC b A (κ.sub scope) ifs1 Tc1) (he : HE b A (κ.sub scope) elt Te) :
    HS b A κ (.Assign [.Name x py] (.ListComp elt [⟨tg, iter, ifs, 0⟩, ⟨tg1, iter1, ifs1, 0⟩] scope pos) spos) (.set i (.comp2 (own.map (·.2)) vs1 Tg Ti Tc Tg1 Ti1 Tc1 Te)) := let q := llB_iff h; s_setC2 i own vs1 q.1 q.2.1 q.2.2.1 q.2.2.2.1 q.2.2.2.2 ok hf hf1 hi hg hc hi1 hg1 hc1 he
def tyB (κ : Kt) (x : Str) (n : String) : Bool := glB κ x && okN x && (match bootBuiltins x with | some (.type m) => m == n | _ => false) && !(x == ("__name__" : Str))
theorem tyB_iff {x : Str} {n : String} (h : tyB κ x n = true) : glB κ x = true ∧ bootBuiltins x = some (.type n) ∧ x ≠ "__name__" ∧ (x == ("__debug__" : Str)) = false := by
  unfold tyB at h
  rw [Bool.and_eq_true, Bool.and_eq_true, Bool.and_eq_true, Bool.not_eq_true'] at h
  refine ⟨h.1.1.1, ?_, fun z => by have := h.2; rw [z] at this; exact absurd this (by decide), (okN_iff h.1.1.2).1⟩
  have q := h.1.2
  split at q
  · rename_i m e
    rw [e, beq_iff_eq.mp q]
  · cases q
theorem x_isi1 {x : Str} (n : String) (hm : b.mg "isinstance" = none) (hg : glB κ "isinstance" = true) (hmx : b.mg x = none) (h : tyB κ x n = true) (hp : plainE e1 = true) (h1 : HE b A κ e1 T1) :
    HE b A κ (.Call (.Name "isinstance" p) [e1, .Name x p2] [] pos) (.isi T1 [.b n]) := let q := tyB_iff h; h_isi1 hm hg hmx q.1 q.2.1 q.2.2.1 q.2.2.2 hp h1
theorem x_isi2 {x y : Str} {k : Nat} (n m : String) (hm : b.mg "isinstance" = none) (hg : glB κ "isinstance" = true) (hmx : b.mg x = none) (hmy : b.mg y = none) (h : tyB κ x n = true) (h' : tyB κ y m = true) (hp : plainE e1 = true) (h1 : HE b A κ e1 T1) :
    HE b A κ (.Call (.Name "isinstance" p) [e1, .Tuple [.Name x p2, .Name y p3] k tpos] [] pos) (.isi T1 [.b n, .b m]) := let q := tyB_iff h; let q' := tyB_iff h'; h_isi2 hm hg hmx q.1 q.2.1 q.2.2.1 q.2.2.2 hmy q'.1 q'.2.1 q'.2.2.1 q'.2.2.2 hp h1

theorem x_setIxO (i : Nat) {x : Str} (h : nmB κ i x = true) (ha : ∀ (env : PySem.Env) v, assign (.Subscript (.Name x p) e1 tpos) env v = (do
      let ov ← holding [v] (eval (.Name x p) env)
      let iv ← holding [v, ov] (eval e1 env)
      standAt tpos
      holding [v, ov, iv] (setItem ov iv v)
      release [v, ov, iv] [])) (hs : ∀ (env : PySem.Env), swapsWithSole [.Subscript (.Name x p) e1 tpos] e2 pos.line env = pure false) (hw : ∀ (env : PySem.Env), swappedStores [.Subscript (.Name x p) e1 tpos] e2 env = pure none)
    (hq : ∀ (env : PySem.Env), (assignEach [.Subscript (.Name x p) e1 tpos] env).map (·.2) = [assign (.Subscript (.Name x p) e1 tpos) env]) (h3 : HE b A κ e1 T1) (h4 : HE b A κ e2 T2) :
    HS b A κ (.Assign [.Subscript (.Name x p) e1 tpos] e2 pos) (.setIxO i T1 T2) := let q := nmB_iff h; s_setIxO i ha hs hw hq q.1 q.2.1 q.2.2.1 q.2.2.2 h3 h4
theorem sw_cell {gs : List Comprehension} {scope : Scope} {y : Str} {l : Nat} {env : PySem.Env} (hk : env.scope.kind = .function) (hy : env.scope.names.lookup y = some .cell) : swapsWith (.ListComp elt gs scope pos) (some (.Name y py)) l env = pure false := by
  have ky : env.kindOf y = some .cell := hy
  have hb : env.blockKind = .function := by unfold Env.blockKind; rw [hk]; rfl
  unfold swapsWith
  simp only [hb, ky, Expr.pos]
  rfl
def clB (κ : Kt) (i : Nat) (x : Str) : Bool := decide (κ.ns[i]? = some x) && (match κ.sc.names.lookup x with | some .cell => κ.fn x | _ => false) && (κ.sc.kind == .function)
theorem clB_iff {i : Nat} {x : Str} (h : clB κ i x = true) : κ.ns[i]? = some x ∧ locB κ x = true ∧ κ.sc.names.lookup x = some .cell ∧ κ.sc.kind = .function := by
  unfold clB at h
  rw [Bool.and_eq_true, Bool.and_eq_true] at h
  have q := h.1.2
  refine ⟨of_decide_eq_true h.1.1, ?_, ?_, ?_⟩
  · unfold locB
    split at q
    · rename_i e; rw [e]; exact q
    · cases q
  · split at q
    · assumption
    · cases q
  · have := h.2
    cases q : κ.sc.kind <;> rw [q] at this <;> first | rfl | cases this
/-- a comprehension to a name that comprehensions read -/
theorem x_setK (i : Nat) {x : Str} {gs : List Comprehension} {scope : Scope} (h : clB κ i x = true) (h1 : HO b A κ (.ListComp elt gs scope pos) T1) : HS b A κ (.Assign [.Name x py] (.ListComp elt gs scope pos) spos) (.set i T1) := fun X c => by
  obtain ⟨q1, q2, q3, q4⟩ := clB_iff h
  obtain ⟨t1, p1, r1⟩ := h1.he X c
  exact ⟨_, ps_set c.nd (by rw [c.n]; exact q1) (c.loc q2).1 p1 (sw_cell (by rw [c.s]; exact q4) (by rw [c.s]; exact q3)) (c.loc q2).2, sr_set r1⟩
theorem x_setKO (i : Nat) {x : Str} {gs : List Comprehension} {scope : Scope} (h : clB κ i x = true) (h1 : HO b A κ (.ListComp elt gs scope pos) T1) : HS b A κ (.Assign [.Name x py] (.ListComp elt gs scope pos) spos) (.setO i T1) := fun X c => by
  obtain ⟨q1, q2, q3, q4⟩ := clB_iff h
  obtain ⟨t1, p1, r1⟩ := h1 X c
  exact ⟨_, ps_set c.nd (by rw [c.n]; exact q1) (c.loc q2).1 p1 (sw_cell (by rw [c.s]; exact q4) (by rw [c.s]; exact q3)) (c.loc q2).2, sr_setO r1⟩
theorem x_setKM (i : Nat) {x : Str} {gs : List Comprehension} {scope : Scope} (h : clB κ i x = true) (h1 : HO b A κ (.ListComp elt gs scope pos) T1) : HS b A κ (.Assign [.Name x py] (.ListComp elt gs scope pos) spos) (.setM i T1) := fun X c => by
  obtain ⟨q1, q2, q3, q4⟩ := clB_iff h
  obtain ⟨t1, p1, r1⟩ := h1 X c
  exact ⟨_, ps_set c.nd (by rw [c.n]; exact q1) (c.loc q2).1 p1 (sw_cell (by rw [c.s]; exact q4) (by rw [c.s]; exact q3)) (c.loc q2).2, sr_setM r1⟩
end
end DL

set_option Elab.async false
set_option linter.all false
set_option maxRecDepth 100000
namespace DL
open PySem L2 PySem.W
section
variable {b : Bz} {A : Around} {κ : Kt} {pos pos' p p1 p2 p3 apos cpos tpos spos py : Pos} {e e1 e2 e3 c o tg iter elt value tg1 iter1 : Expr} {es rest ifs ifs1 : List Expr} {T0 T1 T2 T3 Tr Tg Ti Tc To Te Tg1 Ti1 Tc1 : DL.T}
theorem x_lenSetO (i : Nat) {x : Str} (hm : b.mg "len" = none) (hg : glB κ "len" = true) (hm2 : b.mg "set" = none) (hg2 : glB κ "set" = true) (h : nmB κ i x = true) : HE b A κ (.Call (.Name "len" p) [.Call (.Name "set" p2) [.Name x p1] [] p3] [] pos) (.lenSetO i) := fun X c => by
  obtain ⟨q1, q2, q3, q4⟩ := nmB_iff h
  refine ⟨_, pe_lenSetG c.c (c.gl hg) (by rw [c.m]; exact hm) (c.gl hg2) (by rw [c.m]; exact hm2) (pe_var (by rw [c.n]; exact q1) (c.vis q2) q3 q4) rfl, fun Z σ H F ρ M Q K S ⟨ns, e, z, q⟩ hk => ?_⟩
  obtain ⟨p, hp, ⟨vs, h1, h2, h3⟩, _⟩ := S.ownAt e
  refine ⟨_, hp, p, ns, rfl, SqL.of (by rw [h1, reps_intv h3]), z, hk _ H F _ ρ M S (Le.refl _) (int_rep _) q⟩
/-- x = A if c else x, x a container of this def alone -/
theorem x_setIf (i : Nat) {x : Str} (h : lcB κ i x = true) (hn : nmB κ i x = true) (h0 : HT b A κ c T0) (h1 : HO b A κ e1 T1) : HS b A κ (.Assign [.Name x pos'] (.IfExp c e1 (.Name x p) p2) pos) (.cond T0 (.sealS i (.setO i T1)) (.chk i)) := fun X cx => by
  obtain ⟨t0, p0, r0⟩ := h0 X cx
  obtain ⟨t1, p1, r1⟩ := h1 X cx
  obtain ⟨q1, q2⟩ := lcB_iff h
  obtain ⟨q3, q4, q5, q6⟩ := nmB_iff hn
  refine ⟨_, ps_set cx.nd (by rw [cx.n]; exact q1) (cx.loc q2).1 (pe_ifExp p0 p1 (pe_var (by rw [cx.n]; exact q3) (cx.vis q4) q5 q6)) (by rfl) (cx.loc q2).2, fun Z σ H F ρ M E D S h le => ?_⟩
  refine r0 Z σ H F ρ M (fun k ρ M => iteN (Bool.toNat k) (wpS b.B (.sealS i (.setO i T1)) ρ M E) (wpS b.B (.chk i) ρ M E)) _ S h fun k H' F' ρ' M' S' _ q => ?_
  cases k with
  | true => exact sr_seal (sr_setO r1) Z σ H' F' ρ' M' E D S' q le
  | false =>
    obtain ⟨⟨cc, e⟩, q⟩ := q
    obtain ⟨pp, hp, _⟩ := S'.ownAt e
    refine ⟨_, hp, ?_⟩
    have es : σ.set i (some (.ref pp)) = σ := by
      obtain ⟨h1, h2⟩ := List.getElem?_eq_some_iff.mp hp
      rw [← h2]
      exact List.set_getElem_self h1
    show D.nx (σ.set i (some (.ref pp))) H'
    rw [es]
    exact le.nx _ _ _ _ _ S' q
end
end DL

set_option Elab.async false
set_option linter.all false
set_option maxRecDepth 100000
namespace DL
open PySem L2 PySem.W PySem.Spec PyProof.Rows
section
variable {b : Bz} {x : Str} {sp spI spC spC' : DSp} {k c : Nat} {f : Addr} {fd : FuncData} {ps : List Str} {n : Nat}
theorem fnI_of0 (F : FnOk b.P b.w b.K b.mg b.base CX0 k f fd ps (liftS b.N sp)) (hm : b.mg x = some (.ref f)) (hk : PySem.W.keepIn b.K (.ref f) = true) (hb : Binds b.K fd ps []) (hdb : (x == ("__debug__" : Str)) = false) : FnI b k x n sp := by
  have h := fnI_of (n := n) (dd := []) F hm hk hb .nil (fun _ => reps_nil.mpr rfl) hdb
  have e : (fun ds => sp (ds ++ [])) = sp := funext fun ds => by rw [List.append_nil]
  rw [e] at h
  exact h
theorem mtI_of0 {m : Str} (F : FnOk b.P b.w b.K b.mg b.base CX0 k f fd ps (liftS b.N sp)) (g : b.Good) (cl : Cls b.K (b.N.cad c)) (hm : Meth b.K (b.N.cad c) m f) (hb : Binds b.K fd ps []) (hno : m ∉ b.N.nms c) : MtI b k c m n sp := by
  have h := mtI_of (n := n) (dd := []) F g cl hm hb .nil (fun _ => reps_nil.mpr rfl) hno
  have e : (fun ds => sp (ds ++ [])) = sp := funext fun ds => by rw [List.append_nil]
  rw [e] at h
  exact h
theorem raw_of0 (F : FnOk b.P b.w b.K b.mg b.base CX0 k f fd ps (liftS b.N sp)) (hm : b.mg x = some (.ref f)) (hb : Binds b.K fd ps []) : FnRaw b k x sp :=
  ⟨f, fd, ps, [], [], [], sp, F, hm, hb, .nil, fun _ => reps_nil.mpr rfl, funext fun ds => by rw [List.append_nil]⟩
theorem MkP.weak {N : Nam} (h : MkP N c spI spC) (m : ∀ ds M Q, spC' ds M Q → spC ds M Q) : MkP N c spI spC' := fun S r q hk => h S r (m _ _ _ q) hk
theorem rmM_upd {M : Mem} {a : Addr} {x y : MO} (h : M a = none) : rmM (updM (updM M a x) a y) a = M := by
  funext b
  by_cases e : b = a
  · subst e; simp [rmM, h]
  · simp [rmM, e, updM]
theorem rmM_ne {M : Mem} {a b : Addr} (h : b ≠ a) : rmM M a b = M b := by simp [rmM, h]
end
end DL

set_option Elab.async false
set_option linter.all false
set_option maxRecDepth 100000
/-! dict(pairs), dict(d), int(b), xs.index(y) -/
namespace DL
open PySem L2 PySem.W PySem.Spec PyProof.Rows
section
variable {X : Cx} {N : Nam} {B : Tab}
theorem mergeK_nodup : ∀ {kvs acc : List (Key × V)}, (∀ p ∈ kvs, ∀ q ∈ acc, q.1 ≠ p.1) → (kvs.map (·.1)).Nodup → mergeK acc kvs = acc ++ kvs
  | [], acc, _, _ => by unfold mergeK; simp
  | kv :: kvs, acc, h, nd => by
    have e1 : putK acc kv.1 kv.2 = acc ++ [kv] := by
      unfold putK
      rw [if_neg]
      rw [Bool.not_eq_true, List.any_eq_false]
      intro q hq
      simpa using h kv List.mem_cons_self q hq
    show mergeK (putK acc kv.1 kv.2) kvs = _
    rw [e1, mergeK_nodup]
    · rw [List.append_assoc]; rfl
    · intro p hp q hq
      rcases List.mem_append.mp hq with z | z
      · exact h p (List.mem_cons_of_mem _ hp) q z
      · rw [List.mem_singleton.mp z]
        rw [List.map_cons, List.nodup_cons] at nd
        intro e
        exact nd.1 (List.mem_map.mpr ⟨p, hp, e.symm⟩)
    · rw [List.map_cons, List.nodup_cons] at nd
      exact nd.2
theorem kD_rep {F : Hp} {k : Key} {v : V} (r : Rep N F (kD k) v) : v = kV k := by
  cases k with
  | inl i => exact rep_int.mp r
  | inr s => exact rep_str.mp r
theorem pairs_rep {F H : Hp} (K : PySem.W.Frag) (sub : ∀ a o, F a = some o → H a = some o) : ∀ {kds : List (Key × D)} {vs : List V}, Reps N F (kds.map fun p => .tup [kD p.1, p.2]) vs → ∃ (ps : List Addr) (kvs : List (Key × V)), vs = ps.map V.ref ∧ Paired (fun p (kv : Key × V) => SqT K H p [kV kv.1, kv.2]) ps kvs ∧ kvs.map (·.1) = kds.map (·.1) ∧ Reps N F (kds.map (·.2)) (kvs.map (·.2))
  | [], vs, r => by
    rw [List.map_nil, reps_nil] at r
    exact ⟨[], [], r, .nil, rfl, reps_nil.mpr rfl⟩
  | kd :: kds, vs, r => by
    obtain ⟨v, t, rfl, q, w⟩ := reps_cons.mp r
    obtain ⟨ps, kvs, rfl, h2, h3, h4⟩ := pairs_rep K sub w
    obtain ⟨a, us, rfl, ha, _, q2⟩ := rep_tup.mp q
    obtain ⟨u1, t1, rfl, q3, w1⟩ := reps_cons.mp q2
    obtain ⟨u2, t2, rfl, q4, w2⟩ := reps_cons.mp w1
    rw [reps_nil] at w2
    subst w2
    rw [kD_rep q3] at ha
    refine ⟨a :: ps, (kd.1, u2) :: kvs, rfl, .cons (SqT.of (sub _ _ ha)) h2, by rw [List.map_cons, h3]; rfl, reps_cons.mpr ⟨_, _, rfl, q4, h4⟩⟩
theorem zip_fs {α β : Type} : ∀ (l : List (α × β)), (l.map (·.1)).zip (l.map (·.2)) = l
  | [] => rfl
  | x :: l => by rw [List.map_cons, List.map_cons, List.zip_cons_cons, zip_fs l]
theorem or_dictP {ta : TA} {wa : WA} (h : AR N ta wa) : OR' N (tCB (fun xs H Q => ∃ (a : Addr) (ps : List Addr) (kvs : List (Key × V)), xs = [.ref a] ∧ SqL X.K H a (ps.map V.ref) ∧ Paired (fun p kv => SqT X.K H p [kV kv.1, kv.2]) ps kvs ∧
    ∀ p, H p = none → Q (.ref p) (upd H p (.dK (mergeK [] kvs)))) ta) (fun ρ M Q => wa ρ M fun ds ρ M => biP M .dictP ds fun z => Q z ρ M) := fun Z σ H F ρ M Q K S hw hk =>
  h Z σ H F ρ M _ _ S hw fun vs H1 F1 ds ρ1 M1 S1 l r q => by
    obtain ⟨d, kds, rfl, h1, nd, h2⟩ := q
    obtain ⟨v, rfl, r1⟩ := reps1 r
    have rv := r1.view S1
    rw [h1] at rv
    obtain ⟨p, us, rfl, hp, z, w⟩ := rv
    obtain ⟨ps, kvs, e, h3, h4, h5⟩ := pairs_rep X.K S1.sub w
    refine ⟨p, ps, kvs, rfl, SqL.of (by rw [hp, e]), h3, fun a ha => ?_⟩
    have em : mergeK [] kvs = kvs := by
      rw [mergeK_nodup (by intro _ _ q hq; cases hq) (by rw [h4]; exact nd)]; rfl
    refine hk a _ F1 (.K (kds.map fun x : Key × D => x.1) (kds.map fun x : Key × D => x.2)) ρ1 M1 (S1.newO ha ⟨kvs.map fun x : Key × V => x.2, ?_, ?_, ?_, nd, h5⟩) S1.len l h2
    · rw [upd_same, em, ← h4, zip_fs]
    · rw [← h4, List.length_map, List.length_map]
    · rw [List.length_map]
      have := h3.length
      rw [e, List.length_map] at z
      omega
theorem or_dictC {ta : TA} {wa : WA} (h : AR N ta wa) : OR' N (tCB (fun xs H Q => ∃ (a : Addr) (kvs : List (Key × V)), xs = [.ref a] ∧ Rd H a (.dK kvs) ∧ ∀ p, H p = none → Q (.ref p) (upd H p (.dK kvs))) ta) (fun ρ M Q => wa ρ M fun ds ρ M => biP M .dictC ds fun z => Q z ρ M) := fun Z σ H F ρ M Q K S hw hk =>
  h Z σ H F ρ M _ _ S hw fun vs H1 F1 ds ρ1 M1 S1 l r q => by
    obtain ⟨d, ks, es, rfl, h1, h2⟩ := q
    obtain ⟨v, rfl, r1⟩ := reps1 r
    have rv := r1.view S1
    rw [h1] at rv
    obtain ⟨p, us, rfl, hp, z, z2, nd, w⟩ := rv
    exact ⟨p, _, rfl, .inl hp, fun a ha => hk a _ F1 (.K ks es) ρ1 M1 (S1.newO ha ⟨us, upd_same, z, z2, nd, w⟩) S1.len l h2⟩
theorem cb_intB : CRb N (fun xs H Q => (∃ i, xs = [.int i] ∧ Q (.int i) H) ∨ ∃ k, xs = [.bl k] ∧ Q (.int (if k then 1 else 0)) H) (fun M => biP M .intB) := fun Z σ H F ρ M vs ds Q K S r h hk => by
  rcases h with ⟨k, rfl, h⟩ | ⟨i, rfl, h⟩
  · obtain ⟨v, rfl, r1⟩ := reps1 r
    rw [rep_bl.mp r1]
    exact .inr ⟨k, rfl, hk _ H F _ S (Le.refl _) (int_rep _) h⟩
  · obtain ⟨v, rfl, r1⟩ := reps1 r
    rw [rep_int.mp r1]
    exact .inl ⟨i, rfl, hk _ H F _ S (Le.refl _) (int_rep _) h⟩
theorem er_index {to : TE} {ta : TA} {wo : WE} {wa : WA} (ho : ER N to wo) (ha : AR N ta wa) : ER N (tBM X.K "list" (rIndex X.K) to ta) (fun ρ M Q => wo ρ M fun y ρ M => bmK .index (view M y) ∧ wa ρ M fun ds ρ M => bmP .index (view M y) ds fun z => Q z ρ M) := fun Z σ H F ρ M Q K S hw hk =>
  ho Z σ H F ρ M _ _ S hw fun v H1 F1 d ρ1 M1 S1 l r ⟨hk1, q1⟩ => by
    obtain ⟨es, ed⟩ : ∃ es, view M1 d = .lst es := by
      cases e : view M1 d with
      | lst es => exact ⟨es, rfl⟩
      | _ => rw [e] at hk1; exact hk1.elim
    have rv := r.view S1
    rw [ed] at rv
    obtain ⟨p, us, rfl, hp, z, w⟩ := rv
    refine ⟨.inl ⟨rfl, us, SqL.of hp⟩, ?_⟩
    refine ha Z σ H1 F1 ρ1 M1 _ _ S1 q1 fun vs H2 F2 ds ρ2 M2 S2 l2 r2 q2 => ?_
    have q2 : bmP .index (view M2 d) ds fun z => Q z ρ2 M2 := q2
    cases e2 : view M2 d with
    | lst es2 =>
      rw [e2] at q2
      have rv2 := (r.mono l2).view S2
      rw [e2] at rv2
      obtain ⟨p2, us2, ep, hp2, z2, w2⟩ := rv2
      cases ep
      match ds, q2 with
      | [x], q2 =>
        have q2 : (flatD x && es2.all flatD) = true ∧ ∃ (j : Nat) (z : D), es2[j]? = some z ∧ deq z x = true ∧ (∀ (m : Nat) (z' : D), m < j → es2[m]? = some z' → deq z' x = false) ∧ Q (.int (j : Nat)) ρ2 M2 := q2
        obtain ⟨fl, j, zz, h1, h2, h3, h4⟩ := q2
        rw [Bool.and_eq_true] at fl
        obtain ⟨y, rfl, ry⟩ := reps1 r2
        obtain ⟨u, hu, ru⟩ := w2.get h1
        have fz : flatD zz = true := List.all_eq_true.mp fl.2 zz (List.mem_of_getElem? h1)
        refine ⟨p, us2, y, j, u, rfl, rfl, SqL.of hp2, flat_v fl.1 ry, flat_vs fl.2 w2, hu, by rw [eq_flat fz fl.1 ru ry]; exact h2, fun m z' hm hz' => ?_, hk _ H2 F2 _ ρ2 M2 S2 (l.trans l2) (int_rep _) h4⟩
        obtain ⟨dz, hd, rd⟩ := w2.get' hz'
        rw [eq_flat (List.all_eq_true.mp fl.2 dz (List.mem_of_getElem? hd)) fl.1 rd ry]
        exact h3 m dz hm hd
    | _ => rw [e2] at q2; exact q2.elim
end
section
variable {b : Bz} {A : Around} {κ : Kt} {pos pos' p p1 p2 p3 apos cpos tpos : Pos} {e e1 e2 e3 c o : Expr} {es rest : List Expr} {T0 T1 T2 T3 Tr Tg Ti Tc To : DL.T}
theorem boot_dict' : bootBuiltins "dict" = some (.type "dict") := by decide +kernel
theorem boot_int' : bootBuiltins "int" = some (.type "int") := by decide +kernel
theorem o_dictP (hm : b.mg "dict" = none) (hg : glB κ "dict" = true) (hp : plainE e1 = true) (h1 : HE b A κ e1 T1) : HO b A κ (.Call (.Name "dict" p) [e1] [] pos) (.bi .dictP (.cons T1 .nil)) := fun X c => by
  obtain ⟨t1, p1, r1⟩ := a_cons hp h1 a_nil X c
  exact ⟨_, pe_callTy (call_dictP c.c) (c.gl hg) (by rw [c.m]; exact hm) boot_dict' p1 (he := star_cons _ hp), or_dictP (X := X) r1⟩
theorem o_dictC (hm : b.mg "dict" = none) (hg : glB κ "dict" = true) (hp : plainE e1 = true) (h1 : HE b A κ e1 T1) : HO b A κ (.Call (.Name "dict" p) [e1] [] pos) (.bi .dictC (.cons T1 .nil)) := fun X c => by
  obtain ⟨t1, p1, r1⟩ := a_cons hp h1 a_nil X c
  exact ⟨_, pe_callTy call_dictD (c.gl hg) (by rw [c.m]; exact hm) boot_dict' p1 (he := star_cons _ hp), or_dictC r1⟩
theorem h_intB (hm : b.mg "int" = none) (hg : glB κ "int" = true) (hp : plainE e1 = true) (h1 : HE b A κ e1 T1) : HE b A κ (.Call (.Name "int" p) [e1] [] pos) (.bi .intB (.cons T1 .nil)) := fun X c => by
  obtain ⟨t1, p1, r1⟩ := a_cons hp h1 a_nil X c
  exact ⟨_, pe_callTy call_int1 (c.gl hg) (by rw [c.m]; exact hm) boot_int' p1 (he := star_cons _ hp), er_cb (p := fun M => biP M .intB) r1 cb_intB⟩
theorem h_index (hb : ∀ env : PySem.Env, attributeBase o "index" env (eval o env) = eval o env) (hf : FewOk e1 es cpos) (hl : (apos.endLine == cpos.line) = true) (hp : plainEs (e1 :: es) = true) (h1 : HE b A κ o To) (h3 : HA b A κ (e1 :: es) T1) :
    HE b A κ (.Call (.Attribute o "index" apos) (e1 :: es) [] cpos) (.bm .index To T1) := fun X c => by
  obtain ⟨t1, p1, r1⟩ := h3 X c
  obtain ⟨t2, p2, r2⟩ := h1 X c
  unfold plainEs at hp
  rw [List.all_cons, Bool.and_eq_true] at hp
  exact ⟨_, pe_bm PySem.F.plainAttrs_list PySem.F.slot_list_index PySem.F.type_list_index mt_index p2 p1 (hbase := hb _) (hfew := hf _) (hline := hl) (hs := star_cons _ hp.1) (hplain := star_any _ hp.2), er_index (X := X) r2 r1⟩
end
end DL

set_option Elab.async false
set_option linter.all false
set_option maxRecDepth 100000
/-! containers that go to memory, frozen again; x or y of values; repr; two targets -/
namespace DL
open PySem L2 PySem.W PySem.Spec PyProof.Rows
section
variable {X : Cx} {N : Nam} {B : Tab}
theorem er_newM {te : TE} {we : WE} (he : OR' N te we) : ER N te (fun ρ M Q => we ρ M fun x ρ M => ∃ c, freshLst x = some c ∧ ∀ p, M p = none → Q (.loc p) ρ (updM M p (.co c))) := fun Z σ H F ρ M Q K S hw hk =>
  he Z σ H F ρ M _ _ S hw fun p H1 F1 c ρ1 M1 S1 hl l ⟨c', e, h1⟩ => by
    have e2 : c' = c := by cases c <;> exact (Option.some.inj e).symm
    subst e2
    obtain ⟨g1, S2⟩ := S1.toM hl
    exact hk _ _ _ _ _ _ S2 l (rep_loc.mpr rfl) (h1 p g1)
theorem Sim.freezeC {Z : Ety} {F H : Hp} {ρ : Env} {M : Mem} {σ : L2.St} (S : Sim N Z F ρ M σ H) {a : Addr} {c : CO} (e : M a = some (.co c)) : ∃ F', Sim N Z F' ρ (rmM M a) σ H ∧ Le F F' ∧ Rep N F' c.tree (.ref a) := by
  have x : CoOk N F H a c := S.mem a _ e
  obtain ⟨ho, h1⟩ := x.there
  have fa : F a = none := S.mf a _ e
  have lf : Le F (upd F a ho) := Le.new fa
  refine ⟨upd F a ho, ⟨fun b o q => ?_, S.le0.trans lf, fun b m q => ?_, fun b m q => ?_, fun b m q => ?_, fun b o q z1 z2 => ?_, S.keep, S.there, ?_, S.len⟩, lf, Rep.co x h1 fa⟩
  · by_cases hb : b = a
    · subst hb; rw [upd_same] at q; cases q; exact h1
    · rw [upd_ne hb] at q; exact S.sub b o q
  · by_cases hb : b = a
    · subst hb; simp [rmM] at q
    · simp [rmM, hb] at q; rw [upd_ne hb]; exact S.mf b m q
  · by_cases hb : b = a
    · subst hb; simp [rmM] at q
    · simp [rmM, hb] at q; exact (S.mem b m q).mono lf fun o h => h
  · by_cases hb : b = a
    · subst hb; simp [rmM] at q
    · simp [rmM, hb] at q; exact S.mnew b m q
  · by_cases hb : b = a
    · subst hb; exact S.mnew b _ e z2
    · rw [upd_ne hb] at q; exact S.fnew b o q z1 z2
  · obtain ⟨ow, w1, w2⟩ := S.own
    refine ⟨ow, fun p i q => ?_, fun i lv q => (w2 i lv q).mono lf fun _ _ _ h => h⟩
    obtain ⟨y1, y2, y3, y4⟩ := w1 p i q
    have hp : p ≠ a := fun z => by subst z; rw [e] at y2; cases y2
    exact ⟨by rw [upd_ne hp]; exact y1, by simp [rmM, hp]; exact y2, y3, y4⟩
theorem er_frz {te : TE} {we : WE} (he : ER N te we) : ER N te (fun ρ M Q => we ρ M fun x ρ M => ∃ p c, x = .loc p ∧ M p = some (.co c) ∧ Q c.tree ρ (rmM M p)) := fun Z σ H F ρ M Q K S hw hk =>
  he Z σ H F ρ M _ _ S hw fun v H1 F1 d ρ1 M1 S1 l r ⟨p, c, e, hm, q⟩ => by
    subst e
    rw [rep_loc.mp r]
    obtain ⟨F2, S2, l2, r2⟩ := S1.freezeC hm
    exact hk _ _ _ _ _ _ S2 (l.trans l2) r2 q
theorem tru_v {F H : Hp} {d : D} {v : V} {k : Bool} (K : PySem.W.Frag) (h : truD d = some k) (r : Rep N F d v) : TruV K v H k := by
  cases d with
  | non => cases h; rw [rep_non.mp r]; rfl
  | bl b => cases h; rw [rep_bl.mp r]; rfl
  | int i => cases h; rw [rep_int.mp r]; rfl
  | _ => cases h
theorem er_orVV {ta tb : TE} {wa wb : WE} (ha : ER N ta wa) (hb : ER N tb wb) : ER N (tOrT X.K ta tb) (fun ρ M Q => wa ρ M fun x ρ M => ∃ k, truD x = some k ∧ iteN (Bool.toNat k) (Q x ρ M) (wb ρ M Q)) := fun Z σ H F ρ M Q K S hw hk =>
  ha Z σ H F ρ M _ _ S hw fun v H1 F1 d ρ1 M1 S1 l r ⟨k, e, q⟩ => by
    refine ⟨k, tru_v X.K e r, ?_⟩
    cases k with
    | true => rw [if_pos rfl]; exact hk v H1 F1 d ρ1 M1 S1 l r q
    | false =>
      rw [if_neg Bool.false_ne_true]
      exact hb Z σ H1 F1 ρ1 M1 Q K S1 q fun v2 H2 F2 d2 ρ2 M2 S2 l2 r2 q2 => hk v2 H2 F2 d2 ρ2 M2 S2 (l.trans l2) r2 q2
theorem call_repr : CallR X (.builtin "repr") (fun xs H Q => (xs = [.non] ∧ Q (.str (Str.ofString "None")) H) ∨ (∃ i : Int, xs = [.int i] ∧ i.natAbs.log2 < 1920 ∧ Q (.str (Str.ofString (toString i))) H)) := by
  intro pins s σ H xs us Q I r h
  rcases h with ⟨rfl, q⟩ | ⟨i, rfl, hz, q⟩
  · obtain ⟨u, rfl, ru⟩ := r.one
    obtain rfl : u = Value.none := ru
    exact PySem.P.repr_of_none ⟨.str _, H, I.tok _, ⟨_, rfl⟩, q⟩
  · obtain ⟨u, rfl, t, rfl⟩ := vals1 r
    exact PySem.P.repr_of_int hz ⟨.str _, H, I.tok _, ⟨_, rfl⟩, q⟩
theorem cb_repr : CRb N (fun xs H Q => (xs = [.non] ∧ Q (.str (Str.ofString "None")) H) ∨ (∃ i : Int, xs = [.int i] ∧ i.natAbs.log2 < 1920 ∧ Q (.str (Str.ofString (toString i))) H)) (fun M => biP M .repr) := fun Z σ H F ρ M vs ds Q K S r h hk => by
  rcases h with ⟨rfl, h⟩ | ⟨i, rfl, hz, h⟩
  · obtain ⟨v, rfl, r1⟩ := reps1 r
    rw [rep_non.mp r1]
    exact .inl ⟨rfl, hk _ H F _ S (Le.refl _) (rep_str.mpr rfl) h⟩
  · obtain ⟨v, rfl, r1⟩ := reps1 r
    rw [rep_int.mp r1]
    exact .inr ⟨i, rfl, hz, hk _ H F _ S (Le.refl _) (rep_str.mpr rfl) h⟩
theorem sr_setIx2 {te tp ti ti2 : TE} {we wp wi wi2 : WE} {i : Nat} (he : ER N te we) (hp : ER N tp wp) (hi : ER N ti wi) (hi2 : ER N ti2 wi2) : SR N (tAsg2 te (gSub tp ti rSetA) (gSub (tVar i) ti2 rSetA)) (fun ρ M E => we ρ M fun x ρ M => wp ρ M fun q ρ M => wi ρ M fun y ρ M => ∃ a c, q = .loc a ∧ M a = some (.co c) ∧ setIxP c (view M y) x fun c' => (∃ c, ρ[i]? = some (.own c)) ∧ wi2 ρ (updM M a (.co c')) fun y ρ M => ∃ c, ρ[i]? = some (.own c) ∧ setIxP c (view M y) x fun c' => E.nx (ρ.set i (.own c')) M) := fun Z σ H F ρ M E D S h le =>
  he Z σ H F ρ M _ _ S h fun v H1 F1 d ρ1 M1 S1 _ r1 h1 => hp Z σ H1 F1 ρ1 M1 _ _ S1 h1 fun w H2 F2 q ρ2 M2 S2 l2 r2 h2 => hi Z σ H2 F2 ρ2 M2 _ _ S2 h2 fun u H3 F3 y ρ3 M3 S3 l3 r3 ⟨a, c, e1, e2, h3⟩ => by
    subst e1
    rw [rep_loc.mp r2]
    refine setIx_ok (S3.mem a _ e2) (r3.view S3) (r1.mono (l2.trans l3)) h3 fun c' ho x' q' => ?_
    have S4 := S3.putM (mo' := .co c') e2 x'
    obtain ⟨⟨c0, e0⟩, h4⟩ := q'
    obtain ⟨p, hp, _, _⟩ := S4.ownAt e0
    refine ⟨_, hp, ?_⟩
    refine hi2 Z σ _ _ _ _ _ _ S4 h4 fun u5 H5 F5 y5 ρ5 M5 S5 l5 r5 ⟨c5, e5, q5⟩ => ?_
    obtain ⟨p', hp', x5, _⟩ := S5.ownAt e5
    rw [hp] at hp'; cases hp'
    exact setIx_ok x5 (r5.view S5) (r1.mono ((l2.trans l3).trans l5)) q5 fun c6 ho6 x6 q6 => le.nx _ _ _ _ _ (S5.putO e5 hp x6) q6
end
section
variable {b : Bz} {A : Around} {κ : Kt} {pos pos' p p1 p2 p3 apos cpos tpos tpos2 : Pos} {e e1 e2 e3 c o : Expr} {es rest : List Expr} {T0 T1 T2 T3 Tr Tg Ti Tc To : DL.T}
theorem h_newM (h1 : HO b A κ e1 T1) : HE b A κ e1 (.newM T1) := fun X c => by
  obtain ⟨t1, p1, r1⟩ := h1 X c
  exact ⟨t1, p1, er_newM r1⟩
theorem h_frz (h1 : HE b A κ e1 T1) : HE b A κ e1 (.frz T1) := fun X c => by
  obtain ⟨t1, p1, r1⟩ := h1 X c
  exact ⟨t1, p1, er_frz r1⟩
theorem h_orV (h1 : HE b A κ e1 T1) (h2 : HE b A κ (.BoolOp .Or (e2 :: rest) pos) T2) : HE b A κ (.BoolOp .Or (e1 :: e2 :: rest) pos) (.orV T1 T2) := fun X c => by
  obtain ⟨t1, p1, r1⟩ := h1 X c
  obtain ⟨t2, p2, r2⟩ := h2 X c
  exact ⟨_, pe_orT p1 p2, er_orVV (X := X) r1 r2⟩
theorem boot_repr' : bootBuiltins "repr" = some (.builtin "repr") := by decide +kernel
theorem h_repr (hm : b.mg "repr" = none) (hg : glB κ "repr" = true) (hp : plainE e1 = true) (h1 : HE b A κ e1 T1) : HE b A κ (.Call (.Name "repr" p) [e1] [] pos) (.bi .repr (.cons T1 .nil)) := fun X c => by
  obtain ⟨t1, p1, r1⟩ := a_cons hp h1 a_nil X c
  exact ⟨_, pe_callB call_repr (c.gl hg) (by rw [c.m]; exact hm) boot_repr' p1 (he := star_cons _ hp), er_cb (p := fun M => biP M .repr) r1 cb_repr⟩
theorem x_setIx2 (i : Nat) {x : Str} (ha : ∀ (env : PySem.Env) v, assign (.Subscript o e1 tpos) env v = (do
      let ov ← holding [v] (eval o env)
      let iv ← holding [v, ov] (eval e1 env)
      standAt tpos
      holding [v, ov, iv] (setItem ov iv v)
      release [v, ov, iv] [])) (ha2 : ∀ (env : PySem.Env) v, assign (.Subscript (.Name x p) e2 tpos2) env v = (do
      let ov ← holding [v] (eval (.Name x p) env)
      let iv ← holding [v, ov] (eval e2 env)
      standAt tpos2
      holding [v, ov, iv] (setItem ov iv v)
      release [v, ov, iv] [])) (hq : ∀ (env : PySem.Env), (assignEach [.Subscript o e1 tpos, .Subscript (.Name x p) e2 tpos2] env).map (·.2) = [assign (.Subscript o e1 tpos) env, assign (.Subscript (.Name x p) e2 tpos2) env]) (hw : ∀ (env : PySem.Env), swappedStores [.Subscript o e1 tpos, .Subscript (.Name x p) e2 tpos2] e3 env = pure none)
    (h : nmB κ i x = true) (h0 : HE b A κ o To) (h3 : HE b A κ e1 T1) (h5 : HE b A κ e2 T2) (h4 : HE b A κ e3 T3) :
    HS b A κ (.Assign [.Subscript o e1 tpos, .Subscript (.Name x p) e2 tpos2] e3 pos) (.setIx2 To T1 i T2 T3) := fun X c => by
  obtain ⟨q1, q2, q3, q4⟩ := nmB_iff h
  obtain ⟨t1, p1, r1⟩ := h3 X c
  obtain ⟨t2, p2, r2⟩ := h5 X c
  obtain ⟨t3, p3, r3⟩ := h4 X c
  obtain ⟨t0, p0, r0⟩ := h0 X c
  exact ⟨_, ps_asg2 p3 (set_frame c.hu p0 p1 ha) (set_frame c.hu (pe_var (by rw [c.n]; exact q1) (c.vis q2) q3 q4) p2 ha2) (hq _) (hw _), sr_setIx2 r3 r0 r1 r2⟩
end
end DL

set_option Elab.async false
set_option linter.all false
set_option maxRecDepth 100000
/-! a, b = x, y -/
namespace DL
open PySem L2 PySem.W PySem.Spec PyProof.Rows
def swS (sc : Scope) (ts vs : List Expr) : Option (Option (List Str)) :=
  if (!(ts.length == 2 || ts.length == 3) || vs.length != ts.length) = true then some none
  else if (vs.any fun | .Starred .. => true | _ => false) = true then some none
  else
    let line := (ts.head?.map (·.pos.line)).getD 0
    let names := ts.filterMap fun
      | .Name id pos => if (sc.names.lookup id == some .local && pos.line == line) = true then some id else none
      | _ => none
    if (names.length != ts.length || names.eraseDups.length != names.length) = true then some none
    else if vs.all (foldedForSure 8) = true then some none
    else if vs.all (constantsAlone 8) = true then none
    else some (some names)
theorem sw_eq {ts vs : List Expr} {kt k2 pt pt2} {env : PySem.Env} {sc : Scope} {r : Option (List Str)} (h : env.scope = sc) (hk : sc.kind = .function) (e : swS sc ts vs = some r) : swappedStores [.Tuple ts kt pt] (.Tuple vs k2 pt2) env = pure r := by
  subst h
  have hb : env.blockKind = .function := by unfold Env.blockKind; rw [hk]; rfl
  unfold swS at e
  unfold swappedStores
  simp only [hb]
  have hkd : ∀ id, env.kindOf id = env.scope.names.lookup id := fun _ => rfl
  simp only [hkd]
  have e1 : (ScopeKind.function != ScopeKind.function) = false := rfl
  simp only [e1, Bool.or_false]
  dsimp only at e
  split at e
  · rename_i c; cases e; exact if_pos c
  · rename_i c; refine (if_neg c).trans ?_
    split at e
    · rename_i c; cases e; exact if_pos c
    · rename_i c; refine (if_neg c).trans ?_
      split at e
      · rename_i c; cases e; exact if_pos c
      · rename_i c; refine (if_neg c).trans ?_
        split at e
        · rename_i c; cases e; exact if_pos c
        · rename_i c; refine (if_neg c).trans ?_
          split at e
          · cases e
          · rename_i c; cases e; exact if_neg c
section
variable {X : Cx} {N : Nam} {B : Tab}
theorem sr_par2 {ta : TA} {wa : WA} {i j : Nat} (ha : AR N ta wa) : SR N (tPar i j ta) (fun ρ M E => wa ρ M fun ds ρ M => ∃ x y, ds = [x, y] ∧ E.nx ((ρ.set i (.val x)).set j (.val y)) M) := fun Z σ H F ρ M E D S h le =>
  ha Z σ H F ρ M _ _ S h fun vs H1 F1 ds ρ1 M1 S1 _ r ⟨x, y, e, q⟩ => by
    subst e
    obtain ⟨v, t, rfl, r1, w⟩ := reps_cons.mp r
    obtain ⟨u, t2, rfl, r2, w2⟩ := reps_cons.mp w
    rw [reps_nil] at w2
    subst w2
    exact ⟨v, u, rfl, le.nx _ _ _ _ _ ((S1.set i r1).set j r2) q⟩
theorem sr_par3 {ta : TA} {wa : WA} {i j k : Nat} (ha : AR N ta wa) : SR N (tPar3 i j k ta) (fun ρ M E => wa ρ M fun ds ρ M => ∃ x y z, ds = [x, y, z] ∧ E.nx (((ρ.set i (.val x)).set j (.val y)).set k (.val z)) M) := fun Z σ H F ρ M E D S h le =>
  ha Z σ H F ρ M _ _ S h fun vs H1 F1 ds ρ1 M1 S1 _ r ⟨x, y, z, e, q⟩ => by
    subst e
    obtain ⟨v, t, rfl, r1, w⟩ := reps_cons.mp r
    obtain ⟨u, t2, rfl, r2, w2⟩ := reps_cons.mp w
    obtain ⟨u3, t3, rfl, r3, w3⟩ := reps_cons.mp w2
    rw [reps_nil] at w3
    subst w3
    exact ⟨v, u, u3, rfl, le.nx _ _ _ _ _ (((S1.set i r1).set j r2).set k r3) q⟩
end
def nlB (κ : Kt) (i : Nat) (x : Str) : Bool := decide (κ.ns[i]? = some x) && lclB κ x
theorem nlB_iff {κ : Kt} {i : Nat} {x : Str} (h : nlB κ i x = true) : κ.ns[i]? = some x ∧ lclB κ x = true := by
  unfold nlB at h
  rw [Bool.and_eq_true] at h
  exact ⟨of_decide_eq_true h.1, h.2⟩
section
variable {b : Bz} {A : Around} {κ : Kt} {pos pos' p p1 p2 p3 apos cpos tpos tpos2 : Pos} {e e1 e2 e3 c o : Expr} {es rest : List Expr} {T0 T1 T2 T3 Tr Tg Ti Tc To : DL.T}
theorem x_par2 (i j : Nat) {x y : Str} {px py pt pt2 : Pos} {kt k2 : Nat} (hx : nlB κ i x = true) (hy : nlB κ j y = true) (hij : i ≠ j) (hk : κ.sc.kind = .function) (hw : swS κ.sc [.Name x px, .Name y py] [e1, e2] = some (some [x, y]))
    (hs : ∀ (env : PySem.Env), swapsWithSole [.Tuple [.Name x px, .Name y py] kt pt] (.Tuple [e1, e2] k2 pt2) pos.line env = pure false) (h1 : HA b A κ [e1, e2] T1) : HS b A κ (.Assign [.Tuple [.Name x px, .Name y py] kt pt] (.Tuple [e1, e2] k2 pt2) pos) (.par2 i j T1) := fun X c => by
  obtain ⟨t1, p1, r1⟩ := h1 X c
  exact ⟨_, ps_par c.c c.nd (by rw [c.n]; exact (nlB_iff hx).1) (by rw [c.n]; exact (nlB_iff hy).1) hij (c.lcl (nlB_iff hx).2) (c.lcl (nlB_iff hy).2) p1 (sw_eq c.s hk hw) (hs _), sr_par2 r1⟩
theorem x_par3 (i j k : Nat) {x y z : Str} {px py pz pt pt2 : Pos} {kt k2 : Nat} (hx : nlB κ i x = true) (hy : nlB κ j y = true) (hz : nlB κ k z = true) (hij : i ≠ j) (hik : i ≠ k) (hjk : j ≠ k) (hk : κ.sc.kind = .function) (hw : swS κ.sc [.Name x px, .Name y py, .Name z pz] [e1, e2, e3] = some (some [x, y, z]))
    (hs : ∀ (env : PySem.Env), swapsWithSole [.Tuple [.Name x px, .Name y py, .Name z pz] kt pt] (.Tuple [e1, e2, e3] k2 pt2) pos.line env = pure false) (h1 : HA b A κ [e1, e2, e3] T1) : HS b A κ (.Assign [.Tuple [.Name x px, .Name y py, .Name z pz] kt pt] (.Tuple [e1, e2, e3] k2 pt2) pos) (.par3 i j k T1) := fun X c => by
  obtain ⟨t1, p1, r1⟩ := h1 X c
  exact ⟨_, ps_par3 c.c c.nd (by rw [c.n]; exact (nlB_iff hx).1) (by rw [c.n]; exact (nlB_iff hy).1) (by rw [c.n]; exact (nlB_iff hz).1) hij hik hjk (c.lcl (nlB_iff hx).2) (c.lcl (nlB_iff hy).2) (c.lcl (nlB_iff hz).2) p1 (sw_eq c.s hk hw) (hs _), sr_par3 r1⟩
theorem x_asgT {elts vs : List Expr} {kk k2 : Nat} {pt2 : Pos} (hk : κ.sc.kind = .function) (hw : swS κ.sc elts vs = some none) (hs : ∀ (env : PySem.Env), swapsWithSole [.Tuple elts kk tpos] (.Tuple vs k2 pt2) pos.line env = pure false) (h1 : HE b A κ (.Tuple vs k2 pt2) T1) (h2 : HG b A κ (.Tuple elts kk tpos) Tg) : HS b A κ (.Assign [.Tuple elts kk tpos] (.Tuple vs k2 pt2) pos) (.asgT Tg T1) := fun X c => by
  obtain ⟨t1, p1, r1⟩ := h1 X c
  obtain ⟨t2, p2, r2⟩ := h2 X c
  exact ⟨_, ps_asg p1 p2 (hs _) (sw_eq c.s hk hw), sr_asgT r1 r2⟩
end
end DL

set_option Elab.async false
set_option linter.all false
set_option maxRecDepth 100000
set_option maxHeartbeats 2000000
namespace DL
open PySem L2 PySem.W PySem.Spec PyProof.Rows
section
variable {X : Cx} {CX : CXT} {k : Nat} {f : Addr} {fd : FuncData} {ps ks : List Str} {sp : Sp} {E : XK} {x : Str} {p pos : Pos} {kws : List Keyword} {tk : TA} {g : List Value → List Value → List Value} {gV : List V → List V → List V}
/-- f(k = v, ..) -/
theorem pe_callN0 (F : FnOk X.prog X.w X.K X.mg X.base CX k f fd ps sp) (hr : Room k X.A) (hg : Gl X x) (hm : X.mg x = some (.ref f)) (hk : PySem.W.keepIn X.K (.ref f) = true) (hb : KBn X.K fd ps 0 ks g gV) (hx : Passes CX X E)
    (hkw : PK X kws tk) (hall : (backToKw pos (keywordEach kws X.env)).all (·.1.isSome) = true) (hks : (backToKw pos (keywordEach kws X.env)).filterMap (·.1) = ks) (hdb : (x == ("__debug__" : Str)) = false)
    (hpl : ((backTo pos (starEach [] X.env)).any (·.1) || (backToKw pos (keywordEach kws X.env)).any (·.1.isNone)) = false) :
    PE X (.Call (.Name x p) [] kws pos) (fun σ H Q => tk σ H fun zs H2 => zs.length = ks.length ∧ sp (gV [] zs) H2 Q E) := by
  refine ⟨fun pins s σ H Q I h => ?_⟩
  refine wpAny_Call_Name_kw (ld_glob I hg hm ?_ hdb)
  refine PySem.W.callWith_KW0 (h₀ := X.base) I.ok.mod.kin hk hall ?_ hpl
  refine thn (hkw.run pos pins s σ H _ I h) fun ws s2 ⟨zs, H2, I2, rz, l2, q2⟩ => ⟨I2.kIn, ?_⟩
  rw [hks]
  exact run_fnN (vs := []) F hr hb hx I2 .nil rz rfl l2 q2
end
section
variable {b : Bz} {x : Str} {sp : DSp} {k : Nat} {f : Addr} {fd : FuncData} {ps ks : List Str}
/-- what can be called by keywords alone -/
def FnKI0 (b : Bz) (k : Nat) (x : Str) (ks : List Str) (sp : DSp) : Prop := ∀ (A : Around) (κ : Kt) (kws : List Keyword) (p pos : Pos) (Tk : DL.T) (kk : Nat), Room k A → kwOf kws = some ks → glB κ x = true → (b.B.ent kk).npos = 0 → (b.B.ent kk).nkw = ks.length → b.B.sp kk = sp → HK b A κ kws Tk → HE b A κ (.Call (.Name x p) [] kws pos) (.callK kk .nil Tk)
theorem fnKI_of0 {g : List Value → List Value → List Value} {gV : List V → List V → List V} {gD : List D → List D → List D} {sp' : DSp} (F : FnOk b.P b.w b.K b.mg b.base CX0 k f fd ps (liftS b.N sp)) (hm : b.mg x = some (.ref f)) (hk : PySem.W.keepIn b.K (.ref f) = true)
    (hb : KBn b.K fd ps 0 ks g gV) (hdb : (x == ("__debug__" : Str)) = false) (hg : ∀ F bs us, bs.length = ks.length → Reps b.N F bs us → Reps b.N F (gD [] bs) (gV [] us)) (hsp : ∀ bs M Q, bs.length = ks.length → sp' bs M Q → sp (gD [] bs) M Q) : FnKI0 b k x ks sp' := by
  intro A κ kws p pos Tk kk hr hks hgl h1 h2 hs hkw X c
  obtain ⟨tk, pk, kk'⟩ := hkw X c
  obtain ⟨hc1, hc2, hc3, hc4, hc5, hc6⟩ : X.prog = b.P ∧ X.w = b.w ∧ X.K = b.K ∧ X.mg = b.mg ∧ X.base = b.base ∧ X.A = A := ⟨c.p, c.w, c.k, c.m, c.b, c.a⟩
  rw [← hc1, ← hc2, ← hc3, ← hc4, ← hc5] at F
  rw [← hc3] at hk hb
  rw [← hc4] at hm
  rw [← hc6] at hr
  obtain ⟨k1, k2, k3⟩ := kw_facts (pos := pos) X.env hks
  refine ⟨_, pe_callN0 F hr (c.gl hgl) hm hk hb pass0 pk k1 k3 hdb (by rw [k2]; rfl), fun Z σ H F ρ M Q KK S hw hk => ?_⟩
  have hw : wpA b.B Tk ρ M fun es ρ M => (0 = (b.B.ent kk).npos ∧ es.length = (b.B.ent kk).nkw) ∧ b.B.sp kk ([] ++ es) M fun d M' => Q d ρ M' := hw
  refine kk' Z σ H F ρ M _ _ S hw fun us H2 F2 es2 ρ2 M2 S2 l2 r2 ⟨⟨z1, z2⟩, q2⟩ => ?_
  rw [hs] at q2
  rw [h2] at z2
  exact ⟨by rw [r2.length]; exact z2, lift_run S2 (hg F2 es2 us z2 r2) (hsp es2 M2 _ z2 q2) fun v H' F' d ρ' M' S' l' r' q' => hk v H' F' d ρ' M' S' (l2.trans l') r' q'⟩
end
end DL

set_option Elab.async false
set_option linter.all false
set_option maxRecDepth 100000
set_option maxHeartbeats 2000000
/-! a new object that never changes behind __init__, nor do the containers that its fields hold -/
namespace DL
open PySem L2 PySem.W PySem.Spec PyProof.Rows
def clr (M : Mem) : List D → Mem
  | [] => M
  | .loc p :: ds => clr (rmM M p) ds
  | _ :: ds => clr M ds
def mkSpFF (c : Nat) (n : Nat) (spI : DSp) : DSp := fun ds M Q => ∀ a, M a = none → spI (.loc a :: ds) (updM M a (.obj c [])) fun d M' => d = .non ∧ ∃ fs, M' a = some (.obj c fs) ∧ fs.length = n ∧ Q (.obj c (fs.map (view M'))) (clr (rmM M' a) fs)
section
variable {N : Nam} {Z : Ety} {F H : Hp} {ρ : Env} {M : Mem} {σ : L2.St}
theorem Sim.rm (S : Sim N Z F ρ M σ H) (a : Addr) : Sim N Z F ρ (rmM M a) σ H := by
  have k : ∀ {b m}, rmM M a b = some m → M b = some m := fun {b m} q => by
    by_cases hb : b = a
    · subst hb; simp [rmM] at q
    · simpa [rmM, hb] using q
  refine { S with mf := fun b m q => S.mf b m (k q), mem := fun b m q => S.mem b m (k q), mnew := fun b m q => S.mnew b m (k q), own := ?_ }
  obtain ⟨ow, w1, w2⟩ := S.own
  refine ⟨ow, fun p i q => ?_, w2⟩
  obtain ⟨y1, y2, y3, y4⟩ := w1 p i q
  exact ⟨y1, by unfold rmM; by_cases hb : p = a <;> simp [hb] <;> first | exact y2 | (subst hb; exact y2), y3, y4⟩
theorem Sim.freezeL : ∀ {fs : List D} {vs : List V} {M0 M : Mem} {F : Hp}, Sim N Z F ρ M σ H → Reps N F fs vs → (∀ p c, M0 p = some (.co c) → M p = some (.co c) ∨ Rep N F c.tree (.ref p)) → ∃ F', Sim N Z F' ρ (clr M fs) σ H ∧ Le F F' ∧ Reps N F' (fs.map (view M0)) vs
  | [], vs, M0, M, F, S, r, _ => ⟨F, S, Le.refl _, r⟩
  | d :: fs, vs, M0, M, F, S, r, h => by
    obtain ⟨v, t, rfl, r1, r2⟩ := reps_cons.mp r
    have other : view M0 d = d → clr M (d :: fs) = clr M fs → ∃ F', Sim N Z F' ρ (clr M (d :: fs)) σ H ∧ Le F F' ∧ Reps N F' ((d :: fs).map (view M0)) (v :: t) := fun e1 e2 => by
      obtain ⟨F', S', l, r'⟩ := Sim.freezeL S r2 h
      refine ⟨F', by rw [e2]; exact S', l, ?_⟩
      rw [List.map_cons, e1]
      exact reps_cons.mpr ⟨_, _, rfl, r1.mono l, r'⟩
    cases d with
    | loc p =>
      have hv : v = .ref p := rep_loc.mp r1
      subst hv
      have step : ∀ {F1 : Hp}, Sim N Z F1 ρ (rmM M p) σ H → Le F F1 → Rep N F1 (view M0 (.loc p)) (.ref p) → (∀ c, M0 p = some (.co c) → Rep N F1 c.tree (.ref p)) → ∃ F', Sim N Z F' ρ (clr M (.loc p :: fs)) σ H ∧ Le F F' ∧ Reps N F' ((D.loc p :: fs).map (view M0)) (.ref p :: t) := fun {F1} S1 l1 q1 q2 => by
        obtain ⟨F', S', l, r'⟩ := Sim.freezeL (M0 := M0) S1 (r2.mono l1) fun p' c e => by
          by_cases hp : p' = p
          · subst hp; exact .inr (q2 c e)
          · rcases h p' c e with z | z
            · exact .inl (by simp [rmM, hp]; exact z)
            · exact .inr (z.mono l1)
        exact ⟨F', S', l1.trans l, reps_cons.mpr ⟨_, _, rfl, q1.mono l, r'⟩⟩
      cases e : M0 p with
      | none => exact step (S.rm p) (Le.refl _) (by simp [view, e]; exact rep_loc.mpr rfl) fun c z => by rw [e] at z; cases z
      | some mo =>
        cases mo with
        | obj c' fs' => exact step (S.rm p) (Le.refl _) (by simp [view, e]; exact rep_loc.mpr rfl) fun c z => by rw [e] at z; cases z
        | co c =>
          have ev : view M0 (.loc p) = c.tree := by simp [view, e]
          rcases h p c e with z | z
          · obtain ⟨F1, S1, l1, q1⟩ := S.freezeC z
            exact step S1 l1 (by rw [ev]; exact q1) fun c' z' => by rw [e] at z'; cases z'; exact q1
          · exact step (S.rm p) (Le.refl _) (by rw [ev]; exact z) fun c' z' => by rw [e] at z'; cases z'; exact z
    | _ => exact other rfl rfl
theorem Sim.freezeD (S : Sim N Z F ρ M σ H) {a : Addr} {c : Nat} {fs : List D} (e : M a = some (.obj c fs)) (hl : fs.length = (N.nms c).length) :
    ∃ F', Sim N Z F' ρ (clr (rmM M a) fs) σ H ∧ Le F F' ∧ Rep N F' (.obj c (fs.map (view M))) (.ref a) := by
  obtain ⟨F1, S1, l1, q1⟩ := S.freeze e hl
  obtain ⟨a', dx, vs, ea, h1, hv, r1⟩ := rep_obj.mp q1
  cases ea
  obtain ⟨F2, S2, l2, q2⟩ := Sim.freezeL (M0 := M) S1 r1 fun p c' e' => .inl (by
    have hp : p ≠ a := fun z => by subst z; rw [e] at e'; cases e'
    simp [rmM, hp]; exact e')
  exact ⟨F2, S2, l1.trans l2, rep_obj.mpr ⟨a, dx, vs, rfl, l2 _ _ h1, hv, q2⟩⟩
theorem mk_liftFF {c : Nat} {spI : DSp} {vs : List V} {ds : List D} {Q : D → Env → Mem → Prop} {KK : VK} (S : Sim N Z F ρ M σ H) (r : Reps N F ds vs) (h : mkSpFF c (N.nms c).length spI ds M fun d M' => Q d ρ M')
    (hk : ∀ v H' F' d ρ' M', Sim N Z F' ρ' M' σ H' → Le F F' → Rep N F' d v → Q d ρ' M' → KK v H') (y dx : Addr) (h1 : H y = none) (h2 : H dx = none) (h3 : dx ≠ y) :
    lift N spI (.ref y :: vs) (upd (upd H dx (.own y)) y (.ins (N.cad c) dx [])) (fun v H2 => v = .non ∧ KK (.ref y) H2) := by
  have S1 := S.more (p := dx) (o := .own y) h2
  have S2 := S1.newM (p := y) (o := .ins (N.cad c) dx []) (mo := .obj c []) (by rw [upd_ne h3.symm]; exact h1) ⟨dx, [], by rw [upd_same]; simp, Nat.zero_le _, reps_nil.mpr rfl⟩
  refine lift_run (Q := fun d ρ M' => d = .non ∧ ∃ fs, M' y = some (.obj c fs) ∧ fs.length = (N.nms c).length ∧ Q (.obj c (fs.map (view M'))) ρ (clr (rmM M' y) fs)) S2 (reps_cons.mpr ⟨_, _, rfl, rep_loc.mpr rfl, r⟩) (h y (S.mnone h1)) fun v H' F' d ρ' M' S' l' r' ⟨e, fs, e1, e2, q'⟩ => ?_
  subst e
  obtain ⟨F2, S3, l3, r3⟩ := S'.freezeD e1 e2
  exact ⟨rep_non.mp r', hk _ H' F2 _ ρ' _ S3 (l'.trans l3) r3 q'⟩
end
theorem mkP_frozenD {N : Nam} {c n : Nat} {spI : DSp} (hn : n = (N.nms c).length) : MkP N c spI (mkSpFF c n spI) := by subst hn; exact fun S r h hk => mk_liftFF S r h hk
theorem clr_loc {M : Mem} {p : Addr} {ds : List D} : clr M (.loc p :: ds) = clr (rmM M p) ds := rfl
end DL

set_option Elab.async false
set_option linter.all false
set_option maxRecDepth 100000
/-! a call by keywords of a def that has no defaults -/
namespace DL
open PySem L2 PySem.W PySem.Spec PyProof.Rows
theorem kbindsP {K : PySem.W.Frag} {x qual : Str} {params : Arguments} {body : List Stmt} {scope : Scope} {f : Addr} {fd : FuncData} {ps : List Str} (F : FunD K x qual params body scope [] [] f fd) (n : Nat) (ks : List Str) (g : {α : Type} → List α → List α → List α)
    (hrel : ∀ {vs zs : List V} {us ws : List Value}, Vals vs us → Vals zs ws → Vals (g vs zs) (g us ws))
    (h : ∀ (kV doc pm : Value) (an : Option Addr) (cdv ct : Value) (us ws : List Value), us.length = n → ws.length = ks.length → bindArgs (PySem.W.fnOf x qual params body scope .none kV doc pm an cdv ct) ⟨us, ks.zip ws⟩ = pure (ps.zip (g us ws))) :
    KBn K fd ps n ks (fun us ws => g us ws) (fun vs zs => g vs zs) := by
  obtain ⟨oc, od, dV, kV, doc, pm, an, cdv, ct, osl, rfl, lk, hcd, hD, hK⟩ := F.ex
  rcases hD with ⟨_, rfl⟩ | ⟨e, _⟩
  · exact ⟨fun s us ws X l1 l2 => .of_eq (h kV doc pm an cdv ct us ws l1 l2), fun r1 r2 => hrel r1 r2⟩
  · exact absurd rfl e
end DL

set_option Elab.async false
set_option linter.all false
set_option maxRecDepth 100000
set_option maxHeartbeats 2000000
namespace PySem
namespace XOwn
open PySem.W PySem.Calls PyProof.Rows PySem.HandSPX Builtin Builtin.ObjectAttr
/-- what is asked of a built-in class of exceptions: its __new__ may be a base's -/
structure XB (B newId initId Bn inN : String) (bmN bm : List Value) : Prop where
  Fn : ExcBaseFacts Bn newId inN bmN
  I : ExcClass B newId initId
  hBn : bm.contains (.type Bn) = true
  hB : bm.contains (.type B) = true
  hObj : bm.contains (.type "object") = true
  noAttr : bm.contains (.type "AttributeError") = false
  noName : bm.contains (.type "NameError") = false
  ne : bm.isEmpty = false
  pass : ∀ self, refuseLoop self "__setattr__" bm = pure ()
abbrev lkM : List Value := [.type "LookupError", .type "Exception", .type "BaseException", .type "object"]
abbrev keyM : List Value := [.type "KeyError", .type "LookupError", .type "Exception", .type "BaseException", .type "object"]
theorem xb_KeyError : XB "KeyError" "LookupError.__new__" "KeyError.__init__" "LookupError" "LookupError.__init__" lkM keyM where
  Fn := PySem.F.excBase_LookupError
  I := excClass_KeyError
  hBn := by decide +kernel
  hB := by decide +kernel
  hObj := by decide +kernel
  noAttr := by decide +kernel
  noName := by decide +kernel
  ne := rfl
  pass := fun self => by kernel_rfl
section
variable {prog : Program} {w : World} {A : Around} {E : Value → Shared → Prop} {R : Result → Shared → Prop} {h : Heap} {g : Array GenState} {d : Drawn} {t : Nat} {os : OsState}
variable {nm q : Str} {C N : Addr} {bs bm bmN : List Value} {sn : List Str} {sub : List Value} {ab : Bool} {col : Option Bool} {dd : Option Addr} {k0 k1 k2 k3 k5 : Option Value} {B Bn newId initId inN : String}
/-- the class's own __new__ (a base's) makes the bare object -/
theorem x_new (F : XB B newId initId Bn inN bmN bm) {rest : List Value} (hC : h.get? C = some (excClassObj nm q C N bs bm true sn sub ab col dd k0 k1 k2 k3 k5 newId)) (hrest : rest.length ≤ sizeLine)
    (hq : R (.ok (.ret (.ref (h.objs.size + 1)))) ⟨(h.push (kdv_tup rest)).push (excO C h.objs.size), g, d, t, os⟩) : codeAny (model prog w) A (.builtin newId ⟨.ref C :: rest, []⟩) R ⟨h, g, d, t, os⟩ := by
  have e0 := F.Fn.ends
  have c1 : (Value.ref C :: bm).contains (.type Bn) = true := by rw [List.contains_cons, F.hBn, Bool.or_true]
  have c2 : (Value.ref C :: bm).contains (.type "AttributeError") = false := by rw [List.contains_cons, F.noAttr]; rfl
  have c3 : (Value.ref C :: bm).contains (.type "NameError") = false := by rw [List.contains_cons, F.noName]; rfl
  refine codeAny_builtinAt F.Fn.entry ?_
  unfold Builtin.«BaseException.__new__»
  refine wpAt_bind ?_
  show wpAt _ _ _ (stack >>= _) _ _ _
  refine wpAt_bind (wpAt_stack fun p below => wpAt_of_wpAny ?_)
  wp_walk
  refine wpAt_of_wpAny ?_
  rw [F.Fn.owner]
  repeat (first | with_reducible refine wpAny_madeHere_exc F.Fn.canon hC ?_ | with_reducible refine wpAny_loadPart_at hC ?_ | (with_reducible refine wpAny_isSubtype_exc hC ?_; first | rw [c1] | rw [c2] | rw [c3]) | wp_step)
  show R _ _
  rw [Heap.size_push]
  exact hq
theorem x_newCheck {M : Model} (F : XB B newId initId Bn inN bmN bm) {rest : List Value} {Q : Unit → Shared → Prop} (hC : h.get? C = some (excClassObj nm q C N bs bm true sn sub ab col dd k0 k1 k2 k3 k5 newId)) (hq : Q () ⟨h, g, d, t, os⟩) :
    wpAny M A (checkBuiltinCall newId ⟨.ref C :: rest, []⟩) Q E ⟨h, g, d, t, os⟩ := by
  have c1 : (Value.ref C :: bm).contains (.type Bn) = true := by rw [List.contains_cons, F.hBn, Bool.or_true]
  have c0 := F.Fn.noStar
  simp only [checkBuiltinCall, F.Fn.newKind, F.Fn.newSplit, F.Fn.newRow]
  repeat (first | refine wpAny_loadPart_at hC ?_ | (refine wpAny_isSubtype_exc hC ?_; rw [c1]) | refine wpAny_staticBase_exc hC ?_ | refine wpAny_madeBy_exc hC ?_ | simp only [bne_self_eq_false, Bool.false_eq_true, if_false] | wp_step)
  exact hq
/-- X(..): made bare, then the own __init__ is called -/
theorem x_call (F : XB B newId initId Bn inN bmN bm) {rest : List Value} {fI : Addr} (hC : h.get? C = some (excClassObj nm q C N bs bm true sn sub ab col dd k0 k1 k2 k3 k5 newId))
    (hi : Looks (model prog w) h (typeLookup (.ref C) "__init__") (some (.ref fI))) (hb : ∀ self, Looks (model prog w) h (bindSpecial (.ref fI) self) (.ref fI, [self])) (hrest : rest.length ≤ sizeLine)
    (hq : codeAny (model prog w) (A.under (.builtin "type.__call__" ⟨.ref C :: rest, []⟩)) (.call (.ref fI) ⟨.ref (h.objs.size + 1) :: rest, []⟩) (InitBack (h.objs.size + 1) R) ⟨(h.push (kdv_tup rest)).push (excO C h.objs.size), g, d, t, os⟩) :
    codeAny (model prog w) A (.call (.ref C) ⟨rest, []⟩) R ⟨h, g, d, t, os⟩ := by
  have f1 := tc_lookup
  have f2 := tc_bind (.ref C)
  have hTy : (⟨h, g, d, t, os⟩ : Shared).TypeIs (.ref C) "type" := ⟨_, hC, rfl⟩
  refine codeAny_of_tree ?_
  show wpAny _ _ (callAny (.ref C) _) _ _ _
  repeat (any_goals (first | assumption | with_reducible refine wpAny_loadPart_at hC ?_ | wp_step))
  refine ⟨rfl, codeAny_call_builtin_at (Code.quiet_builtin _ (by decide +kernel)) entry_typeCall (wpAny_check_type_call_sub hC ?_)⟩
  repeat (first | with_reducible refine wpAny_loadPart_at hC ?_ | with_reducible refine wpAny_madeBy_exc hC ?_ | wp_step)
  refine codeAny_call_builtin_code (Code.quiet_builtin _ F.Fn.quiet) (x_newCheck F hC (x_new F hC hrest ?_))
  show wpAny _ _ _ _ _ ⟨(h.push (kdv_tup rest)).push (excO C h.objs.size), g, d, t, os⟩
  have k : ∀ b o, h.get? b = some o → ((h.push (kdv_tup rest)).push (excO C h.objs.size)).get? b = some o := fun b o e => Heap.get?_push_of_some _ (Heap.get?_push_of_some _ e)
  have hget : ((h.push (kdv_tup rest)).push (excO C h.objs.size)).get? (h.objs.size + 1) = some (excO C h.objs.size) := by heap_get
  have hcC : (Value.ref C :: bm).contains (.ref C) = true := by simp
  have hC₁ := k _ _ hC
  unfold isInstance
  repeat (first | with_reducible refine wpAny_loadPart_at hget ?_ | (with_reducible refine wpAny_isSubtype_exc hC₁ ?_; rw [hcC]) | wp_step)
  show wpAny _ _ (typeLookup (.ref C) _) _ _ _
  refine (hi.keeps k).at (wpAny_holding (wpAny_bind (((hb (.ref (h.objs.size + 1))).keeps k).at (wpAny_bind (wpAny_call (codeAny_mono hq fun r s' z => ?_))))))
  cases r with
  | error e => exact z
  | ok f =>
    cases f with
    | ret v =>
      obtain ⟨rfl, z⟩ := z
      refine wpAny_pure ?_
      wp_walk
      exact z
    | next => exact z.elim
    | brk => exact z.elim
    | cont => exact z.elim
/-- B.__init__(self, ..) -/
theorem x_init (F : XB B newId initId Bn inN bmN bm) {e t0 : Addr} {rest : List Value} (hC : h.get? C = some (excClassObj nm q C N bs bm true sn sub ab col dd k0 k1 k2 k3 k5 newId)) (he : h.get? e = some (excO C t0)) (hrest : rest.length ≤ sizeLine)
    (hq : ∀ h' t1, (∀ b o, b ≠ e → h.get? b = some o → h'.get? b = some o) → h'.get? e = some (excO C t1) → R (.ok (.ret .none)) ⟨h', g, d, t, os⟩) :
    codeAny (model prog w) A (.call (.builtin initId) ⟨.ref e :: rest, []⟩) R ⟨h, g, d, t, os⟩ := by
  have c1 : (Value.ref C :: bm).contains (.type B) = true := by rw [List.contains_cons, F.hB, Bool.or_true]
  have c0 := F.I.notStar
  refine codeAny_call_builtin F.I.init.plain F.I.initEntry ?_
  · simp only [checkBuiltinCall, F.I.initKind, F.I.initSplit, F.I.initSig]
    repeat (first | with_reducible refine wpAny_loadPart_at he ?_ | with_reducible refine wpAny_loadPart_at hC ?_ | (with_reducible refine wpAny_isSubtype_exc hC ?_; rw [c1]) | wp_step)
    refine wpAny_onRaise ?_
    rw [show ∀ (a b : String) (n : Nat), Bind.check ⟨.positional, "*", B, .self, [⟨"args", .varPos, false⟩]⟩ a b n (List.map (fun x => x.fst) ({ pos := Value.ref e :: rest } : Args).kw) = pure () from fun a b n => check_star_args _ _ _ _ _ _]
    refine wpAny_pure ?_
    wp_walk
    refine hq _ h.objs.size (fun b o hb ho => ?_) ?_
    · rw [Heap.get?_update_other _ _ (Ne.symm hb)]
      exact Heap.get?_push_of_some _ ho
    · rw [Heap.get?_update_self _ (Heap.get?_push_of_some _ he) rfl]
      rfl
end
end XOwn
end PySem

set_option Elab.async false
set_option linter.all false
set_option maxRecDepth 100000
set_option maxHeartbeats 4000000
namespace PySem
namespace XOwn
open PySem.W PySem.Calls PyProof.Rows PySem.HandSPX Builtin Builtin.ObjectAttr
/-- what the written part says of an own class of exceptions at C, straight over a built-in one -/
structure XC (K : Frag) (C : Addr) (B newId initId Bn inN : String) (bmN bm : List Value) : Prop where
  F : XB B newId initId Bn inN bmN bm
  cls : ∃ nm q N bs sn sub ab col dd k0 k1 k2 k3 k5, K.lookup C = some (excClassObj nm q C N bs bm true sn sub ab col dd k0 k1 k2 k3 k5 newId)
  sa : findIn K (.ref C) "__setattr__" = some (some (.builtin "object.__setattr__"))
  exC : subIn K (.ref C) (.type "BaseException") = some true
  tyC : typeIn K (.ref C) = some (.type "type")
  kC : keepIn K (.ref C) = true
section
variable {prog : Program} {w : World} {A : Around} {R : Result → Shared → Prop} {hp : Heap} {g : Array GenState} {d : Drawn} {t : Nat} {os : OsState} {B newId initId Bn inN : String} {bmN bm : List Value}
/-- the first field of such an exception -/
theorem x_store {K : Frag} {name : Str} {tk : Tok} {v : Value} {x C : Addr} {fv : Array Value} {cd : ClassData} (F : XB B newId initId Bn inN bmN bm)
    (X : K.In hp) (hx : hp.get? x = some { cls := .ref C, data := .fields fv }) (hcd : clsIn K C = some cd) (hm : cd.mro = .ref C :: bm) (hh : cd.hasDict = true) (ha : findIn K (.ref C) name = some none)
    (hq : ∀ h' tk' dx, (∀ b o, b ≠ x → hp.get? b = some o → h'.get? b = some o) → hp.objs.size ≤ dx → dx ≠ x → h'.get? x = some { cls := .ref C, dict := some dx, data := .fields fv } →
      h'.Ns1 dx (fun y => if y = name then some v else none) → R (.ok (.ret .none)) ⟨h', g, d, tk', os⟩) :
    codeAny (model prog w) A (.call (.builtin "object.__setattr__") ⟨[.ref x, .str name tk, v], []⟩) R ⟨hp, g, d, t, os⟩ := by
  have SF := PySem.F.store_object
  have I : InstAt hp x { cls := .ref C, data := .fields fv } C none := ⟨hx, rfl, rfl, trivial⟩
  have L1 : Looks (model prog w) hp (mroOf (.ref C)) cd.mro := (looks_clsIn X hcd).andThen .now
  have L2 : Looks (model prog w) hp (classData C) cd := looks_clsIn X hcd
  have L3 : Looks (model prog w) hp (storeTaker? none) none := .now
  have hob : cd.mro.contains (.type "object") = true := by rw [hm, List.contains_cons, F.hObj, Bool.or_true]
  have hxs : x ≠ hp.objs.size := Nat.ne_of_lt (Heap.lt_size hx)
  have sub : Looks (model prog w) hp (isInstance (.ref x) (.type "object")) true := I.type.andThen (looks_mroIn X (by unfold mroIn; rw [hcd, Option.bind_some, if_neg (by rw [hm]; exact Bool.false_ne_true), hob]))
  refine codeAny_call_builtin SF.slot.plain SF.entry (@check_slot (model prog w) _ _ ⟨hp, g, d, t, os⟩ "object.__setattr__" "object" "__setattr__" (.ref x) [.str name tk, v] [] _ SF.kind SF.split sub (SF.args (.ref x) (.str name tk) v) ?_)
  rw [osa_eq, refuse_eq]
  refine wpAny_bind (wpAny_bind (I.type.at (wpAny_bind (L1.at ?_))))
  rw [hm, refuseLoop_ref, F.pass]
  refine wpAny_pure (wpAny_bind (I.type.at (wpAny_bind ((looks_findIn X ha).at (wpAny_bind (L3.at ?_))))))
  show wpAny _ _ (storeInOwnDict (.ref x) (.ref C) (.str name tk) name v false) _ _ _
  obtain ⟨nm, bs, mro, ns, qn, hd, sn, sb, ab, col, del⟩ := cd
  dsimp only at hh
  subst hh
  unfold storeInOwnDict ownDictForStores
  repeat (first | with_reducible refine store_in_new ?_ ?_ | with_reducible refine wpAny_loadPart_at hx ?_ | with_reducible refine L2.at ?_ | wp_step)
  · exact ⟨_, #[], _, (Heap.get?_update_ne _ _ _ _ hxs.symm).trans (Heap.get?_push_at rfl rfl), rfl, fun e he => absurd he (by simp), fun _ => rfl⟩
  · intro h' tk' hn' hs
    refine hq h' tk' hp.objs.size (fun b o hb ho => ?_) (Nat.le_refl _) hxs.symm ?_ hn'
    · exact (hs.2 b (Nat.ne_of_lt (Heap.lt_size ho))).trans ((Heap.get?_update_ne _ _ _ _ hb).trans (Heap.get?_push_of_some _ ho))
    · exact (hs.2 x hxs).trans (Heap.get?_update_self _ (Heap.get?_push_of_some _ hx) rfl)
end
end XOwn
end PySem
namespace L2
open PySem PySem.Spec PyProof.Rows PySem.XOwn
section
variable {X : Cx} {pins : List (Addr × Obj)} {σ : St} {H : Hp} {s : Shared} {a C dx : Addr} {f : Str} {y : V} {u : Value} {fs : List (Str × V)} {E : Value → Shared → Prop} {A : Around} {B newId initId Bn inN : String} {bmN bm : List Value}
/-- self.f = y -/
theorem x_set {Q : Unit → Shared → Prop} (T : XC X.K C B newId initId Bn inN bmN bm) (I : Inv X pins σ H s) (e : H a = some (exo a C none)) (hno : PySem.W.findIn X.K (.ref C) f = some none) (ry : RelV y u)
    (h : ∀ dx s', H dx = none → dx ≠ a → Inv X pins σ (upd (upd H dx (exd dx [(f, y)])) a (exo a C (some dx))) s' → Q () s') : wpAny (model X.prog X.w) A (setAttr (.ref a) f u) Q E s := by
  obtain ⟨nm, q, N, bs, sn, sub, ab, col, dd, k0, k1, k2, k3, k5, hC⟩ := T.cls
  obtain ⟨t1, ho⟩ := exo_at I.hok e
  obtain ⟨hp, g, d, t, os⟩ := s
  refine PySem.W.set_plain I.kIn (ox := { cls := .ref C, dict := none, data := .fields #[.ref t1, .none, .none, .none, .bool false, .none] }) (od := none) ⟨ho, rfl, rfl, trivial⟩ T.sa ?_
  refine x_store (cd := { name := nm, bases := bs, mro := .ref C :: bm, ns := N, qualname := q, hasDict := true, slotNames := sn, subclasses := sub, abstract := ab, collection := col, hasDel := false }) T.F I.kIn ho (by unfold PySem.W.clsIn; rw [hC] <;> rfl) rfl rfl hno (fun h' tk' dx k dn dne hx hn => ?_)
  have f1 : H dx = none := I.hok.fresh dn
  have m1 : ∀ {b : Addr} {o : Obj}, hp.get? b = some o → b ≠ dx := fun z => Nat.ne_of_lt (Nat.lt_of_lt_of_le (Heap.lt_size z) dn)
  have m2 : ∀ {b : Addr}, H b = none → b ≠ a := fun n z => by rw [z, e] at n; cases n
  have U : Un X.fs [] H (upd (upd H dx (exd dx [(f, y)])) a (exo a C (some dx))) hp h' := {
    keep := fun b o z n _ _ => k b o (m2 n) z
    slot := fun b o z n _ _ => ⟨o.slots, k b o (m2 n) z⟩
    free := fun b o z n _ => by rw [upd_ne (m2 n), upd_ne (m1 z)]; exact n
    there := fun b o z _ => by
      by_cases hb : b = a
      · exact ⟨_, hb ▸ hx⟩
      · exact ⟨o, k b o hb z⟩
    tups := fun b xs z => by rw [upd_ne (at_ne e z exo_tup), upd_ne (ne_of_none z f1)]; exact z
    frzs := fun b o v z => by rw [upd_ne (at_ne e z exo_frz), upd_ne (ne_of_none z f1)]; exact z
    tbls := fun b ps z => ⟨#[], by rw [upd_ne (at_ne e z exo_tbl), upd_ne (ne_of_none z f1), z]; simp⟩ }
  refine h dx _ f1 dne (I.un (t' := tk') U fun b o z => ?_)
  by_cases hb : b = a
  · subst hb
    rw [upd_same] at z
    cases z
    exact exo_ok hx
  · rw [upd_ne hb] at z
    by_cases hd : b = dx
    · subst hd
      rw [upd_same] at z
      cases z
      exact exd_ok hn (relO_put (fs := []) ry fun g => True.intro)
    · rw [upd_ne hd] at z
      have no : ∀ {c : Addr}, H c = some (.own b) → c ≠ a := fun hc => at_ne e hc exo_own
      refine (I.hok b o z).stay (fun c v hc z => k c v ?_ z) (fun c hc => by rw [upd_ne (no hc), upd_ne (ne_of_none hc f1)]; exact hc) (fun c xs hc => by rw [upd_ne (at_ne e hc exo_tup), upd_ne (ne_of_none hc f1)]; exact hc)
      rcases hc with hc | hc
      · rw [hc]; exact hb
      · exact no hc
/-- B.__init__(self, ..) -/
theorem x_init_ok {us : List Value} {Q : Value → Shared → Prop} (T : XC X.K C B newId initId Bn inN bmN bm) (I : Inv X pins σ H s) (e : H a = some (exo a C none)) (hl : us.length ≤ sizeLine) (h : ∀ s', Inv X pins σ H s' → Q .none s') :
    wpAny (model X.prog X.w) A (call (.builtin initId) (.ref a :: us)) Q E s := by
  obtain ⟨nm, q, N, bs, sn, sub, ab, col, dd, k0, k1, k2, k3, k5, hC⟩ := T.cls
  obtain ⟨t1, ho⟩ := exo_at I.hok e
  obtain ⟨hp, g, d, t, os⟩ := s
  refine wpAny_call (x_init T.F (I.kIn _ _ hC) ho hl fun h' t2 k hx => ?_)
  have J := I.write (t' := t) (x := a) (e := a) (o := exo a C none) (by rw [e]; exact True.intro) (.inl rfl) k ⟨_, hx⟩ (exo_ok hx)
  have eu : upd H a (exo a C none) = H := funext fun b => by
    by_cases hb : b = a
    · rw [hb, upd_same, e]
    · rw [upd_ne hb]
  rw [eu] at J
  exact h _ J
end
end L2

set_option Elab.async false
set_option linter.all false
set_option maxRecDepth 100000
set_option maxHeartbeats 4000000
namespace L2
open PySem PySem.Spec PyProof.Rows PySem.XOwn
/-- B.__init__(self, ..), self of the class at C -/
def tXI (C : Addr) (ta : TA) : TE := fun σ H Q => ta σ H fun vs H1 => ∃ (a : Addr) (ws : List V), vs = .ref a :: ws ∧ ws.length ≤ 1000 ∧ H1 a = some (exo a C none) ∧ Q .non H1
/-- self.f = e -/
def tXS (C : Addr) (f : Str) (to te : TE) : TS := fun D σ H => te σ H fun y H1 => to σ H1 fun x H2 => ∃ a : Addr, x = .ref a ∧ H2 a = some (exo a C none) ∧ ∀ dx, H2 dx = none → dx ≠ a → D.nx σ (upd (upd H2 dx (exd dx [(f, y)])) a (exo a C (some dx)))
/-- what __init__ promises -/
def spXI (C : Addr) (f : Str) : Sp := fun vs H Q _ => ∃ (a : Addr) (y : V), vs = [.ref a, y] ∧ H a = some (exo a C none) ∧ ∀ dx, H dx = none → dx ≠ a → Q .non (upd (upd H dx (exd dx [(f, y)])) a (exo a C (some dx)))
/-- C(e) -/
def tXM (C : Addr) (f : Str) (ta : TA) : St → Hp → XK → Prop := fun σ H Q => ta σ H fun vs H1 => ∃ y, vs = [y] ∧ ∀ d, H1 d = none → Q (.ref C) (some d) (upd H1 d (.xd [(f, y)]))
section
variable {X : Cx} {o e : Expr} {es : List Expr} {to te : TE} {ta : TA} {f : Str} {C : Addr} {p p' p1 p2 pos : Pos} {B newId initId Bn inN : String} {bmN bm : List Value}
theorem pe_xinit {pl : Sem Bool} (T : XC X.K C B newId initId Bn inN bmN bm) (hg : Gl X (Str.ofString B)) (hm : X.mg (Str.ofString B) = none) (hty : typeOf (.type B) = pure (.type "type")) (hst : Manifest.isStub B = false) (hhi : PySem.W.handedIn (.builtin initId) = true) (h0 : Str.ofString B ≠ "__name__") (hdb : (Str.ofString B == ("__debug__" : Str)) = false)
    (vV : PySem.W.findCls X.K (.type B) (.type "type") "__init__" = some (.val (.builtin initId))) (ha : PA X (e :: es) ta)
    (hc : eval (.Call (.Attribute (.Name (Str.ofString B) p1) "__init__" p2) (e :: es) [] pos) X.env = (do
      let ov ← eval (.Name (Str.ofString B) p1) X.env
      standAt p2.atName
      let (f, first) ← holding [ov] (getMethod ov "__init__" pl)
      callWith pos f first (backTo pos (starEach (e :: es) X.env)) (backToKw pos (keywordEach [] X.env))) := by rfl)
    (he : starEach (e :: es) X.env = (false, eval e X.env) :: starEach es X.env := by rfl) (hpl : (backTo pos (starEach es X.env)).any (·.1) = false := by rfl) :
    PE X (.Call (.Attribute (.Name (Str.ofString B) p1) "__init__" p2) (e :: es) [] pos) (tXI C ta) := by
  refine ⟨fun pins s σ H Q I h => ?_⟩
  refine PySem.W.methodCall_KW (ld_blt I hg hm T.F.I.boot ?_ h0 hdb) hc
  obtain ⟨m, fr⟩ := I.fr
  refine PySem.W.method_type fr I.ok.mod.kin hty hst vV hhi ?_
  show wpAny _ _ (callWith pos (Value.builtin initId) [] (backTo pos (starEach (e :: es) X.env)) []) _ _ _
  refine PyProof.Rows.callWith_method1 (thn (ha.run pos pins _ σ H _ (I.tok _) h) fun us s1 ⟨vs, H1, I1, r1, a, ws, ev, hl, ea, q⟩ => ?_) he hpl
  subst ev
  cases r1 with
  | @cons _ u0 _ ur ra rw' =>
    obtain rfl : u0 = Value.ref a := ra
    exact x_init_ok T I1 ea (by rw [← Paired.length rw', sizeLine_eq]; omega) fun s' J => ⟨.non, H1, J, rfl, q⟩
theorem ps_xset (T : XC X.K C B newId initId Bn inN bmN bm) (hno : PySem.W.findIn X.K (.ref C) f = some none) (ho : PE X o to) (he : PE X e te) (hs : swapsWith e (some (.Attribute o f p')) pos.line X.env = pure false := by rfl) : PS X (.Assign [.Attribute o f p'] e pos) (tXS C f to te) := by
  refine ⟨fun pins s σ H D I h => ?_⟩
  refine plainObj_wpAny_Assign_Attribute (thn (he.run pins s σ H _ I h) fun v s1 ⟨y, H1, I1, r1, q1⟩ => thn (ho.run pins s1 σ H1 _ I1 q1) fun u s2 ⟨x, H2, I2, r2, a, ex, ea, q⟩ => ?_) hs
  subst ex
  obtain rfl : u = Value.ref a := r2
  exact x_set T I2 ea hno r1 fun dx s' n ne J => ⟨σ, _, J, q dx n ne⟩
theorem pmk_x {CX : CXT} {x : Str} {fI : Addr} {k : Nat} {fd : FuncData} {ps : List Str} (T : XC X.K C B newId initId Bn inN bmN bm) (iC : PySem.W.findIn X.K (.ref C) "__init__" = some (some (.ref fI))) (tI : PySem.W.typeIn X.K (.ref fI) = some (.type "function"))
    (F1 : FnOk X.prog X.w X.K X.mg X.base CX k fI fd ps (spXI C f)) (hr : Room (k + 1) X.A) (hb : Binds X.K fd ps []) (hx : Passes CX X (fun _ _ _ => False)) (hg : Gl X x) (hm : X.mg x = some (.ref C)) (ha : PA X (e :: es) ta)
    (hdb : (x == ("__debug__" : Str)) = false := by decide) (he : starEach (e :: es) X.env = (false, eval e X.env) :: starEach es X.env := by rfl) (hpl : (backTo pos (starEach es X.env)).any (·.1) = false := by rfl) :
    PMk X (.Call (.Name x p) (e :: es) [] pos) (tXM C f ta) := by
  intro pins s σ H Q I h
  obtain ⟨nm, q, N, bs, sn, sub, ab, col, dd, k0, k1, k2, k3, k5, hC⟩ := T.cls
  refine wpAny_Call_Name_kw (ld_glob I hg hm ?_ hdb)
  refine PySem.W.callWith_K (h₀ := X.base) I.ok.mod.kin T.kC (thn (ha.run pos pins s σ H _ I h) fun us s1 ⟨vs, H1, I1, r1, y, ev, q1⟩ => ⟨I1.kIn, ?_⟩) he hpl
  subst ev
  show wpAny _ _ (call (.ref C) us) _ _ _
  obtain ⟨hp, g, dr, tk, os⟩ := s1
  have hsz : hp.objs.size ≤ hp.objs.size + 1 := Nat.le_succ _
  have hn : H1 (hp.objs.size + 1) = none := I1.hok.fresh hsz
  have kk : ∀ b o, hp.get? b = some o → ((hp.push (PySem.W.kdv_tup us)).push (PySem.HandSPX.excO C hp.objs.size)).get? b = some o := fun b o e => Heap.get?_push_of_some _ (Heap.get?_push_of_some _ e)
  have hget : ((hp.push (PySem.W.kdv_tup us)).push (PySem.HandSPX.excO C hp.objs.size)).get? (hp.objs.size + 1) = some (PySem.HandSPX.excO C hp.objs.size) := by heap_get
  have I2 : Inv X pins σ (upd H1 (hp.objs.size + 1) (exo (hp.objs.size + 1) C none)) ⟨(hp.push (PySem.W.kdv_tup us)).push (PySem.HandSPX.excO C hp.objs.size), g, dr, tk, os⟩ :=
    I1.laid (t' := tk) (a := hp.objs.size + 1) (o := exo (hp.objs.size + 1) C none) (h' := (hp.push (PySem.W.kdv_tup us)).push (PySem.HandSPX.excO C hp.objs.size)) kk hsz (exo_ok hget)
  have r2 : Vals [V.ref (hp.objs.size + 1), y] (Value.ref (hp.objs.size + 1) :: us) := .cons rfl r1
  have hus : us.length = 1 := by rw [← Paired.length r1]; rfl
  have hq : spXI C f [V.ref (hp.objs.size + 1), y] (upd H1 (hp.objs.size + 1) (exo (hp.objs.size + 1) C none)) (fun v H2 => v = .non ∧ ∃ (d : Addr), H2 (hp.objs.size + 1) = some (exo (hp.objs.size + 1) C (some d)) ∧ H2 d = some (exd d [(f, y)]) ∧ H1 d = none ∧ Q (.ref C) (some d) (upd (del H2 (hp.objs.size + 1)) d (.xd [(f, y)]))) (fun _ _ _ => False) := by
    refine ⟨_, y, rfl, upd_same, fun dx n1 n2 => ⟨rfl, dx, upd_same, ?_, ?_, ?_⟩⟩
    · rw [upd_ne n2, upd_same]
    · rw [upd_ne n2] at n1; exact n1
    · have e1 : upd (del (upd (upd (upd H1 (hp.objs.size + 1) (exo (hp.objs.size + 1) C none)) dx (exd dx [(f, y)])) (hp.objs.size + 1) (exo (hp.objs.size + 1) C (some dx))) (hp.objs.size + 1)) dx (.xd [(f, y)]) = upd H1 dx (.xd [(f, y)]) := funext fun b => by
        by_cases h1 : b = dx
        · rw [h1, upd_same, upd_same]
        · rw [upd_ne h1, upd_ne h1]
          by_cases h2 : b = hp.objs.size + 1
          · rw [h2, del_same, hn]
          · rw [del_ne h2, upd_ne h2, upd_ne h1, upd_ne h2]
      rw [e1]
      rw [upd_ne n2] at n1
      exact q1 dx n1
  have hl : (Value.ref (hp.objs.size + 1) :: us ++ []).length = ps.length := by
    rw [List.append_nil, ← F1.len _ _ _ _ hq, List.length_cons, hus]; rfl
  have hb2 := hb _ (Value.ref (hp.objs.size + 1) :: us) I2.kIn hl
  rw [List.append_nil] at hb2
  refine wpAny_call (x_call T.F (I1.kIn _ _ hC) (PySem.W.looks_findIn I1.kIn iC) (fun self => PySem.W.bind_fn I1.kIn self tI) (by rw [hus, sizeLine_eq]; omega)
    (codeAny_mono (F1.run _ X.stack _ _ ⟨Value.ref (hp.objs.size + 1) :: us, []⟩ (Value.ref (hp.objs.size + 1) :: us) _ _ (fun _ _ _ => False) (hr.make C us []) (I2.env0.make C us []) hb2 r2 hq) fun r s' hq' => ?_))
  cases r with
  | error er => exact hx pins σ _ _ er s' I2 hq'
  | ok fl =>
    cases fl with
    | ret u =>
      obtain ⟨v, H2, os2, bare2, un2, hok2, rv, ev, d, ea, ed, hd1, q2⟩ := hq'
      subst ev
      obtain ⟨h2, g2, d2, t2, os'⟩ := s'
      exact ⟨rv, mk_end (raises_own T.exC T.tyC) I1 hsz kk un2 hok2 os2 bare2 ea ed hd1 q2⟩
    | next => exact False.elim hq'
    | brk => exact False.elim hq'
    | cont => exact False.elim hq'
/-- e.f, e the exception that the suite holds (at a; its class cls, its dict d) -/
def tXF (C a : Addr) (f : Str) (cls : Value) (d : Option Addr) (te : TE) : TE := fun σ H Q => te σ H fun x H1 => x = .ref a ∧ cls = .ref C ∧ ∃ (dd : Addr) (v : V), d = some dd ∧ H1 dd = some (.xd [(f, v)]) ∧ Q v H1
theorem pe_xf {a : Addr} {oe : Obj} {cls : Value} {d : Option Addr} {pn : List (Addr × Obj)} {te : TE} {gt : Option Value} (ga : PySem.W.findIn X.K (.ref C) "__getattribute__" = some (some (.builtin "BaseException.__getattribute__"))) (gg : PySem.W.findIn X.K (.ref C) "__getattr__" = some gt) (exC : PySem.W.subIn X.K (.ref C) (.type "BaseException") = some true)
    (hd : PySem.W.hasDictIn X.K C = true) (hno : PySem.W.findIn X.K (.ref C) f = some none) (hz : Zc cls d oe) (hf : ∃ vs, oe.data = .fields vs) (he : PE (X.suite a ((a, oe) :: pn)) e te)
    (hb : attributeBase e f X.env (eval e X.env) = eval e X.env := by rfl) : PE (X.suite a ((a, oe) :: pn)) (.Attribute e f pos) (tXF C a f cls d te) := by
  refine ⟨fun pins s σ H Q I h => ?_⟩
  refine attr_of hb (thn (he.run pins s σ H _ I h) fun u s1 ⟨x, H1, I1, rx, ex, ec, dd, v, ed, ea, q⟩ => ?_)
  subst ex ec ed
  obtain rfl : u = Value.ref a := rx
  obtain ⟨ha, _⟩ := I1.pin (a, oe) (List.mem_append_left _ List.mem_cons_self)
  obtain ⟨vs, hd'⟩ := hf
  obtain ⟨mA, hns, hr⟩ : ObjOk X.prog X.w H1 s1.heap dd (.xd [(f, v)]) := I1.hok dd _ ea
  obtain ⟨od, ho, hl⟩ := lookIn_ns hns
  have l : List.lookup f [(f, v)] = some v := by simp [List.lookup]
  obtain ⟨u, hu, ru⟩ := RelO.some_of (v := v) (o := mA f) (by rw [← l]; exact hr f)
  have J : PySem.W.InstAt s1.heap a oe C (some od) := ⟨ha, hz.1, by unfold PySem.W.notCls; rw [hd'] <;> rfl, by rw [hz.2]; exact ho⟩
  exact PySem.HandSPX.exc_get I1.kIn J ga gg exC (PySem.W.findObj_own hd hno rfl (by rw [hl, hu])) (handed_of ru) ⟨v, H1, I1.tok _, ru, q⟩
end
end L2

set_option Elab.async false
set_option linter.all false
set_option maxRecDepth 100000
set_option maxHeartbeats 2000000
namespace DL
open PySem L2 PySem.W PySem.Spec PyProof.Rows
/-! ### what always raises (where it is asked): shallow readings over the layer
A class of exceptions by its number: its address, its one field. -/
abbrev XcT := Nat → Addr × Str
abbrev XQ := Nat → D → Env → Mem → Prop
abbrev WR := Env → Mem → XQ → Prop
/-- a promise to raise -/
abbrev DSpR := List D → Mem → (Nat → D → Mem → Prop) → Prop
/-- an exception's place in the heap: its own dict -/
structure XAt (N : Nam) (xc : XcT) (F H : Hp) (M : Mem) (c : Nat) (d : D) (dd : Addr) (v : V) : Prop where
  rep : Rep N F d v
  dict : H dd = some (.xd [((xc c).2, v)])
def XLE (N : Nam) (xc : XcT) (Z : Ety) (X : XQ) (W : L2.WX) : Prop := ∀ c d σ H F ρ M dd v, Sim N Z F ρ M σ H → XAt N xc F H M c d dd v → X c d ρ M → W (.ref (xc c).1) (some dd) σ H
/-- a context that an exception may leave; fl: whatever the slots are -/
structure CokX (b : Bz) (A : Around) (κ : Kt) (fl : Bool) (X : Cx) (W : L2.WX) : Prop where
  c : Cok b A κ X.nox
  tk : Takes X W
  fl : fl = true → ∃ E : XK, W = fun cls d _ H => E cls d H
  po : PassesOwn (model X.prog X.w) X.A X.env X.xe
def NoE : TE := fun _ _ _ => False
def NoS : TS := fun _ _ _ => False
def NoA : TA := fun _ _ _ => False
theorem pe_no {X : Cx} {e : Expr} : PE X e NoE := ⟨fun _ _ _ _ _ _ h => h.elim⟩
theorem pa_no {X : Cx} {es : List Expr} : PA X es NoA := ⟨fun _ _ _ _ _ _ _ h => h.elim⟩
theorem pss_no {X : Cx} {s : List Stmt} : PSs X s NoS := ⟨fun _ _ _ _ _ _ h => h.elim⟩
section
variable (b : Bz) (xc : XcT) (A : Around) (κ : Kt) (fl : Bool)
def RE (e : Expr) (w : WR) : Prop := ∀ X W, CokX b A κ fl X W → ∃ t : TE, PE X e t ∧ ∀ Z σ H F ρ M Xq K, Sim b.N Z F ρ M σ H → w ρ M Xq → XLE b.N xc Z Xq W → t σ H K
def RS (s : Stmt) (w : WR) : Prop := ∀ X W, CokX b A κ fl X W → ∃ t : TS, PS X s t ∧ ∀ Z σ H F ρ M Xq D, Sim b.N Z F ρ M σ H → w ρ M Xq → XLE b.N xc Z Xq W → t D σ H
def RSs (s : List Stmt) (w : WR) : Prop := ∀ X W, CokX b A κ fl X W → ∃ t : TS, PSs X s t ∧ ∀ Z σ H F ρ M Xq D, Sim b.N Z F ρ M σ H → w ρ M Xq → XLE b.N xc Z Xq W → t D σ H
end
def liftR (N : Nam) (xc : XcT) (sp : DSpR) : Sp := fun vs H _ E => ∃ F M ds Xd, MSim N F M H ∧ Reps N F ds vs ∧ sp ds M Xd ∧ ∀ c d M' H' F' dd v, Xd c d M' → Sim N ⟨H, M, F⟩ F' [] M' [] H' → XAt N xc F' H' M' c d dd v → E (.ref (xc c).1) (some dd) H'
section
variable {b : Bz} {xc : XcT} {A : Around} {κ : Kt} {fl : Bool} {pos pos' p p2 p3 apos tpos : Pos} {e e1 e2 e3 c o : Expr} {es rest : List Expr} {T0 T1 T2 T3 Tr Tg Ti Tc To : DL.T} {w w1 w2 : WR}
theorem CokX.rm {X : Cx} {W : L2.WX} (c : CokX b A κ fl X W) : X.prog = b.P ∧ X.w = b.w ∧ X.K = b.K ∧ X.mg = b.mg ∧ X.base = b.base ∧ X.A = A := ⟨c.c.p, c.c.w, c.c.k, c.c.m, c.c.b, c.c.a⟩
/-- a call's way out -/
theorem liftR_run {sp : DSpR} {Z : Ety} {F H : Hp} {ρ : Env} {M : Mem} {σ : L2.St} {vs : List V} {ds : List D} {Xq : XQ} {W : L2.WX} (S : Sim b.N Z F ρ M σ H) (r : Reps b.N F ds vs) (h : sp ds M fun c d M' => Xq c d ρ M') (le : XLE b.N xc Z Xq W) (Q : VK) : liftR b.N xc sp vs H Q (L2.WE W σ) :=
  ⟨F, M, ds, _, S.ms, r, h, fun c d M' H' F' dd v q S' a => le c d σ H' F' ρ M' dd v (S.back S') a q⟩
def FnR (b : Bz) (xc : XcT) (k : Nat) (x : Str) (n : Nat) (sp : DSpR) : Prop := ∀ (A : Around) (κ : Kt) (fl : Bool) (es : List Expr) (p pos : Pos) (Tr : DL.T), Room k A → es.length = n → plainEs es = true → glB κ x = true → HA b A κ es Tr →
  RE b xc A κ fl (.Call (.Name x p) es [] pos) (fun ρ M Xq => wpA b.B Tr ρ M fun ds ρ M => sp ds M fun c d M' => Xq c d ρ M')
theorem pa_nox {X : Cx} {es : List Expr} {t : TA} (h : PA X.nox es t) : PA X es t := ⟨fun pos pins s σ H Q I hw => by
  refine wpAny_mono (h.run pos pins s σ H Q (I.wish _) hw) (fun us s1 q => ?_) (fun _ _ z => z.elim)
  obtain ⟨vs, H1, I1, r, q1⟩ := q
  exact ⟨vs, H1, I1.unwish, r, q1⟩⟩
theorem fnR_of {x : Str} {k n : Nat} {f : Addr} {fd : FuncData} {ps : List Str} {sp : DSpR} (F : FnOk b.P b.w b.K b.mg b.base (L2.CX b.P b.w) k f fd ps (liftR b.N xc sp)) (hm : b.mg x = some (.ref f)) (hk : PySem.W.keepIn b.K (.ref f) = true) (hb : Binds b.K fd ps []) (hdb : (x == ("__debug__" : Str)) = false) (hn : n ≠ 0) : FnR b xc k x n sp := by
  intro A κ fl es p pos Tr hr hl hp hg ha X W c
  obtain ⟨t, pa, ka⟩ := ha X.nox c.c
  obtain ⟨hc1, hc2, hc3, hc4, hc5, hc6⟩ := c.rm
  rw [← hc1, ← hc2, ← hc3, ← hc4, ← hc5] at F
  rw [← hc3] at hk hb
  rw [← hc4] at hm
  rw [← hc6] at hr
  cases es with
  | nil => exact absurd hl.symm hn
  | cons e es =>
    unfold plainEs at hp
    rw [List.all_cons, Bool.and_eq_true] at hp
    refine ⟨_, pe_callS F hr (c.c.gl hg) hm hk hb (fun σ => passAt c.tk σ) (pa_nox pa) hdb (star_cons _ hp.1) (star_any _ hp.2), fun Z σ H F ρ M Xq K S hw le => ?_⟩
    refine ka Z σ H F ρ M _ _ S hw fun vs H1 F1 ds ρ1 M1 S1 l r q => ?_
    exact liftR_run S1 r q le K
def MtR (b : Bz) (xc : XcT) (k : Nat) (c : Nat) (m : Str) (n : Nat) (sp : DSpR) : Prop := ∀ (A : Around) (κ : Kt) (o : Expr) (es : List Expr) (apos pos : Pos) (To Tr : DL.T), Room k A → es.length = n → plainEs es = true → (∀ X : Cx, callForm X o m es apos pos) → HE b A κ o To → HA b A κ es Tr →
  RE b xc A κ true (.Call (.Attribute o m apos) es [] pos) (fun ρ M Xq => wpE b.B To ρ M fun d ρ M => insD c M d ∧ wpA b.B Tr ρ M fun ds ρ M => sp (d :: ds) M fun c d M' => Xq c d ρ M')
theorem mtR_of {c k n : Nat} {m : Str} {f : Addr} {fd : FuncData} {ps : List Str} {sp : DSpR} (F : FnOk b.P b.w b.K b.mg b.base (L2.CX b.P b.w) k f fd ps (liftR b.N xc sp)) (g : b.Good) (cl : Cls b.K (b.N.cad c)) (hm : Meth b.K (b.N.cad c) m f) (hb : Binds b.K fd ps []) (hno : m ∉ b.N.nms c) (hn : n ≠ 0) : MtR b xc k c m n sp := by
  intro A κ o es apos pos To Tr hr hl hp hf ho ha X W cx
  obtain ⟨to, po, ko⟩ := ho X.nox cx.c
  obtain ⟨t, pa, ka⟩ := ha X.nox cx.c
  obtain ⟨pl, ht⟩ := hf X
  obtain ⟨E0, rfl⟩ := cx.fl rfl
  obtain ⟨hc1, hc2, hc3, hc4, hc5, hc6⟩ := cx.rm
  rw [← hc1, ← hc2, ← hc3, ← hc4, ← hc5] at F
  rw [← hc3] at hb cl hm
  rw [← hc6] at hr
  cases es with
  | nil => exact absurd hl.symm hn
  | cons e es =>
    unfold plainEs at hp
    rw [List.all_cons, Bool.and_eq_true] at hp
    refine ⟨_, pe_meth (E := E0) (dvs := []) (pl := pl) po.nox cl hm F hr hb .nil (passes_call cx.tk fun _ _ _ _ h => h) (pa_nox pa) (star_cons _ hp.1) (star_any _ hp.2) ht, fun Z σ H F ρ M Xq K S hw le => ?_⟩
    refine ko Z σ H F ρ M _ _ S hw fun v H1 F1 d ρ1 M1 S1 l1 r1 ⟨hi, hw1⟩ => ?_
    have h : ∃ fs, d = .obj c fs ∨ ∃ a, d = .loc a ∧ M1 a = some (.obj c fs) := by
      rcases hi with ⟨fs, h⟩ | ⟨a, fs, h1, h2⟩
      · exact ⟨fs, .inl h⟩
      · exact ⟨fs, .inr ⟨a, h1, h2⟩⟩
    obtain ⟨fs, h⟩ := h
    obtain ⟨a, dx, vs, rfl, h1, _, _⟩ := S1.objAt g.nm r1 h
    refine ⟨a, dx, _, rfl, h1, lookup_none fun z => hno (List.mem_of_mem_take z), ?_⟩
    refine ka Z σ H1 F1 ρ1 M1 _ _ S1 hw1 fun vs H2 F2 ds2 ρ2 M2 S2 l2 r2 q2 => ?_
    have z := liftR_run (vs := .ref a :: vs) (W := fun cls d _ H => E0 cls d H) S2 (reps_cons.mpr ⟨_, _, rfl, r1.mono l2, r2⟩) q2 le K
    simpa using z
/-- what is known of a class of exceptions -/
structure XOk (b : Bz) (xc : XcT) (k : Nat) (x : Str) (cn : Nat) : Prop where
  gC : b.mg x = some (.ref (xc cn).1)
  ex : ∃ (B newId initId Bn inN : String) (bmN bm : List Value) (fI : Addr) (fd : FuncData) (ps : List Str), PySem.XOwn.XC b.K (xc cn).1 B newId initId Bn inN bmN bm ∧ PySem.W.findIn b.K (.ref (xc cn).1) "__init__" = some (some (.ref fI)) ∧ PySem.W.typeIn b.K (.ref fI) = some (.type "function") ∧
    FnOk b.P b.w b.K b.mg b.base CX0 k fI fd ps (spXI (xc cn).1 (xc cn).2) ∧ Binds b.K fd ps []
theorem r_raise {x : Str} {cn k : Nat} {pos2 : Pos} (h : XOk b xc k x cn) (hr : Room (k + 1) A) (hg : glB κ x = true) (hp : plainE e = true) (hdb : (x == ("__debug__" : Str)) = false) (h1 : HE b A κ e T1) :
    RS b xc A κ fl (.Raise (some (.Call (.Name x p) [e] [] pos)) none pos2) (fun ρ M Xq => wpE b.B T1 ρ M fun d ρ M => Xq cn d ρ M) := fun X W cx => by
  obtain ⟨t1, p1, r1⟩ := h1 X.nox cx.c
  obtain ⟨hc1, hc2, hc3, hc4, hc5, hc6⟩ := cx.rm
  obtain ⟨B, newId, initId, Bn, inN, bmN, bm, fI, fd, ps, T, iC, tI, F1, hb⟩ := h.ex
  have gC := h.gC
  rw [← hc1, ← hc2, ← hc3, ← hc4, ← hc5] at F1
  rw [← hc3] at hb T iC tI
  rw [← hc4] at gC
  rw [← hc6] at hr
  refine ⟨_, ps_raise cx.c.c cx.tk (pmk_x T iC tI F1 hr hb pass0 (cx.c.gl hg) gC (pa_cons p1.nox pa_nil (star_cons _ hp)) hdb (star_cons _ hp) (star_any _ rfl)), fun Z σ H F ρ M Xq D S hw le => ?_⟩
  refine r1 Z σ H F ρ M _ _ S hw fun v H1 F1 d ρ1 M1 S1 l1 rv q => ?_
  exact ⟨v, rfl, fun dd hn => le cn d σ (upd H1 dd (.xd [((xc cn).2, v)])) F1 ρ1 M1 dd v (S1.more hn) ⟨rv, upd_same⟩ q⟩
/-! ### statements -/
theorem r_set (i : Nat) {x : Str} (h : lcB κ i x = true) (hs : ∀ (env : PySem.Env), swapsWith e1 (some (.Name x pos')) pos.line env = pure false) (h1 : RE b xc A κ fl e1 w) : RS b xc A κ fl (.Assign [.Name x pos'] e1 pos) w := fun X W c => by
  obtain ⟨t1, p1, r1⟩ := h1 X W c
  let q := lcB_iff h
  exact ⟨_, ps_set c.c.nd (by have := c.c.n; exact this ▸ q.1) (c.c.loc q.2).1 p1 (hs _) (c.c.loc q.2).2, fun Z σ H F ρ M Xq D S hw le => r1 Z σ H F ρ M Xq _ S hw le⟩
theorem r_setAt {x : Str} (hs : ∀ (env : PySem.Env), swapsWith e1 (some (.Attribute o x tpos)) pos.line env = pure false) (h1 : RE b xc A κ fl e1 w) : RS b xc A κ fl (.Assign [.Attribute o x tpos] e1 pos) w := fun X W c => by
  obtain ⟨t1, p1, r1⟩ := h1 X W c
  exact ⟨_, ps_fld (pe_no) p1 (hs _), fun Z σ H F ρ M Xq D S hw le => r1 Z σ H F ρ M Xq _ S hw le⟩
theorem r_expr (hs : ∀ (env : PySem.Env), swapsWith e1 none pos.line env = pure false) (h1 : RE b xc A κ fl e1 w) : RS b xc A κ fl (.Expr e1 pos) w := fun X W c => by
  obtain ⟨t1, p1, r1⟩ := h1 X W c
  exact ⟨_, ps_expr p1 (hs _), fun Z σ H F ρ M Xq D S hw le => r1 Z σ H F ρ M Xq _ S hw le⟩
theorem r_ret (h1 : RE b xc A κ fl e1 w) : RS b xc A κ fl (.Return (some e1) pos) w := fun X W c => by
  obtain ⟨t1, p1, r1⟩ := h1 X W c
  exact ⟨_, ps_ret p1, fun Z σ H F ρ M Xq D S hw le => r1 Z σ H F ρ M Xq _ S hw le⟩
theorem r_head {s : Stmt} {ss : List Stmt} (h1 : RS b xc A κ fl s w) : RSs b xc A κ fl (s :: ss) w := fun X W c => by
  obtain ⟨t1, p1, r1⟩ := h1 X W c
  exact ⟨_, pss_cons p1 pss_no, fun Z σ H F ρ M Xq D S hw le => r1 Z σ H F ρ M Xq _ S hw le⟩
theorem ps_nox {X : Cx} {s : Stmt} {t : TS} (h : PS X.nox s t) : PS X s t := ⟨fun pins s σ H D I hw => wpAny_mono (h.run pins s σ H D (I.wish _) hw) (fun _ _ q => q.unwish) fun _ _ z => False.elim z⟩
theorem r_tail {s : Stmt} {ss : List Stmt} (h1 : HS b A κ s T1) (h2 : RSs b xc A κ fl ss w) : RSs b xc A κ fl (s :: ss) (fun ρ M Xq => wpS b.B T1 ρ M { nx := fun ρ M => w ρ M Xq, rt := fun _ _ => False, bk := fun _ _ => False, ct := fun _ _ => False }) := fun X W c => by
  obtain ⟨t1, p1, r1⟩ := h1 X.nox c.c
  obtain ⟨t2, p2, r2⟩ := h2 X W c
  refine ⟨_, pss_cons (ps_nox p1) p2, fun Z σ H F ρ M Xq D S hw le => ?_⟩
  exact r1 Z σ H F ρ M _ { D with nx := t2 D } S hw ⟨fun σ H F ρ M S q => r2 Z σ H F ρ M Xq D S q le, fun _ _ _ _ _ _ z => z.elim, fun _ _ _ _ _ _ z => z.elim, fun _ _ _ _ _ _ _ _ _ z => z.elim⟩
theorem r_if {s1 s2 : List Stmt} (h0 : HT b A κ e1 T0) (h1 : RSs b xc A κ fl s1 w) : RS b xc A κ fl (.If e1 s1 s2 pos) (fun ρ M Xq => wpE b.B T0 ρ M fun d ρ M => ∃ k, d = .bl k ∧ k = true ∧ w ρ M Xq) := fun X W c => by
  obtain ⟨t0, p0, r0⟩ := h0 X.nox c.c
  obtain ⟨t1, p1, r1⟩ := h1 X W c
  refine ⟨_, ps_if p0.nox p1 pss_no, fun Z σ H F ρ M Xq D S hw le => ?_⟩
  refine r0 Z σ H F ρ M (fun k ρ M => k = true ∧ w ρ M Xq) _ S hw fun k H1 F1 ρ1 M1 S1 l ⟨e, q⟩ => ?_
  subst e
  exact r1 Z σ H1 F1 ρ1 M1 Xq D S1 q le
theorem r_bin {op : Operator} (q : BOp) (ho : op = opE q) (h1 : RE b xc A κ fl e1 w) : RE b xc A κ fl (.BinOp e1 op e2 pos) w := fun X W c => by
  obtain ⟨t1, p1, r1⟩ := h1 X W c
  obtain ⟨r, k1, k2⟩ := bin_ok (X := X) (N := b.N) q
  subst ho
  exact ⟨_, pe_op k1 p1 pe_no, fun Z σ H F ρ M Xq K S hw le => r1 Z σ H F ρ M Xq _ S hw le⟩
theorem r_fst (hp : plainE e1 = true) (h1 : RE b xc A κ fl e1 w) : ∀ X W, CokX b A κ fl X W → ∃ t : TA, PA X (e1 :: es) t ∧ ∀ Z σ H F ρ M Xq K, Sim b.N Z F ρ M σ H → w ρ M Xq → XLE b.N xc Z Xq W → t σ H K := fun X W c => by
  obtain ⟨t1, p1, r1⟩ := h1 X W c
  exact ⟨_, pa_cons p1 pa_no (star_cons _ hp), fun Z σ H F ρ M Xq K S hw le => r1 Z σ H F ρ M Xq _ S hw le⟩
theorem r_tup {x1} (hp : plainE e1 = true) (h1 : RE b xc A κ fl e1 w) : RE b xc A κ fl (.Tuple (e1 :: es) x1 pos) w := fun X W c => by
  obtain ⟨t1, p1, r1⟩ := r_fst (es := es) hp h1 X W c
  exact ⟨_, pe_tup p1, fun Z σ H F ρ M Xq K S hw le => r1 Z σ H F ρ M Xq _ S hw le⟩
theorem r_ife (h0 : HT b A κ c T0) (h1 : RE b xc A κ fl e1 w1) (h2 : RE b xc A κ fl e2 w2) : RE b xc A κ fl (.IfExp c e1 e2 pos) (fun ρ M Xq => wpE b.B T0 ρ M fun d ρ M => ∃ k, d = .bl k ∧ iteN (Bool.toNat k) (w1 ρ M Xq) (w2 ρ M Xq)) := fun X W cx => by
  obtain ⟨t0, p0, r0⟩ := h0 X.nox cx.c
  obtain ⟨t1, p1, r1⟩ := h1 X W cx
  obtain ⟨t2, p2, r2⟩ := h2 X W cx
  refine ⟨_, pe_ifExp p0.nox p1 p2, fun Z σ H F ρ M Xq K S hw le => ?_⟩
  refine r0 Z σ H F ρ M (fun k ρ M => iteN (Bool.toNat k) (w1 ρ M Xq) (w2 ρ M Xq)) _ S hw fun k H1 F1 ρ1 M1 S1 l q => ?_
  cases k with
  | true => exact r1 Z σ H1 F1 ρ1 M1 Xq K S1 q le
  | false => exact r2 Z σ H1 F1 ρ1 M1 Xq K S1 q le
/-- THE RULE for a def that raises -/
theorem fnX_ok {x qual : Str} {st : Stmt} {f : Addr} {fd : FuncData} {ns ps : List Str} {k : Nat} {sp : DSpR} (F : Fun b.K x qual st f fd) (S : FnScope ns ps (defScope st)) (g : b.Good) (len : ∀ ds M Q, sp ds M Q → ds.length = ps.length)
    (h : ∀ A, Room k A → RSs b xc A ⟨ns, defScope st, fun _ => true⟩ true (defBody st) w) (hw : ∀ ds M Q, sp ds M Q → w (startD ns.length ds) M fun c d _ M => Q c d M) :
    FnOk b.P b.w b.K b.mg b.base (L2.CX b.P b.w) (k + 1) f fd ps (liftR b.N xc sp) :=
  F.okX S (fun vs H Q E ⟨F, M, ds, Xd, _, r, q, _⟩ => by rw [r.length]; exact len _ _ _ q) fun cdv A outer s H vs Q E hr hl => by
    obtain ⟨F1, M, ds, Xd, S1, r, q, kk⟩ := hl
    have c : CokX b (A.deeper (envOfC qual (defScope st) s.heap.objs.size f cdv)) ⟨ns, defScope st, fun _ => true⟩ true (cxOf (L2.CX b.P b.w) b.P b.w b.K b.mg b.base ns qual (defScope st) f cdv A outer s H E) (fun cls d _ H => E cls d H) :=
      ⟨⟨g, rfl, rfl, rfl, rfl, rfl, rfl, rfl, rfl, rfl, rfl, S.nd, rfl, hr.units, fun _ => ⟨rfl, rfl⟩⟩, takes_of rfl rfl rfl rfl, fun _ => ⟨E, rfl⟩, passes_of rfl⟩
    obtain ⟨t, p, rt⟩ := h _ hr _ _ c
    refine ⟨t, p, rt _ _ _ _ _ _ _ _ (S1.env r) (hw ds M Xd q) fun c d σ H' F' ρ' M' dd v S' a q' => ?_⟩
    exact kk c d M' H' F' dd v q' (S'.drop rfl fun i lv e => by simp at e) a
end
end DL

set_option Elab.async false
set_option linter.all false
set_option maxRecDepth 100000
set_option maxHeartbeats 2000000
namespace DL
open PySem L2 PySem.W PySem.Spec PyProof.Rows
section
variable {X : Cx} {CX : CXT} {k : Nat} {f C : Addr} {fd : FuncData} {ps : List Str} {ds : List Value} {dvs : List V} {sp : Sp} {E : L2.St → XK} {x m : Str} {p pos apos : Pos} {e o : Expr} {es : List Expr} {ta : TE} {t : TA}
theorem run_SD {pins : List (Addr × Obj)} {σ : L2.St} {H : Hp} {s : Shared} {Q : VK} {us : List Value} {vs : List V} (F : FnOk X.prog X.w X.K X.mg X.base CX k f fd ps sp) (hr : Room k X.A) (hb : Binds X.K fd ps ds) (hd : Vals dvs ds) (hx : PassesAt CX X σ (E σ))
    (I : Inv X pins σ H s) (r : Vals vs us) (h : sp (vs ++ dvs) H Q (E σ)) : wpAny (model X.prog X.w) X.A (call (.ref f) us) (EP X pins σ Q) X.xe s := by
  have r2 : Vals (vs ++ dvs) (us ++ ds) := r.append hd
  have b := hb s us I.kIn (by rw [← r2.length]; exact F.len _ _ _ _ h)
  refine wpAny_call (codeAny_mono (F.run X.A X.stack s H ⟨us, []⟩ _ _ Q (E σ) hr I.env0 b r2 h) fun r s' hq => ?_)
  cases r with
  | error e => exact hx pins H s e s' I hq
  | ok fl =>
    cases fl with
    | ret u => exact I.after hq
    | next => exact False.elim hq
    | brk => exact False.elim hq
    | cont => exact False.elim hq
theorem pe_callSD (F : FnOk X.prog X.w X.K X.mg X.base CX k f fd ps sp) (hr : Room k X.A) (hg : Gl X x) (hm : X.mg x = some (.ref f)) (hk : PySem.W.keepIn X.K (.ref f) = true) (hb : Binds X.K fd ps ds) (hd : Vals dvs ds) (hx : ∀ σ, PassesAt CX X σ (E σ))
    (ha : PA X (e :: es) t) (hdb : (x == ("__debug__" : Str)) = false) (he : starEach (e :: es) X.env = (false, eval e X.env) :: starEach es X.env) (hpl : (backTo pos (starEach es X.env)).any (·.1) = false) :
    PE X (.Call (.Name x p) (e :: es) [] pos) (fun σ H Q => t σ H fun vs H1 => sp (vs ++ dvs) H1 Q (E σ)) := by
  refine ⟨fun pins s σ H Q I h => ?_⟩
  refine wpAny_Call_Name_kw (ld_glob I hg hm ?_ hdb)
  refine PySem.W.callWith_K (h₀ := X.base) I.ok.mod.kin hk (thn (ha.run pos pins s σ H _ I h) fun us s1 ⟨vs, H1, I1, r, q⟩ => ⟨I1.kIn, ?_⟩) he hpl
  exact run_SD F hr hb hd (hx σ) I1 r q
end
section
variable {b : Bz} {xc : XcT} {A : Around} {κ : Kt} {fl : Bool} {pos pos' p p2 p3 apos tpos : Pos} {e e1 e2 e3 c o : Expr} {es rest : List Expr} {T0 T1 T2 T3 Tr Tg Ti Tc To : DL.T} {w w1 w2 : WR}
/-- with defaults -/
theorem fnR_ofD {x : Str} {k n : Nat} {f : Addr} {fd : FuncData} {ps : List Str} {sp : DSpR} {ds : List Value} {dvs : List V} {dd : List D} (F : FnOk b.P b.w b.K b.mg b.base (L2.CX b.P b.w) k f fd ps (liftR b.N xc sp)) (hm : b.mg x = some (.ref f)) (hk : PySem.W.keepIn b.K (.ref f) = true) (hb : Binds b.K fd ps ds) (hd : Vals dvs ds) (hdd : ∀ F, Reps b.N F dd dvs)
    (hdb : (x == ("__debug__" : Str)) = false) (hn : n ≠ 0) : FnR b xc k x n (fun as => sp (as ++ dd)) := by
  intro A κ fl es p pos Tr hr hl hp hg ha X W c
  obtain ⟨t, pa, ka⟩ := ha X.nox c.c
  obtain ⟨hc1, hc2, hc3, hc4, hc5, hc6⟩ := c.rm
  rw [← hc1, ← hc2, ← hc3, ← hc4, ← hc5] at F
  rw [← hc3] at hk hb
  rw [← hc4] at hm
  rw [← hc6] at hr
  cases es with
  | nil => exact absurd hl.symm hn
  | cons e es =>
    unfold plainEs at hp
    rw [List.all_cons, Bool.and_eq_true] at hp
    refine ⟨_, pe_callSD F hr (c.c.gl hg) hm hk hb hd (fun σ => passAt c.tk σ) (pa_nox pa) hdb (star_cons _ hp.1) (star_any _ hp.2), fun Z σ H F ρ M Xq K S hw le => ?_⟩
    refine ka Z σ H F ρ M _ _ S hw fun vs H1 F1 as ρ1 M1 S1 l r q => ?_
    exact liftR_run S1 (r.append (hdd F1)) q le K
/-- C(..) whose __init__ raises -/
theorem mkR_of {x : Str} {k n c : Nat} {f : Addr} {fd : FuncData} {ps : List Str} {sp : DSpR} (mk : Mk b.K (b.N.cad c) f) (F : FnOk b.P b.w b.K b.mg b.base (L2.CX b.P b.w) k f fd ps (liftR b.N xc sp)) (hm : b.mg x = some (.ref (b.N.cad c))) (hb : Binds b.K fd ps []) (hdb : (x == ("__debug__" : Str)) = false) (hn : n ≠ 0) :
    ∀ (A : Around) (κ : Kt) (es : List Expr) (p pos : Pos) (Tr : DL.T), Room (k + 1) A → es.length = n → plainEs es = true → glB κ x = true → HA b A κ es Tr →
      RE b xc A κ true (.Call (.Name x p) es [] pos) (fun ρ M Xq => wpA b.B Tr ρ M fun ds ρ M => ∀ a, M a = none → sp (.loc a :: ds) (updM M a (.obj c [])) fun c d M' => Xq c d ρ M') := by
  intro A κ es p pos Tr hr hl hp hg ha X W cx
  obtain ⟨t, pa, ka⟩ := ha X.nox cx.c
  obtain ⟨E0, rfl⟩ := cx.fl rfl
  obtain ⟨hc1, hc2, hc3, hc4, hc5, hc6⟩ := cx.rm
  rw [← hc1, ← hc2, ← hc3, ← hc4, ← hc5] at F
  rw [← hc3] at hb mk
  rw [← hc4] at hm
  rw [← hc6] at hr
  cases es with
  | nil => exact absurd hl.symm hn
  | cons e es =>
    unfold plainEs at hp
    rw [List.all_cons, Bool.and_eq_true] at hp
    refine ⟨_, pe_make (E := E0) (dvs := []) mk F hr (cx.c.gl hg) hm hb .nil (passes_call cx.tk fun _ _ _ _ h => h) (pa_nox pa) hdb (star_cons _ hp.1) (star_any _ hp.2), fun Z σ H F ρ M Xq K S hw le => ?_⟩
    refine ka Z σ H F ρ M _ _ S hw fun vs H1 F1 ds ρ1 M1 S1 l r q y dx h1 h2 h3 => ?_
    have S2 := S1.more (p := dx) (o := .own y) h2
    have S3 := S2.newM (p := y) (o := .ins (b.N.cad c) dx []) (mo := .obj c []) (by rw [upd_ne h3.symm]; exact h1) ⟨dx, [], by rw [upd_same]; simp, Nat.zero_le _, reps_nil.mpr rfl⟩
    have z := liftR_run (vs := .ref y :: vs) (W := fun cls d _ H => E0 cls d H) S3 (reps_cons.mpr ⟨_, _, rfl, rep_loc.mpr rfl, r⟩) (q y (S1.mnone h1)) le (fun v H2 => v = .non ∧ K (.ref y) H2)
    simpa using z
end
end DL

set_option Elab.async false
set_option linter.all false
set_option maxRecDepth 100000
set_option maxHeartbeats 2000000
namespace DL
open PySem L2 PySem.W PySem.Spec PyProof.Rows
section
variable (b : Bz) (A : Around) (κ : Kt)
def HSw (s : Stmt) (ws : WS) : Prop := ∀ X, Cok b A κ X → ∃ t, PS X s t ∧ SR b.N t ws
def HSsw (s : List Stmt) (ws : WS) : Prop := ∀ X, Cok b A κ X → ∃ t, PSs X s t ∧ SR b.N t ws
/-- a suite that handles an exception of the class cn, in slot i -/
def SX (xc : XcT) (cn i : Nat) (suite : List Stmt) (ws : D → WS) : Prop := ∀ X, Cok b A κ X → ∀ (a : Addr) (oe : Obj) (cls : Value) (d : Option Addr) (pn : List (Addr × Obj)), Zc cls d oe → (∃ vs, oe.data = .fields vs) →
  ∃ ts : TS, PSs (X.suite a ((a, oe) :: pn)) suite ts ∧ ∀ Z σ H F ρ M E D d0 dd v, Sim b.N Z F ρ M σ H → XAt b.N xc F H M cn d0 dd v → cls = .ref (xc cn).1 → d = some dd → ws d0 ρ M E → LE b.N Z E D →
    ts { nx := fun σ' H' => D.nx (σ'.set i none) H', rt := D.rt, bk := fun σ' H' => D.bk (σ'.set i none) H', ct := fun σ' H' => D.ct (σ'.set i none) H' } (σ.set i (some (.ref a))) H
end
/-- what is asked to read an exception's field -/
structure XRd (K : Frag) (C : Addr) (f : Str) : Prop where
  ga : findIn K (.ref C) "__getattribute__" = some (some (.builtin "BaseException.__getattribute__"))
  gg : ∃ gt, findIn K (.ref C) "__getattr__" = some gt
  exC : subIn K (.ref C) (.type "BaseException") = some true
  hd : hasDictIn K C = true
  no : findIn K (.ref C) f = some none
  te : exmOne K (.ref C) (.ref C) = some true
section
variable {b : Bz} {xc : XcT} {A : Around} {κ : Kt} {fl : Bool} {pos pos' p p1 p2 p3 np apos tpos : Pos} {e e1 e2 e3 c o : Expr} {es rest : List Expr} {T0 T1 T2 T3 Tr Tg Ti Tc To : DL.T} {w w1 w2 : WR} {ws ws1 ws2 : WS}
theorem hs_w {s : Stmt} (h : HS b A κ s T1) : HSw b A κ s (wpS b.B T1) := h
theorem sw_one {s : Stmt} (h : HSw b A κ s ws) : HSsw b A κ [s] ws := fun X c => let ⟨t, p, r⟩ := h X c; ⟨t, pss_one p, r⟩
theorem sw_cons {s : Stmt} {ss : List Stmt} (h1 : HSw b A κ s ws1) (h2 : HSsw b A κ ss ws2) : HSsw b A κ (s :: ss) (fun ρ M E => ws1 ρ M { E with nx := fun ρ M => ws2 ρ M E }) := fun X c => by
  obtain ⟨t1, p1, r1⟩ := h1 X c
  obtain ⟨t2, p2, r2⟩ := h2 X c
  exact ⟨_, pss_cons p1 p2, sr_seq r1 r2⟩
/-- try: what raises / except X as n: suite -/
theorem s_try {body suite : List Stmt} {b₀ : Stmt} {x n : Str} {cn i : Nat} {wd : D → WS} (R : XRd b.K (xc cn).1 (xc cn).2) (hi : nlB κ i n = true) (hx : glB κ x = true) (hdb : (x == ("__debug__" : Str)) = false) (hm : b.mg x = some (.ref (xc cn).1)) (ht : ∀ y, κ.fn y = true)
    (hb : RSs b xc A κ false body w) (hs : SX b A κ xc cn i (b₀ :: suite) wd) : HSw b A κ (.Try body [.ExceptHandler (some (.Name x np)) (some n) (b₀ :: suite) pos'] [] [] pos) (fun ρ M E => w ρ M fun c d ρ' M' => c = cn ∧ wd d ρ' M' E) := fun X c => by
  obtain ⟨st, fr⟩ := c.st ht
  obtain ⟨h1, h2⟩ := nlB_iff hi
  have ck : ∀ (W : L2.WX) (pn : List (Addr × Obj)) (xe : Value → Shared → Prop), Takes (X.tr pn xe) W → PassesOwn (model X.prog X.w) X.A X.env xe → CokX b A κ false (X.tr pn xe) W := fun W pn xe tk po =>
    ⟨⟨c.g, c.p, c.w, c.k, c.m, c.b, c.a, c.c, c.n, c.s, c.f, c.nd, rfl, c.hu, c.st⟩, tk, fun z => (nomatch z), po⟩
  let tb : L2.WX → TS := fun W D σ H => ∀ pn xe (tk : Takes (X.tr pn xe) W) (po : PassesOwn (model X.prog X.w) X.A X.env xe), Classical.choose (hb (X.tr pn xe) W (ck W pn xe tk po)) D σ H
  let ts : Addr → Value → Option Addr → TS := fun a cls d D σ H => ∀ oe pn (z1 : Zc cls d oe) (z2 : ∃ vs, oe.data = .fields vs), Classical.choose (hs X c a oe cls d pn z1 z2) D σ H
  refine ⟨_, ps_try_as (i := i) (tb := tb) (ts := ts) (Wout := fun _ _ _ _ => False) (c := .ref (xc cn).1) st fr c.nd (by rw [c.n]; exact h1) ?_ ⟨c.gl hx, hdb, .inl (by rw [c.m]; exact hm)⟩ (fun u s' xx => ?_) (fun W pn xe tk po => ⟨fun pins s σ H D I h => (Classical.choose_spec (hb (X.tr pn xe) W (ck W pn xe tk po))).1.run pins s σ H D I (h pn xe tk po)⟩) (fun a oe cls d pn z1 z2 => ⟨fun pins s σ H D I h => (Classical.choose_spec (hs X c a oe cls d pn z1 z2)).1.run pins s σ H D I (h oe pn z1 z2)⟩), ?_⟩
  · exact c.lcl h2
  · obtain ⟨_, _, _, _, _, _, _, _, _, _, _, _, _, _, _, _, z⟩ := xx
    exact z.elim
  · intro Z σ H F ρ M E D S hw le pn xe tk po
    refine (Classical.choose_spec (hb (X.tr pn xe) _ (ck _ pn xe tk po))).2 Z σ H F ρ M _ D S hw fun c' d σ' H' F' ρ' M' dd v S' at' ⟨e, q⟩ => ?_
    subst e
    refine ⟨true, by rw [c.k]; exact R.te, fun _ a na oe pn' z1 z2 => ?_, fun z => by cases z⟩
    exact (Classical.choose_spec (hs X c a oe _ _ pn' z1 z2)).2 Z σ' H' F' ρ' M' E D d dd v S' at' rfl rfl q le
/-- return n.f == y -/
theorem sx_retEq {n y : Str} {cn i j : Nat} (R : XRd b.K (xc cn).1 (xc cn).2) (hi : nlB κ i n = true) (hj : nlB κ j y = true) (hij : i ≠ j) (hd1 : (n == ("__debug__" : Str)) = false) (hc1 : (n == ("__classdict__" : Str)) = false) (hd2 : (y == ("__debug__" : Str)) = false) (hc2 : (y == ("__classdict__" : Str)) = false)
    (ha : ∀ env : PySem.Env, attributeBase (.Name n p) (xc cn).2 env (eval (.Name n p) env) = eval (.Name n p) env) (hm : behindInMarks .Eq (.Name y p2) = false) :
    SX b A κ xc cn i [.Return (some (.Compare (.Attribute (.Name n p) (xc cn).2 p1) [.Eq] [.Name y p2] pos)) pos'] (fun d0 ρ M E => i < ρ.length ∧ ∃ dj, ρ[j]? = some (.val dj) ∧ cmpP .eq (view M d0) (view M dj) fun k => E.rt (.bl k) M) := fun X c a oe cls d pn z1 z2 => by
  obtain ⟨h1, h2⟩ := nlB_iff hi
  obtain ⟨h3, h4⟩ := nlB_iff hj
  obtain ⟨gt, gg⟩ := R.gg
  obtain ⟨r, k1, k2⟩ := cmp_ok (X := X.suite a ((a, oe) :: pn)) (N := b.N) c.hu .eq
  have hn : X.N[i]? = some n := by rw [c.n]; exact h1
  have hy : X.N[j]? = some y := by rw [c.n]; exact h3
  refine ⟨_, pss_one (ps_ret (pe_cmpR k1 (pe_xf (by rw [c.k]; exact R.ga) (by rw [c.k]; exact gg) (by rw [c.k]; exact R.exC) (by rw [c.k]; exact R.hd) (by rw [c.k]; exact R.no) z1 z2 (pe_var (X := X.suite a ((a, oe) :: pn)) hn (.inl (c.lcl h2)) hd1 hc1) (ha _)) (pe_var (X := X.suite a ((a, oe) :: pn)) hy (.inl (c.lcl h4)) hd2 hc2) hm)), fun Z σ H F ρ M E D d0 dd v S at' ec ed q le => ?_⟩
  obtain ⟨hl, dj, ej, q⟩ := q
  obtain ⟨vj, e1, rj⟩ := S.val ej
  rw [S.len] at hl
  refine ⟨.ref a, by rw [List.getElem?_set_self hl], rfl, ec, dd, v, ed, at'.dict, vj, by rw [List.getElem?_set_ne hij]; exact e1, ?_⟩
  exact k2 Z σ H F ρ M v vj d0 dj (fun z => E.rt z M) _ S at'.rep rj q fun u H' F' z S' l r' q' => le.rt σ H' F' ρ M z u S' r' q'
/-- y = n.f -/
theorem sx_set {n y : Str} {cn i j : Nat} (R : XRd b.K (xc cn).1 (xc cn).2) (hi : nlB κ i n = true) (hj : nlB κ j y = true) (hij : i ≠ j) (hd1 : (n == ("__debug__" : Str)) = false) (hc1 : (n == ("__classdict__" : Str)) = false)
    (ha : ∀ env : PySem.Env, attributeBase (.Name n p) (xc cn).2 env (eval (.Name n p) env) = eval (.Name n p) env) (hs : ∀ env : PySem.Env, swapsWith (.Attribute (.Name n p) (xc cn).2 p1) (some (.Name y p2)) pos.line env = pure false) :
    SX b A κ xc cn i [.Assign [.Name y p2] (.Attribute (.Name n p) (xc cn).2 p1) pos] (fun d0 ρ M E => i < ρ.length ∧ E.nx ((ρ.set j (.val d0)).set i .no) M) := fun X c a oe cls d pn z1 z2 => by
  obtain ⟨h1, h2⟩ := nlB_iff hi
  obtain ⟨h3, h4⟩ := nlB_iff hj
  obtain ⟨gt, gg⟩ := R.gg
  have hn : X.N[i]? = some n := by rw [c.n]; exact h1
  have hy : X.N[j]? = some y := by rw [c.n]; exact h3
  refine ⟨_, pss_one (ps_set (X := X.suite a ((a, oe) :: pn)) c.nd hy (.inl (c.lcl h4)) (pe_xf (by rw [c.k]; exact R.ga) (by rw [c.k]; exact gg) (by rw [c.k]; exact R.exC) (by rw [c.k]; exact R.hd) (by rw [c.k]; exact R.no) z1 z2 (pe_var (X := X.suite a ((a, oe) :: pn)) hn (.inl (c.lcl h2)) hd1 hc1) (ha _)) (hs _) (.inr (c.lcl h4))), fun Z σ H F ρ M E D d0 dd v S at' ec ed q le => ?_⟩
  obtain ⟨hl, q⟩ := q
  have S1 := S.set j at'.rep
  have S2 : Sim b.N Z F ((ρ.set j (.val d0)).set i .no) M ((σ.set j (some v)).set i none) H := S1.drop (by simp only [List.length_set]; exact S.len) fun k lv e => by
    by_cases hk : k = i
    · subst hk
      rw [List.getElem?_set_self (by rw [List.length_set]; exact hl)] at e
      exact .inl (Option.some.inj e).symm
    · rw [List.getElem?_set_ne (Ne.symm hk)] at e
      refine .inr ⟨e, ?_⟩
      rw [List.getElem?_set_ne (Ne.symm hk)]
  rw [S.len] at hl
  refine ⟨.ref a, by rw [List.getElem?_set_self hl], rfl, ec, dd, v, ed, at'.dict, ?_⟩
  have e2 : (((σ.set i (some (.ref a))).set j (some v)).set i none) = ((σ.set j (some v)).set i none) := by
    apply List.ext_getElem?
    intro k
    by_cases hk : k = i
    · subst hk
      rw [List.getElem?_set_self (by simpa using hl), List.getElem?_set_self (by simpa using hl)]
    · rw [List.getElem?_set_ne (Ne.symm hk), List.getElem?_set_ne (Ne.symm hk)]
      by_cases hk2 : k = j
      · subst hk2
        simp [List.getElem?_set, hk, Ne.symm hk]
      · rw [List.getElem?_set_ne (Ne.symm hk2), List.getElem?_set_ne (Ne.symm hk2), List.getElem?_set_ne (Ne.symm hk)]
  show D.nx (((σ.set i (some (.ref a))).set j (some v)).set i none) H
  rw [e2]
  exact le.nx _ H F _ M S2 q
/-- THE RULE for a def with a try -/
theorem fnW_ok {x qual : Str} {st : Stmt} {f : Addr} {fd : FuncData} {ns ps : List Str} {k : Nat} {sp : DSp} (F : Fun b.K x qual st f fd) (S : FnScope ns ps (defScope st)) (g : b.Good) (len : ∀ ds M Q, sp ds M Q → ds.length = ps.length)
    (h : ∀ A, Room k A → HSsw b A ⟨ns, defScope st, fun _ => true⟩ (defBody st) ws) (hw : ∀ ds M Q, sp ds M Q → ws (startD ns.length ds) M (enOf Q)) : FnOk b.P b.w b.K b.mg b.base CX0 (k + 1) f fd ps (liftS b.N sp) :=
  F.ok S (lift_len len) fun cdv A outer s H vs Q E hr hl => by
    obtain ⟨F1, M, ds, Qd, S1, r, q, kk⟩ := hl
    obtain ⟨t, p, rt⟩ := h _ hr _ (cok_def (E := E) (outer := outer) g S.nd hr)
    exact ⟨t, p, rt _ _ _ _ _ _ _ _ (S1.env r) (hw ds M Qd q) ⟨fun σ H' F' ρ M' S' q' => kk .non M' .non H' F' q' (S'.drop rfl fun i lv e => by simp at e) (rep_non.mpr rfl), fun _ _ _ _ _ _ z => z, fun _ _ _ _ _ _ z => z, fun σ H' F' ρ M' d v S' r' q' => kk d M' v H' F' q' (S'.drop rfl fun i lv e => by simp at e) r'⟩⟩
end
end DL

set_option Elab.async false
set_option linter.all false
set_option maxRecDepth 100000
set_option maxHeartbeats 2000000
namespace DL
open PySem L2 PySem.W PySem.Spec PyProof.Rows
section
variable {b : Bz} {xc : XcT} {w : WR} {ws : WS} {x qual : Str} {params : Arguments} {body : List Stmt} {scope : Scope} {dvs : List V} {kws : List (Str × V)} {f : Addr} {fd : FuncData} {ns ps : List Str} {k : Nat}
/-- THE RULE for a def that raises -/
theorem fnX_okD {sp : DSpR} (F : FunD b.K x qual params body scope dvs kws f fd) (S : FnScope ns ps scope) (g : b.Good) (len : ∀ ds M Q, sp ds M Q → ds.length = ps.length)
    (h : ∀ A, Room k A → RSs b xc A ⟨ns, scope, fun _ => true⟩ true body w) (hw : ∀ ds M Q, sp ds M Q → w (startD ns.length ds) M fun c d _ M => Q c d M) :
    FnOk b.P b.w b.K b.mg b.base (L2.CX b.P b.w) (k + 1) f fd ps (liftR b.N xc sp) :=
  F.ok S (fun vs H Q E ⟨F, M, ds, Xd, _, r, q, _⟩ => by rw [r.length]; exact len _ _ _ q) fun cdv A outer s H vs Q E hr hl => by
    obtain ⟨F1, M, ds, Xd, S1, r, q, kk⟩ := hl
    have c : CokX b (A.deeper (envOfC qual scope s.heap.objs.size f cdv)) ⟨ns, scope, fun _ => true⟩ true (cxOf (L2.CX b.P b.w) b.P b.w b.K b.mg b.base ns qual scope f cdv A outer s H E) (fun cls d _ H => E cls d H) :=
      ⟨⟨g, rfl, rfl, rfl, rfl, rfl, rfl, rfl, rfl, rfl, rfl, S.nd, rfl, hr.units, fun _ => ⟨rfl, rfl⟩⟩, takes_of rfl rfl rfl rfl, fun _ => ⟨E, rfl⟩, passes_of rfl⟩
    obtain ⟨t, p, rt⟩ := h _ hr _ _ c
    exact ⟨t, p, rt _ _ _ _ _ _ _ _ (S1.env r) (hw ds M Xd q) fun c d σ H' F' ρ' M' dd v S' a q' => kk c d M' H' F' dd v q' (S'.drop rfl fun i lv e => by simp at e) ⟨a.rep, a.dict⟩⟩
/-- THE RULE for a def with a try -/
theorem fnW_okD {sp : DSp} (F : FunD b.K x qual params body scope dvs kws f fd) (S : FnScope ns ps scope) (g : b.Good) (len : ∀ ds M Q, sp ds M Q → ds.length = ps.length)
    (h : ∀ A, Room k A → HSsw b A ⟨ns, scope, fun _ => true⟩ body ws) (hw : ∀ ds M Q, sp ds M Q → ws (startD ns.length ds) M (enOf Q)) : FnOk b.P b.w b.K b.mg b.base CX0 (k + 1) f fd ps (liftS b.N sp) :=
  F.ok S (lift_len len) fun cdv A outer s H vs Q E hr hl => by
    obtain ⟨F1, M, ds, Qd, S1, r, q, kk⟩ := hl
    obtain ⟨t, p, rt⟩ := h _ hr _ (cok_def (E := E) (outer := outer) g S.nd hr)
    exact ⟨t, p.nox, rt _ _ _ _ _ _ _ _ (S1.env r) (hw ds M Qd q) ⟨fun σ H' F' ρ M' S' q' => kk .non M' .non H' F' q' (S'.drop rfl fun i lv e => by simp at e) (rep_non.mpr rfl), fun _ _ _ _ _ _ z => z, fun _ _ _ _ _ _ z => z, fun σ H' F' ρ M' d v S' r' q' => kk d M' v H' F' q' (S'.drop rfl fun i lv e => by simp at e) r'⟩⟩
end
/-- __init__ of an own exception: B.__init__(self, 'm'); self.f = y -/
theorem xinit_ok {P : Program} {w : World} {K : Frag} {mg : Str → Option Value} {base : Heap} {C : Addr} {B newId initId Bn inN : String} {bmN bm : List Value} {qual n0 n1 fl m : Str} {j : Nat} {p1 p2 p3 p4 p5 p6 p7 p8 p9 p10 : Pos} {params : Arguments} {scope : Scope} {f : Addr} {fd : FuncData} {ps : List Str} {k : Nat}
    (F : FunD K "__init__" qual params [.Expr (.Call (.Attribute (.Name (Str.ofString B) p1) "__init__" p2) [.Name n0 p3, .Constant (.str m) j p4] [] p5) p6, .Assign [.Attribute (.Name n0 p7) fl p8] (.Name n1 p9) p10] scope [] [] f fd) (S : FnScope [n0, n1] ps scope) (hps : ps.length = 2)
    (T : PySem.XOwn.XC K C B newId initId Bn inN bmN bm) (hno : findIn K (.ref C) fl = some none) (hm : mg (Str.ofString B) = none) (hty : typeOf (.type B) = pure (.type "type")) (hst : Manifest.isStub B = false) (hhi : handedIn (.builtin initId) = true) (h0 : Str.ofString B ≠ "__name__") (hdb : (Str.ofString B == ("__debug__" : Str)) = false)
    (vV : findCls K (.type B) (.type "type") "__init__" = some (.val (.builtin initId))) (hg : scope.names.lookup (Str.ofString B) = some .globalImplicit) (hl0 : scope.names.lookup n0 = some .local) (hl1 : scope.names.lookup n1 = some .local)
    (d0 : (n0 == ("__debug__" : Str)) = false) (d1 : (n1 == ("__debug__" : Str)) = false) (c0 : (n0 == ("__classdict__" : Str)) = false) (c1 : (n1 == ("__classdict__" : Str)) = false)
    (hcf : ∀ X : Cx, callForm X (.Name (Str.ofString B) p1) "__init__" [.Name n0 p3, .Constant (.str m) j p4] p2 p5) (hs1 : ∀ env : PySem.Env, swapsWith (.Call (.Attribute (.Name (Str.ofString B) p1) "__init__" p2) [.Name n0 p3, .Constant (.str m) j p4] [] p5) none p6.line env = pure false) (hs2 : ∀ env : PySem.Env, swapsWith (.Name n1 p9) (some (.Attribute (.Name n0 p7) fl p8)) p10.line env = pure false) :
    FnOk P w K mg base CX0 (k + 1) f fd ps (spXI C fl) :=
  F.ok S (fun vs H Q E ⟨a, y, e, _⟩ => by rw [e, hps]; rfl) fun cdv A outer s H vs Q E hr hl => by
    obtain ⟨a, y, rfl, ha, q⟩ := hl
    obtain ⟨pl, hc⟩ := hcf (cxOf CX0 P w K mg base [n0, n1] qual scope f cdv A outer s H E)
    have hp : plainEs [.Name n0 p3, .Constant (.str m) j p4] = true := rfl
    have v0 : ∀ {p : Pos}, PE (cxOf CX0 P w K mg base [n0, n1] qual scope f cdv A outer s H E) (.Name n0 p) (tVar 0) := pe_var rfl (.inl hl0) d0 c0
    have v1 : ∀ {p : Pos}, PE (cxOf CX0 P w K mg base [n0, n1] qual scope f cdv A outer s H E) (.Name n1 p) (tVar 1) := pe_var rfl (.inl hl1) d1 c1
    refine ⟨_, pss_cons (ps_expr (pe_xinit (pl := pl) T hg hm hty hst hhi h0 hdb vV (pa_cons v0 (pa_cons pe_str pa_nil (star_cons _ rfl)) (star_cons _ rfl)) hc (star_cons _ rfl) (star_any _ rfl)) (hs1 _)) (pss_one (ps_xset T hno v0 v1 (hs2 _))), ?_⟩
    refine ⟨.ref a, rfl, a, [.str m], rfl, (by show 1 ≤ 1000; decide), ha, ?_⟩
    exact ⟨y, rfl, .ref a, rfl, a, rfl, ha, q⟩
end DL

set_option Elab.async false
set_option linter.all false
set_option maxRecDepth 100000
set_option maxHeartbeats 2000000
namespace DL
open PySem L2 PySem.W PySem.Spec PyProof.Rows
/-! ### more of what raises: within arguments, comprehensions, loops -/
theorem pk_no {X : Cx} {ks : List Keyword} : PK X ks NoA := ⟨fun _ _ _ _ _ _ _ h => h.elim⟩
theorem pg_no {X : Cx} {e : Expr} : PG X e (fun _ _ _ _ => False) := ⟨fun _ _ _ _ _ _ _ _ _ h => h.elim⟩
theorem pts_no {X : Cx} {es : List Expr} : PTs X es (fun _ _ _ => False) := ⟨fun _ _ _ _ _ _ h => h.elim⟩
theorem pi_no {X : Cx} {tg e : Expr} {t : TE} (h : PE X e t) : PI X tg e (fun σ H _ => t σ H fun _ _ => False) := ⟨fun pins s σ H R I hw => wpAny_mono (h.run pins s σ H _ I hw) (fun _ _ ⟨_, _, _, _, z⟩ => z.elim) fun _ _ z => z⟩
theorem pss_or {X : Cx} {ss : List Stmt} {t u : TS} (h1 : PSs X ss t) (h2 : PSs X ss u) : PSs X ss (fun D σ H => t D σ H ∨ u D σ H) := ⟨fun pins s σ H D I h => h.elim (fun h => h1.run pins s σ H D I h) fun h => h2.run pins s σ H D I h⟩
theorem pss_nox {X : Cx} {ss : List Stmt} {t : TS} (h : PSs X.nox ss t) : PSs X ss t := h.nox
section
variable (b : Bz) (xc : XcT) (A : Around) (κ : Kt) (fl : Bool)
/-- arguments of which one raises -/
def RA (es : List Expr) (w : WR) : Prop := ∀ X W, CokX b A κ fl X W → ∃ t : TA, PA X es t ∧ ∀ Z σ H F ρ M Xq K, Sim b.N Z F ρ M σ H → w ρ M Xq → XLE b.N xc Z Xq W → t σ H K
end
/-- a loop: some turns, then one that raises -/
@[irreducible] def forR (bd : D → WS) (br : D → WR) : List D → Env → Mem → XQ → Prop
  | [], _, _, _ => False
  | d :: ds, ρ, M, Xq => br d ρ M Xq ∨ bd d ρ M { nx := fun ρ M => forR bd br ds ρ M Xq, ct := fun ρ M => forR bd br ds ρ M Xq, bk := fun _ _ => False, rt := fun _ _ => False }
theorem forR_nilE {bd : D → WS} {br : D → WR} {ρ : Env} {M : Mem} {Xq : XQ} : forR bd br [] ρ M Xq = False := by with_unfolding_all rfl
theorem forR_consE {bd : D → WS} {br : D → WR} {d : D} {ds : List D} {ρ : Env} {M : Mem} {Xq : XQ} : forR bd br (d :: ds) ρ M Xq = (br d ρ M Xq ∨ bd d ρ M { nx := fun ρ M => forR bd br ds ρ M Xq, ct := fun ρ M => forR bd br ds ρ M Xq, bk := fun _ _ => False, rt := fun _ _ => False }) := by with_unfolding_all rfl
/-- k turns by an invariant, the next one raises -/
theorem forR_inv {bd : D → WS} {br : D → WR} {Xq : XQ} (I : Nat → Env → Mem → Prop) : ∀ {ds : List D} {n k : Nat} {ρ : Env} {M : Mem}, I n ρ M → k < ds.length → (∀ j d ρ M (K : En), j < k → ds[j]? = some d → I (n + j) ρ M → (∀ ρ M, I (n + j + 1) ρ M → K.nx ρ M) → (∀ ρ M, I (n + j + 1) ρ M → K.ct ρ M) → bd d ρ M K) →
    (∀ d ρ M, ds[k]? = some d → I (n + k) ρ M → br d ρ M Xq) → forR bd br ds ρ M Xq
  | [], n, k, ρ, M, i, h, _, _ => by simp at h
  | d :: ds, n, 0, ρ, M, i, h, _, last => by rw [forR_consE]; exact .inl (last d ρ M rfl i)
  | d :: ds, n, k + 1, ρ, M, i, h, step, last => by
    have rc : ∀ ρ M, I (n + 1) ρ M → forR bd br ds ρ M Xq := fun ρ M q => forR_inv I (n := n + 1) (k := k) q (by simpa using h) (fun j d' ρ M K hj h q k1 k2 => by
      have e : n + 1 + j = n + (j + 1) := by omega
      rw [e] at q k1 k2
      exact step (j + 1) d' ρ M K (by omega) (by simpa using h) q k1 k2) fun d' ρ M h q => by
      have e : n + 1 + k = n + (k + 1) := by omega
      rw [e] at q
      exact last d' ρ M (by simpa using h) q
    rw [forR_consE]; exact .inr (step 0 d ρ M _ (Nat.succ_pos k) rfl i rc rc)
section
variable {b : Bz} {xc : XcT} {A : Around} {κ : Kt} {fl : Bool} {pos pos' p p1 p2 p3 apos tpos : Pos} {e e1 e2 e3 c o tg iter elt : Expr} {es rest ifs : List Expr} {kws : List Keyword} {T0 T1 T2 T3 Tr Tg Ti Tc To : DL.T} {w w1 w2 : WR}
theorem CokX.gl {X : Cx} {W : L2.WX} (c : CokX b A κ fl X W) {x : Str} (h : glB κ x = true) : Gl X x := c.c.gl h
theorem ra_hd (hp : plainE e1 = true) (h1 : RE b xc A κ fl e1 w) : RA b xc A κ fl (e1 :: es) w := fun X W c => by
  obtain ⟨t1, p1, r1⟩ := h1 X W c
  exact ⟨_, pa_cons p1 pa_no (star_cons _ hp), fun Z σ H F ρ M Xq K S hw le => r1 Z σ H F ρ M Xq _ S hw le⟩
theorem ra_tl (hp : plainE e1 = true) (h1 : HE b A κ e1 T1) (h2 : RA b xc A κ fl es w) : RA b xc A κ fl (e1 :: es) (fun ρ M Xq => wpE b.B T1 ρ M fun _ ρ M => w ρ M Xq) := fun X W c => by
  obtain ⟨t1, p1, r1⟩ := h1 X.nox c.c
  obtain ⟨t2, p2, r2⟩ := h2 X W c
  exact ⟨_, pa_cons p1.nox p2 (star_cons _ hp), fun Z σ H F ρ M Xq K S hw le => r1 Z σ H F ρ M _ _ S hw fun v H1 F1 d ρ1 M1 S1 l rv q => r2 Z σ H1 F1 ρ1 M1 Xq _ S1 q le⟩
theorem r_lst (h : RA b xc A κ fl es w) : RE b xc A κ fl (.List es pos) w := fun X W c => by
  obtain ⟨t1, p1, r1⟩ := h X W c
  exact ⟨_, pe_lst p1, fun Z σ H F ρ M Xq K S hw le => r1 Z σ H F ρ M Xq _ S hw le⟩
theorem r_tupA {x1} (h : RA b xc A κ fl es w) : RE b xc A κ fl (.Tuple es x1 pos) w := fun X W c => by
  obtain ⟨t1, p1, r1⟩ := h X W c
  exact ⟨_, pe_tup p1, fun Z σ H F ρ M Xq K S hw le => r1 Z σ H F ρ M Xq _ S hw le⟩
theorem r_binR {op : Operator} (q : BOp) (ho : op = opE q) (h1 : HE b A κ e1 T1) (h2 : RE b xc A κ fl e2 w) : RE b xc A κ fl (.BinOp e1 op e2 pos) (fun ρ M Xq => wpE b.B T1 ρ M fun _ ρ M => w ρ M Xq) := fun X W c => by
  obtain ⟨t1, p1, r1⟩ := h1 X.nox c.c
  obtain ⟨t2, p2, r2⟩ := h2 X W c
  obtain ⟨r, k1, k2⟩ := bin_ok (X := X) (N := b.N) q
  subst ho
  exact ⟨_, pe_op k1 p1.nox p2, fun Z σ H F ρ M Xq K S hw le => r1 Z σ H F ρ M _ _ S hw fun v H1 F1 d ρ1 M1 S1 l rv q => r2 Z σ H1 F1 ρ1 M1 Xq _ S1 q le⟩
theorem r_attr {x : Str} (hb : ∀ env : PySem.Env, attributeBase e1 x env (eval e1 env) = eval e1 env) (h1 : RE b xc A κ fl e1 w) : RE b xc A κ fl (.Attribute e1 x pos) w := fun X W c => by
  obtain ⟨t1, p1, r1⟩ := h1 X W c
  exact ⟨_, pe_fld p1 (hb _), fun Z σ H F ρ M Xq K S hw le => r1 Z σ H F ρ M Xq _ S hw le⟩
theorem r_idx (hs : PlainIx e2) (h1 : RE b xc A κ fl e1 w) : RE b xc A κ fl (.Subscript e1 e2 pos) w := fun X W c => by
  obtain ⟨t1, p1, r1⟩ := h1 X W c
  exact ⟨_, pe_ix (ix_any c.c.hu) p1 pe_no hs, fun Z σ H F ρ M Xq K S hw le => r1 Z σ H F ρ M Xq _ S hw le⟩
theorem r_comp {scope : Scope} {own : List (Str × Nat)} (hk : blkC κ.ns κ.sc scope own = true) (hf : ∀ (env : PySem.Env) x, foldedSetIterable iter env x = pure x) (h1 : RE b xc A κ fl iter w) : RE b xc A κ fl (.ListComp elt [⟨tg, iter, ifs, 0⟩] scope pos) w := fun X W c => by
  obtain ⟨t1, p1, r1⟩ := h1 X W c
  have hN : X.N = κ.ns := c.c.n
  have hS : X.env.scope = κ.sc := c.c.s
  exact ⟨_, pe_lc c.c.c c.c.nd (pi_no p1) (by rw [hN, hS]; exact blkOk_by hk) (fun _ _ _ _ _ => pg_no) (fun _ _ _ _ _ => pts_no) (fun _ _ _ _ _ => pe_no) (hf X.env), fun Z σ H F ρ M Xq K S hw le => r1 Z σ H F ρ M Xq _ S hw le⟩
theorem r_callB {x : Str} {id : String} (hm : b.mg x = none) (hg : glB κ x = true) (hv : bootBuiltins x = some (.builtin id)) (hn : x ≠ "__name__") (hdb : (x == ("__debug__" : Str)) = false) (hp : plainEs (e1 :: es) = true) (h : RA b xc A κ fl (e1 :: es) w) : RE b xc A κ fl (.Call (.Name x p) (e1 :: es) [] pos) w := fun X W c => by
  obtain ⟨t1, p1, r1⟩ := h X W c
  have hm' : X.mg x = none := by rw [c.rm.2.2.2.1]; exact hm
  unfold plainEs at hp
  rw [List.all_cons, Bool.and_eq_true] at hp
  have cr : CallR X (.builtin id) (fun _ _ _ => False) := fun _ _ _ _ _ _ _ _ _ z => z.elim
  exact ⟨_, pe_callB cr (c.gl hg) hm' hv p1 hn hdb (star_cons _ hp.1) (star_any _ hp.2), fun Z σ H F ρ M Xq K S hw le => r1 Z σ H F ρ M Xq _ S hw le⟩
theorem r_callBK {x : Str} {id : String} (hm : b.mg x = none) (hg : glB κ x = true) (hv : bootBuiltins x = some (.builtin id)) (hn : x ≠ "__name__") (hdb : (x == ("__debug__" : Str)) = false) (hp : plainE e1 = true) {kx : Str} {kp : Pos} (h : RE b xc A κ fl e1 w) : RE b xc A κ fl (.Call (.Name x p) [e1] [⟨some kx, e2, kp⟩] pos) w := fun X W c => by
  obtain ⟨t1, p1, r1⟩ := h X W c
  have hm' : X.mg x = none := by rw [c.rm.2.2.2.1]; exact hm
  have cr : CallRK X (.builtin id) [kx] (fun _ _ _ _ => False) := fun _ _ _ _ _ _ _ _ _ _ _ _ z => z.elim
  exact ⟨_, pe_callBK cr (c.gl hg) hm' hv (pa_cons p1 pa_no (star_cons _ hp)) pk_no hn hdb (he := by rw [star_cons (es := []) X.env hp]; rfl) (hpl := by rw [star_cons (es := []) X.env hp]; rfl), fun Z σ H F ρ M Xq K S hw le => r1 Z σ H F ρ M Xq _ S hw le⟩
/-- x.append(..), x an own container -/
theorem r_pmO (i : Nat) {x : Str} {m : PM} {name : Str} {id : String} (R : PmRow m name id) (h : nmB κ i x = true) (hf : FewOk e1 es pos') (hl : (apos.endLine == pos'.line) = true) (hp : plainEs (e1 :: es) = true) (h3 : RA b xc A κ fl (e1 :: es) w) :
    RE b xc A κ fl (.Call (.Attribute (.Name x p) name apos) (e1 :: es) [] pos') (fun ρ M Xq => (∃ c, ρ[i]? = some (.own c) ∧ kindP m c) ∧ w ρ M Xq) := fun X W c => by
  obtain ⟨t1, p1, r1⟩ := h3 X W c
  obtain ⟨h1, h2, hd, hcd⟩ := nmB_iff h
  unfold plainEs at hp
  rw [List.all_cons, Bool.and_eq_true] at hp
  have hN : X.N = κ.ns := c.c.n
  refine ⟨_, pe_bm R.pa R.slot R.hty (R.hm X) (pe_var (X := X) (i := i) (by rw [hN]; exact h1) (c.c.vis h2) hd hcd) p1 (hfew := hf _) (hline := hl) (hs := star_cons _ hp.1) (hplain := star_any _ hp.2), fun Z σ H F ρ M Xq K S hw le => ?_⟩
  obtain ⟨⟨co, ho, hk⟩, hw⟩ := hw
  obtain ⟨q, hq, x0, _, _⟩ := S.ownAt ho
  exact ⟨_, hq, kind_ty x0 hk, r1 Z σ H F ρ M Xq _ S hw le⟩
/-! statements -/
theorem r_for {body : List Stmt} (hf : ∀ (env : PySem.Env) x, foldedSetIterable iter env x = pure x) (hi : HI b A κ tg iter Ti) (hg : HG b A κ tg Tg) (h1 : HSs b A κ body T1) (h2 : RSs b xc A κ fl body w) :
    RS b xc A κ fl (.For tg iter body [] pos) (fun ρ M Xq => wpI b.B Ti ρ M fun ds ρ M => forR (fun d ρ M E => bindP Tg d ρ fun ρ => wpS b.B T1 ρ M E) (fun d ρ M Xq => bindP Tg d ρ fun ρ => w ρ M Xq) ds ρ M Xq) := fun X W c => by
  obtain ⟨t0, p0, r0⟩ := hi X.nox c.c
  obtain ⟨t2, p2, r2⟩ := hg X.nox c.c
  obtain ⟨t1, p1, r1⟩ := h1 X.nox c.c
  obtain ⟨t3, p3, r3⟩ := h2 X W c
  have p0' : PI X tg iter t0 := ⟨fun pins s σ H R I hw => wpAny_mono (p0.run pins s σ H R (I.wish _) hw) (fun v s1 q => wpAny_mono q (fun u s2 ⟨it, fp, tn, J, H', e1, I', z⟩ => ⟨it, fp, tn, J, H', e1, I'.unwish, z⟩) fun _ _ z => False.elim z) fun _ _ z => False.elim z⟩
  have p2' : PG X tg t2 := ⟨fun pins s σ H v u Q I rv hw => wpAny_mono (p2.run pins s σ H v u Q (I.wish _) rv hw) (fun _ s2 ⟨σ', H', I', z⟩ => ⟨σ', H', I'.unwish, z⟩) fun _ _ z => False.elim z⟩
  refine ⟨_, ps_for c.po c.c.c p0' p2' (pss_or (pss_nox p1) p3) (hf _), fun Z σ H F ρ M Xq D S hw le => ?_⟩
  refine r0 Z σ H F ρ M _ _ S hw fun J H1 F1 ds ρ1 M1 S1 _ ⟨hz, G, Y, w, hG, hY⟩ q1 => ?_
  refine for_it (g := t2) (tb := fun D σ H => t1 D σ H ∨ t3 D σ H) (D := D) w (fun i σ' H' => ∃ F' ρ' M', Sim b.N Z F' ρ' M' σ' H' ∧ Le F1 F' ∧ forR (fun d ρ M E => bindP Tg d ρ fun ρ => wpS b.B T1 ρ M E) _ (ds.drop i) ρ' M' Xq) ⟨F1, ρ1, M1, S1, Le.refl _, q1⟩ ?_ ?_ ?_
  · rintro i σ' H' _ ⟨F', ρ', M', S', l', _⟩
    exact hG Z F' H' ρ' M' σ' S' l'
  · rintro i x σ2 H2 H3 hlt ⟨F2, ρ2, M2, S2, l2, q2⟩ y
    obtain ⟨F3, d, hd, S3, l3, rv⟩ := hY Z F2 H2 ρ2 M2 σ2 i x H3 S2 l2 hlt y
    have ed : ds.drop i = d :: ds.drop (i + 1) := by
      obtain ⟨h1, h2⟩ := List.getElem?_eq_some_iff.mp hd
      rw [List.drop_eq_getElem_cons h1, h2]
    rw [ed, forR_consE] at q2
    rcases q2 with q2 | q2
    · have q2 : bindP Tg d ρ2 (fun ρ => _) := q2
      refine r2 Z σ2 H3 F3 ρ2 M2 d x _ _ S3 rv q2 fun σ5 ρ5 S5 _ q5 => ?_
      exact .inr (r3 Z σ5 H3 F3 ρ5 M2 Xq _ S5 q5 le)
    · have q2 : bindP Tg d ρ2 (fun ρ => wpS b.B T1 ρ M2 _) := q2
      refine r2 Z σ2 H3 F3 ρ2 M2 d x _ _ S3 rv q2 fun σ5 ρ5 S5 _ q5 => ?_
      refine .inl (r1 _ σ5 H3 F3 ρ5 M2 _ _ S5.rebase q5 ⟨fun σ6 H6 F6 ρ6 M6 S6 q6 => ?_, fun σ6 H6 F6 ρ6 M6 S6 q6 => ?_, fun σ6 H6 F6 ρ6 M6 S6 q6 => ?_, fun σ6 H6 F6 ρ6 M6 d6 v6 S6 r6 q6 => ?_⟩)
      · exact ⟨F6, ρ6, M6, S5.unbase S6, (l2.trans l3).trans S6.le0, q6⟩
      · exact q6.elim
      · exact ⟨F6, ρ6, M6, S5.unbase S6, (l2.trans l3).trans S6.le0, q6⟩
      · exact q6.elim
  · rintro σ' H' ⟨F', ρ', M', S', _, q'⟩
    rw [List.drop_length, forR_nilE] at q'
    exact q'.elim
/-- a loop's iterable raises -/
theorem r_ifE {s1 s2 : List Stmt} (h0 : HT b A κ e1 T0) (h1 : RSs b xc A κ fl s2 w) : RS b xc A κ fl (.If e1 s1 s2 pos) (fun ρ M Xq => wpE b.B T0 ρ M fun d ρ M => ∃ k, d = .bl k ∧ k = false ∧ w ρ M Xq) := fun X W c => by
  obtain ⟨t0, p0, r0⟩ := h0 X.nox c.c
  obtain ⟨t1, p1, r1⟩ := h1 X W c
  refine ⟨_, ps_if p0.nox pss_no p1, fun Z σ H F ρ M Xq D S hw le => ?_⟩
  refine r0 Z σ H F ρ M (fun k ρ M => k = false ∧ w ρ M Xq) _ S hw fun k H1 F1 ρ1 M1 S1 l ⟨e, q⟩ => ?_
  subst e
  exact r1 Z σ H1 F1 ρ1 M1 Xq D S1 q le
/-! ### statements that may handle: for, if -/
theorem sw_for {body : List Stmt} {ws : WS} (hf : ∀ (env : PySem.Env) x, foldedSetIterable iter env x = pure x) (hi : HI b A κ tg iter Ti) (hg : HG b A κ tg Tg) (h1 : HSsw b A κ body ws) : HSw b A κ (.For tg iter body [] pos) (fun ρ M E => wpI b.B Ti ρ M fun ds ρ M => forL (fun d ρ M E => bindP Tg d ρ fun ρ => ws ρ M E) ds ρ M E) := fun X c => by
  obtain ⟨t0, p0, r0⟩ := hi X c
  obtain ⟨t2, p2, r2⟩ := hg X c
  obtain ⟨t1, p1, r1⟩ := h1 X c
  exact ⟨_, ps_for (by rw [c.xe]; exact PassesOwn.never) c.c p0 p2 p1 (hf _), sr_for r0 r2 r1⟩
theorem sw_if {s1 s2 : List Stmt} {ws1 ws2 : WS} (h0 : HT b A κ e1 T0) (h1 : HSsw b A κ s1 ws1) (h2 : HSsw b A κ s2 ws2) : HSw b A κ (.If e1 s1 s2 pos) (fun ρ M E => wpE b.B T0 ρ M fun x ρ M => ∃ k, x = .bl k ∧ iteN (Bool.toNat k) (ws1 ρ M E) (ws2 ρ M E)) := fun X c => by
  obtain ⟨t0, p0, r0⟩ := h0 X c
  obtain ⟨t1, p1, r1⟩ := h1 X c
  obtain ⟨t2, p2, r2⟩ := h2 X c
  exact ⟨_, ps_if p0 p1 p2, sr_cond r0 r1 r2⟩
theorem sw_seal {ss : List Stmt} {ws : WS} (i : Nat) (h2 : HSsw b A κ ss ws) : HSsw b A κ ss (fun ρ M E => readP ρ i M fun _ ρ M => ws ρ M E) := fun X c => by
  obtain ⟨t2, p2, r2⟩ := h2 X c
  exact ⟨_, p2, sr_seal r2⟩
theorem sw_nil : HSsw b A κ [] (fun ρ M E => E.nx ρ M) := fun X c => ⟨_, pss_nil, fun Z σ H F ρ M E D S h le => le.nx _ _ _ _ _ S h⟩
end
end DL

set_option Elab.async false
set_option linter.all false
set_option maxRecDepth 100000
set_option maxHeartbeats 2000000
/-! the head's hook with one more look -/
namespace DL
open PySem PySem.Spec PyProof.Rows L2
def empB (K : PySem.W.Frag) (a : Addr) : Bool := match K.lookup a with
  | some ⟨.type c, _, .seq its _, _⟩ => decide (c = "tuple") && decide (its.toList = [])
  | _ => false
theorem empB_ok {K : PySem.W.Frag} {a : Addr} (h : empB K a = true) (H : Hp) : SqT K H a [] := by
  unfold empB at h
  cases q : K.lookup a with
  | none =>
    rw [q] at h
    cases h
  | some o =>
    obtain ⟨oc, od, dt, osl⟩ := o
    rw [q] at h
    cases oc with
    | type c =>
      cases dt with
      | seq its n =>
        obtain ⟨h1, h2⟩ := He.ba (show (decide (c = "tuple") && decide (its.toList = [])) = true from h)
        have e := of_decide_eq_true h2
        have e2 : its.size = 0 := by rw [← Array.length_toList, e]; rfl
        exact .inr ⟨_, its, n, q, congrArg Value.type (of_decide_eq_true h1), rfl, by rw [e2]; exact Nat.zero_le _, by rw [e]; exact .nil⟩
      | _ => cases h
    | _ => cases dt <;> cases h
def obsX (fa : List He.Fa) (fn : List He.DefD) (ex : PySem.W.Frag → Bool) (K : PySem.W.Frag) : Bool × He.AlD := (ex K, He.obsD fa fn K)
def HdOk (fa : List He.Fa) (fn : List He.DefD) (ex : PySem.W.Frag → Bool) (K : PySem.W.Frag) : Prop := obsX fa fn ex K = (true, He.valD fn)
def obsXG (n : Nat) (fa : List He.Fa) (fn : List He.DefD) (ex : PySem.W.Frag → Bool) (g : Addr → Option Obj) : Bool × He.AlD := obsX fa fn ex (He.frG g (He.asD g n))
def hookX (n : Nat) (fa : List He.Fa) (fn : List He.DefD) (ex : PySem.W.Frag → Bool) : PySem.W.Hook where
  α := Bool × He.AlD
  obs := fun s => obsXG n fa fn ex s.heap.get?
  val := fun _ => (true, He.valD fn)
  says := fun _ h => ∃ K : PySem.W.Frag, K.In h ∧ HdOk fa fn ex K
  of := fun _ _ e => ⟨_, He.frG_in, e⟩
  keeps := fun _ _ _ ⟨K, hK, c⟩ k => ⟨K, PySem.W.Frag.In.keeps hK k, c⟩
theorem obsXG_eq {n : Nat} {fa : List He.Fa} {fn : List He.DefD} {ex : PySem.W.Frag → Bool} {g : Addr → Option Obj} {s : Shared} (h : ∀ a, g a = s.heap.get? a) : obsXG n fa fn ex g = (hookX n fa fn ex).obs s := by
  have e : g = s.heap.get? := funext h
  rw [e] <;> rfl
section
variable {fa : List He.Fa} {fn : List He.DefD} {ex : PySem.W.Frag → Bool} {K : PySem.W.Frag}
theorem HdOk.says (c : HdOk fa fn ex K) : He.SaysD fa fn K := congrArg (fun z : Bool × He.AlD => z.2) c
theorem HdOk.exok (c : HdOk fa fn ex K) : ex K = true := congrArg (fun z : Bool × He.AlD => z.1) c
theorem HdOk.fact (c : HdOk fa fn ex K) (i : Nat) {f : He.Fa} (h : fa[i]? = some f := by rfl) : f.ok K = true := c.says.fact i h
theorem HdOk.def_ (c : HdOk fa fn ex K) (i : Nat) {d : He.DefD} (h : fn[i]? = some d := by rfl) : ∃ fd, FunD K d.name d.qual d.params d.body d.scope (d.dvs K) (d.kws K) (He.fAd K d.at_) fd := c.says.def_ i h
end
end DL

set_option Elab.async false
set_option linter.all false
set_option maxRecDepth 100000
set_option maxHeartbeats 2000000
namespace DL
open PySem L2 PySem.W PySem.Spec PyProof.Rows
/-! ### the head's look at an own class of exceptions -/
def xobjB (K : Frag) (C : Addr) (bm : List Value) (newId : String) : Bool := match K.lookup C with
  | some ⟨.type c, _, .cls cd, sl⟩ => decide (c = "type") && (decide (cd.mro = .ref C :: bm) && (cd.hasDict && (!cd.hasDel && (match sl.toList with | [_, _, _, _, some (.builtin n), _] => decide (n = newId) | _ => false))))
  | _ => false
theorem xobjB_ok {K : Frag} {C : Addr} {bm : List Value} {newId : String} (h : xobjB K C bm newId = true) : ∃ nm q N bs sn sub ab col dd k0 k1 k2 k3 k5, K.lookup C = some (excClassObj nm q C N bs bm true sn sub ab col dd k0 k1 k2 k3 k5 newId) := by
  unfold xobjB at h
  cases hk : K.lookup C with
  | none => rw [hk] at h; cases h
  | some o =>
    rw [hk] at h
    obtain ⟨oc, dd, dt, sl⟩ := o
    cases oc with
    | type c =>
      cases dt with
      | cls cd =>
        obtain ⟨h1, g2⟩ := He.ba (show (decide (c = "type") && _) = true from h)
        obtain ⟨h2, g3⟩ := He.ba g2
        obtain ⟨h3, g4⟩ := He.ba g3
        obtain ⟨h4, h5⟩ := He.ba g4
        have e1 := of_decide_eq_true h1
        have e2 := of_decide_eq_true h2
        clear h h1 h2 g2 g3 g4
        obtain ⟨nm, bs, mro, ns, qn, hd, sn, sub, ab, col, del⟩ := cd
        dsimp only at e2 h3 h4
        subst e1 e2 h3
        have e4 : del = false := by cases del with | false => rfl | true => cases h4
        subst e4
        obtain ⟨l⟩ := sl
        dsimp only at h5
        split at h5
        · rename_i k0 k1 k2 k3 n k5
          have e5 := of_decide_eq_true h5
          subst e5
          exact ⟨nm, qn, ns, bs, sn, sub, ab, col, dd, _, _, _, _, _, rfl⟩
        · cases h5
      | _ => cases h
    | _ => cases dt <;> cases h
def clsInitB (K : Frag) (B initId : String) : Bool := match findCls K (.type B) (.type "type") "__init__" with
  | some (.val (.builtin n)) => decide (n = initId)
  | _ => false
theorem clsInitB_ok {K : Frag} {B initId : String} (h : clsInitB K B initId = true) : findCls K (.type B) (.type "type") "__init__" = some (.val (.builtin initId)) := by
  unfold clsInitB at h
  split at h
  · rename_i n e; rw [e, of_decide_eq_true h]
  · cases h
/-- all that is asked of such a class, by its name -/
def xclsB (K : Frag) (x : Str) (B newId initId : String) (bm : List Value) (f : Str) : Bool :=
  xobjB K (He.ga K x) bm newId && (He.eqO (findIn K (.ref (He.ga K x)) "__setattr__") (some (some (.builtin "object.__setattr__"))) && (decide (subIn K (.ref (He.ga K x)) (.type "BaseException") = some true) && (decide (typeIn K (.ref (He.ga K x)) = some (.type "type")) && (keepIn K (.ref (He.ga K x)) &&
    (He.eqO (findIn K (.ref (He.ga K x)) "__init__") (some (some (.ref (He.ma K (He.ga K x) "__init__")))) && (decide (typeIn K (.ref (He.ma K (He.ga K x) "__init__")) = some (.type "function")) && (He.eqO (findIn K (.ref (He.ga K x)) "__getattribute__") (some (some (.builtin "BaseException.__getattribute__"))) &&
      ((findIn K (.ref (He.ga K x)) "__getattr__").isSome && (hasDictIn K (He.ga K x) && (He.eqO (findIn K (.ref (He.ga K x)) f) (some none) && (decide (exmOne K (.ref (He.ga K x)) (.ref (He.ga K x)) = some true) && clsInitB K B initId)))))))))))
structure XFct (K : Frag) (C fI : Addr) (B newId initId Bn inN : String) (bmN bm : List Value) (f : Str) : Prop where
  T : PySem.XOwn.XC K C B newId initId Bn inN bmN bm
  R : XRd K C f
  iC : findIn K (.ref C) "__init__" = some (some (.ref fI))
  tI : typeIn K (.ref fI) = some (.type "function")
  vV : findCls K (.type B) (.type "type") "__init__" = some (.val (.builtin initId))
theorem xclsB_ok {K : Frag} {x : Str} {B newId initId Bn inN : String} {bmN bm : List Value} {f : Str} (F : PySem.XOwn.XB B newId initId Bn inN bmN bm) (h : xclsB K x B newId initId bm f = true) : XFct K (He.ga K x) (He.ma K (He.ga K x) "__init__") B newId initId Bn inN bmN bm f := by
  obtain ⟨h1, h⟩ := He.ba h
  obtain ⟨h2, h⟩ := He.ba h
  obtain ⟨h3, h⟩ := He.ba h
  obtain ⟨h4, h⟩ := He.ba h
  obtain ⟨h5, h⟩ := He.ba h
  obtain ⟨h6, h⟩ := He.ba h
  obtain ⟨h7, h⟩ := He.ba h
  obtain ⟨h8, h⟩ := He.ba h
  obtain ⟨h9, h⟩ := He.ba h
  obtain ⟨h10, h⟩ := He.ba h
  obtain ⟨h11, h⟩ := He.ba h
  obtain ⟨h12, h13⟩ := He.ba h
  exact ⟨⟨F, xobjB_ok h1, He.eqO_ok h2, of_decide_eq_true h3, of_decide_eq_true h4, h5⟩, ⟨He.eqO_ok h8, Option.isSome_iff_exists.mp h9, of_decide_eq_true h3, h10, He.eqO_ok h11, of_decide_eq_true h12⟩, He.eqO_ok h6, of_decide_eq_true h7, clsInitB_ok h13⟩
end DL

set_option Elab.async false
set_option linter.all false
set_option maxRecDepth 100000
/-! plain Lean: how a weakest precondition is gone through -/
namespace DL
open PySem L2
theorem ne_t {b : Bool} (h : b = false) : ¬ b = true := by rw [h]; exact Bool.false_ne_true
theorem ne_d {p : Prop} [Decidable p] (h : ¬ p) : ¬ decide p = true := by rw [decide_eq_false h]; exact Bool.false_ne_true
theorem it_ {c : Bool} {A B : Prop} (h : c = true) (q : A) : iteN (Bool.toNat c) (A) (B) := by rw [h]; exact q
theorem if_ {c : Bool} {A B : Prop} (h : c = false) (q : B) : iteN (Bool.toNat c) (A) (B) := by rw [h]; exact q
theorem ic_ {c : Bool} {A B : Prop} (h1 : c = true → A) (h2 : c = false → B) : iteN (Bool.toNat c) (A) (B) := by
  cases c with
  | true => exact h1 rfl
  | false => exact h2 rfl
theorem ibT {c : Bool} {A B : Prop} (h : c = true) : iteN (Bool.toNat c) A B = A := by rw [h]; rfl
theorem ibF {c : Bool} {A B : Prop} (h : ¬ c = true) : iteN (Bool.toNat c) A B = B := by
  cases c with
  | true => exact absurd rfl h
  | false => rfl
theorem updM_same {M : Mem} {a : Addr} {o : MO} : updM M a o a = some o := by unfold updM; rw [if_pos rfl]
theorem updM_ne {M : Mem} {a b : Addr} {o : MO} (h : b ≠ a) : updM M a o b = M b := by unfold updM; rw [if_neg h]
/-- for: by an invariant -/
theorem forL_invA {bd : D → WS} {E : En} (I : Nat → Env → Mem → Prop) : ∀ {ds : List D} {n : Nat} {ρ : Env} {M : Mem}, I n ρ M → (∀ j d ρ M (K : En), ds[j]? = some d → I (n + j) ρ M → (∀ ρ M, I (n + j + 1) ρ M → K.nx ρ M) → (∀ ρ M, I (n + j + 1) ρ M → K.ct ρ M) → K.bk = E.nx → K.rt = E.rt → bd d ρ M K) → (∀ ρ M, I (n + ds.length) ρ M → E.nx ρ M) → forL bd ds ρ M E
  | [], n, ρ, M, i, _, done => by rw [forL_nilE]; exact done ρ M i
  | d :: ds, n, ρ, M, i, step, done => by
    have rc : ∀ ρ M, I (n + 1) ρ M → forL bd ds ρ M E := fun ρ M q => forL_invA I (n := n + 1) q (fun j d' ρ M K h q k1 k2 k3 k4 => by
      have e : n + 1 + j = n + (j + 1) := by omega
      rw [e] at q k1 k2
      exact step (j + 1) d' ρ M K (by simpa using h) q k1 k2 k3 k4) fun ρ M q => done ρ M (by
        have e : n + 1 + ds.length = n + (d :: ds).length := by rw [List.length_cons]; omega
        rwa [e] at q)
    rw [forL_consE]; exact step 0 d ρ M _ rfl i rc rc rfl rfl
theorem forL_inv {bd : D → WS} {E : En} {ds : List D} {ρ : Env} {M : Mem} (I : Nat → Env → Mem → Prop) (h0 : I 0 ρ M) (step : ∀ j d ρ M (K : En), ds[j]? = some d → I j ρ M → (∀ ρ M, I (j + 1) ρ M → K.nx ρ M) → (∀ ρ M, I (j + 1) ρ M → K.ct ρ M) → K.bk = E.nx → K.rt = E.rt → bd d ρ M K) (done : ∀ ρ M, I ds.length ρ M → E.nx ρ M) : forL bd ds ρ M E :=
  forL_invA I (n := 0) h0 (fun j d ρ M K h q k1 k2 k3 k4 => by rw [Nat.zero_add] at q k1 k2; exact step j d ρ M K h q k1 k2 k3 k4) fun ρ M q => done ρ M (by rwa [Nat.zero_add] at q)
/-- a comprehension: by an invariant -/
theorem compL_invA {bd : D → Mem → (Option D → Mem → Prop) → Prop} {Q : List D → Mem → Prop} (I : Nat → List D → Mem → Prop) : ∀ {ds acc : List D} {n : Nat} {M : Mem}, I n acc M → (∀ j d acc M (K : Option D → Mem → Prop), ds[j]? = some d → I (n + j) acc M → (∀ x M', I (n + j + 1) (acc ++ [x]) M' → K (some x) M') → (∀ M', I (n + j + 1) acc M' → K none M') → bd d M K) → (∀ acc M, I (n + ds.length) acc M → Q acc M) → compL bd ds acc M Q
  | [], acc, n, M, i, _, done => by rw [compL_nilE]; exact done acc M i
  | d :: ds, acc, n, M, i, step, done => by
    have rc : ∀ acc M, I (n + 1) acc M → compL bd ds acc M Q := fun acc M q => compL_invA I (n := n + 1) q (fun j d' acc M K h q k1 k2 => by
      have e : n + 1 + j = n + (j + 1) := by omega
      rw [e] at q k1 k2
      exact step (j + 1) d' acc M K (by simpa using h) q k1 k2) fun acc M q => done acc M (by
        have e : n + 1 + ds.length = n + (d :: ds).length := by rw [List.length_cons]; omega
        rwa [e] at q)
    rw [compL_consE]; exact step 0 d acc M _ rfl i (fun x M' q => rc _ _ q) fun M' q => rc _ _ q
theorem compL_inv {bd : D → Mem → (Option D → Mem → Prop) → Prop} {Q : List D → Mem → Prop} {ds : List D} {M : Mem} (I : Nat → List D → Mem → Prop) (h0 : I 0 [] M) (step : ∀ j d acc M (K : Option D → Mem → Prop), ds[j]? = some d → I j acc M → (∀ x M', I (j + 1) (acc ++ [x]) M' → K (some x) M') → (∀ M', I (j + 1) acc M' → K none M') → bd d M K) (done : ∀ acc M, I ds.length acc M → Q acc M) : compL bd ds [] M Q :=
  compL_invA I (n := 0) h0 (fun j d acc M K h q k1 k2 => by rw [Nat.zero_add] at q k1 k2; exact step j d acc M K h q k1 k2) fun acc M q => done acc M (by rwa [Nat.zero_add] at q)
/-- .. that changes nothing: what comes out -/
theorem compL_pure {bd : D → Mem → (Option D → Mem → Prop) → Prop} {Q : List D → Mem → Prop} {M : Mem} (f : D → Option D) : ∀ {ds acc : List D}, (∀ d ∈ ds, ∀ K : Option D → Mem → Prop, K (f d) M → bd d M K) → Q (acc ++ ds.filterMap f) M → compL bd ds acc M Q
  | [], acc, _, q => by
    have q : Q (acc ++ []) M := q
    rw [List.append_nil] at q
    rw [compL_nilE]; exact q
  | d :: ds, acc, h, q => by
    rw [compL_consE]
    refine h d (List.mem_cons_self ..) _ (compL_pure f (fun d' m => h d' (List.mem_cons_of_mem _ m)) ?_)
    rw [List.filterMap_cons] at q
    cases e : f d with
    | none => rw [e] at q; exact q
    | some x => rw [e] at q; simpa using q
theorem compL_map {bd : D → Mem → (Option D → Mem → Prop) → Prop} {Q : List D → Mem → Prop} {M : Mem} {ds : List D} (f : D → D) (h : ∀ d ∈ ds, ∀ K : Option D → Mem → Prop, K (some (f d)) M → bd d M K) (q : Q (ds.map f) M) : compL bd ds [] M Q := by
  refine compL_pure (fun d => some (f d)) h ?_
  rw [List.nil_append]
  have e : ds.filterMap (fun d => some (f d)) = ds.map f := by induction ds <;> simp_all
  rw [e]; exact q
/-- while: by a measure -/
theorem while_inv {c : WE} {bd : WS} {E : En} (I : Nat → Env → Mem → Prop) (step : ∀ m ρ M (K : En), I m ρ M → (∀ m' ρ M, m' < m → I m' ρ M → K.nx ρ M) → (∀ m' ρ M, m' < m → I m' ρ M → K.ct ρ M) → K.bk = E.nx → K.rt = E.rt →
    c ρ M fun d ρ1 M1 => ∃ b, d = .bl b ∧ iteN (Bool.toNat b) (bd ρ1 M1 K) (E.nx ρ1 M1)) : ∀ {m : Nat} {ρ : Env} {M : Mem}, I m ρ M → ∃ n, whileN c bd n ρ M E := by
  have all : ∀ (n m : Nat) (ρ : Env) (M : Mem), m < n → I m ρ M → whileN c bd n ρ M E := by
    intro n
    induction n with
    | zero => intro m ρ M h; omega
    | succ n ih => intro m ρ M h i; rw [whileN_succE]; exact step m ρ M _ i (fun m' ρ M h' i' => ih m' ρ M (by omega) i') (fun m' ρ M h' i' => ih m' ρ M (by omega) i') rfl rfl
  exact fun {m ρ M} i => ⟨m + 1, all (m + 1) m ρ M (Nat.lt_succ_self m) i⟩
end DL
namespace DL
open PySem L2
theorem isi1 {d : D} {n x : String} {b : Bool} (h : tyN d = some n) (h2 : kitB n x = some b) : isiP d [.b x] = some b := by
  have e : isiB d (.b x) = kitB n x := by
    cases d <;> first | (cases h; rfl) | cases h
  unfold isiP
  rw [e, h2]
  cases b <;> rfl
theorem isi2 {d : D} {n x y : String} (h : tyN d = some n) (h2 : kitB n x = some true) : isiP d [.b x, .b y] = some true := by
  have e : isiB d (.b x) = kitB n x := by
    cases d <;> first | (cases h; rfl) | cases h
  unfold isiP
  rw [e, h2]
theorem k_ii : kitB "int" "int" = some true := by decide +kernel
theorem k_ib : kitB "int" "bool" = some false := by decide +kernel
theorem k_ss : kitB "str" "str" = some true := by decide +kernel
theorem k_tt : kitB "tuple" "tuple" = some true := by decide +kernel
theorem k_bb : kitB "bool" "bool" = some true := by decide +kernel
/-- len ≤ sizeLine, small -/
theorem szL {n : Nat} (h : n ≤ 1000) : n ≤ sizeLine := by rw [sizeLine_eq]; omega
end DL
namespace DL
theorem forL_cons {bd : D → WS} {d : D} {ds : List D} {ρ : Env} {M : Mem} {E : En} (h : bd d ρ M { nx := fun ρ M => forL bd ds ρ M E, ct := fun ρ M => forL bd ds ρ M E, bk := E.nx, rt := E.rt }) : forL bd (d :: ds) ρ M E := by rw [forL_consE]; exact h
theorem forL_nil {bd : D → WS} {ρ : Env} {M : Mem} {E : En} (h : E.nx ρ M) : forL bd [] ρ M E := by rw [forL_nilE]; exact h
end DL

set_option Elab.async false
set_option linter.all false
set_option maxRecDepth 100000
set_option maxHeartbeats 0
namespace LawW
open PySem L2 PySem.W DL
def top (i : Nat) : Stmt := PySem.Challenge.pw_promptworks_k05_right_sides.main.body.getD i (.Pass ⟨0, 0, 0, 0⟩)
abbrev s__law_pen : Stmt := top 27
abbrev s__law_draw : Stmt := top 28
abbrev s__law_names : Stmt := top 29
abbrev s__law_sections : Stmt := top 30
abbrev s__law_one : Stmt := top 31
abbrev s__law_raws : Stmt := top 32
abbrev s_Plan___init__ : Stmt := inClass (top 12) 0
abbrev s_is_name : Stmt := top 16
abbrev s_is_whole : Stmt := top 17
abbrev s_lies_within : Stmt := top 20
abbrev s_go_together : Stmt := top 21
abbrev s_is_section : Stmt := top 19
abbrev s_are_sections : Stmt := top 22
abbrev s_bad_part : Stmt := top 24
abbrev s_written_place : Stmt := top 23
abbrev s_Task___init__ : Stmt := inClass (top 25) 0
abbrev s__law_task : Stmt := top 33
abbrev s__law_made : Stmt := top 34
abbrev s_Plan_task : Stmt := inClass (top 12) 3
abbrev s_Plan_above : Stmt := inClass (top 12) 6
abbrev s_Plan_holding : Stmt := inClass (top 12) 7
abbrev s_Plan_held_back : Stmt := inClass (top 12) 8
abbrev s_times_up : Stmt := top 2
abbrev s_right_side : Stmt := top 3
abbrev s__law_raw : Stmt := top 36
abbrev s__law_ceiling : Stmt := top 35
abbrev s__law_back : Stmt := top 37
abbrev s__law_side : Stmt := top 38
abbrev s_least_ticks : Stmt := top 4
abbrev s_bound : Stmt := top 5
abbrev s__law_strange : Stmt := top 39
abbrev s_law : Stmt := top 40
/-- classes: 0 Plan, 1 Task; attributes: 0 by_name, 1 name, 2 rank, 3 by_rank, 4 ceilings, 5 sections, 6 gap, 7 most, 8 due, 9 wait -/
def attrN : Nat → String
  | 0 => "by_name"
  | 1 => "name"
  | 2 => "rank"
  | 3 => "by_rank"
  | 4 => "ceilings"
  | 5 => "sections"
  | 6 => "gap"
  | 7 => "most"
  | 8 => "due"
  | 9 => "wait"
  | _ => ""
def cnameN : Nat → String
  | 0 => "Plan"
  | 1 => "Task"
  | _ => ""
def cfsN : Nat → List Nat
  | 0 => [0, 3, 4]
  | 1 => [1, 2, 6, 7, 8, 9, 5]
  | _ => []
def entN : Nat → Ent
  | 0 => ⟨"_law_draw", 2, [], 0⟩
  | 1 => ⟨"_law_sections", 3, [], 0⟩
  | 2 => ⟨"_law_names", 2, [], 0⟩
  | 3 => ⟨"_law_one", 5, [], 0⟩
  | 4 => ⟨"lies_within", 2, [], 0⟩
  | 5 => ⟨"is_whole", 1, [], 0⟩
  | 6 => ⟨"is_whole", 1, ["least"], 0⟩
  | 7 => ⟨"is_name", 1, [], 0⟩
  | 8 => ⟨"is_section", 2, [], 0⟩
  | 9 => ⟨"go_together", 2, [], 0⟩
  | 10 => ⟨"are_sections", 2, [], 0⟩
  | 11 => ⟨"bad_part", 7, [], 0⟩
  | 12 => ⟨"written_place", 1, [], 0⟩
  | 13 => ⟨"Task", 1, ["rank", "gap", "most", "due", "wait", "sections"], 0⟩
  | 14 => ⟨"Plan", 1, [], 0⟩
  | 15 => ⟨"_law_task", 1, [], 0⟩
  | 16 => ⟨"task", 1, [], 0⟩
  | 17 => ⟨"holding", 1, [], 0⟩
  | 18 => ⟨"held_back", 1, [], 0⟩
  | 19 => ⟨"above", 1, [], 0⟩
  | 20 => ⟨"times_up", 2, [], 0⟩
  | 21 => ⟨"_law_raw", 2, [], 0⟩
  | 22 => ⟨"_law_ceiling", 2, [], 0⟩
  | 23 => ⟨"_law_back", 2, [], 0⟩
  | 24 => ⟨"right_side", 3, [], 0⟩
  | 25 => ⟨"least_ticks", 2, [], 0⟩
  | 26 => ⟨"_law_pen", 1, [], 0⟩
  | 27 => ⟨"_law_raws", 3, [], 0⟩
  | 28 => ⟨"_law_made", 1, [], 0⟩
  | 29 => ⟨"_law_side", 3, [], 0⟩
  | 30 => ⟨"_law_strange", 2, [], 0⟩
  | 31 => ⟨"right_side", 1, ["ticks", "name"], 0⟩
  | _ => ⟨"", 0, [], 0⟩
def globN : Nat → String × DL.D
  | 0 => ("LONGEST_NAME", .int 12)
  | 1 => ("LETTERS", .str "abcdefghijklmnopqrstuvwxyz")
  | _ => ("", .non)
/-! ### what the data are -/
structure Sec where
  s : Int
  l : Int
  k : Str
structure Raw where
  nm : Str
  rk : Int
  gap : Int
  mst : Int
  due : Int
  wt : Int
  secs : List Sec
def dSec (x : Sec) : DL.D := .tup [.int x.s, .int x.l, .str x.k]
def fldsR (r : Raw) : List DL.D := [.str r.nm, .int r.rk, .int r.gap, .int r.mst, .int r.due, .int r.wt, .tup (r.secs.map dSec)]
def dRaw (r : Raw) : DL.D := .tup (fldsR r)
def dTask (r : Raw) : DL.D := .obj 1 (fldsR r)
def LetOk (c : Nat) : Prop := 97 ≤ c ∧ c ≤ 122
def NmS (s : Str) : Prop := 1 ≤ s.cps.toList.length ∧ s.cps.toList.length ≤ 12 ∧ ∀ c ∈ s.cps.toList, LetOk c
structure SecOk (mst : Int) (x : Sec) : Prop where
  s0 : 0 ≤ x.s
  l1 : 1 ≤ x.l
  nm : NmS x.k
  fit : x.s + x.l < mst
def within (a b : Sec) : Prop := b.s ≤ a.s ∧ a.s + a.l ≤ b.s + b.l
instance (a b : Sec) : Decidable (within a b) := by unfold within; infer_instance
def Together (a b : Sec) : Prop := a.s + a.l ≤ b.s ∨ b.s + b.l ≤ a.s ∨ (a.k ≠ b.k ∧ (within a b ∨ within b a))
def LIM : Int := 1125899906842624
/-- so far below 2 ^ 200 -/
def Sml (x : Int) : Prop := -1267650600228229401496703205376 < x ∧ x < 1267650600228229401496703205376
structure RawOk (r : Raw) : Prop where
  nm : NmS r.nm
  rk1 : 1 ≤ r.rk
  rkL : r.rk < LIM
  gap1 : 1 ≤ r.gap
  gapL : r.gap < LIM
  mst1 : 1 ≤ r.mst
  mstL : r.mst < LIM
  due1 : 1 ≤ r.due
  dueG : r.due ≤ r.gap
  wt0 : 0 ≤ r.wt
  wtL : r.wt < LIM
  secs : ∀ x ∈ r.secs, SecOk r.mst x
  tog : r.secs.Pairwise Together
  few : r.secs.length ≤ 8
/-- the task's sections are sorted -/
def TaskOf (r r' : Raw) : Prop := ∃ ss, ss.Perm r.secs ∧ r' = { r with secs := ss }
/-! ### the sums -/
def minL : List Int → Int
  | [] => 0
  | a :: l => l.foldl min a
def ceil (ts : List Raw) (k : Str) : Int := minL ((ts.filter fun t => t.secs.any fun s => decide (s.k = k)).map (·.rk))
def backs (ts : List Raw) (rk : Int) : List Int := (ts.filter fun t => decide (rk < t.rk)).flatMap fun t => (t.secs.filter fun s => decide (ceil ts s.k ≤ rk)).map fun s => s.l - 1
def back (ts : List Raw) (rk : Int) : Int := (backs ts rk).foldl max 0
def upN (t : Raw) (x : Int) : Int := t.mst * ((x + t.wt + t.gap - 1) / t.gap)
def side (ts : List Raw) (r : Raw) (x : Int) : Int := back ts r.rk + r.mst + ((ts.filter fun t => decide (t.rk < r.rk)).map fun t => upN t x).sum
def LFix (f : Int → Int) (k : Int) : Prop := 0 ≤ k ∧ f k = k ∧ ∀ j, 0 ≤ j → f j = j → k ≤ j
/-! ### memory -/
def Keeps (M M' : Mem) : Prop := ∀ b mo, M b = some mo → M' b = some mo
/-- the pen: so many numbers are drawn -/
def PenM (c : Int) (M : Mem) (a : Addr) : Prop := ∃ (cs : List Int) (i l : Int), M a = some (.co (.K [.inr "cells", .inr "at", .inr "left"] [.lst (cs.map .int), .int i, .int l])) ∧ 0 ≤ i ∧ i ≤ c ∧ 0 ≤ l
def But (a : Addr) (M M' : Mem) : Prop := ∀ b, b ≠ a → M' b = M b
/-- what the ceilings' dict holds -/
structure CeilD (ps : List Raw) (ks : List Key) (ds : List DL.D) : Prop where
  at_ : ∀ k : Str, (∃ t ∈ ps, ∃ s ∈ t.secs, s.k = k) → dget ks ds (.inr k) = some (.int (ceil ps k))
  str : ∃ ls : List Str, ks = ls.map .inr ∧ ls.Nodup ∧ ls.length = ds.length ∧ ∀ k, k ∈ ls ↔ ∃ t ∈ ps, ∃ s ∈ t.secs, s.k = k
structure PlanP (ts ps : List Raw) (ks : List Key) (ds : List DL.D) : Prop where
  ce : CeilD ps ks ds
  perm : ps.Perm ts
  sorted : ps.Pairwise fun a b => a.rk < b.rk
  nms : (ts.map (·.nm)).Nodup
  few : ts.length < 64
  ok : ∀ t ∈ ts, RawOk t
/-- a plan: nothing of it changes behind __init__ -/
def PlanD (ts ps : List Raw) (ks : List Key) (ds : List DL.D) : DL.D := .obj 0 [.dct (ts.map fun t => .inr t.nm) (ts.map dTask), .tup (ps.map dTask), .dct ks ds]
def PlanAt (pl : DL.D) (ts : List Raw) : Prop := ∃ ps ks ds, pl = PlanD ts ps ks ds ∧ PlanP ts ps ks ds
/-! ### promises -/
def spIsName : DSp := fun ds M Q => ∃ s, ds = [.str s] ∧ NmS s ∧ Q (.bl true) M
def spIsWhole : DSp := fun ds M Q => ∃ i l : Int, ds = [.int i, .int l] ∧ Q (.bl (decide (l ≤ i))) M
def spWithin : DSp := fun ds M Q => ∃ a b, ds = [dSec a, dSec b] ∧ Q (.bl (decide (within a b))) M
def spGo : DSp := fun ds M Q => ∃ a b, ds = [dSec a, dSec b] ∧ NmS a.k ∧ NmS b.k ∧ Together a b ∧ Q (.bl true) M
def spIsSection : DSp := fun ds M Q => ∃ a m, ds = [dSec a, .int m] ∧ SecOk m a ∧ Q (.bl true) M
def spAreSections : DSp := fun ds M Q => ∃ (xs : List Sec) (m : Int), ds = [.tup (xs.map dSec), .int m] ∧ (∀ x ∈ xs, SecOk m x) ∧ xs.Pairwise Together ∧ xs.length ≤ 8 ∧ Q (.bl true) M
def spBadPart : DSp := fun ds M Q => ∃ r, ds = fldsR r ∧ RawOk r ∧ Q .non M
def wrt (a : Sec) : DL.D := .tup [.int a.s, .int (-a.l), .str a.k]
def spWritten : DSp := fun ds M Q => ∃ a, ds = [dSec a] ∧ Q (wrt a) M
def spTaskInit : DSp := fun ds M Q => ∃ a r, ds = .loc a :: fldsR r ∧ M a = some (.obj 1 []) ∧ RawOk r ∧ ∀ r', TaskOf r r' → Q .non (updM M a (.obj 1 (fldsR r')))
def spTask : DSp := fun ds M Q => ∃ r, ds = fldsR r ∧ RawOk r ∧ ∀ r', TaskOf r r' → Q (dTask r') M
def spPlanInit : DSp := fun ds M Q => ∃ (a : Addr) (ts : List Raw) (d : DL.D), ds = [.loc a, d] ∧ itemsOf d = some (ts.map dTask) ∧ strSz d ∧ M a = some (.obj 0 []) ∧ (ts.map (·.nm)).Nodup ∧ (ts.map (·.rk)).Nodup ∧ ts.length < 64 ∧ (∀ t ∈ ts, RawOk t) ∧
  ∀ (d1 d2 : Addr) (ps : List Raw) (ks : List Key) (es : List DL.D) (M' : Mem), M' a = some (.obj 0 [.loc d1, .tup (ps.map dTask), .loc d2]) → M' d1 = some (.co (.K (ts.map fun t => .inr t.nm) (ts.map dTask))) → M' d2 = some (.co (.K ks es)) → (∀ b, b ≠ a → b ≠ d1 → b ≠ d2 → M' b = M b) → d1 ≠ a → d2 ≠ a → M d1 = none → M d2 = none → PlanP ts ps ks es → Q .non M'
def spPlan : DSp := fun ds M Q => ∃ (ts : List Raw) (d : DL.D), ds = [d] ∧ itemsOf d = some (ts.map dTask) ∧ strSz d ∧ (ts.map (·.nm)).Nodup ∧ (ts.map (·.rk)).Nodup ∧ ts.length < 64 ∧ (∀ t ∈ ts, RawOk t) ∧ ∀ pl, PlanAt pl ts → Q pl M
def spPlanTask : DSp := fun ds M Q => ∃ (pl : DL.D) (ts : List Raw) (r : Raw), ds = [pl, .str r.nm] ∧ PlanAt pl ts ∧ r ∈ ts ∧ Q (dTask r) M
def spAbove : DSp := fun ds M Q => ∃ (pl : DL.D) (ts : List Raw) (r : Raw), ds = [pl, .str r.nm] ∧ PlanAt pl ts ∧ r ∈ ts ∧ ∀ (xs : List Raw), xs.Perm (ts.filter fun t => decide (t.rk < r.rk)) → (xs.Pairwise fun a b => a.rk < b.rk) → Q (.lst (xs.map dTask)) M
def spHolding : DSp := fun ds M Q => ∃ (pl : DL.D) (ts : List Raw) (r : Raw), ds = [pl, .str r.nm] ∧ PlanAt pl ts ∧ r ∈ ts ∧ ∀ (xs : List (Raw × Sec)), (xs.map fun p => p.2.l - 1).Perm (backs ts r.rk) → Q (.lst (xs.map fun p => .tup [dTask p.1, dSec p.2])) M
def spHeldBack : DSp := fun ds M Q => ∃ (pl : DL.D) (ts : List Raw) (r : Raw), ds = [pl, .str r.nm] ∧ PlanAt pl ts ∧ r ∈ ts ∧ Q (.int (back ts r.rk)) M
def spTimesUp : DSp := fun ds M Q => ∃ n g : Int, ds = [.int n, .int g] ∧ 0 < g ∧ g < LIM ∧ -(3 * 1267650600228229401496703205376) < n ∧ n < 3 * 1267650600228229401496703205376 ∧ Q (.int ((n + g - 1) / g)) M
def spRightSide : DSp := fun ds M Q => ∃ (pl : DL.D) (ts : List Raw) (r : Raw) (x : Int), ds = [pl, .str r.nm, .int x] ∧ PlanAt pl ts ∧ r ∈ ts ∧ Sml x ∧ Q (.int (side ts r x)) M
/-- Q of the least number that is its own right side within the due; else of none -/
def LeastQ (ts : List Raw) (r : Raw) (f : Int → Int) (Q : DL.D → Prop) : Prop := (∀ k, LFix (side ts r) k → k ≤ r.due - r.wt → Q (.int (f k))) ∧ ((∀ k, 0 ≤ k → side ts r k = k → r.due - r.wt < k) → Q .non)
def spLeast : DSp := fun ds M Q => ∃ (pl : DL.D) (ts : List Raw) (r : Raw), ds = [pl, .str r.nm] ∧ PlanAt pl ts ∧ r ∈ ts ∧ LeastQ ts r (fun k => k) fun d => Q d M
def spBound : DSp := fun ds M Q => ∃ (pl : DL.D) (ts : List Raw) (r : Raw), ds = [pl, .str r.nm] ∧ PlanAt pl ts ∧ r ∈ ts ∧ LeastQ ts r (fun k => r.wt + k) fun d => Q d M
def spTasks : DSp := fun ds M Q => ∃ (pl : DL.D) (ts : List Raw), ds = [pl] ∧ PlanAt pl ts ∧ ∀ (xs : List Raw), xs.Perm ts → (xs.Pairwise fun a b => a.rk < b.rk) → Q (.lst (xs.map dTask)) M
def HasB (ts : List Raw) (r : Raw) : Prop := ∃ k, LFix (side ts r) k ∧ k ≤ r.due - r.wt
def spIsKept : DSp := fun ds M Q => ∃ (pl : DL.D) (ts : List Raw), ds = [pl] ∧ PlanAt pl ts ∧ ∀ b : Bool, (b = true ↔ ∀ r ∈ ts, HasB ts r) → Q (.bl b) M
/-! the law's own -/
def spPen : DSp := fun ds M Q => ∃ ns : List Int, ds = [.scr ns] ∧ ∀ a M', M a = none → But a M M' → PenM 0 M' a → Q (.loc a) M'
def spDraw : DSp := fun ds M Q => ∃ (a : Addr) (n c : Int), ds = [.loc a, .int n] ∧ 0 < n ∧ n < 1073741824 ∧ PenM c M a ∧ c < 1000000000 ∧ ∀ r M', 0 ≤ r → r < n → But a M M' → PenM (c + 1) M' a → Q (.int r) M'
def spNames : DSp := fun ds M Q => ∃ (a : Addr) (n c : Int), ds = [.loc a, .int n] ∧ 0 ≤ n ∧ n ≤ 26 ∧ PenM c M a ∧ c < 900000000 ∧ ∀ (xs : List Str) M', xs.length = n.toNat → xs.Nodup → (∀ x ∈ xs, NmS x) → But a M M' → PenM (c + 100) M' a → Q (.lst (xs.map .str)) M'
def spSections : DSp := fun ds M Q => ∃ (a : Addr) (full : Int) (ls : List Str) (c : Int), ds = [.loc a, .int full, .lst (ls.map .str)] ∧ 1 ≤ full ∧ full < 1000000 ∧ 3 ≤ ls.length ∧ ls.Nodup ∧ (∀ x ∈ ls, NmS x) ∧ PenM c M a ∧ c < 900000000 ∧
  ∀ (xs : List Sec) M', (∀ x ∈ xs, SecOk full x) → xs.Pairwise Together → xs.length ≤ 8 → But a M M' → PenM (c + 100) M' a → Q (.tup (xs.map dSec)) M'
def RawS (r : Raw) : Prop := r.mst < 100000 ∧ r.wt < 100000 ∧ r.gap < 100000
def spOne : DSp := fun ds M Q => ∃ (a : Addr) (nm : Str) (rk : Int) (ls : List Str) (wide c : Int), ds = [.loc a, .str nm, .int rk, .lst (ls.map .str), .int wide] ∧ 1 ≤ wide ∧ wide < 1000 ∧ 3 ≤ ls.length ∧ ls.Nodup ∧ (∀ x ∈ ls, NmS x) ∧ NmS nm ∧ 1 ≤ rk ∧ rk < LIM ∧ PenM c M a ∧ c < 800000000 ∧
  ∀ r M', r.nm = nm → r.rk = rk → RawOk r → RawS r → But a M M' → PenM (c + 1000) M' a → Q (dRaw r) M'
structure RawsOk (rs : List Raw) : Prop where
  nms : (rs.map (·.nm)).Nodup
  rks : (rs.map (·.rk)).Nodup
  ok : ∀ r ∈ rs, RawOk r
  few : rs.length < 64
def RawsB (rs : List Raw) (many : Int) : Prop := (∀ r ∈ rs, r.rk < 400 ∧ RawS r) ∧ 1 ≤ rs.length ∧ (rs.length : Int) ≤ many
def spRaws : DSp := fun ds M Q => ∃ (a : Addr) (many wide c : Int), ds = [.loc a, .int many, .int wide] ∧ 1 ≤ many ∧ many ≤ 20 ∧ 1 ≤ wide ∧ wide < 1000 ∧ PenM c M a ∧ c < 700000000 ∧ ∀ (rs : List Raw) (M' : Mem), RawsOk rs → RawsB rs many → But a M M' → PenM (c + 100000) M' a → Q (.lst (rs.map dRaw)) M'
def spLawTask : DSp := fun ds M Q => ∃ r, ds = [dRaw r] ∧ RawOk r ∧ ∀ r', TaskOf r r' → Q (dTask r') M
inductive TasksOf : List Raw → List Raw → Prop
  | nil : TasksOf [] []
  | cons {r t : Raw} {rs ts : List Raw} : TaskOf r t → TasksOf rs ts → TasksOf (r :: rs) (t :: ts)
def spMade : DSp := fun ds M Q => ∃ (rs : List Raw), ds = [.lst (rs.map dRaw)] ∧ RawsOk rs ∧ ∀ (ts : List Raw) (pl : DL.D), TasksOf rs ts → PlanAt pl ts → Q pl M
def spLawRaw : DSp := fun ds M Q => ∃ (rs : List Raw) (r : Raw), ds = [.lst (rs.map dRaw), .str r.nm] ∧ RawsOk rs ∧ r ∈ rs ∧ Q (dRaw r) M
def spLawCeiling : DSp := fun ds M Q => ∃ (rs : List Raw) (k : Str), ds = [.lst (rs.map dRaw), .str k] ∧ RawsOk rs ∧ (∃ t ∈ rs, ∃ s ∈ t.secs, s.k = k) ∧ Q (.int (ceil rs k)) M
def spLawBack : DSp := fun ds M Q => ∃ (rs : List Raw) (r : Raw), ds = [.lst (rs.map dRaw), .str r.nm] ∧ RawsOk rs ∧ r ∈ rs ∧ Q (.int (back rs r.rk)) M
def spLawSide : DSp := fun ds M Q => ∃ (rs : List Raw) (r : Raw) (x : Int), ds = [.lst (rs.map dRaw), .str r.nm, .int x] ∧ RawsOk rs ∧ r ∈ rs ∧ Sml x ∧ Q (.int (side rs r x)) M
def spLaw : DSp := fun ds M Q => ∃ ns : List Int, ds = [.scr ns] ∧ ns.length ≤ 63 ∧ M = (fun _ => none) ∧ ∀ M', Q (.bl true) M'
/-! k05 -/
def spStrange : DSp := fun ds M Q => ∃ (pl : DL.D) (ts : List Raw) (s : Str), ds = [pl, .str s] ∧ PlanAt pl ts ∧ (∀ t ∈ ts, t.nm ≠ s) ∧ dat (.str s) = true ∧ Q (.bl true) M
def spSideK : DSp := fun ds M Q => ∃ (pl : DL.D) (ts : List Raw) (r : Raw) (x : Int), ds = [pl, .int x, .str r.nm] ∧ PlanAt pl ts ∧ r ∈ ts ∧ Sml x ∧ Q (.int (side ts r x)) M

def spN : Nat → DSp
  | 0 => spDraw
  | 1 => spSections
  | 2 => spNames
  | 3 => spOne
  | 4 => spWithin
  | 5 => fun ds => spIsWhole (ds ++ [.int 0])
  | 6 => spIsWhole
  | 7 => spIsName
  | 8 => spIsSection
  | 9 => spGo
  | 10 => spAreSections
  | 11 => spBadPart
  | 12 => spWritten
  | 13 => spTask
  | 14 => spPlan
  | 15 => spLawTask
  | 16 => spPlanTask
  | 17 => spHolding
  | 18 => spHeldBack
  | 19 => spAbove
  | 20 => spTimesUp
  | 21 => spLawRaw
  | 22 => spLawCeiling
  | 23 => spLawBack
  | 24 => spRightSide
  | 25 => spLeast
  | 26 => spPen
  | 27 => spRaws
  | 28 => spMade
  | 29 => spLawSide
  | 30 => spStrange
  | 31 => spSideK
  | _ => fun _ _ _ => False
def tab : Tab := { attr := attrN, cname := cnameN, cfs := cfsN, ent := entN, sp := spN, glb := globN }
structure Facts (b : Bz) : Prop where
  g : b.Good
  z_abs : b.mg "abs" = none
  z_all : b.mg "all" = none
  z_bool : b.mg "bool" = none
  z_int : b.mg "int" = none
  z_isinstance : b.mg "isinstance" = none
  z_len : b.mg "len" = none
  z_list : b.mg "list" = none
  z_max : b.mg "max" = none
  z_min : b.mg "min" = none
  z_range : b.mg "range" = none
  z_set : b.mg "set" = none
  z_sorted : b.mg "sorted" = none
  z_str : b.mg "str" = none
  z_tuple : b.mg "tuple" = none
  g_LONGEST_NAME : ∀ {A : Around} {κ : Kt} {pos : Pos}, glB κ "LONGEST_NAME" = true → HE b A κ (.Name "LONGEST_NAME" pos) (.glob 0)
  g_LETTERS : ∀ {A : Around} {κ : Kt} {pos : Pos}, glB κ "LETTERS" = true → HE b A κ (.Name "LETTERS" pos) (.glob 1)
section
variable {P : Program} {w : World} {K : PySem.W.Frag} {mg : Str → Option Value} {base : Heap} {N : Nam}
def n__law_pen : List Str := ["script", "cell"]
def T__law_pen : DL.T := (.retM (.disp [.inr "cells", .inr "at", .inr "left"] (.cons (.comp [1] (.tname 1) (.it (.sl (.var 0) .non (.prt (.int 63)))) .nil (.var 1)) (.cons (.int 0) (.cons (.int 0) .nil)))))
abbrev k__law_pen : Kt := ⟨n__law_pen, defScope s__law_pen, fun _ => true⟩
theorem w__law_pen (Z : Facts ⟨P, w, K, mg, base, tab, N⟩)  {A : Around} (hr : Room 0 A) : HSs ⟨P, w, K, mg, base, tab, N⟩ A k__law_pen (defBody s__law_pen) T__law_pen :=
  (ss_one (s_retM (o_disp (d_cons (HO.he (o_comp [("cell", 1)] ⟨(by decide +kernel), (by decide +kernel)⟩ (fun _ _ => rfl) (i_seq (h_sl (v_ 0 (by decide +kernel)) p_none (p_some h_int))) (g_ 1 (by decide +kernel)) c_nil (v_ 1 (by decide +kernel)))) (d_cons h_int (d_cons h_int d_nil))) rfl rfl (by decide +kernel) (by decide +kernel))))
def n__law_draw : List Str := ["pen", "many", "at", "cell", "number", "again", "digit"]
def T__law_draw : DL.T := (.seq (.cond (.cmp .gt (.idx (.var 0) (.str "left")) (.int 0)) (.seq (.set 6 (.bin .mod (.idx (.var 0) (.str "left")) (.var 1)))
  (.seq (.setIx (.var 0) (.str "left") (.bin .fdiv (.idx (.var 0) (.str "left")) (.var 1)))
  (.ret (.var 6)))) .skip)
  (.seq (.set 2 (.idx (.var 0) (.str "at")))
  (.seq (.setIx (.var 0) (.str "at") (.bin .add (.var 2) (.int 1)))
  (.seq (.set 3 (.bin .add (.bin .mul (.var 2) (.var 2)) (.int 5)))
  (.seq (.cond (.cmp .ne (.idx (.var 0) (.str "cells")) (.lst .nil)) (.set 3 (.idx (.idx (.var 0) (.str "cells")) (.bin .mod (.var 2) (.bi .len (.cons (.idx (.var 0) (.str "cells")) .nil))))) .skip)
  (.seq (.cond (.and (.cmp .lt (.var 2) (.bi .len (.cons (.idx (.var 0) (.str "cells")) .nil))) (.cmp .ge (.bi .abs (.cons (.var 3) .nil)) (.bin .pow (.int 10) (.int 18)))) (.seq (.setIx (.var 0) (.str "left") (.bin .fdiv (.bi .abs (.cons (.var 3) .nil)) (.var 1)))
  (.ret (.bin .mod (.bi .abs (.cons (.var 3) .nil)) (.var 1)))) .skip)
  (.seq (.set 4 (.bin .mod (.bin .mul (.bin .add (.bin .add (.bin .mod (.var 3) (.int 4294967311)) (.bin .mul (.int 65539) (.var 2))) (.int 17)) (.int 48271)) (.int 4294967311)))
  (.seq (.for (.tname 5) (.rng1 (.int 3))
  (.seq (.set 4 (.bin .add (.bin .add (.bin .add (.bin .mul (.var 4) (.var 4)) (.bin .mul (.int 69621) (.var 4))) (.var 2)) (.var 5)))
  (.set 4 (.bin .mod (.var 4) (.int 4294967311)))))
  (.ret (.bin .mod (.bin .fdiv (.var 4) (.int 32)) (.var 1)))))))))))
abbrev k__law_draw : Kt := ⟨n__law_draw, defScope s__law_draw, fun _ => true⟩
theorem w__law_draw (Z : Facts ⟨P, w, K, mg, base, tab, N⟩)  {A : Around} (hr : Room 0 A) : HSs ⟨P, w, K, mg, base, tab, N⟩ A k__law_draw (defBody s__law_draw) T__law_draw :=
  (ss_cons (s_if (t_cmp .gt rfl rfl (h_idx (fun _ _ => rfl) (v_ 0 (by decide +kernel)) h_str) h_int)
  (ss_cons (x_set 6 (by decide +kernel) (fun _ => rfl) (h_bin .mod rfl (h_idx (fun _ _ => rfl) (v_ 0 (by decide +kernel)) h_str) (v_ 1 (by decide +kernel))))
  (ss_cons (s_setIx (fun _ _ => rfl) (fun _ => rfl) (fun _ => rfl) (fun _ => rfl) (v_ 0 (by decide +kernel)) h_str (h_bin .fdiv rfl (h_idx (fun _ _ => rfl) (v_ 0 (by decide +kernel)) h_str) (v_ 1 (by decide +kernel))))
  (ss_one (s_ret (v_ 6 (by decide +kernel)))))) ss_nil)
  (ss_cons (x_set 2 (by decide +kernel) (fun _ => rfl) (h_idx (fun _ _ => rfl) (v_ 0 (by decide +kernel)) h_str))
  (ss_cons (s_setIx (fun _ _ => rfl) (fun _ => rfl) (fun _ => rfl) (fun _ => rfl) (v_ 0 (by decide +kernel)) h_str (h_bin .add rfl (v_ 2 (by decide +kernel)) h_int))
  (ss_cons (x_set 3 (by decide +kernel) (fun _ => rfl) (h_bin .add rfl (h_bin .mul rfl (v_ 2 (by decide +kernel)) (v_ 2 (by decide +kernel))) h_int))
  (ss_cons (s_if (t_cmp .ne rfl rfl (h_idx (fun _ _ => rfl) (v_ 0 (by decide +kernel)) h_str) (HO.he (o_lst a_nil)))
  (ss_one (x_set 3 (by decide +kernel) (fun _ => rfl) (h_idx (fun _ _ => rfl) (h_idx (fun _ _ => rfl) (v_ 0 (by decide +kernel)) h_str) (h_bin .mod rfl (v_ 2 (by decide +kernel)) (h_len Z.z_len (by decide +kernel) rfl (h_idx (fun _ _ => rfl) (v_ 0 (by decide +kernel)) h_str)))))) ss_nil)
  (ss_cons (s_if (HW.ht (w_and (t_cmp .lt rfl rfl (v_ 2 (by decide +kernel)) (h_len Z.z_len (by decide +kernel) rfl (h_idx (fun _ _ => rfl) (v_ 0 (by decide +kernel)) h_str))) (w_and1 (t_cmp .ge rfl rfl (h_abs Z.z_abs (by decide +kernel) rfl (v_ 3 (by decide +kernel))) (h_bin .pow rfl h_int h_int)))))
  (ss_cons (s_setIx (fun _ _ => rfl) (fun _ => rfl) (fun _ => rfl) (fun _ => rfl) (v_ 0 (by decide +kernel)) h_str (h_bin .fdiv rfl (h_abs Z.z_abs (by decide +kernel) rfl (v_ 3 (by decide +kernel))) (v_ 1 (by decide +kernel))))
  (ss_one (s_ret (h_bin .mod rfl (h_abs Z.z_abs (by decide +kernel) rfl (v_ 3 (by decide +kernel))) (v_ 1 (by decide +kernel)))))) ss_nil)
  (ss_cons (x_set 4 (by decide +kernel) (fun _ => rfl) (h_bin .mod rfl (h_bin .mul rfl (h_bin .add rfl (h_bin .add rfl (h_bin .mod rfl (v_ 3 (by decide +kernel)) h_int) (h_bin .mul rfl h_int (v_ 2 (by decide +kernel)))) h_int) h_int) h_int))
  (ss_cons (s_for (fun _ _ => rfl) (i_rng1 Z.z_range (by decide +kernel) rfl h_int) (g_ 5 (by decide +kernel))
  (ss_cons (x_set 4 (by decide +kernel) (fun _ => rfl) (h_bin .add rfl (h_bin .add rfl (h_bin .add rfl (h_bin .mul rfl (v_ 4 (by decide +kernel)) (v_ 4 (by decide +kernel))) (h_bin .mul rfl h_int (v_ 4 (by decide +kernel)))) (v_ 2 (by decide +kernel))) (v_ 5 (by decide +kernel))))
  (ss_one (x_set 4 (by decide +kernel) (fun _ => rfl) (h_bin .mod rfl (v_ 4 (by decide +kernel)) h_int)))))
  (ss_one (s_ret (h_bin .mod rfl (h_bin .fdiv rfl (v_ 4 (by decide +kernel)) h_int) (v_ 1 (by decide +kernel)))))))))))))
def n__law_names : List Str := ["pen", "many", "letters", "tail", "first", "by", "way", "found", "k", "letter"]
def T__law_names : DL.T := (.seq (.set 2 (.str "abcdefghijklmnopqrstuvwxyz"))
  (.seq (.set 3 (.bm .join (.str "") (.cons (.comp [8] (.tname 8) (.rng1 (.call 0 (.cons (.var 0) (.cons (.int 12) .nil)))) .nil (.idx (.var 2) (.call 0 (.cons (.var 0) (.cons (.int 26) .nil))))) .nil)))
  (.seq (.set 4 (.call 0 (.cons (.var 0) (.cons (.int 26) .nil))))
  (.seq (.set 5 (.idx (.lst (.cons (.int 3) (.cons (.int 5) (.cons (.int 7) (.cons (.int 9) (.cons (.int 11) (.cons (.int 15) .nil))))))) (.call 0 (.cons (.var 0) (.cons (.int 6) .nil)))))
  (.seq (.set 6 (.call 0 (.cons (.var 0) (.cons (.int 2) .nil))))
  (.seq (.set 7 (.comp [8] (.tname 8) (.rng1 (.var 1)) .nil (.idx (.var 2) (.bin .mod (.bin .add (.var 4) (.bin .mul (.var 5) (.var 8))) (.int 26)))))
  (.ret (.comp [9] (.tname 9) (.it (.var 7)) .nil (.idx (.lst (.cons (.bin .add (.var 9) (.var 3)) (.cons (.bin .add (.var 3) (.var 9)) .nil))) (.var 6))))))))))
abbrev k__law_names : Kt := ⟨n__law_names, defScope s__law_names, fun _ => true⟩
theorem w__law_names (Z : Facts ⟨P, w, K, mg, base, tab, N⟩) (e_0 : FnI ⟨P, w, K, mg, base, tab, N⟩ 1 "_law_draw" 2 (spN 0)) {A : Around} (hr : Room 3 A) : HSs ⟨P, w, K, mg, base, tab, N⟩ A k__law_names (defBody s__law_names) T__law_names :=
  (ss_cons (x_set 2 (by decide +kernel) (fun _ => rfl) h_str)
  (ss_cons (x_set 3 (by decide +kernel) (fun _ => rfl) (h_join (fun _ => rfl) (by decide +kernel) rfl h_str (HO.he (o_comp [("k", 8)] ⟨(by decide +kernel), (by decide +kernel)⟩ (fun _ _ => rfl) (i_rng1 Z.z_range (by decide +kernel) rfl (e_0 A _ _ _ _ _ _ (hr.mono (by decide)) rfl rfl (by decide +kernel) (fun z => (nomatch z)) rfl (a_cons rfl (v_ 0 (by decide +kernel)) (a_cons rfl h_int a_nil)))) (g_ 8 (by decide +kernel)) c_nil (h_idx (fun _ _ => rfl) (v_ 2 (by decide +kernel)) (e_0 A _ _ _ _ _ _ (hr.mono (by decide)) rfl rfl (by decide +kernel) (fun z => (nomatch z)) rfl (a_cons rfl (v_ 0 (by decide +kernel)) (a_cons rfl h_int a_nil))))))))
  (ss_cons (x_set 4 (by decide +kernel) (fun _ => rfl) (e_0 A _ _ _ _ _ _ (hr.mono (by decide)) rfl rfl (by decide +kernel) (fun z => (nomatch z)) rfl (a_cons rfl (v_ 0 (by decide +kernel)) (a_cons rfl h_int a_nil))))
  (ss_cons (x_set 5 (by decide +kernel) (fun _ => rfl) (h_idx (fun _ _ => rfl) (HO.he (o_lst (a_cons rfl h_int (a_cons rfl h_int (a_cons rfl h_int (a_cons rfl h_int (a_cons rfl h_int (a_cons rfl h_int a_nil)))))))) (e_0 A _ _ _ _ _ _ (hr.mono (by decide)) rfl rfl (by decide +kernel) (fun z => (nomatch z)) rfl (a_cons rfl (v_ 0 (by decide +kernel)) (a_cons rfl h_int a_nil)))))
  (ss_cons (x_set 6 (by decide +kernel) (fun _ => rfl) (e_0 A _ _ _ _ _ _ (hr.mono (by decide)) rfl rfl (by decide +kernel) (fun z => (nomatch z)) rfl (a_cons rfl (v_ 0 (by decide +kernel)) (a_cons rfl h_int a_nil))))
  (ss_cons (x_setC 7 [("k", 8)] (by decide +kernel) ⟨(by decide +kernel), (by decide +kernel)⟩ (fun _ _ => rfl) (i_rng1 Z.z_range (by decide +kernel) rfl (v_ 1 (by decide +kernel))) (g_ 8 (by decide +kernel)) c_nil (h_idx (fun _ _ => rfl) (v_ 2 (by decide +kernel)) (h_bin .mod rfl (h_bin .add rfl (v_ 4 (by decide +kernel)) (h_bin .mul rfl (v_ 5 (by decide +kernel)) (v_ 8 (by decide +kernel)))) h_int)))
  (ss_one (s_ret (HO.he (o_comp [("letter", 9)] ⟨(by decide +kernel), (by decide +kernel)⟩ (fun _ _ => rfl) (i_seq (v_ 7 (by decide +kernel))) (g_ 9 (by decide +kernel)) c_nil (h_idx (fun _ _ => rfl) (HO.he (o_lst (a_cons rfl (h_bin .add rfl (v_ 9 (by decide +kernel)) (v_ 3 (by decide +kernel))) (a_cons rfl (h_bin .add rfl (v_ 3 (by decide +kernel)) (v_ 9 (by decide +kernel))) a_nil)))) (v_ 6 (by decide +kernel)))))))))))))
def n__law_sections : List Str := ["pen", "full", "locks", "start", "length", "at", "found", "inner", "later"]
def T__law_sections : DL.T := (.seq (.cond (.or (.cmp .lt (.var 1) (.int 3)) (.cmp .eq (.call 0 (.cons (.var 0) (.cons (.int 3) .nil))) (.int 0))) (.ret (.tup .nil)) .skip)
  (.seq (.set 3 (.call 0 (.cons (.var 0) (.cons (.bin .sub (.var 1) (.int 1)) .nil))))
  (.seq (.set 4 (.bin .add (.int 1) (.call 0 (.cons (.var 0) (.cons (.bi .max2 (.cons (.int 1) (.cons (.bin .sub (.bin .sub (.var 1) (.var 3)) (.int 1)) .nil))) .nil)))))
  (.seq (.cond (.cmp .ge (.bin .add (.var 3) (.var 4)) (.var 1)) (.ret (.tup .nil)) .skip)
  (.seq (.set 5 (.call 0 (.cons (.var 0) (.cons (.int 3) .nil))))
  (.seq (.setO 6 (.lst (.cons (.tup (.cons (.var 3) (.cons (.var 4) (.cons (.idx (.var 2) (.var 5)) .nil)))) .nil)))
  (.seq (.set 7 (.call 0 (.cons (.var 0) (.cons (.var 4) .nil))))
  (.seq (.cond (.cmp .eq (.call 0 (.cons (.var 0) (.cons (.int 2) .nil))) (.int 0)) (.expr (.pmO .append 6 (.cons (.tup (.cons (.bin .add (.var 3) (.var 7)) (.cons (.bin .add (.int 1) (.call 0 (.cons (.var 0) (.cons (.bin .sub (.var 4) (.var 7)) .nil)))) (.cons (.idx (.var 2) (.bin .mod (.bin .add (.var 5) (.int 1)) (.int 3))) .nil)))) .nil))) .skip)
  (.seq (.set 8 (.bin .add (.bin .add (.var 3) (.var 4)) (.call 0 (.cons (.var 0) (.cons (.int 2) .nil)))))
  (.seq (.cond (.cmp .lt (.bin .add (.var 8) (.int 1)) (.var 1)) (.expr (.pmO .append 6 (.cons (.tup (.cons (.var 8) (.cons (.bin .add (.int 1) (.call 0 (.cons (.var 0) (.cons (.bin .sub (.bin .sub (.var 1) (.var 8)) (.int 1)) .nil)))) (.cons (.idx (.var 2) (.call 0 (.cons (.var 0) (.cons (.int 3) .nil)))) .nil)))) .nil))) .skip)
  (.ret (.bi .tuple (.cons (.stp (.var 6) (.bin .sub (.int 1) (.bin .mul (.int 2) (.call 0 (.cons (.var 0) (.cons (.int 2) .nil)))))) .nil)))))))))))))
abbrev k__law_sections : Kt := ⟨n__law_sections, defScope s__law_sections, fun _ => true⟩
theorem w__law_sections (Z : Facts ⟨P, w, K, mg, base, tab, N⟩) (e_0 : FnI ⟨P, w, K, mg, base, tab, N⟩ 1 "_law_draw" 2 (spN 0)) {A : Around} (hr : Room 3 A) : HSs ⟨P, w, K, mg, base, tab, N⟩ A k__law_sections (defBody s__law_sections) T__law_sections :=
  (ss_cons (s_if (HW.ht (w_or (t_cmp .lt rfl rfl (v_ 1 (by decide +kernel)) h_int) (w_or1 (t_cmp .eq rfl rfl (e_0 A _ _ _ _ _ _ (hr.mono (by decide)) rfl rfl (by decide +kernel) (fun z => (nomatch z)) rfl (a_cons rfl (v_ 0 (by decide +kernel)) (a_cons rfl h_int a_nil))) h_int))))
  (ss_one (s_ret (h_tup a_nil))) ss_nil)
  (ss_cons (x_set 3 (by decide +kernel) (fun _ => rfl) (e_0 A _ _ _ _ _ _ (hr.mono (by decide)) rfl rfl (by decide +kernel) (fun z => (nomatch z)) rfl (a_cons rfl (v_ 0 (by decide +kernel)) (a_cons rfl (h_bin .sub rfl (v_ 1 (by decide +kernel)) h_int) a_nil))))
  (ss_cons (x_set 4 (by decide +kernel) (fun _ => rfl) (h_bin .add rfl h_int (e_0 A _ _ _ _ _ _ (hr.mono (by decide)) rfl rfl (by decide +kernel) (fun z => (nomatch z)) rfl (a_cons rfl (v_ 0 (by decide +kernel)) (a_cons rfl (h_max2 Z.z_max (by decide +kernel) rfl rfl h_int (h_bin .sub rfl (h_bin .sub rfl (v_ 1 (by decide +kernel)) (v_ 3 (by decide +kernel))) h_int)) a_nil)))))
  (ss_cons (s_if (t_cmp .ge rfl rfl (h_bin .add rfl (v_ 3 (by decide +kernel)) (v_ 4 (by decide +kernel))) (v_ 1 (by decide +kernel)))
  (ss_one (s_ret (h_tup a_nil))) ss_nil)
  (ss_cons (x_set 5 (by decide +kernel) (fun _ => rfl) (e_0 A _ _ _ _ _ _ (hr.mono (by decide)) rfl rfl (by decide +kernel) (fun z => (nomatch z)) rfl (a_cons rfl (v_ 0 (by decide +kernel)) (a_cons rfl h_int a_nil))))
  (ss_cons (x_setO 6 (by decide +kernel) (fun _ => rfl) (o_lst (a_cons rfl (h_tup (a_cons rfl (v_ 3 (by decide +kernel)) (a_cons rfl (v_ 4 (by decide +kernel)) (a_cons rfl (h_idx (fun _ _ => rfl) (v_ 2 (by decide +kernel)) (v_ 5 (by decide +kernel))) a_nil)))) a_nil)))
  (ss_cons (x_set 7 (by decide +kernel) (fun _ => rfl) (e_0 A _ _ _ _ _ _ (hr.mono (by decide)) rfl rfl (by decide +kernel) (fun z => (nomatch z)) rfl (a_cons rfl (v_ 0 (by decide +kernel)) (a_cons rfl (v_ 4 (by decide +kernel)) a_nil))))
  (ss_cons (s_if (t_cmp .eq rfl rfl (e_0 A _ _ _ _ _ _ (hr.mono (by decide)) rfl rfl (by decide +kernel) (fun z => (nomatch z)) rfl (a_cons rfl (v_ 0 (by decide +kernel)) (a_cons rfl h_int a_nil))) h_int)
  (ss_one (s_expr (fun _ => rfl) (x_pmO 6 row_append (by decide +kernel) (few1 rfl) (by decide +kernel) rfl (a_cons rfl (h_tup (a_cons rfl (h_bin .add rfl (v_ 3 (by decide +kernel)) (v_ 7 (by decide +kernel))) (a_cons rfl (h_bin .add rfl h_int (e_0 A _ _ _ _ _ _ (hr.mono (by decide)) rfl rfl (by decide +kernel) (fun z => (nomatch z)) rfl (a_cons rfl (v_ 0 (by decide +kernel)) (a_cons rfl (h_bin .sub rfl (v_ 4 (by decide +kernel)) (v_ 7 (by decide +kernel))) a_nil)))) (a_cons rfl (h_idx (fun _ _ => rfl) (v_ 2 (by decide +kernel)) (h_bin .mod rfl (h_bin .add rfl (v_ 5 (by decide +kernel)) h_int) h_int)) a_nil)))) a_nil)))) ss_nil)
  (ss_cons (x_set 8 (by decide +kernel) (fun _ => rfl) (h_bin .add rfl (h_bin .add rfl (v_ 3 (by decide +kernel)) (v_ 4 (by decide +kernel))) (e_0 A _ _ _ _ _ _ (hr.mono (by decide)) rfl rfl (by decide +kernel) (fun z => (nomatch z)) rfl (a_cons rfl (v_ 0 (by decide +kernel)) (a_cons rfl h_int a_nil)))))
  (ss_cons (s_if (t_cmp .lt rfl rfl (h_bin .add rfl (v_ 8 (by decide +kernel)) h_int) (v_ 1 (by decide +kernel)))
  (ss_one (s_expr (fun _ => rfl) (x_pmO 6 row_append (by decide +kernel) (few1 rfl) (by decide +kernel) rfl (a_cons rfl (h_tup (a_cons rfl (v_ 8 (by decide +kernel)) (a_cons rfl (h_bin .add rfl h_int (e_0 A _ _ _ _ _ _ (hr.mono (by decide)) rfl rfl (by decide +kernel) (fun z => (nomatch z)) rfl (a_cons rfl (v_ 0 (by decide +kernel)) (a_cons rfl (h_bin .sub rfl (h_bin .sub rfl (v_ 1 (by decide +kernel)) (v_ 8 (by decide +kernel))) h_int) a_nil)))) (a_cons rfl (h_idx (fun _ _ => rfl) (v_ 2 (by decide +kernel)) (e_0 A _ _ _ _ _ _ (hr.mono (by decide)) rfl rfl (by decide +kernel) (fun z => (nomatch z)) rfl (a_cons rfl (v_ 0 (by decide +kernel)) (a_cons rfl h_int a_nil)))) a_nil)))) a_nil)))) ss_nil)
  (ss_one (s_ret (h_tuple Z.z_tuple (by decide +kernel) rfl (HO.he (o_stp (fun _ _ => rfl) (v_ 6 (by decide +kernel)) (h_bin .sub rfl h_int (h_bin .mul rfl h_int (e_0 A _ _ _ _ _ _ (hr.mono (by decide)) rfl rfl (by decide +kernel) (fun z => (nomatch z)) rfl (a_cons rfl (v_ 0 (by decide +kernel)) (a_cons rfl h_int a_nil))))))))))))))))))))
def n__law_one : List Str := ["pen", "title", "place", "locks", "wide", "far", "full", "stay", "limit"]
def T__law_one : DL.T := (.seq (.set 5 (.bin .add (.var 4) (.call 0 (.cons (.var 0) (.cons (.bin .mul (.int 4) (.var 4)) .nil)))))
  (.seq (.set 6 (.bin .add (.int 1) (.call 0 (.cons (.var 0) (.cons (.bi .max2 (.cons (.int 1) (.cons (.bin .fdiv (.var 5) (.int 3)) .nil))) .nil)))))
  (.seq (.set 7 (.idx (.lst (.cons (.int 0) (.cons (.int 0) (.cons (.call 0 (.cons (.var 0) (.cons (.int 4) .nil))) (.cons (.call 0 (.cons (.var 0) (.cons (.var 5) .nil))) .nil))))) (.call 0 (.cons (.var 0) (.cons (.int 4) .nil)))))
  (.seq (.set 8 (.idx (.lst (.cons (.var 5) (.cons (.var 5) (.cons (.bin .add (.int 1) (.call 0 (.cons (.var 0) (.cons (.var 5) .nil)))) (.cons (.bi .max2 (.cons (.int 1) (.cons (.bin .sub (.var 5) (.call 0 (.cons (.var 0) (.cons (.int 4) .nil)))) .nil))) .nil))))) (.call 0 (.cons (.var 0) (.cons (.int 4) .nil)))))
  (.ret (.tup (.cons (.var 1) (.cons (.var 2) (.cons (.var 5) (.cons (.var 6) (.cons (.var 8) (.cons (.var 7) (.cons (.call 1 (.cons (.var 0) (.cons (.var 6) (.cons (.var 3) .nil)))) .nil)))))))))))))
abbrev k__law_one : Kt := ⟨n__law_one, defScope s__law_one, fun _ => true⟩
theorem w__law_one (Z : Facts ⟨P, w, K, mg, base, tab, N⟩) (e_0 : FnI ⟨P, w, K, mg, base, tab, N⟩ 1 "_law_draw" 2 (spN 0)) (e_1 : FnI ⟨P, w, K, mg, base, tab, N⟩ 4 "_law_sections" 3 (spN 1)) {A : Around} (hr : Room 6 A) : HSs ⟨P, w, K, mg, base, tab, N⟩ A k__law_one (defBody s__law_one) T__law_one :=
  (ss_cons (x_set 5 (by decide +kernel) (fun _ => rfl) (h_bin .add rfl (v_ 4 (by decide +kernel)) (e_0 A _ _ _ _ _ _ (hr.mono (by decide)) rfl rfl (by decide +kernel) (fun z => (nomatch z)) rfl (a_cons rfl (v_ 0 (by decide +kernel)) (a_cons rfl (h_bin .mul rfl h_int (v_ 4 (by decide +kernel))) a_nil)))))
  (ss_cons (x_set 6 (by decide +kernel) (fun _ => rfl) (h_bin .add rfl h_int (e_0 A _ _ _ _ _ _ (hr.mono (by decide)) rfl rfl (by decide +kernel) (fun z => (nomatch z)) rfl (a_cons rfl (v_ 0 (by decide +kernel)) (a_cons rfl (h_max2 Z.z_max (by decide +kernel) rfl rfl h_int (h_bin .fdiv rfl (v_ 5 (by decide +kernel)) h_int)) a_nil)))))
  (ss_cons (x_set 7 (by decide +kernel) (fun _ => rfl) (h_idx (fun _ _ => rfl) (HO.he (o_lst (a_cons rfl h_int (a_cons rfl h_int (a_cons rfl (e_0 A _ _ _ _ _ _ (hr.mono (by decide)) rfl rfl (by decide +kernel) (fun z => (nomatch z)) rfl (a_cons rfl (v_ 0 (by decide +kernel)) (a_cons rfl h_int a_nil))) (a_cons rfl (e_0 A _ _ _ _ _ _ (hr.mono (by decide)) rfl rfl (by decide +kernel) (fun z => (nomatch z)) rfl (a_cons rfl (v_ 0 (by decide +kernel)) (a_cons rfl (v_ 5 (by decide +kernel)) a_nil))) a_nil)))))) (e_0 A _ _ _ _ _ _ (hr.mono (by decide)) rfl rfl (by decide +kernel) (fun z => (nomatch z)) rfl (a_cons rfl (v_ 0 (by decide +kernel)) (a_cons rfl h_int a_nil)))))
  (ss_cons (x_set 8 (by decide +kernel) (fun _ => rfl) (h_idx (fun _ _ => rfl) (HO.he (o_lst (a_cons rfl (v_ 5 (by decide +kernel)) (a_cons rfl (v_ 5 (by decide +kernel)) (a_cons rfl (h_bin .add rfl h_int (e_0 A _ _ _ _ _ _ (hr.mono (by decide)) rfl rfl (by decide +kernel) (fun z => (nomatch z)) rfl (a_cons rfl (v_ 0 (by decide +kernel)) (a_cons rfl (v_ 5 (by decide +kernel)) a_nil)))) (a_cons rfl (h_max2 Z.z_max (by decide +kernel) rfl rfl h_int (h_bin .sub rfl (v_ 5 (by decide +kernel)) (e_0 A _ _ _ _ _ _ (hr.mono (by decide)) rfl rfl (by decide +kernel) (fun z => (nomatch z)) rfl (a_cons rfl (v_ 0 (by decide +kernel)) (a_cons rfl h_int a_nil))))) a_nil)))))) (e_0 A _ _ _ _ _ _ (hr.mono (by decide)) rfl rfl (by decide +kernel) (fun z => (nomatch z)) rfl (a_cons rfl (v_ 0 (by decide +kernel)) (a_cons rfl h_int a_nil)))))
  (ss_one (s_ret (h_tup (a_cons rfl (v_ 1 (by decide +kernel)) (a_cons rfl (v_ 2 (by decide +kernel)) (a_cons rfl (v_ 5 (by decide +kernel)) (a_cons rfl (v_ 6 (by decide +kernel)) (a_cons rfl (v_ 8 (by decide +kernel)) (a_cons rfl (v_ 7 (by decide +kernel)) (a_cons rfl (e_1 A _ _ _ _ _ _ (hr.mono (by decide)) rfl rfl (by decide +kernel) (fun z => (nomatch z)) rfl (a_cons rfl (v_ 0 (by decide +kernel)) (a_cons rfl (v_ 6 (by decide +kernel)) (a_cons rfl (v_ 3 (by decide +kernel)) a_nil)))) a_nil))))))))))))))
def n__law_raws : List Str := ["pen", "many", "wide", "names", "count", "by", "ranks", "found", "k", "place"]
def T__law_raws : DL.T := (.seq (.set 3 (.call 2 (.cons (.var 0) (.cons (.bin .add (.var 1) (.int 3)) .nil))))
  (.seq (.set 4 (.bin .add (.int 1) (.call 0 (.cons (.var 0) (.cons (.var 1) .nil)))))
  (.seq (.set 5 (.bin .add (.int 1) (.call 0 (.cons (.var 0) (.cons (.int 3) .nil)))))
  (.seq (.setO 6 (.comp [8] (.tname 8) (.rng1 (.var 4)) .nil (.bin .add (.bin .add (.bin .add (.int 1) (.call 0 (.cons (.var 0) (.cons (.int 3) .nil)))) (.bin .mul (.var 5) (.var 8))) (.bin .mul (.bin .sub (.var 5) (.int 1)) (.bin .fdiv (.var 8) (.int 2))))))
  (.seq (.cond (.cmp .lt (.lenSetO 6) (.var 4)) (.sealS 6 (.setO 6 (.comp [8] (.tname 8) (.rng1 (.var 4)) .nil (.bin .add (.idx (.var 6) (.int 0)) (.bin .mul (.int 12) (.var 8)))))) (.chk 6))
  (.seq (.setO 7 (.lst .nil))
  (.seq (.for (.tname 8) (.rng1 (.var 4))
  (.seq (.set 9 (.pmO .popAt 6 (.cons (.call 0 (.cons (.var 0) (.cons (.lenO 6) .nil))) .nil)))
  (.expr (.pmO .append 7 (.cons (.call 3 (.cons (.var 0) (.cons (.idx (.var 3) (.var 8)) (.cons (.var 9) (.cons (.sl (.var 3) (.prt (.var 1)) .non) (.cons (.var 2) .nil)))))) .nil)))))
  (.ret (.var 7)))))))))
abbrev k__law_raws : Kt := ⟨n__law_raws, defScope s__law_raws, fun _ => true⟩
theorem w__law_raws (Z : Facts ⟨P, w, K, mg, base, tab, N⟩) (e_0 : FnI ⟨P, w, K, mg, base, tab, N⟩ 1 "_law_draw" 2 (spN 0)) (e_2 : FnI ⟨P, w, K, mg, base, tab, N⟩ 4 "_law_names" 2 (spN 2)) (e_3 : FnI ⟨P, w, K, mg, base, tab, N⟩ 7 "_law_one" 5 (spN 3)) {A : Around} (hr : Room 9 A) : HSs ⟨P, w, K, mg, base, tab, N⟩ A k__law_raws (defBody s__law_raws) T__law_raws :=
  (ss_cons (x_set 3 (by decide +kernel) (fun _ => rfl) (e_2 A _ _ _ _ _ _ (hr.mono (by decide)) rfl rfl (by decide +kernel) (fun z => (nomatch z)) rfl (a_cons rfl (v_ 0 (by decide +kernel)) (a_cons rfl (h_bin .add rfl (v_ 1 (by decide +kernel)) h_int) a_nil))))
  (ss_cons (x_set 4 (by decide +kernel) (fun _ => rfl) (h_bin .add rfl h_int (e_0 A _ _ _ _ _ _ (hr.mono (by decide)) rfl rfl (by decide +kernel) (fun z => (nomatch z)) rfl (a_cons rfl (v_ 0 (by decide +kernel)) (a_cons rfl (v_ 1 (by decide +kernel)) a_nil)))))
  (ss_cons (x_set 5 (by decide +kernel) (fun _ => rfl) (h_bin .add rfl h_int (e_0 A _ _ _ _ _ _ (hr.mono (by decide)) rfl rfl (by decide +kernel) (fun z => (nomatch z)) rfl (a_cons rfl (v_ 0 (by decide +kernel)) (a_cons rfl h_int a_nil)))))
  (ss_cons (x_setKO 6 (by decide +kernel) (o_comp [("k", 8)] ⟨(by decide +kernel), (by decide +kernel)⟩ (fun _ _ => rfl) (i_rng1 Z.z_range (by decide +kernel) rfl (v_ 4 (by decide +kernel))) (g_ 8 (by decide +kernel)) c_nil (h_bin .add rfl (h_bin .add rfl (h_bin .add rfl h_int (e_0 A _ _ _ _ _ _ (hr.mono (by decide)) rfl rfl (by decide +kernel) (fun z => (nomatch z)) rfl (a_cons rfl (v_ 0 (by decide +kernel)) (a_cons rfl h_int a_nil)))) (h_bin .mul rfl (v_ 5 (by decide +kernel)) (v_ 8 (by decide +kernel)))) (h_bin .mul rfl (h_bin .sub rfl (v_ 5 (by decide +kernel)) h_int) (h_bin .fdiv rfl (v_ 8 (by decide +kernel)) h_int)))))
  (ss_cons (x_setIf 6 (by decide +kernel) (by decide +kernel) (t_cmp .lt rfl rfl (x_lenSetO 6 Z.z_len (by decide +kernel) Z.z_set (by decide +kernel) (by decide +kernel)) (v_ 4 (by decide +kernel))) (o_comp [("k", 8)] ⟨(by decide +kernel), (by decide +kernel)⟩ (fun _ _ => rfl) (i_rng1 Z.z_range (by decide +kernel) rfl (v_ 4 (by decide +kernel))) (g_ 8 (by decide +kernel)) c_nil (h_bin .add rfl (h_idx (fun _ _ => rfl) (v_ 6 (by decide +kernel)) h_int) (h_bin .mul rfl h_int (v_ 8 (by decide +kernel))))))
  (ss_cons (x_setO 7 (by decide +kernel) (fun _ => rfl) (o_lst a_nil))
  (ss_cons (s_for (fun _ _ => rfl) (i_rng1 Z.z_range (by decide +kernel) rfl (v_ 4 (by decide +kernel))) (g_ 8 (by decide +kernel))
  (ss_cons (x_set 9 (by decide +kernel) (fun _ => rfl) (x_pmO 6 row_popAt (by decide +kernel) (few1 rfl) (by decide +kernel) rfl (a_cons rfl (e_0 A _ _ _ _ _ _ (hr.mono (by decide)) rfl rfl (by decide +kernel) (fun z => (nomatch z)) rfl (a_cons rfl (v_ 0 (by decide +kernel)) (a_cons rfl (x_lenO 6 Z.z_len (by decide +kernel) (by decide +kernel)) a_nil))) a_nil)))
  (ss_one (s_expr (fun _ => rfl) (x_pmO 7 row_append (by decide +kernel) (few1 rfl) (by decide +kernel) rfl (a_cons rfl (e_3 A _ _ _ _ _ _ (hr.mono (by decide)) rfl rfl (by decide +kernel) (fun z => (nomatch z)) rfl (a_cons rfl (v_ 0 (by decide +kernel)) (a_cons rfl (h_idx (fun _ _ => rfl) (v_ 3 (by decide +kernel)) (v_ 8 (by decide +kernel))) (a_cons rfl (v_ 9 (by decide +kernel)) (a_cons rfl (h_sl (v_ 3 (by decide +kernel)) (p_some (v_ 1 (by decide +kernel))) p_none) (a_cons rfl (v_ 2 (by decide +kernel)) a_nil)))))) a_nil))))))
  (ss_one (s_ret (v_ 7 (by decide +kernel)))))))))))
def n_Plan___init__ : List Str := ["self", "tasks", "ranks", "one", "start", "length", "lock", "rank"]
def T_Plan___init__ : DL.T := (.seq (.setAtO (.var 0) 0 .dnew)
  (.seq (.setO 2 .dnew)
  (.seq (.for (.tname 3) (.it (.var 1))
  (.seq (.cond (.cmp .isin (.attr (.var 3) 1) (.attr (.var 0) 0)) .never .skip)
  (.seq (.cond (.inO false (.attr (.var 3) 2) 2) .never .skip)
  (.seq (.setIx (.attr (.var 0) 0) (.attr (.var 3) 1) (.var 3))
  (.setIxO 2 (.attr (.var 3) 2) (.var 3))))))
  (.sealS 2 (.seq (.setAt (.var 0) 3 (.bi .tuple (.cons (.comp [7] (.tname 7) (.it (.bi .sortedDI (.cons (.var 2) .nil))) .nil (.idx (.var 2) (.var 7))) .nil)))
  (.seq (.setAtO (.var 0) 4 .dnew)
  (.for (.tname 3) (.it (.attr (.var 0) 3))
  (.for (.ttup (.cons (.tname 4) (.cons (.tname 5) (.cons (.tname 6) .nil)))) (.it (.attr (.var 3) 5))
  (.expr (.pm .setdefault (.attr (.var 0) 4) (.cons (.var 6) (.cons (.attr (.var 3) 2) .nil))))))))))))
abbrev k_Plan___init__ : Kt := ⟨n_Plan___init__, defScope s_Plan___init__, fun _ => true⟩
theorem w_Plan___init__ (Z : Facts ⟨P, w, K, mg, base, tab, N⟩)  {A : Around} (hr : Room 0 A) : HSs ⟨P, w, K, mg, base, tab, N⟩ A k_Plan___init__ (defBody s_Plan___init__) T_Plan___init__ :=
  (ss_cons (s_setAtO 0 rfl (fun _ => rfl) (v_ 0 (by decide +kernel)) o_dnew)
  (ss_cons (x_setO 2 (by decide +kernel) (fun _ => rfl) o_dnew)
  (ss_cons (s_for (fun _ _ => rfl) (i_seq (v_ 1 (by decide +kernel))) (g_ 3 (by decide +kernel))
  (ss_cons (s_if (t_cmp .isin rfl rfl (h_attr 1 rfl (fun _ => rfl) (v_ 3 (by decide +kernel))) (h_attr 0 rfl (fun _ => rfl) (v_ 0 (by decide +kernel))))
  (ss_one s_never) ss_nil)
  (ss_cons (s_if (xt_inO 2 (by decide +kernel) (h_attr 2 rfl (fun _ => rfl) (v_ 3 (by decide +kernel))))
  (ss_one s_never) ss_nil)
  (ss_cons (s_setIx (fun _ _ => rfl) (fun _ => rfl) (fun _ => rfl) (fun _ => rfl) (h_attr 0 rfl (fun _ => rfl) (v_ 0 (by decide +kernel))) (h_attr 1 rfl (fun _ => rfl) (v_ 3 (by decide +kernel))) (v_ 3 (by decide +kernel)))
  (ss_one (x_setIxO 2 (by decide +kernel) (fun _ _ => rfl) (fun _ => rfl) (fun _ => rfl) (fun _ => rfl) (h_attr 2 rfl (fun _ => rfl) (v_ 3 (by decide +kernel))) (v_ 3 (by decide +kernel))))))))
  (ss_seal 2 (ss_cons (s_setAt 3 rfl (fun _ => rfl) (v_ 0 (by decide +kernel)) (h_tuple Z.z_tuple (by decide +kernel) rfl (HO.he (o_comp [("rank", 7)] ⟨(by decide +kernel), (by decide +kernel)⟩ (fun _ _ => rfl) (i_seq (HO.he (o_sortedDI Z.z_sorted (by decide +kernel) rfl (v_ 2 (by decide +kernel))))) (g_ 7 (by decide +kernel)) c_nil (h_idx (fun _ _ => rfl) (v_ 2 (by decide +kernel)) (v_ 7 (by decide +kernel)))))))
  (ss_cons (s_setAtO 4 rfl (fun _ => rfl) (v_ 0 (by decide +kernel)) o_dnew)
  (ss_one (s_for (fun _ _ => rfl) (i_seq (h_attr 3 rfl (fun _ => rfl) (v_ 0 (by decide +kernel)))) (g_ 3 (by decide +kernel))
  (ss_one (s_for (fun _ _ => rfl) (i_seq (h_attr 5 rfl (fun _ => rfl) (v_ 3 (by decide +kernel)))) (g_tup (fun _ => rfl) (fun _ => rfl) (gs_cons' (fun _ => rfl) (g_ 4 (by decide +kernel)) (gs_cons' (fun _ => rfl) (g_ 5 (by decide +kernel)) (gs_cons' (fun _ => rfl) (g_ 6 (by decide +kernel)) gs_nil'))))
  (ss_one (s_expr (fun _ => rfl) (h_pm row_setd (fun _ => rfl) (few2 rfl rfl) (by decide +kernel) rfl (h_attr 4 rfl (fun _ => rfl) (v_ 0 (by decide +kernel))) (a_cons rfl (v_ 6 (by decide +kernel)) (a_cons rfl (h_attr 2 rfl (fun _ => rfl) (v_ 3 (by decide +kernel))) a_nil)))))))))))))))
def n_is_name : List Str := ["thing", "sign"]
def T_is_name : DL.T := (.seq (.cond (.or (.not (.isi (.var 0) [.b "str"])) (.not (.chain .le .le (.int 1) (.bi .len (.cons (.var 0) .nil)) (.glob 0)))) (.ret (.bl false)) .skip)
  (.ret (.bi .all (.cons (.comp [1] (.tname 1) (.it (.var 0)) .nil (.cmp .isin (.var 1) (.glob 1))) .nil))))
abbrev k_is_name : Kt := ⟨n_is_name, defScope s_is_name, fun _ => true⟩
theorem w_is_name (Z : Facts ⟨P, w, K, mg, base, tab, N⟩)  {A : Around} (hr : Room 0 A) : HSs ⟨P, w, K, mg, base, tab, N⟩ A k_is_name (defBody s_is_name) T_is_name :=
  (ss_cons (s_if (HW.ht (w_or (t_not (t_val (fun _ _ => rfl) (x_isi1 "str" Z.z_isinstance (by decide +kernel) Z.z_str (by decide +kernel) rfl (v_ 0 (by decide +kernel))))) (w_or1 (t_not (t_chain .le .le rfl rfl rfl h_int (h_len Z.z_len (by decide +kernel) rfl (v_ 0 (by decide +kernel))) (Z.g_LONGEST_NAME (by decide +kernel)))))))
  (ss_one (s_ret h_bl)) ss_nil)
  (ss_one (s_ret (h_all Z.z_all (by decide +kernel) rfl (HO.he (o_comp [("sign", 1)] ⟨(by decide +kernel), (by decide +kernel)⟩ (fun _ _ => rfl) (i_seq (v_ 0 (by decide +kernel))) (g_ 1 (by decide +kernel)) c_nil (h_cmp .isin rfl rfl (v_ 1 (by decide +kernel)) (Z.g_LETTERS (by decide +kernel)))))))))
def n_is_whole : List Str := ["thing", "least"]
def T_is_whole : DL.T := (.ret (.and (.isi (.var 0) [.b "int"]) (.and (.not (.isi (.var 0) [.b "bool"])) (.cmp .ge (.var 0) (.var 1)))))
abbrev k_is_whole : Kt := ⟨n_is_whole, defScope s_is_whole, fun _ => true⟩
theorem w_is_whole (Z : Facts ⟨P, w, K, mg, base, tab, N⟩)  {A : Around} (hr : Room 0 A) : HSs ⟨P, w, K, mg, base, tab, N⟩ A k_is_whole (defBody s_is_whole) T_is_whole :=
  (ss_one (s_ret (h_and (x_isi1 "int" Z.z_isinstance (by decide +kernel) Z.z_int (by decide +kernel) rfl (v_ 0 (by decide +kernel))) (h_and (h_not (x_isi1 "bool" Z.z_isinstance (by decide +kernel) Z.z_bool (by decide +kernel) rfl (v_ 0 (by decide +kernel)))) (h_one (h_cmp .ge rfl rfl (v_ 0 (by decide +kernel)) (v_ 1 (by decide +kernel))))))))
def n_lies_within : List Str := ["one", "other"]
def T_lies_within : DL.T := (.ret (.and (.cmp .le (.idx (.var 1) (.int 0)) (.idx (.var 0) (.int 0))) (.cmp .le (.bin .add (.idx (.var 0) (.int 0)) (.idx (.var 0) (.int 1))) (.bin .add (.idx (.var 1) (.int 0)) (.idx (.var 1) (.int 1))))))
abbrev k_lies_within : Kt := ⟨n_lies_within, defScope s_lies_within, fun _ => true⟩
theorem w_lies_within (Z : Facts ⟨P, w, K, mg, base, tab, N⟩)  {A : Around} (hr : Room 0 A) : HSs ⟨P, w, K, mg, base, tab, N⟩ A k_lies_within (defBody s_lies_within) T_lies_within :=
  (ss_one (s_ret (h_and (h_cmp .le rfl rfl (h_idx (fun _ _ => rfl) (v_ 1 (by decide +kernel)) h_int) (h_idx (fun _ _ => rfl) (v_ 0 (by decide +kernel)) h_int)) (h_one (h_cmp .le rfl rfl (h_bin .add rfl (h_idx (fun _ _ => rfl) (v_ 0 (by decide +kernel)) h_int) (h_idx (fun _ _ => rfl) (v_ 0 (by decide +kernel)) h_int)) (h_bin .add rfl (h_idx (fun _ _ => rfl) (v_ 1 (by decide +kernel)) h_int) (h_idx (fun _ _ => rfl) (v_ 1 (by decide +kernel)) h_int)))))))
def n_go_together : List Str := ["one", "other"]
def T_go_together : DL.T := (.seq (.cond (.or (.cmp .le (.bin .add (.idx (.var 0) (.int 0)) (.idx (.var 0) (.int 1))) (.idx (.var 1) (.int 0))) (.cmp .le (.bin .add (.idx (.var 1) (.int 0)) (.idx (.var 1) (.int 1))) (.idx (.var 0) (.int 0)))) (.ret (.bl true)) .skip)
  (.ret (.and (.cmp .ne (.idx (.var 0) (.int 2)) (.idx (.var 1) (.int 2))) (.or (.call 4 (.cons (.var 0) (.cons (.var 1) .nil))) (.call 4 (.cons (.var 1) (.cons (.var 0) .nil)))))))
abbrev k_go_together : Kt := ⟨n_go_together, defScope s_go_together, fun _ => true⟩
theorem w_go_together (Z : Facts ⟨P, w, K, mg, base, tab, N⟩) (e_4 : FnI ⟨P, w, K, mg, base, tab, N⟩ 1 "lies_within" 2 (spN 4)) {A : Around} (hr : Room 3 A) : HSs ⟨P, w, K, mg, base, tab, N⟩ A k_go_together (defBody s_go_together) T_go_together :=
  (ss_cons (s_if (HW.ht (w_or (t_cmp .le rfl rfl (h_bin .add rfl (h_idx (fun _ _ => rfl) (v_ 0 (by decide +kernel)) h_int) (h_idx (fun _ _ => rfl) (v_ 0 (by decide +kernel)) h_int)) (h_idx (fun _ _ => rfl) (v_ 1 (by decide +kernel)) h_int)) (w_or1 (t_cmp .le rfl rfl (h_bin .add rfl (h_idx (fun _ _ => rfl) (v_ 1 (by decide +kernel)) h_int) (h_idx (fun _ _ => rfl) (v_ 1 (by decide +kernel)) h_int)) (h_idx (fun _ _ => rfl) (v_ 0 (by decide +kernel)) h_int)))))
  (ss_one (s_ret h_bl)) ss_nil)
  (ss_one (s_ret (h_and (h_cmp .ne rfl rfl (h_idx (fun _ _ => rfl) (v_ 0 (by decide +kernel)) h_int) (h_idx (fun _ _ => rfl) (v_ 1 (by decide +kernel)) h_int)) (h_one (h_or (e_4 A _ _ _ _ _ _ (hr.mono (by decide)) rfl rfl (by decide +kernel) (fun z => (nomatch z)) rfl (a_cons rfl (v_ 0 (by decide +kernel)) (a_cons rfl (v_ 1 (by decide +kernel)) a_nil))) (h_one (e_4 A _ _ _ _ _ _ (hr.mono (by decide)) rfl rfl (by decide +kernel) (fun z => (nomatch z)) rfl (a_cons rfl (v_ 1 (by decide +kernel)) (a_cons rfl (v_ 0 (by decide +kernel)) a_nil))))))))))
def n_is_section : List Str := ["thing", "most", "start", "length", "lock"]
def T_is_section : DL.T := (.seq (.cond (.or (.not (.isi (.var 0) [.b "tuple"])) (.cmp .ne (.bi .len (.cons (.var 0) .nil)) (.int 3))) (.ret (.bl false)) .skip)
  (.seq (.asgT (.ttup (.cons (.tname 2) (.cons (.tname 3) (.cons (.tname 4) .nil)))) (.var 0))
  (.seq (.cond (.or (.not (.call 5 (.cons (.var 2) .nil))) (.or (.not (.callK 6 (.cons (.var 3) .nil) (.cons (.int 1) .nil))) (.not (.call 7 (.cons (.var 4) .nil))))) (.ret (.bl false)) .skip)
  (.ret (.cmp .lt (.bin .add (.var 2) (.var 3)) (.var 1))))))
abbrev k_is_section : Kt := ⟨n_is_section, defScope s_is_section, fun _ => true⟩
theorem w_is_section (Z : Facts ⟨P, w, K, mg, base, tab, N⟩) (e_7 : FnI ⟨P, w, K, mg, base, tab, N⟩ 1 "is_name" 1 (spN 7)) (e_5 : FnI ⟨P, w, K, mg, base, tab, N⟩ 1 "is_whole" 1 (spN 5)) (e_6 : FnKI ⟨P, w, K, mg, base, tab, N⟩ 1 "is_whole" 1 ["least"] (spN 6)) {A : Around} (hr : Room 3 A) : HSs ⟨P, w, K, mg, base, tab, N⟩ A k_is_section (defBody s_is_section) T_is_section :=
  (ss_cons (s_if (HW.ht (w_or (t_not (t_val (fun _ _ => rfl) (x_isi1 "tuple" Z.z_isinstance (by decide +kernel) Z.z_tuple (by decide +kernel) rfl (v_ 0 (by decide +kernel))))) (w_or1 (t_cmp .ne rfl rfl (h_len Z.z_len (by decide +kernel) rfl (v_ 0 (by decide +kernel))) h_int))))
  (ss_one (s_ret h_bl)) ss_nil)
  (ss_cons (s_asgT (fun _ => rfl) (fun _ => rfl) (v_ 0 (by decide +kernel)) (g_tup (fun _ => rfl) (fun _ => rfl) (gs_cons' (fun _ => rfl) (g_ 2 (by decide +kernel)) (gs_cons' (fun _ => rfl) (g_ 3 (by decide +kernel)) (gs_cons' (fun _ => rfl) (g_ 4 (by decide +kernel)) gs_nil')))))
  (ss_cons (s_if (HW.ht (w_or (t_not (t_val (fun _ _ => rfl) (e_5 A _ _ _ _ _ _ (hr.mono (by decide)) rfl rfl (by decide +kernel) (fun z => (nomatch z)) rfl (a_cons rfl (v_ 2 (by decide +kernel)) a_nil)))) (w_or (t_not (t_val (fun _ _ => rfl) (e_6 A _ _ _ _ _ _ _ _ (hr.mono (by decide)) rfl rfl rfl (by decide +kernel) rfl rfl rfl (a_cons rfl (v_ 3 (by decide +kernel)) a_nil) (k_cons h_int k_nil)))) (w_or1 (t_not (t_val (fun _ _ => rfl) (e_7 A _ _ _ _ _ _ (hr.mono (by decide)) rfl rfl (by decide +kernel) (fun z => (nomatch z)) rfl (a_cons rfl (v_ 4 (by decide +kernel)) a_nil))))))))
  (ss_one (s_ret h_bl)) ss_nil)
  (ss_one (s_ret (h_cmp .lt rfl rfl (h_bin .add rfl (v_ 2 (by decide +kernel)) (v_ 3 (by decide +kernel))) (v_ 1 (by decide +kernel))))))))
def n_are_sections : List Str := ["thing", "most", "at", "other", "one"]
def T_are_sections : DL.T := (.seq (.cond (.or (.not (.isi (.var 0) [.b "tuple", .b "list"])) (.not (.bi .all (.cons (.comp [4] (.tname 4) (.it (.var 0)) .nil (.call 8 (.cons (.var 4) (.cons (.var 1) .nil)))) .nil)))) (.ret (.bl false)) .skip)
  (.ret (.bi .all (.cons (.comp2 [2, 3] [3] (.tname 2) (.rng1 (.bi .len (.cons (.var 0) .nil))) .nil (.tname 3) (.it (.sl (.var 0) .non (.prt (.var 2)))) .nil (.call 9 (.cons (.idx (.var 0) (.var 2)) (.cons (.var 3) .nil)))) .nil))))
abbrev k_are_sections : Kt := ⟨n_are_sections, defScope s_are_sections, fun _ => true⟩
theorem w_are_sections (Z : Facts ⟨P, w, K, mg, base, tab, N⟩) (e_9 : FnI ⟨P, w, K, mg, base, tab, N⟩ 4 "go_together" 2 (spN 9)) (e_8 : FnI ⟨P, w, K, mg, base, tab, N⟩ 4 "is_section" 2 (spN 8)) {A : Around} (hr : Room 6 A) : HSs ⟨P, w, K, mg, base, tab, N⟩ A k_are_sections (defBody s_are_sections) T_are_sections :=
  (ss_cons (s_if (HW.ht (w_or (t_not (t_val (fun _ _ => rfl) (x_isi2 "tuple" "list" Z.z_isinstance (by decide +kernel) Z.z_tuple Z.z_list (by decide +kernel) (by decide +kernel) rfl (v_ 0 (by decide +kernel))))) (w_or1 (t_not (t_val (fun _ _ => rfl) (h_all Z.z_all (by decide +kernel) rfl (HO.he (o_comp [("one", 4)] ⟨(by decide +kernel), (by decide +kernel)⟩ (fun _ _ => rfl) (i_seq (v_ 0 (by decide +kernel))) (g_ 4 (by decide +kernel)) c_nil (e_8 A _ _ _ _ _ _ (hr.mono (by decide)) rfl rfl (by decide +kernel) (fun z => (nomatch z)) rfl (a_cons rfl (v_ 4 (by decide +kernel)) (a_cons rfl (v_ 1 (by decide +kernel)) a_nil)))))))))))
  (ss_one (s_ret h_bl)) ss_nil)
  (ss_one (s_ret (h_all Z.z_all (by decide +kernel) rfl (HO.he (o_comp2 [("at", 2), ("other", 3)] [3] ⟨(by decide +kernel), (by decide +kernel), (by decide +kernel), (by decide +kernel)⟩ (fun _ _ => rfl) (fun _ _ => rfl) (i_rng1 Z.z_range (by decide +kernel) rfl (h_len Z.z_len (by decide +kernel) rfl (v_ 0 (by decide +kernel)))) (g_ 2 (by decide +kernel)) c_nil (i_seq (h_sl (v_ 0 (by decide +kernel)) p_none (p_some (v_ 2 (by decide +kernel))))) (g_ 3 (by decide +kernel)) c_nil (e_9 A _ _ _ _ _ _ (hr.mono (by decide)) rfl rfl (by decide +kernel) (fun z => (nomatch z)) rfl (a_cons rfl (h_idx (fun _ _ => rfl) (v_ 0 (by decide +kernel)) (v_ 2 (by decide +kernel))) (a_cons rfl (v_ 3 (by decide +kernel)) a_nil)))))))))
def n_bad_part : List Str := ["name", "rank", "gap", "most", "due", "wait", "sections", "part", "number"]
def T_bad_part : DL.T := (.seq (.cond (.not (.call 7 (.cons (.var 0) .nil))) (.ret (.str "name")) .skip)
  (.seq (.for (.ttup (.cons (.tname 7) (.cons (.tname 8) .nil))) (.it (.tup (.cons (.tup (.cons (.str "rank") (.cons (.var 1) .nil))) (.cons (.tup (.cons (.str "gap") (.cons (.var 2) .nil))) (.cons (.tup (.cons (.str "most") (.cons (.var 3) .nil))) .nil)))))
  (.cond (.not (.callK 6 (.cons (.var 8) .nil) (.cons (.int 1) .nil))) (.ret (.var 7)) .skip))
  (.seq (.cond (.and (.cmp .notN (.var 4) .non) (.not (.and (.callK 6 (.cons (.var 4) .nil) (.cons (.int 1) .nil)) (.cmp .le (.var 4) (.var 2))))) (.ret (.str "due")) .skip)
  (.seq (.cond (.not (.call 5 (.cons (.var 5) .nil))) (.ret (.str "wait")) .skip)
  (.ret (.ife (.call 10 (.cons (.var 6) (.cons (.var 3) .nil))) .non (.str "sections")))))))
abbrev k_bad_part : Kt := ⟨n_bad_part, defScope s_bad_part, fun _ => true⟩
theorem w_bad_part (Z : Facts ⟨P, w, K, mg, base, tab, N⟩) (e_10 : FnI ⟨P, w, K, mg, base, tab, N⟩ 7 "are_sections" 2 (spN 10)) (e_7 : FnI ⟨P, w, K, mg, base, tab, N⟩ 1 "is_name" 1 (spN 7)) (e_5 : FnI ⟨P, w, K, mg, base, tab, N⟩ 1 "is_whole" 1 (spN 5)) (e_6 : FnKI ⟨P, w, K, mg, base, tab, N⟩ 1 "is_whole" 1 ["least"] (spN 6)) {A : Around} (hr : Room 9 A) : HSs ⟨P, w, K, mg, base, tab, N⟩ A k_bad_part (defBody s_bad_part) T_bad_part :=
  (ss_cons (s_if (t_not (t_val (fun _ _ => rfl) (e_7 A _ _ _ _ _ _ (hr.mono (by decide)) rfl rfl (by decide +kernel) (fun z => (nomatch z)) rfl (a_cons rfl (v_ 0 (by decide +kernel)) a_nil))))
  (ss_one (s_ret h_str)) ss_nil)
  (ss_cons (s_for (fun _ _ => rfl) (i_seq (h_tup (a_cons rfl (h_tup (a_cons rfl h_str (a_cons rfl (v_ 1 (by decide +kernel)) a_nil))) (a_cons rfl (h_tup (a_cons rfl h_str (a_cons rfl (v_ 2 (by decide +kernel)) a_nil))) (a_cons rfl (h_tup (a_cons rfl h_str (a_cons rfl (v_ 3 (by decide +kernel)) a_nil))) a_nil))))) (g_tup (fun _ => rfl) (fun _ => rfl) (gs_cons' (fun _ => rfl) (g_ 7 (by decide +kernel)) (gs_cons' (fun _ => rfl) (g_ 8 (by decide +kernel)) gs_nil')))
  (ss_one (s_if (t_not (t_val (fun _ _ => rfl) (e_6 A _ _ _ _ _ _ _ _ (hr.mono (by decide)) rfl rfl rfl (by decide +kernel) rfl rfl rfl (a_cons rfl (v_ 8 (by decide +kernel)) a_nil) (k_cons h_int k_nil))))
  (ss_one (s_ret (v_ 7 (by decide +kernel)))) ss_nil)))
  (ss_cons (s_if (HW.ht (w_and (t_cmp .notN rfl rfl (v_ 4 (by decide +kernel)) h_non) (w_and1 (t_not (HW.ht (w_and (t_val (fun _ _ => rfl) (e_6 A _ _ _ _ _ _ _ _ (hr.mono (by decide)) rfl rfl rfl (by decide +kernel) rfl rfl rfl (a_cons rfl (v_ 4 (by decide +kernel)) a_nil) (k_cons h_int k_nil))) (w_and1 (t_cmp .le rfl rfl (v_ 4 (by decide +kernel)) (v_ 2 (by decide +kernel))))))))))
  (ss_one (s_ret h_str)) ss_nil)
  (ss_cons (s_if (t_not (t_val (fun _ _ => rfl) (e_5 A _ _ _ _ _ _ (hr.mono (by decide)) rfl rfl (by decide +kernel) (fun z => (nomatch z)) rfl (a_cons rfl (v_ 5 (by decide +kernel)) a_nil))))
  (ss_one (s_ret h_str)) ss_nil)
  (ss_one (s_ret (h_if (t_val (fun _ _ => rfl) (e_10 A _ _ _ _ _ _ (hr.mono (by decide)) rfl rfl (by decide +kernel) (fun z => (nomatch z)) rfl (a_cons rfl (v_ 6 (by decide +kernel)) (a_cons rfl (v_ 3 (by decide +kernel)) a_nil)))) h_non h_str)))))))
def n_written_place : List Str := ["section", "start", "length", "lock"]
def T_written_place : DL.T := (.seq (.asgT (.ttup (.cons (.tname 1) (.cons (.tname 2) (.cons (.tname 3) .nil)))) (.var 0))
  (.ret (.tup (.cons (.var 1) (.cons (.neg (.var 2)) (.cons (.var 3) .nil))))))
abbrev k_written_place : Kt := ⟨n_written_place, defScope s_written_place, fun _ => true⟩
theorem w_written_place (Z : Facts ⟨P, w, K, mg, base, tab, N⟩)  {A : Around} (hr : Room 0 A) : HSs ⟨P, w, K, mg, base, tab, N⟩ A k_written_place (defBody s_written_place) T_written_place :=
  (ss_cons (s_asgT (fun _ => rfl) (fun _ => rfl) (v_ 0 (by decide +kernel)) (g_tup (fun _ => rfl) (fun _ => rfl) (gs_cons' (fun _ => rfl) (g_ 1 (by decide +kernel)) (gs_cons' (fun _ => rfl) (g_ 2 (by decide +kernel)) (gs_cons' (fun _ => rfl) (g_ 3 (by decide +kernel)) gs_nil')))))
  (ss_one (s_ret (h_tup (a_cons rfl (v_ 1 (by decide +kernel)) (a_cons rfl (h_neg (v_ 2 (by decide +kernel))) (a_cons rfl (v_ 3 (by decide +kernel)) a_nil)))))))
def n_Task___init__ : List Str := ["self", "name", "rank", "gap", "most", "due", "wait", "sections", "bad"]
def T_Task___init__ : DL.T := (.seq (.set 8 (.call 11 (.cons (.var 1) (.cons (.var 2) (.cons (.var 3) (.cons (.var 4) (.cons (.var 5) (.cons (.var 6) (.cons (.var 7) .nil)))))))))
  (.seq (.cond (.cmp .notN (.var 8) .non) .never .skip)
  (.seq (.setAt (.var 0) 1 (.var 1))
  (.seq (.setAt (.var 0) 2 (.var 2))
  (.seq (.setAt (.var 0) 6 (.var 3))
  (.seq (.setAt (.var 0) 7 (.var 4))
  (.seq (.setAt (.var 0) 8 (.ife (.cmp .isN (.var 5) .non) (.var 3) (.var 5)))
  (.seq (.setAt (.var 0) 9 (.var 6))
  (.setAt (.var 0) 5 (.bi .tuple (.cons (.sortedK 12 (.var 7)) .nil)))))))))))
abbrev k_Task___init__ : Kt := ⟨n_Task___init__, defScope s_Task___init__, fun _ => true⟩
theorem w_Task___init__ (Z : Facts ⟨P, w, K, mg, base, tab, N⟩) (e_11 : FnI ⟨P, w, K, mg, base, tab, N⟩ 10 "bad_part" 7 (spN 11)) (r_12 : FnRaw ⟨P, w, K, mg, base, tab, N⟩ 1 "written_place" (spN 12)) {A : Around} (hr : Room 12 A) : HSs ⟨P, w, K, mg, base, tab, N⟩ A k_Task___init__ (defBody s_Task___init__) T_Task___init__ :=
  (ss_cons (x_set 8 (by decide +kernel) (fun _ => rfl) (e_11 A _ _ _ _ _ _ (hr.mono (by decide)) rfl rfl (by decide +kernel) (fun z => (nomatch z)) rfl (a_cons rfl (v_ 1 (by decide +kernel)) (a_cons rfl (v_ 2 (by decide +kernel)) (a_cons rfl (v_ 3 (by decide +kernel)) (a_cons rfl (v_ 4 (by decide +kernel)) (a_cons rfl (v_ 5 (by decide +kernel)) (a_cons rfl (v_ 6 (by decide +kernel)) (a_cons rfl (v_ 7 (by decide +kernel)) a_nil)))))))))
  (ss_cons (s_if (t_cmp .notN rfl rfl (v_ 8 (by decide +kernel)) h_non)
  (ss_one s_never) ss_nil)
  (ss_cons (s_setAt 1 rfl (fun _ => rfl) (v_ 0 (by decide +kernel)) (v_ 1 (by decide +kernel)))
  (ss_cons (s_setAt 2 rfl (fun _ => rfl) (v_ 0 (by decide +kernel)) (v_ 2 (by decide +kernel)))
  (ss_cons (s_setAt 6 rfl (fun _ => rfl) (v_ 0 (by decide +kernel)) (v_ 3 (by decide +kernel)))
  (ss_cons (s_setAt 7 rfl (fun _ => rfl) (v_ 0 (by decide +kernel)) (v_ 4 (by decide +kernel)))
  (ss_cons (s_setAt 8 rfl (fun _ => rfl) (v_ 0 (by decide +kernel)) (h_if (t_cmp .isN rfl rfl (v_ 5 (by decide +kernel)) h_non) (v_ 3 (by decide +kernel)) (v_ 5 (by decide +kernel))))
  (ss_cons (s_setAt 9 rfl (fun _ => rfl) (v_ 0 (by decide +kernel)) (v_ 6 (by decide +kernel)))
  (ss_one (s_setAt 5 rfl (fun _ => rfl) (v_ 0 (by decide +kernel)) (h_tuple Z.z_tuple (by decide +kernel) rfl (HO.he (h_sortedK r_12 (hr.mono (by decide)) rfl Z.z_sorted (by decide +kernel) (by decide +kernel) (by decide +kernel) rfl (v_ 7 (by decide +kernel)))))))))))))))
def n__law_task : List Str := ["raw", "title", "place", "far", "full", "limit", "stay", "locked"]
def T__law_task : DL.T := (.seq (.asgT (.ttup (.cons (.tname 1) (.cons (.tname 2) (.cons (.tname 3) (.cons (.tname 4) (.cons (.tname 5) (.cons (.tname 6) (.cons (.tname 7) .nil)))))))) (.var 0))
  (.ret (.callK 13 (.cons (.var 1) .nil) (.cons (.var 2) (.cons (.var 3) (.cons (.var 4) (.cons (.var 5) (.cons (.var 6) (.cons (.var 7) .nil)))))))))
abbrev k__law_task : Kt := ⟨n__law_task, defScope s__law_task, fun _ => true⟩
theorem w__law_task (Z : Facts ⟨P, w, K, mg, base, tab, N⟩) (e_13 : FnKI ⟨P, w, K, mg, base, tab, N⟩ 14 "Task" 1 ["rank", "gap", "most", "due", "wait", "sections"] (spN 13)) {A : Around} (hr : Room 15 A) : HSs ⟨P, w, K, mg, base, tab, N⟩ A k__law_task (defBody s__law_task) T__law_task :=
  (ss_cons (s_asgT (fun _ => rfl) (fun _ => rfl) (v_ 0 (by decide +kernel)) (g_tup (fun _ => rfl) (fun _ => rfl) (gs_cons' (fun _ => rfl) (g_ 1 (by decide +kernel)) (gs_cons' (fun _ => rfl) (g_ 2 (by decide +kernel)) (gs_cons' (fun _ => rfl) (g_ 3 (by decide +kernel)) (gs_cons' (fun _ => rfl) (g_ 4 (by decide +kernel)) (gs_cons' (fun _ => rfl) (g_ 5 (by decide +kernel)) (gs_cons' (fun _ => rfl) (g_ 6 (by decide +kernel)) (gs_cons' (fun _ => rfl) (g_ 7 (by decide +kernel)) gs_nil')))))))))
  (ss_one (s_ret (e_13 A _ _ _ _ _ _ _ _ (hr.mono (by decide)) rfl rfl rfl (by decide +kernel) rfl rfl rfl (a_cons rfl (v_ 1 (by decide +kernel)) a_nil) (k_cons (v_ 2 (by decide +kernel)) (k_cons (v_ 3 (by decide +kernel)) (k_cons (v_ 4 (by decide +kernel)) (k_cons (v_ 5 (by decide +kernel)) (k_cons (v_ 6 (by decide +kernel)) (k_cons (v_ 7 (by decide +kernel)) k_nil))))))))))
def n__law_made : List Str := ["raws", "raw"]
def T__law_made : DL.T := (.ret (.call 14 (.cons (.comp [1] (.tname 1) (.it (.var 0)) .nil (.call 15 (.cons (.var 1) .nil))) .nil)))
abbrev k__law_made : Kt := ⟨n__law_made, defScope s__law_made, fun _ => true⟩
theorem w__law_made (Z : Facts ⟨P, w, K, mg, base, tab, N⟩) (e_14 : FnI ⟨P, w, K, mg, base, tab, N⟩ 2 "Plan" 1 (spN 14)) (e_15 : FnI ⟨P, w, K, mg, base, tab, N⟩ 16 "_law_task" 1 (spN 15)) {A : Around} (hr : Room 18 A) : HSs ⟨P, w, K, mg, base, tab, N⟩ A k__law_made (defBody s__law_made) T__law_made :=
  (ss_one (s_ret (e_14 A _ _ _ _ _ _ (hr.mono (by decide)) rfl rfl (by decide +kernel) (fun z => (nomatch z)) rfl (a_cons rfl (HO.he (o_comp [("raw", 1)] ⟨(by decide +kernel), (by decide +kernel)⟩ (fun _ _ => rfl) (i_seq (v_ 0 (by decide +kernel))) (g_ 1 (by decide +kernel)) c_nil (e_15 A _ _ _ _ _ _ (hr.mono (by decide)) rfl rfl (by decide +kernel) (fun z => (nomatch z)) rfl (a_cons rfl (v_ 1 (by decide +kernel)) a_nil)))) a_nil))))
def n_Plan_task : List Str := ["self", "name"]
def T_Plan_task : DL.T := (.seq (.cond (.cmp .notin (.var 1) (.attr (.var 0) 0)) .never .skip)
  (.ret (.idx (.attr (.var 0) 0) (.var 1))))
abbrev k_Plan_task : Kt := ⟨n_Plan_task, defScope s_Plan_task, fun _ => true⟩
theorem w_Plan_task (Z : Facts ⟨P, w, K, mg, base, tab, N⟩)  {A : Around} (hr : Room 0 A) : HSs ⟨P, w, K, mg, base, tab, N⟩ A k_Plan_task (defBody s_Plan_task) T_Plan_task :=
  (ss_cons (s_if (t_cmp .notin rfl rfl (v_ 1 (by decide +kernel)) (h_attr 0 rfl (fun _ => rfl) (v_ 0 (by decide +kernel))))
  (ss_one s_never) ss_nil)
  (ss_one (s_ret (h_idx (fun _ _ => rfl) (h_attr 0 rfl (fun _ => rfl) (v_ 0 (by decide +kernel))) (v_ 1 (by decide +kernel))))))
def n_Plan_above : List Str := ["self", "name", "own", "one"]
def T_Plan_above : DL.T := (.seq (.set 2 (.meth 16 (.var 0) (.cons (.var 1) .nil)))
  (.ret (.comp [3] (.tname 3) (.it (.attr (.var 0) 3)) (.cons (.cmp .lt (.attr (.var 3) 2) (.attr (.var 2) 2)) .nil) (.var 3))))
abbrev k_Plan_above : Kt := ⟨n_Plan_above, defScope s_Plan_above, fun _ => true⟩
theorem w_Plan_above (Z : Facts ⟨P, w, K, mg, base, tab, N⟩) (e_16 : MtI ⟨P, w, K, mg, base, tab, N⟩ 1 0 "task" 1 (spN 16)) {A : Around} (hr : Room 3 A) : HSs ⟨P, w, K, mg, base, tab, N⟩ A k_Plan_above (defBody s_Plan_above) T_Plan_above :=
  (ss_cons (x_set 2 (by decide +kernel) (fun _ => rfl) (e_16 A _ _ _ _ _ _ _ _ (hr.mono (by decide)) rfl rfl (fun z => (nomatch z)) (fun _ => ⟨_, rfl⟩) rfl rfl (v_ 0 (by decide +kernel)) (a_cons rfl (v_ 1 (by decide +kernel)) a_nil)))
  (ss_one (s_ret (HO.he (o_comp [("one", 3)] ⟨(by decide +kernel), (by decide +kernel)⟩ (fun _ _ => rfl) (i_seq (h_attr 3 rfl (fun _ => rfl) (v_ 0 (by decide +kernel)))) (g_ 3 (by decide +kernel)) (c_one (t_cmp .lt rfl rfl (h_attr 2 rfl (fun _ => rfl) (v_ 3 (by decide +kernel))) (h_attr 2 rfl (fun _ => rfl) (v_ 2 (by decide +kernel))))) (v_ 3 (by decide +kernel)))))))
def n_Plan_holding : List Str := ["self", "name", "own", "found", "one", "section"]
def T_Plan_holding : DL.T := (.seq (.set 2 (.meth 16 (.var 0) (.cons (.var 1) .nil)))
  (.seq (.setO 3 (.lst .nil))
  (.seq (.for (.tname 4) (.it (.attr (.var 0) 3))
  (.cond (.cmp .gt (.attr (.var 4) 2) (.attr (.var 2) 2)) (.expr (.pmO .extend 3 (.cons (.comp [5] (.tname 5) (.it (.attr (.var 4) 5)) (.cons (.cmp .le (.idx (.attr (.var 0) 4) (.idx (.var 5) (.int 2))) (.attr (.var 2) 2)) .nil) (.tup (.cons (.var 4) (.cons (.var 5) .nil)))) .nil))) .skip))
  (.ret (.var 3)))))
abbrev k_Plan_holding : Kt := ⟨n_Plan_holding, defScope s_Plan_holding, fun _ => true⟩
theorem w_Plan_holding (Z : Facts ⟨P, w, K, mg, base, tab, N⟩) (e_16 : MtI ⟨P, w, K, mg, base, tab, N⟩ 1 0 "task" 1 (spN 16)) {A : Around} (hr : Room 3 A) : HSs ⟨P, w, K, mg, base, tab, N⟩ A k_Plan_holding (defBody s_Plan_holding) T_Plan_holding :=
  (ss_cons (x_set 2 (by decide +kernel) (fun _ => rfl) (e_16 A _ _ _ _ _ _ _ _ (hr.mono (by decide)) rfl rfl (fun z => (nomatch z)) (fun _ => ⟨_, rfl⟩) rfl rfl (v_ 0 (by decide +kernel)) (a_cons rfl (v_ 1 (by decide +kernel)) a_nil)))
  (ss_cons (x_setO 3 (by decide +kernel) (fun _ => rfl) (o_lst a_nil))
  (ss_cons (s_for (fun _ _ => rfl) (i_seq (h_attr 3 rfl (fun _ => rfl) (v_ 0 (by decide +kernel)))) (g_ 4 (by decide +kernel))
  (ss_one (s_if (t_cmp .gt rfl rfl (h_attr 2 rfl (fun _ => rfl) (v_ 4 (by decide +kernel))) (h_attr 2 rfl (fun _ => rfl) (v_ 2 (by decide +kernel))))
  (ss_one (s_expr (fun _ => rfl) (x_pmO 3 row_extend (by decide +kernel) (few1 rfl) (by decide +kernel) rfl (a_cons rfl (HO.he (o_comp [("section", 5)] ⟨(by decide +kernel), (by decide +kernel)⟩ (fun _ _ => rfl) (i_seq (h_attr 5 rfl (fun _ => rfl) (v_ 4 (by decide +kernel)))) (g_ 5 (by decide +kernel)) (c_one (t_cmp .le rfl rfl (h_idx (fun _ _ => rfl) (h_attr 4 rfl (fun _ => rfl) (v_ 0 (by decide +kernel))) (h_idx (fun _ _ => rfl) (v_ 5 (by decide +kernel)) h_int)) (h_attr 2 rfl (fun _ => rfl) (v_ 2 (by decide +kernel))))) (h_tup (a_cons rfl (v_ 4 (by decide +kernel)) (a_cons rfl (v_ 5 (by decide +kernel)) a_nil))))) a_nil)))) ss_nil)))
  (ss_one (s_ret (v_ 3 (by decide +kernel)))))))
def n_Plan_held_back : List Str := ["self", "name", "one", "section"]
def T_Plan_held_back : DL.T := (.ret (.bi .maxD (.cons (.comp [2, 3] (.ttup (.cons (.tname 2) (.cons (.tname 3) .nil))) (.it (.meth 17 (.var 0) (.cons (.var 1) .nil))) .nil (.bin .sub (.idx (.var 3) (.int 1)) (.int 1))) (.cons (.int 0) .nil))))
abbrev k_Plan_held_back : Kt := ⟨n_Plan_held_back, defScope s_Plan_held_back, fun _ => true⟩
theorem w_Plan_held_back (Z : Facts ⟨P, w, K, mg, base, tab, N⟩) (e_17 : MtI ⟨P, w, K, mg, base, tab, N⟩ 4 0 "holding" 1 (spN 17)) {A : Around} (hr : Room 6 A) : HSs ⟨P, w, K, mg, base, tab, N⟩ A k_Plan_held_back (defBody s_Plan_held_back) T_Plan_held_back :=
  (ss_one (s_ret (h_maxD Z.z_max (by decide +kernel) rfl (HO.he (o_comp [("one", 2), ("section", 3)] ⟨(by decide +kernel), (by decide +kernel)⟩ (fun _ _ => rfl) (i_seq (e_17 A _ _ _ _ _ _ _ _ (hr.mono (by decide)) rfl rfl (fun z => (nomatch z)) (fun _ => ⟨_, rfl⟩) rfl rfl (v_ 0 (by decide +kernel)) (a_cons rfl (v_ 1 (by decide +kernel)) a_nil))) (g_tup (fun _ => rfl) (fun _ => rfl) (gs_cons' (fun _ => rfl) (g_ 2 (by decide +kernel)) (gs_cons' (fun _ => rfl) (g_ 3 (by decide +kernel)) gs_nil'))) c_nil (h_bin .sub rfl (h_idx (fun _ _ => rfl) (v_ 3 (by decide +kernel)) h_int) h_int))) h_int)))
def n_times_up : List Str := ["number", "gap"]
def T_times_up : DL.T := (.ret (.bin .fdiv (.bin .sub (.bin .add (.var 0) (.var 1)) (.int 1)) (.var 1)))
abbrev k_times_up : Kt := ⟨n_times_up, defScope s_times_up, fun _ => true⟩
theorem w_times_up (Z : Facts ⟨P, w, K, mg, base, tab, N⟩)  {A : Around} (hr : Room 0 A) : HSs ⟨P, w, K, mg, base, tab, N⟩ A k_times_up (defBody s_times_up) T_times_up :=
  (ss_one (s_ret (h_bin .fdiv rfl (h_bin .sub rfl (h_bin .add rfl (v_ 0 (by decide +kernel)) (v_ 1 (by decide +kernel))) h_int) (v_ 1 (by decide +kernel)))))
def n_right_side : List Str := ["plan", "name", "ticks", "total", "one"]
def T_right_side : DL.T := (.seq (.set 3 (.bin .add (.meth 18 (.var 0) (.cons (.var 1) .nil)) (.attr (.meth 16 (.var 0) (.cons (.var 1) .nil)) 7)))
  (.seq (.for (.tname 4) (.it (.meth 19 (.var 0) (.cons (.var 1) .nil)))
  (.aug 3 .add (.bin .mul (.attr (.var 4) 7) (.call 20 (.cons (.bin .add (.var 2) (.attr (.var 4) 9)) (.cons (.attr (.var 4) 6) .nil))))))
  (.ret (.var 3))))
abbrev k_right_side : Kt := ⟨n_right_side, defScope s_right_side, fun _ => true⟩
theorem w_right_side (Z : Facts ⟨P, w, K, mg, base, tab, N⟩) (e_19 : MtI ⟨P, w, K, mg, base, tab, N⟩ 4 0 "above" 1 (spN 19)) (e_18 : MtI ⟨P, w, K, mg, base, tab, N⟩ 7 0 "held_back" 1 (spN 18)) (e_16 : MtI ⟨P, w, K, mg, base, tab, N⟩ 1 0 "task" 1 (spN 16)) (e_20 : FnI ⟨P, w, K, mg, base, tab, N⟩ 1 "times_up" 2 (spN 20)) {A : Around} (hr : Room 9 A) : HSs ⟨P, w, K, mg, base, tab, N⟩ A k_right_side (defBody s_right_side) T_right_side :=
  (ss_cons (x_set 3 (by decide +kernel) (fun _ => rfl) (h_bin .add rfl (e_18 A _ _ _ _ _ _ _ _ (hr.mono (by decide)) rfl rfl (fun z => (nomatch z)) (fun _ => ⟨_, rfl⟩) rfl rfl (v_ 0 (by decide +kernel)) (a_cons rfl (v_ 1 (by decide +kernel)) a_nil)) (h_attr 7 rfl (fun _ => rfl) (e_16 A _ _ _ _ _ _ _ _ (hr.mono (by decide)) rfl rfl (fun z => (nomatch z)) (fun _ => ⟨_, rfl⟩) rfl rfl (v_ 0 (by decide +kernel)) (a_cons rfl (v_ 1 (by decide +kernel)) a_nil)))))
  (ss_cons (s_for (fun _ _ => rfl) (i_seq (e_19 A _ _ _ _ _ _ _ _ (hr.mono (by decide)) rfl rfl (fun z => (nomatch z)) (fun _ => ⟨_, rfl⟩) rfl rfl (v_ 0 (by decide +kernel)) (a_cons rfl (v_ 1 (by decide +kernel)) a_nil))) (g_ 4 (by decide +kernel))
  (ss_one (x_aug 3 .add rfl rfl (by decide +kernel) (h_bin .mul rfl (h_attr 7 rfl (fun _ => rfl) (v_ 4 (by decide +kernel))) (e_20 A _ _ _ _ _ _ (hr.mono (by decide)) rfl rfl (by decide +kernel) (fun z => (nomatch z)) rfl (a_cons rfl (h_bin .add rfl (v_ 2 (by decide +kernel)) (h_attr 9 rfl (fun _ => rfl) (v_ 4 (by decide +kernel)))) (a_cons rfl (h_attr 6 rfl (fun _ => rfl) (v_ 4 (by decide +kernel))) a_nil)))))))
  (ss_one (s_ret (v_ 3 (by decide +kernel))))))
def n__law_raw : List Str := ["raws", "title", "raw"]
def T__law_raw : DL.T := (.ret (.idx (.comp [2] (.tname 2) (.it (.var 0)) (.cons (.cmp .eq (.idx (.var 2) (.int 0)) (.var 1)) .nil) (.var 2)) (.int 0)))
abbrev k__law_raw : Kt := ⟨n__law_raw, defScope s__law_raw, fun _ => true⟩
theorem w__law_raw (Z : Facts ⟨P, w, K, mg, base, tab, N⟩)  {A : Around} (hr : Room 0 A) : HSs ⟨P, w, K, mg, base, tab, N⟩ A k__law_raw (defBody s__law_raw) T__law_raw :=
  (ss_one (s_ret (h_idx (fun _ _ => rfl) (HO.he (o_comp [("raw", 2)] ⟨(by decide +kernel), (by decide +kernel)⟩ (fun _ _ => rfl) (i_seq (v_ 0 (by decide +kernel))) (g_ 2 (by decide +kernel)) (c_one (t_cmp .eq rfl rfl (h_idx (fun _ _ => rfl) (v_ 2 (by decide +kernel)) h_int) (v_ 1 (by decide +kernel)))) (v_ 2 (by decide +kernel)))) h_int)))
def n__law_ceiling : List Str := ["raws", "lock", "raw", "section"]
def T__law_ceiling : DL.T := (.ret (.bi .minL (.cons (.comp [2] (.tname 2) (.it (.var 0)) (.cons (.cmp .isin (.var 1) (.comp [3] (.tname 3) (.it (.idx (.var 2) (.int 6))) .nil (.idx (.var 3) (.int 2)))) .nil) (.idx (.var 2) (.int 1))) .nil)))
abbrev k__law_ceiling : Kt := ⟨n__law_ceiling, defScope s__law_ceiling, fun _ => true⟩
theorem w__law_ceiling (Z : Facts ⟨P, w, K, mg, base, tab, N⟩)  {A : Around} (hr : Room 0 A) : HSs ⟨P, w, K, mg, base, tab, N⟩ A k__law_ceiling (defBody s__law_ceiling) T__law_ceiling :=
  (ss_one (s_ret (h_minL Z.z_min (by decide +kernel) rfl (HO.he (o_comp [("raw", 2)] ⟨(by decide +kernel), (by decide +kernel)⟩ (fun _ _ => rfl) (i_seq (v_ 0 (by decide +kernel))) (g_ 2 (by decide +kernel)) (c_one (t_cmp .isin rfl rfl (v_ 1 (by decide +kernel)) (HO.he (o_comp [("section", 3)] ⟨(by decide +kernel), (by decide +kernel)⟩ (fun _ _ => rfl) (i_seq (h_idx (fun _ _ => rfl) (v_ 2 (by decide +kernel)) h_int)) (g_ 3 (by decide +kernel)) c_nil (h_idx (fun _ _ => rfl) (v_ 3 (by decide +kernel)) h_int))))) (h_idx (fun _ _ => rfl) (v_ 2 (by decide +kernel)) h_int))))))
def n__law_back : List Str := ["raws", "title", "place", "found", "raw", "start", "length", "lock"]
def T__law_back : DL.T := (.seq (.set 2 (.idx (.call 21 (.cons (.var 0) (.cons (.var 1) .nil))) (.int 1)))
  (.seq (.set 3 (.lst (.cons (.int 0) .nil)))
  (.seq (.for (.tname 4) (.it (.var 0))
  (.cond (.cmp .gt (.idx (.var 4) (.int 1)) (.var 2)) (.set 3 (.bin .add (.var 3) (.comp [5, 6, 7] (.ttup (.cons (.tname 5) (.cons (.tname 6) (.cons (.tname 7) .nil)))) (.it (.idx (.var 4) (.int 6))) (.cons (.cmp .le (.call 22 (.cons (.var 0) (.cons (.var 7) .nil))) (.var 2)) .nil) (.bin .sub (.var 6) (.int 1))))) .skip))
  (.ret (.bi .maxL (.cons (.var 3) .nil))))))
abbrev k__law_back : Kt := ⟨n__law_back, defScope s__law_back, fun _ => true⟩
theorem w__law_back (Z : Facts ⟨P, w, K, mg, base, tab, N⟩) (e_22 : FnI ⟨P, w, K, mg, base, tab, N⟩ 1 "_law_ceiling" 2 (spN 22)) (e_21 : FnI ⟨P, w, K, mg, base, tab, N⟩ 1 "_law_raw" 2 (spN 21)) {A : Around} (hr : Room 3 A) : HSs ⟨P, w, K, mg, base, tab, N⟩ A k__law_back (defBody s__law_back) T__law_back :=
  (ss_cons (x_set 2 (by decide +kernel) (fun _ => rfl) (h_idx (fun _ _ => rfl) (e_21 A _ _ _ _ _ _ (hr.mono (by decide)) rfl rfl (by decide +kernel) (fun z => (nomatch z)) rfl (a_cons rfl (v_ 0 (by decide +kernel)) (a_cons rfl (v_ 1 (by decide +kernel)) a_nil))) h_int))
  (ss_cons (x_set 3 (by decide +kernel) (fun _ => rfl) (HO.he (o_lst (a_cons rfl h_int a_nil))))
  (ss_cons (s_for (fun _ _ => rfl) (i_seq (v_ 0 (by decide +kernel))) (g_ 4 (by decide +kernel))
  (ss_one (s_if (t_cmp .gt rfl rfl (h_idx (fun _ _ => rfl) (v_ 4 (by decide +kernel)) h_int) (v_ 2 (by decide +kernel)))
  (ss_one (x_set 3 (by decide +kernel) (fun _ => rfl) (h_bin .add rfl (v_ 3 (by decide +kernel)) (HO.he (o_comp [("start", 5), ("length", 6), ("lock", 7)] ⟨(by decide +kernel), (by decide +kernel)⟩ (fun _ _ => rfl) (i_seq (h_idx (fun _ _ => rfl) (v_ 4 (by decide +kernel)) h_int)) (g_tup (fun _ => rfl) (fun _ => rfl) (gs_cons' (fun _ => rfl) (g_ 5 (by decide +kernel)) (gs_cons' (fun _ => rfl) (g_ 6 (by decide +kernel)) (gs_cons' (fun _ => rfl) (g_ 7 (by decide +kernel)) gs_nil')))) (c_one (t_cmp .le rfl rfl (e_22 A _ _ _ _ _ _ (hr.mono (by decide)) rfl rfl (by decide +kernel) (fun z => (nomatch z)) rfl (a_cons rfl (v_ 0 (by decide +kernel)) (a_cons rfl (v_ 7 (by decide +kernel)) a_nil))) (v_ 2 (by decide +kernel)))) (h_bin .sub rfl (v_ 6 (by decide +kernel)) h_int)))))) ss_nil)))
  (ss_one (s_ret (h_maxL Z.z_max (by decide +kernel) rfl (v_ 3 (by decide +kernel))))))))
def n__law_side : List Str := ["raws", "title", "many", "own", "total", "raw", "times"]
def T__law_side : DL.T := (.seq (.set 3 (.call 21 (.cons (.var 0) (.cons (.var 1) .nil))))
  (.seq (.set 4 (.bin .add (.call 23 (.cons (.var 0) (.cons (.var 1) .nil))) (.idx (.var 3) (.int 3))))
  (.seq (.for (.tname 5) (.it (.var 0))
  (.cond (.cmp .lt (.idx (.var 5) (.int 1)) (.idx (.var 3) (.int 1))) (.seq (.set 6 (.bin .fdiv (.bin .sub (.bin .add (.bin .add (.var 2) (.idx (.var 5) (.int 5))) (.idx (.var 5) (.int 2))) (.int 1)) (.idx (.var 5) (.int 2))))
  (.set 4 (.bin .add (.var 4) (.bin .mul (.idx (.var 5) (.int 3)) (.var 6))))) .skip))
  (.ret (.var 4)))))
abbrev k__law_side : Kt := ⟨n__law_side, defScope s__law_side, fun _ => true⟩
theorem w__law_side (Z : Facts ⟨P, w, K, mg, base, tab, N⟩) (e_23 : FnI ⟨P, w, K, mg, base, tab, N⟩ 4 "_law_back" 2 (spN 23)) (e_21 : FnI ⟨P, w, K, mg, base, tab, N⟩ 1 "_law_raw" 2 (spN 21)) {A : Around} (hr : Room 6 A) : HSs ⟨P, w, K, mg, base, tab, N⟩ A k__law_side (defBody s__law_side) T__law_side :=
  (ss_cons (x_set 3 (by decide +kernel) (fun _ => rfl) (e_21 A _ _ _ _ _ _ (hr.mono (by decide)) rfl rfl (by decide +kernel) (fun z => (nomatch z)) rfl (a_cons rfl (v_ 0 (by decide +kernel)) (a_cons rfl (v_ 1 (by decide +kernel)) a_nil))))
  (ss_cons (x_set 4 (by decide +kernel) (fun _ => rfl) (h_bin .add rfl (e_23 A _ _ _ _ _ _ (hr.mono (by decide)) rfl rfl (by decide +kernel) (fun z => (nomatch z)) rfl (a_cons rfl (v_ 0 (by decide +kernel)) (a_cons rfl (v_ 1 (by decide +kernel)) a_nil))) (h_idx (fun _ _ => rfl) (v_ 3 (by decide +kernel)) h_int)))
  (ss_cons (s_for (fun _ _ => rfl) (i_seq (v_ 0 (by decide +kernel))) (g_ 5 (by decide +kernel))
  (ss_one (s_if (t_cmp .lt rfl rfl (h_idx (fun _ _ => rfl) (v_ 5 (by decide +kernel)) h_int) (h_idx (fun _ _ => rfl) (v_ 3 (by decide +kernel)) h_int))
  (ss_cons (x_set 6 (by decide +kernel) (fun _ => rfl) (h_bin .fdiv rfl (h_bin .sub rfl (h_bin .add rfl (h_bin .add rfl (v_ 2 (by decide +kernel)) (h_idx (fun _ _ => rfl) (v_ 5 (by decide +kernel)) h_int)) (h_idx (fun _ _ => rfl) (v_ 5 (by decide +kernel)) h_int)) h_int) (h_idx (fun _ _ => rfl) (v_ 5 (by decide +kernel)) h_int)))
  (ss_one (x_set 4 (by decide +kernel) (fun _ => rfl) (h_bin .add rfl (v_ 4 (by decide +kernel)) (h_bin .mul rfl (h_idx (fun _ _ => rfl) (v_ 5 (by decide +kernel)) h_int) (v_ 6 (by decide +kernel))))))) ss_nil)))
  (ss_one (s_ret (v_ 4 (by decide +kernel)))))))
def n_least_ticks : List Str := ["plan", "name", "own", "ticks", "more"]
def T_least_ticks : DL.T := (.seq (.set 2 (.meth 16 (.var 0) (.cons (.var 1) .nil)))
  (.seq (.set 3 (.int 0))
  (.seq (.set 4 (.call 24 (.cons (.var 0) (.cons (.var 1) (.cons (.var 3) .nil)))))
  (.seq (.while (.cmp .gt (.var 4) (.var 3)) (.seq (.set 3 (.var 4))
  (.seq (.cond (.cmp .gt (.bin .add (.attr (.var 2) 9) (.var 3)) (.attr (.var 2) 8)) (.ret .non) .skip)
  (.set 4 (.call 24 (.cons (.var 0) (.cons (.var 1) (.cons (.var 3) .nil))))))))
  (.ret (.var 3))))))
abbrev k_least_ticks : Kt := ⟨n_least_ticks, defScope s_least_ticks, fun _ => true⟩
theorem w_least_ticks (Z : Facts ⟨P, w, K, mg, base, tab, N⟩) (e_16 : MtI ⟨P, w, K, mg, base, tab, N⟩ 1 0 "task" 1 (spN 16)) (e_24 : FnI ⟨P, w, K, mg, base, tab, N⟩ 10 "right_side" 3 (spN 24)) {A : Around} (hr : Room 12 A) : HSs ⟨P, w, K, mg, base, tab, N⟩ A k_least_ticks (defBody s_least_ticks) T_least_ticks :=
  (ss_cons (x_set 2 (by decide +kernel) (fun _ => rfl) (e_16 A _ _ _ _ _ _ _ _ (hr.mono (by decide)) rfl rfl (fun z => (nomatch z)) (fun _ => ⟨_, rfl⟩) rfl rfl (v_ 0 (by decide +kernel)) (a_cons rfl (v_ 1 (by decide +kernel)) a_nil)))
  (ss_cons (x_set 3 (by decide +kernel) (fun _ => rfl) h_int)
  (ss_cons (x_set 4 (by decide +kernel) (fun _ => rfl) (e_24 A _ _ _ _ _ _ (hr.mono (by decide)) rfl rfl (by decide +kernel) (fun z => (nomatch z)) rfl (a_cons rfl (v_ 0 (by decide +kernel)) (a_cons rfl (v_ 1 (by decide +kernel)) (a_cons rfl (v_ 3 (by decide +kernel)) a_nil)))))
  (ss_cons (s_while (t_cmp .gt rfl rfl (v_ 4 (by decide +kernel)) (v_ 3 (by decide +kernel)))
  (ss_cons (x_set 3 (by decide +kernel) (fun _ => rfl) (v_ 4 (by decide +kernel)))
  (ss_cons (s_if (t_cmp .gt rfl rfl (h_bin .add rfl (h_attr 9 rfl (fun _ => rfl) (v_ 2 (by decide +kernel))) (v_ 3 (by decide +kernel))) (h_attr 8 rfl (fun _ => rfl) (v_ 2 (by decide +kernel))))
  (ss_one (s_ret h_non)) ss_nil)
  (ss_one (x_set 4 (by decide +kernel) (fun _ => rfl) (e_24 A _ _ _ _ _ _ (hr.mono (by decide)) rfl rfl (by decide +kernel) (fun z => (nomatch z)) rfl (a_cons rfl (v_ 0 (by decide +kernel)) (a_cons rfl (v_ 1 (by decide +kernel)) (a_cons rfl (v_ 3 (by decide +kernel)) a_nil)))))))))
  (ss_one (s_ret (v_ 3 (by decide +kernel))))))))
def n_bound : List Str := ["plan", "name", "ticks"]
def T_bound : DL.T := (.seq (.set 2 (.call 25 (.cons (.var 0) (.cons (.var 1) .nil))))
  (.ret (.ife (.cmp .isN (.var 2) .non) .non (.bin .add (.attr (.meth 16 (.var 0) (.cons (.var 1) .nil)) 9) (.var 2)))))
abbrev k_bound : Kt := ⟨n_bound, defScope s_bound, fun _ => true⟩
theorem w_bound (Z : Facts ⟨P, w, K, mg, base, tab, N⟩) (e_16 : MtI ⟨P, w, K, mg, base, tab, N⟩ 1 0 "task" 1 (spN 16)) (e_25 : FnI ⟨P, w, K, mg, base, tab, N⟩ 13 "least_ticks" 2 (spN 25)) {A : Around} (hr : Room 15 A) : HSs ⟨P, w, K, mg, base, tab, N⟩ A k_bound (defBody s_bound) T_bound :=
  (ss_cons (x_set 2 (by decide +kernel) (fun _ => rfl) (e_25 A _ _ _ _ _ _ (hr.mono (by decide)) rfl rfl (by decide +kernel) (fun z => (nomatch z)) rfl (a_cons rfl (v_ 0 (by decide +kernel)) (a_cons rfl (v_ 1 (by decide +kernel)) a_nil))))
  (ss_one (s_ret (h_if (t_cmp .isN rfl rfl (v_ 2 (by decide +kernel)) h_non) h_non (h_bin .add rfl (h_attr 9 rfl (fun _ => rfl) (e_16 A _ _ _ _ _ _ _ _ (hr.mono (by decide)) rfl rfl (fun z => (nomatch z)) (fun _ => ⟨_, rfl⟩) rfl rfl (v_ 0 (by decide +kernel)) (a_cons rfl (v_ 1 (by decide +kernel)) a_nil))) (v_ 2 (by decide +kernel)))))))
def n__law_strange : List Str := ["plan", "a_name", "found", "way", "told", "e"]
def T__law_strange : DL.T := (.seq (.setO 2 (.lst .nil))
  (.seq (.for (.tname 3) (.rng1 (.int 2))
  (.seq (.set 4 .non)
  (.seq .never
  (.expr (.pmO .append 2 (.cons (.var 4) .nil))))))
  (.ret (.cmp .eq (.var 2) (.lst (.cons (.var 1) (.cons (.var 1) .nil)))))))
abbrev k__law_strange : Kt := ⟨n__law_strange, defScope s__law_strange, fun _ => true⟩
theorem w__law_strange (Z : Facts ⟨P, w, K, mg, base, tab, N⟩)  {A : Around} (hr : Room 18 A) : HSs ⟨P, w, K, mg, base, tab, N⟩ A k__law_strange (defBody s__law_strange) T__law_strange :=
  (ss_cons (x_setO 2 (by decide +kernel) (fun _ => rfl) (o_lst a_nil))
  (ss_cons (s_for (fun _ _ => rfl) (i_rng1 Z.z_range (by decide +kernel) rfl h_int) (g_ 3 (by decide +kernel))
  (ss_cons (x_set 4 (by decide +kernel) (fun _ => rfl) h_non)
  (ss_cons s_never
  (ss_one (s_expr (fun _ => rfl) (x_pmO 2 row_append (by decide +kernel) (few1 rfl) (by decide +kernel) rfl (a_cons rfl (v_ 4 (by decide +kernel)) a_nil)))))))
  (ss_one (s_ret (h_cmp .eq rfl rfl (v_ 2 (by decide +kernel)) (HO.he (o_lst (a_cons rfl (v_ 1 (by decide +kernel)) (a_cons rfl (v_ 1 (by decide +kernel)) a_nil)))))))))
def n_law : List Str := ["script", "pen", "turn", "raws", "plan", "raw", "strange", "few", "a_ticks", "a_name"]
def T_law : DL.T := (.seq (.set 1 (.call 26 (.cons (.var 0) .nil)))
  (.seq (.for (.tname 2) (.rng1 (.bin .add (.int 3) (.bi .min2 (.cons (.int 7) (.cons (.bi .len (.cons (.var 0) .nil)) .nil)))))
  (.seq (.set 3 (.call 27 (.cons (.var 1) (.cons (.int 8) (.cons (.bin .add (.int 4) (.call 0 (.cons (.var 1) (.cons (.int 12) .nil)))) .nil)))))
  (.seq (.set 4 (.call 28 (.cons (.var 3) .nil)))
  (.seq (.for (.tname 5) (.it (.var 3))
  (.seq (.set 7 (.lst (.cons (.int 0) (.cons (.call 0 (.cons (.var 1) (.cons (.int 30) .nil))) (.cons (.call 0 (.cons (.var 1) (.cons (.int 400) .nil))) (.cons (.bin .mul (.call 0 (.cons (.var 1) (.cons (.bin .pow (.int 10) (.int 6)) .nil))) (.bin .pow (.int 10) (.int 6))) .nil))))))
  (.for (.tname 8) (.it (.var 7))
  (.cond (.cmp .ne (.call 24 (.cons (.var 4) (.cons (.idx (.var 5) (.int 0)) (.cons (.var 8) .nil)))) (.call 29 (.cons (.var 3) (.cons (.idx (.var 5) (.int 0)) (.cons (.var 8) .nil))))) (.ret (.bl false)) .skip))))
  (.seq (.set 6 (.idx (.comp [9] (.tname 9) (.it (.call 2 (.cons (.var 1) (.cons (.int 25) .nil)))) (.cons (.cmp .notin (.var 9) (.comp [5] (.tname 5) (.it (.var 3)) .nil (.idx (.var 5) (.int 0)))) .nil) (.var 9)) (.int 0)))
  (.cond (.not (.call 30 (.cons (.var 4) (.cons (.var 6) .nil)))) (.ret (.bl false)) .skip))))))
  (.ret (.cmp .eq (.callK 31 (.cons (.call 28 (.cons (.var 3) .nil)) .nil) (.cons (.int 7) (.cons (.idx (.idx (.var 3) (.int 0)) (.int 0)) .nil))) (.call 29 (.cons (.var 3) (.cons (.idx (.idx (.var 3) (.int 0)) (.int 0)) (.cons (.int 7) .nil))))))))
abbrev k_law : Kt := ⟨n_law, defScope s_law, fun _ => true⟩
theorem w_law (Z : Facts ⟨P, w, K, mg, base, tab, N⟩) (e_0 : FnI ⟨P, w, K, mg, base, tab, N⟩ 1 "_law_draw" 2 (spN 0)) (e_28 : FnI ⟨P, w, K, mg, base, tab, N⟩ 19 "_law_made" 1 (spN 28)) (e_2 : FnI ⟨P, w, K, mg, base, tab, N⟩ 4 "_law_names" 2 (spN 2)) (e_26 : FnI ⟨P, w, K, mg, base, tab, N⟩ 1 "_law_pen" 1 (spN 26)) (e_27 : FnI ⟨P, w, K, mg, base, tab, N⟩ 10 "_law_raws" 3 (spN 27)) (e_29 : FnI ⟨P, w, K, mg, base, tab, N⟩ 7 "_law_side" 3 (spN 29)) (e_30 : FnI ⟨P, w, K, mg, base, tab, N⟩ 19 "_law_strange" 2 (spN 30)) (e_31 : FnKI ⟨P, w, K, mg, base, tab, N⟩ 10 "right_side" 1 ["ticks", "name"] (spN 31)) (e_24 : FnI ⟨P, w, K, mg, base, tab, N⟩ 10 "right_side" 3 (spN 24)) {A : Around} (hr : Room 21 A) : HSs ⟨P, w, K, mg, base, tab, N⟩ A k_law (defBody s_law) T_law :=
  (ss_cons (x_set 1 (by decide +kernel) (fun _ => rfl) (e_26 A _ _ _ _ _ _ (hr.mono (by decide)) rfl rfl (by decide +kernel) (fun z => (nomatch z)) rfl (a_cons rfl (v_ 0 (by decide +kernel)) a_nil)))
  (ss_cons (s_for (fun _ _ => rfl) (i_rng1 Z.z_range (by decide +kernel) rfl (h_bin .add rfl h_int (h_min2 Z.z_min (by decide +kernel) rfl rfl h_int (h_len Z.z_len (by decide +kernel) rfl (v_ 0 (by decide +kernel)))))) (g_ 2 (by decide +kernel))
  (ss_cons (x_set 3 (by decide +kernel) (fun _ => rfl) (e_27 A _ _ _ _ _ _ (hr.mono (by decide)) rfl rfl (by decide +kernel) (fun z => (nomatch z)) rfl (a_cons rfl (v_ 1 (by decide +kernel)) (a_cons rfl h_int (a_cons rfl (h_bin .add rfl h_int (e_0 A _ _ _ _ _ _ (hr.mono (by decide)) rfl rfl (by decide +kernel) (fun z => (nomatch z)) rfl (a_cons rfl (v_ 1 (by decide +kernel)) (a_cons rfl h_int a_nil)))) a_nil)))))
  (ss_cons (x_set 4 (by decide +kernel) (fun _ => rfl) (e_28 A _ _ _ _ _ _ (hr.mono (by decide)) rfl rfl (by decide +kernel) (fun z => (nomatch z)) rfl (a_cons rfl (v_ 3 (by decide +kernel)) a_nil)))
  (ss_cons (s_for (fun _ _ => rfl) (i_seq (v_ 3 (by decide +kernel))) (g_ 5 (by decide +kernel))
  (ss_cons (x_set 7 (by decide +kernel) (fun _ => rfl) (HO.he (o_lst (a_cons rfl h_int (a_cons rfl (e_0 A _ _ _ _ _ _ (hr.mono (by decide)) rfl rfl (by decide +kernel) (fun z => (nomatch z)) rfl (a_cons rfl (v_ 1 (by decide +kernel)) (a_cons rfl h_int a_nil))) (a_cons rfl (e_0 A _ _ _ _ _ _ (hr.mono (by decide)) rfl rfl (by decide +kernel) (fun z => (nomatch z)) rfl (a_cons rfl (v_ 1 (by decide +kernel)) (a_cons rfl h_int a_nil))) (a_cons rfl (h_bin .mul rfl (e_0 A _ _ _ _ _ _ (hr.mono (by decide)) rfl rfl (by decide +kernel) (fun z => (nomatch z)) rfl (a_cons rfl (v_ 1 (by decide +kernel)) (a_cons rfl (h_bin .pow rfl h_int h_int) a_nil))) (h_bin .pow rfl h_int h_int)) a_nil)))))))
  (ss_one (s_for (fun _ _ => rfl) (i_seq (v_ 7 (by decide +kernel))) (g_ 8 (by decide +kernel))
  (ss_one (s_if (t_cmp .ne rfl rfl (e_24 A _ _ _ _ _ _ (hr.mono (by decide)) rfl rfl (by decide +kernel) (fun z => (nomatch z)) rfl (a_cons rfl (v_ 4 (by decide +kernel)) (a_cons rfl (h_idx (fun _ _ => rfl) (v_ 5 (by decide +kernel)) h_int) (a_cons rfl (v_ 8 (by decide +kernel)) a_nil)))) (e_29 A _ _ _ _ _ _ (hr.mono (by decide)) rfl rfl (by decide +kernel) (fun z => (nomatch z)) rfl (a_cons rfl (v_ 3 (by decide +kernel)) (a_cons rfl (h_idx (fun _ _ => rfl) (v_ 5 (by decide +kernel)) h_int) (a_cons rfl (v_ 8 (by decide +kernel)) a_nil)))))
  (ss_one (s_ret h_bl)) ss_nil))))))
  (ss_cons (x_set 6 (by decide +kernel) (fun _ => rfl) (h_idx (fun _ _ => rfl) (HO.he (o_comp [("a_name", 9)] ⟨(by decide +kernel), (by decide +kernel)⟩ (fun _ _ => rfl) (i_seq (e_2 A _ _ _ _ _ _ (hr.mono (by decide)) rfl rfl (by decide +kernel) (fun z => (nomatch z)) rfl (a_cons rfl (v_ 1 (by decide +kernel)) (a_cons rfl h_int a_nil)))) (g_ 9 (by decide +kernel)) (c_one (t_cmp .notin rfl rfl (v_ 9 (by decide +kernel)) (HO.he (o_comp [("raw", 5)] ⟨(by decide +kernel), (by decide +kernel)⟩ (fun _ _ => rfl) (i_seq (v_ 3 (by decide +kernel))) (g_ 5 (by decide +kernel)) c_nil (h_idx (fun _ _ => rfl) (v_ 5 (by decide +kernel)) h_int))))) (v_ 9 (by decide +kernel)))) h_int))
  (ss_one (s_if (t_not (t_val (fun _ _ => rfl) (e_30 A _ _ _ _ _ _ (hr.mono (by decide)) rfl rfl (by decide +kernel) (fun z => (nomatch z)) rfl (a_cons rfl (v_ 4 (by decide +kernel)) (a_cons rfl (v_ 6 (by decide +kernel)) a_nil)))))
  (ss_one (s_ret h_bl)) ss_nil)))))))
  (ss_one (s_ret (h_cmp .eq rfl rfl (e_31 A _ _ _ _ _ _ _ _ (hr.mono (by decide)) rfl rfl rfl (by decide +kernel) rfl rfl rfl (a_cons rfl (e_28 A _ _ _ _ _ _ (hr.mono (by decide)) rfl rfl (by decide +kernel) (fun z => (nomatch z)) rfl (a_cons rfl (v_ 3 (by decide +kernel)) a_nil)) a_nil) (k_cons h_int (k_cons (h_idx (fun _ _ => rfl) (h_idx (fun _ _ => rfl) (v_ 3 (by decide +kernel)) h_int) h_int) k_nil))) (e_29 A _ _ _ _ _ _ (hr.mono (by decide)) rfl rfl (by decide +kernel) (fun z => (nomatch z)) rfl (a_cons rfl (v_ 3 (by decide +kernel)) (a_cons rfl (h_idx (fun _ _ => rfl) (h_idx (fun _ _ => rfl) (v_ 3 (by decide +kernel)) h_int) h_int) (a_cons rfl h_int a_nil)))))))))
end
end LawW

set_option Elab.async false
set_option linter.all false
set_option maxRecDepth 100000
namespace LawW
open PySem L2 DL
/-! ### small ones -/
theorem wide_ok {n g : Int} (h1 : 0 < g) (h2 : g < LIM) (h3 : -(3 * 1267650600228229401496703205376) < n) (h4 : n < 3 * 1267650600228229401496703205376) : (n + g - 1).natAbs < 2 ^ 200 ∧ g < 2 ^ 200 := by
  unfold LIM at h2
  have e1 : (2 : Nat) ^ 200 = 1606938044258990275541962092341162602522202993782792835301376 := by decide +kernel
  have e2 : (2 : Int) ^ 200 = 1606938044258990275541962092341162602522202993782792835301376 := by decide +kernel
  rw [e1, e2]
  omega
theorem fit_times_up : Fits tab 2 T_times_up spTimesUp := by
  rintro ds M Q ⟨n, g, rfl, h1, h2, h3, h4, q⟩
  conv => whnf
  exact ⟨⟨h1, .inr (wide_ok h1 h2 h3 h4)⟩, q⟩
theorem fit_is_whole : Fits tab 2 T_is_whole spIsWhole := by
  rintro ds M Q ⟨i, l, rfl, q⟩
  conv => whnf
  refine ⟨true, isi1 rfl k_ii, true, rfl, ?_⟩
  conv => whnf
  refine ⟨false, isi1 rfl k_ib, false, rfl, true, rfl, ?_⟩
  conv => whnf
  exact q
theorem fit_written : Fits tab 4 T_written_place spWritten := by
  rintro ds M Q ⟨a, rfl, q⟩
  repeat ((conv => whnf); first | refine ⟨szL (by simp; done), ?_⟩ | refine ⟨_, rfl, ?_⟩ | refine ⟨rfl, ?_⟩)
  conv => whnf
  exact q
theorem fit_within : Fits tab 2 T_lies_within spWithin := by
  rintro ds M Q ⟨a, b, rfl, q⟩
  repeat ((conv => whnf); first | refine ⟨szL (by simp; done), ?_⟩ | refine ⟨_, rfl, ?_⟩ | refine ⟨rfl, ?_⟩)
  conv => whnf
  by_cases h : b.s ≤ a.s
  · rw [ibT (decide_eq_true h)]
    repeat ((conv => whnf); first | refine ⟨szL (by simp; done), ?_⟩ | refine ⟨_, rfl, ?_⟩ | refine ⟨rfl, ?_⟩)
    conv => whnf
    have e : decide (within a b) = decide (a.s + a.l ≤ b.s + b.l) := by
      by_cases h2 : a.s + a.l ≤ b.s + b.l
      · rw [decide_eq_true h2]; exact decide_eq_true ⟨h, h2⟩
      · rw [decide_eq_false h2]; exact decide_eq_false fun z => h2 z.2
    rw [e] at q
    exact q
  · rw [ibF (by rw [decide_eq_false h]; exact Bool.false_ne_true)]
    have e : decide (within a b) = false := decide_eq_false fun z => h z.1
    rw [e] at q
    conv => whnf
    exact q
theorem str_size {s : Str} (h : NmS s) : s.length ≤ 1000 := by
  have := h.2.1
  have e : s.length = s.cps.toList.length := by rw [Array.length_toList]; rfl
  omega
theorem fit_go : Fits tab 2 T_go_together spGo := by
  rintro ds M Q ⟨a, b, rfl, na, nb, h, q⟩
  repeat ((conv => whnf); first | refine ⟨szL (by simp; done), ?_⟩ | refine ⟨_, rfl, ?_⟩ | refine ⟨rfl, ?_⟩)
  conv => whnf
  by_cases h1 : a.s + a.l ≤ b.s
  · rw [ibT (decide_eq_true h1)]
    repeat ((conv => whnf); first | refine ⟨szL (by simp; done), ?_⟩ | refine ⟨_, rfl, ?_⟩ | refine ⟨rfl, ?_⟩)
    conv => whnf
    exact q
  rw [ibF (by rw [decide_eq_false h1]; exact Bool.false_ne_true)]
  repeat ((conv => whnf); first | refine ⟨szL (by simp; done), ?_⟩ | refine ⟨_, rfl, ?_⟩ | refine ⟨rfl, ?_⟩)
  conv => whnf
  by_cases h2 : b.s + b.l ≤ a.s
  · rw [ibT (decide_eq_true h2)]
    conv => whnf
    exact q
  rw [ibF (by rw [decide_eq_false h2]; exact Bool.false_ne_true)]
  have h3 : a.k ≠ b.k ∧ (within a b ∨ within b a) := by
    rcases h with h | h | h
    · exact absurd h h1
    · exact absurd h h2
    · exact h
  repeat ((conv => whnf); first | refine ⟨szL (by simp; done), ?_⟩ | refine ⟨_, rfl, ?_⟩ | refine ⟨rfl, ?_⟩)
  conv => whnf
  have e1 : (!deq (.str a.k) (.str b.k)) = true := by
    show (!decide (a.k = b.k)) = true
    rw [decide_eq_false h3.1]; rfl
  refine it_ e1 ?_
  conv => whnf
  refine ⟨a, b, rfl, ?_⟩
  refine ⟨_, rfl, ?_⟩
  by_cases h4 : within a b
  · rw [ibT (decide_eq_true h4)]
    conv => whnf
    exact q
  rw [ibF (by rw [decide_eq_false h4]; exact Bool.false_ne_true)]
  conv => whnf
  refine ⟨b, a, rfl, ?_⟩
  have h5 : within b a := h3.2.resolve_left h4
  rw [decide_eq_true h5]
  conv => whnf
  exact q
theorem in_letters : ∀ c : Nat, LetOk c → (!(Builtin.Str.occurrences (Str.ofString "abcdefghijklmnopqrstuvwxyz") ⟨#[c]⟩ 0 (Str.ofString "abcdefghijklmnopqrstuvwxyz").length 1).isEmpty) = true := by
  intro c h
  have e : c ∈ (List.range 26).map (· + 97) := List.mem_map.mpr ⟨c - 97, List.mem_range.mpr (by have := h.1; have := h.2; omega), by have := h.1; omega⟩
  have all : ((List.range 26).map (· + 97)).all (fun c => !(Builtin.Str.occurrences (Str.ofString "abcdefghijklmnopqrstuvwxyz") ⟨#[c]⟩ 0 (Str.ofString "abcdefghijklmnopqrstuvwxyz").length 1).isEmpty) = true := by decide +kernel
  exact List.all_eq_true.mp all c e
theorem all_true : ∀ {n : Nat}, (List.replicate n true).all id = true
  | 0 => rfl
  | n + 1 => by rw [List.replicate_succ, List.all_cons, all_true]; rfl
theorem fit_is_name : Fits tab 2 T_is_name spIsName := by
  rintro ds M Q ⟨s, rfl, h, q⟩
  have z := str_size h
  have e : s.length = s.cps.toList.length := by rw [Array.length_toList]; rfl
  conv => whnf
  refine ⟨true, isi1 rfl k_ss, true, rfl, false, rfl, ?_⟩
  repeat ((conv => whnf); first | refine ⟨szL (by simp; done), ?_⟩ | refine ⟨_, rfl, ?_⟩ | refine ⟨rfl, ?_⟩)
  conv => whnf
  refine ⟨szL z, ?_⟩
  conv => whnf
  have h1 : (1 : Int) ≤ (s.length : Int) := by have := h.1; omega
  have h2 : ((s.length : Nat) : Int) ≤ 12 := by have := h.2.1; omega
  rw [ibT (decide_eq_true h1)]
  conv => whnf
  refine ⟨_, rfl, ?_⟩
  have e2 : (!decide (((s.length : Nat) : Int) ≤ 12)) = false := by rw [decide_eq_true h2]; rfl
  refine ⟨_, rfl, ?_⟩
  rw [ibF (by show ¬ (!decide (((s.length : Nat) : Int) ≤ 12)) = true; rw [e2]; exact Bool.false_ne_true)]
  conv => whnf
  refine ⟨_, rfl, szL z, fun _ => ?_⟩
  refine compL_map (fun _ => .bl true) (fun d hd K k => ?_) ?_
  · obtain ⟨c, hc, rfl⟩ := List.mem_map.mp hd
    repeat ((conv => whnf); first | refine ⟨szL (by simp; done), ?_⟩ | refine ⟨_, rfl, ?_⟩ | refine ⟨rfl, ?_⟩)
    conv => whnf
    have k2 := in_letters c (h.2.2 c hc)
    rw [← k2] at k
    exact k
  · conv => whnf
    refine ⟨_, List.replicate s.cps.toList.length true, rfl, ?_, ?_⟩
    · rw [List.map_map, List.map_replicate]
      show s.cps.toList.map (fun _ => DL.D.bl true) = _
      rw [List.map_const']
    · rw [all_true]
      exact q
end LawW

set_option Elab.async false
set_option linter.all false
set_option maxRecDepth 100000
namespace LawW
open PySem L2 DL
theorem fit_is_section : Fits tab 5 T_is_section spIsSection := by
  rintro ds M Q ⟨a, m, rfl, h, q⟩
  conv => whnf
  refine ⟨true, isi1 rfl k_tt, true, rfl, false, rfl, ?_⟩
  repeat ((conv => whnf); first | refine ⟨szL (by simp; done), ?_⟩ | refine ⟨_, rfl, ?_⟩ | refine ⟨rfl, ?_⟩)
  refine ⟨_, _, rfl, ?_⟩
  rw [decide_eq_true h.s0]
  repeat ((conv => whnf); first | refine ⟨szL (by simp; done), ?_⟩ | refine ⟨_, rfl, ?_⟩ | refine ⟨rfl, ?_⟩)
  refine ⟨⟨rfl, rfl⟩, _, _, rfl, ?_⟩
  rw [decide_eq_true h.l1]
  repeat ((conv => whnf); first | refine ⟨szL (by simp; done), ?_⟩ | refine ⟨_, rfl, ?_⟩ | refine ⟨rfl, ?_⟩)
  refine ⟨h.nm, ?_⟩
  repeat ((conv => whnf); first | refine ⟨szL (by simp; done), ?_⟩ | refine ⟨_, rfl, ?_⟩ | refine ⟨rfl, ?_⟩)
  conv => whnf
  have q' := q
  rw [← decide_eq_true h.fit] at q'
  exact q'
theorem seq3 {x : Sec} : itemsOf (dSec x) = some [.int x.s, .int x.l, .str x.k] := rfl
theorem take_drop_pw {α : Type} {R : α → α → Prop} : ∀ {xs : List α} {i j : Nat} {a b : α}, xs.Pairwise R → j < i → xs[i]? = some a → xs[j]? = some b → R b a := by
  intro xs i j a b h hij ha hb
  obtain ⟨h1, e1⟩ := List.getElem?_eq_some_iff.mp ha
  obtain ⟨h2, e2⟩ := List.getElem?_eq_some_iff.mp hb
  have := List.pairwise_iff_getElem.mp h j i h2 h1 hij
  rw [e1, e2] at this
  exact this
theorem Together.symm {a b : Sec} (h : Together a b) : Together b a := by
  rcases h with h | h | ⟨h1, h2⟩
  · exact .inr (.inl h)
  · exact .inl h
  · exact .inr (.inr ⟨fun z => h1 z.symm, h2.symm⟩)
/-- a comprehension in a comprehension: by an invariant -/
theorem compM_inv {bd : DL.D → List DL.D → Mem → (List DL.D → Mem → Prop) → Prop} {Q : List DL.D → Mem → Prop} {M : Mem} (I : Nat → List DL.D → Prop) : ∀ {ds acc : List DL.D} {n : Nat}, I n acc → (∀ j d acc (K : List DL.D → Mem → Prop), ds[j]? = some d → I (n + j) acc → (∀ acc', I (n + j + 1) acc' → K acc' M) → bd d acc M K) → (∀ acc, I (n + ds.length) acc → Q acc M) → compM bd ds acc M Q
  | [], acc, n, i, _, done => by rw [compM_nilE]; exact done acc i
  | d :: ds, acc, n, i, step, done => by
    rw [compM_consE]
    exact step 0 d acc _ rfl i fun acc' i' => compM_inv I (n := n + 1) i' (fun j d' acc K h q k => by
      have e : n + 1 + j = n + (j + 1) := by omega
      rw [e] at q k
      exact step (j + 1) d' acc K (by simpa using h) q k) fun acc q => done acc (by
        have e : n + 1 + ds.length = n + (d :: ds).length := by rw [List.length_cons]; omega
        rwa [e] at q)
theorem cut_take {α : Type} {ds : List α} {i : Nat} (h : i ≤ ds.length) : cutD ds none (some (i : Int)) = ds.take i := by
  unfold cutD
  rw [HT.sIx_none, HT.sIx_nat, Nat.min_eq_left h]
  simp
theorem cut_drop {α : Type} {ds : List α} {i : Nat} (h : i ≤ ds.length) : cutD ds (some (i : Int)) none = ds.drop i := by
  unfold cutD
  rw [HT.sIx_none, HT.sIx_nat, Nat.min_eq_left h, List.take_of_length_le (by simp)]
theorem rng_get {n : Nat} {j : Nat} {d : DL.D} (h : ((List.range n).map fun k => DL.D.int (k : Nat))[j]? = some d) : j < n ∧ d = .int (j : Nat) := by
  rw [List.getElem?_map] at h
  by_cases hj : j < n
  · rw [List.getElem?_range hj] at h
    exact ⟨hj, (Option.some.inj h).symm⟩
  · rw [List.getElem?_eq_none (by simpa using hj)] at h
    cases h
theorem fit_are_sections : Fits tab 5 T_are_sections spAreSections := by
  rintro ds M Q ⟨xs, m, rfl, h1, h2, hz, q⟩
  conv => whnf
  refine ⟨true, isi2 rfl k_tt, true, rfl, false, rfl, ?_⟩
  conv => whnf
  refine ⟨_, rfl, trivial, fun _ => ?_⟩
  refine compL_map (fun _ => .bl true) (fun d hd K k => ?_) ?_
  · obtain ⟨x, hx, rfl⟩ := List.mem_map.mp hd
    conv => whnf
    refine ⟨rfl, x, m, rfl, h1 x hx, ?_⟩
    conv => whnf
    exact ⟨rfl, k⟩
  conv => whnf
  refine ⟨_, List.replicate xs.length true, rfl, ?_, ?_⟩
  · rw [List.map_map, List.map_replicate]
    show xs.map (fun _ => DL.D.bl true) = _
    rw [List.map_const']
  rw [all_true]
  conv => whnf
  refine ⟨_, rfl, ?_⟩
  conv => whnf
  refine ⟨_, rfl, ?_⟩
  refine if_ rfl ?_
  have hl : (xs.map dSec).length = xs.length := by rw [List.length_map]
  conv => whnf
  refine ⟨_, rfl, ?_⟩
  conv => whnf
  refine ⟨_, rfl, ⟨by omega, by omega⟩, ?_⟩
  rw [Int.toNat_natCast, hl]
  refine compM_inv (fun j acc => ∃ n, acc = List.replicate n (.bl true) ∧ n ≤ 8 * j) (n := 0) ⟨0, rfl, Nat.zero_le _⟩ (fun j d acc K hd ⟨n, e, hn⟩ k => ?_) fun acc ⟨n, e, hn⟩ => ?_
  · obtain ⟨hj, rfl⟩ := rng_get hd
    rw [Nat.zero_add] at hn k
    subst e
    conv => whnf
    refine ⟨rfl, ?_⟩
    conv => whnf
    refine ⟨_, rfl, ?_⟩
    conv => whnf
    refine ⟨_, rfl, trivial, fun _ => ⟨rfl, ?_, ?_⟩⟩
    · rw [cut_take (by omega), List.length_replicate, List.length_take, sizeLine_eq]
      have := Nat.min_le_right j (xs.map dSec).length
      omega
    rw [cut_take (by omega)]
    refine compL_pure (fun _ => some (.bl true)) (fun d hd K' k' => ?_) ?_
    · obtain ⟨i, hi⟩ := List.mem_iff_getElem?.mp hd
      rw [List.getElem?_take] at hi
      split at hi
      · rename_i hij
        rw [List.getElem?_map] at hi
        cases e2 : xs[i]? with
        | none => rw [e2] at hi; cases hi
        | some y =>
          rw [e2] at hi
          obtain rfl : dSec y = d := Option.some.inj hi
          obtain ⟨x, hx⟩ : ∃ x, xs[j]? = some x := ⟨_, List.getElem?_eq_getElem hj⟩
          conv => whnf
          refine ⟨rfl, ?_⟩
          conv => whnf
          refine ⟨dSec x, atI_nat (by rw [List.getElem?_map, hx]; rfl), ?_⟩
          have mx : x ∈ xs := List.mem_of_getElem? hx
          have my : y ∈ xs := List.mem_of_getElem? e2
          refine ⟨x, y, rfl, (h1 x mx).nm, (h1 y my).nm, (take_drop_pw h2 hij hx e2).symm, ?_⟩
          exact ⟨rfl, k'⟩
      · cases hi
    · refine k _ ⟨n + j, ?_, by omega⟩
      have e3 : (List.take j (xs.map dSec)).filterMap (fun _ => some (DL.D.bl true)) = List.replicate j (.bl true) := by
        rw [List.filterMap_eq_map']
        rw [List.map_const', List.length_take, hl, Nat.min_eq_left (Nat.le_of_lt hj)]
      rw [e3, List.replicate_append_replicate]
  · subst e
    conv => whnf
    refine ⟨_, List.replicate n true, rfl, by rw [List.map_replicate], ?_⟩
    rw [all_true]
    exact q
end LawW

set_option Elab.async false
set_option linter.all false
set_option maxRecDepth 100000
namespace LawW
open PySem L2 DL
theorem fit_bad_part : Fits tab 9 T_bad_part spBadPart := by
  rintro ds M Q ⟨r, rfl, h, q⟩
  conv => whnf
  refine ⟨_, rfl, h.nm, ?_⟩
  repeat ((conv => whnf); first | refine ⟨szL (by simp; done), ?_⟩ | refine ⟨_, rfl, ?_⟩ | refine ⟨rfl, ?_⟩)
  refine ⟨trivial, fun _ => ?_⟩
  have e1 : decide ((1 : Int) ≤ r.rk) = true := decide_eq_true h.rk1
  have e2 : decide ((1 : Int) ≤ r.gap) = true := decide_eq_true h.gap1
  have e3 : decide ((1 : Int) ≤ r.mst) = true := decide_eq_true h.mst1
  have e4 : decide ((1 : Int) ≤ r.due) = true := decide_eq_true h.due1
  have e5 : decide (r.due ≤ r.gap) = true := decide_eq_true h.dueG
  have e6 : decide ((0 : Int) ≤ r.wt) = true := decide_eq_true h.wt0
  repeat ((conv => whnf); first | refine ⟨szL (by simp; done), ?_⟩ | refine ⟨_, rfl, ?_⟩ | refine ⟨rfl, ?_⟩)
  conv => whnf
  rw [forL_consE]
  repeat ((conv => whnf); first | refine ⟨szL (by simp; done), ?_⟩ | refine ⟨_, rfl, ?_⟩ | refine ⟨rfl, ?_⟩)
  refine ⟨⟨rfl, rfl⟩, _, _, rfl, ?_⟩
  rw [e1]
  repeat ((conv => whnf); first | refine ⟨szL (by simp; done), ?_⟩ | refine ⟨_, rfl, ?_⟩ | refine ⟨rfl, ?_⟩)
  conv => whnf
  rw [forL_consE]
  repeat ((conv => whnf); first | refine ⟨szL (by simp; done), ?_⟩ | refine ⟨_, rfl, ?_⟩ | refine ⟨rfl, ?_⟩)
  refine ⟨⟨rfl, rfl⟩, _, _, rfl, ?_⟩
  rw [e2]
  repeat ((conv => whnf); first | refine ⟨szL (by simp; done), ?_⟩ | refine ⟨_, rfl, ?_⟩ | refine ⟨rfl, ?_⟩)
  conv => whnf
  rw [forL_consE]
  repeat ((conv => whnf); first | refine ⟨szL (by simp; done), ?_⟩ | refine ⟨_, rfl, ?_⟩ | refine ⟨rfl, ?_⟩)
  refine ⟨⟨rfl, rfl⟩, _, _, rfl, ?_⟩
  rw [e3]
  repeat ((conv => whnf); first | refine ⟨szL (by simp; done), ?_⟩ | refine ⟨_, rfl, ?_⟩ | refine ⟨rfl, ?_⟩)
  conv => whnf
  rw [forL_nilE]
  repeat ((conv => whnf); first | refine ⟨szL (by simp; done), ?_⟩ | refine ⟨_, rfl, ?_⟩ | refine ⟨rfl, ?_⟩)
  refine ⟨⟨rfl, rfl⟩, _, _, rfl, ?_⟩
  rw [e4]
  repeat ((conv => whnf); first | refine ⟨szL (by simp; done), ?_⟩ | refine ⟨_, rfl, ?_⟩ | refine ⟨rfl, ?_⟩)
  refine if_ (by rw [e5]; rfl) ?_
  repeat ((conv => whnf); first | refine ⟨szL (by simp; done), ?_⟩ | refine ⟨_, rfl, ?_⟩ | refine ⟨rfl, ?_⟩)
  refine ⟨_, _, rfl, ?_⟩
  rw [e6]
  repeat ((conv => whnf); first | refine ⟨szL (by simp; done), ?_⟩ | refine ⟨_, rfl, ?_⟩ | refine ⟨rfl, ?_⟩)
  refine ⟨r.secs, r.mst, rfl, h.secs, h.tog, h.few, ?_⟩
  repeat ((conv => whnf); first | refine ⟨szL (by simp; done), ?_⟩ | refine ⟨_, rfl, ?_⟩ | refine ⟨rfl, ?_⟩)
  conv => whnf
  exact q
theorem putAt_new {cfs : Nat → List Nat} {M : Mem} {a : Addr} {f c : Nat} {fs : List DL.D} {x : DL.D} {P : Mem → Prop} (h : M a = some (.obj c fs)) (hf : posOf (cfs c) f = some fs.length) (q : P (updM M a (.obj c (fs ++ [x])))) : DL.putAt cfs M a f x P := by
  unfold DL.putAt
  rw [h]
  exact ⟨_, hf, .inr ⟨rfl, q⟩⟩
theorem updM_updM {M : Mem} {a : Addr} {o u : MO} : updM (updM M a o) a u = updM M a u := by
  funext b
  by_cases hb : b = a
  · subst hb; rw [updM_same, updM_same]
  · rw [updM_ne hb, updM_ne hb, updM_ne hb]
def keyW : DL.D → DL.D
  | .tup [.int s, .int l, k] => .tup [.int s, .int (-l), k]
  | d => d
theorem keyW_sec (x : Sec) : keyW (dSec x) = wrt x := rfl
theorem map_keyW (xs : List Sec) : (xs.map dSec).map keyW = xs.map wrt := by rw [List.map_map]; rfl
theorem cps_lt {s : Str} (h : NmS s) : s.cps.all (· < 1114112) = true := by
  rw [← Array.all_toList, List.all_eq_true]
  intro c hc
  have := (h.2.2 c hc).2
  exact decide_eq_true (by omega)
theorem dats_all : ∀ {ds : List DL.D}, (∀ d ∈ ds, dat d = true) → dats ds = true
  | [], _ => by unfold dats; rfl
  | d :: ds, h => by unfold dats; rw [h d (List.mem_cons_self ..), dats_all fun x m => h x (List.mem_cons_of_mem _ m)]; rfl
theorem deps_all : ∀ {ds : List DL.D} {n : Nat}, (∀ d ∈ ds, dep d ≤ n) → deps ds ≤ n
  | [], n, _ => by unfold deps; exact Nat.zero_le _
  | d :: ds, n, h => by unfold deps; exact Nat.max_le.mpr ⟨h d (List.mem_cons_self ..), deps_all fun x m => h x (List.mem_cons_of_mem _ m)⟩
theorem sortOk_wrt {xs : List Sec} (h : ∀ x ∈ xs, NmS x.k) (hz : xs.length < 64) : SortOk (xs.map wrt) := by
  have py_wrt : ∀ x : Sec, py (wrt x) = .tuple [.int x.s, .int (-x.l), .str x.k] := fun x => by
    unfold wrt
    simp only [py, pys]
  refine ⟨by rw [List.length_map]; exact hz, dats_all fun d m => ?_, deps_all (n := 60) fun d m => ?_, fun d m d' m' => ?_, .inl fun d m => ?_⟩
  · obtain ⟨x, hx, rfl⟩ := List.mem_map.mp m
    unfold wrt
    simp only [dat, dats, cps_lt (h x hx), Bool.and_self]
  · obtain ⟨x, hx, rfl⟩ := List.mem_map.mp m
    unfold wrt
    simp only [dep, deps]
    decide
  · rw [pys_map, List.map_map] at m m'
    obtain ⟨x, hx, rfl⟩ := List.mem_map.mp m
    obtain ⟨y, hy, rfl⟩ := List.mem_map.mp m'
    show PySem.W.alike (py (wrt x)) (py (wrt y)) = true
    rw [py_wrt, py_wrt]
    simp only [PySem.W.alike, PySem.W.alikeAll, Bool.and_self]
  · rw [pys_map, List.map_map] at m
    obtain ⟨x, hx, rfl⟩ := List.mem_map.mp m
    exact ⟨_, _, py_wrt x⟩
def srt (xs : List Sec) : List Sec := xs.mergeSort fun a b => leD (wrt a) (wrt b)
theorem srt_map (xs : List Sec) : ((xs.map dSec).mergeSort fun a b => leD (keyW a) (keyW b)) = (srt xs).map dSec := by
  unfold srt
  exact (List.map_mergeSort (r := fun a b => leD (wrt a) (wrt b)) (s := fun a b => leD (keyW a) (keyW b)) (f := dSec) fun a _ b _ => rfl).symm
theorem fit_task_init : Fits tab 9 T_Task___init__ spTaskInit := by
  rintro ds M Q ⟨a, r, rfl, hM, h, q⟩
  conv => whnf
  refine ⟨r, rfl, h, ?_⟩
  repeat ((conv => whnf); first | refine ⟨szL (by simp; done), ?_⟩ | refine ⟨_, rfl, ?_⟩ | refine ⟨rfl, ?_⟩)
  refine putAt_new hM rfl ?_
  repeat ((conv => whnf); first | refine ⟨szL (by simp; done), ?_⟩ | refine ⟨_, rfl, ?_⟩ | refine ⟨rfl, ?_⟩)
  refine putAt_new updM_same rfl ?_
  rw [updM_updM]
  repeat ((conv => whnf); first | refine ⟨szL (by simp; done), ?_⟩ | refine ⟨_, rfl, ?_⟩ | refine ⟨rfl, ?_⟩)
  refine putAt_new updM_same rfl ?_
  rw [updM_updM]
  repeat ((conv => whnf); first | refine ⟨szL (by simp; done), ?_⟩ | refine ⟨_, rfl, ?_⟩ | refine ⟨rfl, ?_⟩)
  refine putAt_new updM_same rfl ?_
  rw [updM_updM]
  repeat ((conv => whnf); first | refine ⟨szL (by simp; done), ?_⟩ | refine ⟨_, rfl, ?_⟩ | refine ⟨rfl, ?_⟩)
  refine putAt_new updM_same rfl ?_
  rw [updM_updM]
  repeat ((conv => whnf); first | refine ⟨szL (by simp; done), ?_⟩ | refine ⟨_, rfl, ?_⟩ | refine ⟨rfl, ?_⟩)
  refine putAt_new updM_same rfl ?_
  rw [updM_updM]
  conv => whnf
  refine ⟨_, keyW, rfl, ?_, fun e he => ?_, ?_⟩
  · rw [map_keyW]
    exact sortOk_wrt (fun x hx => (h.secs x hx).nm) (by have := h.few; omega)
  · obtain ⟨x, hx, rfl⟩ := List.mem_map.mp he
    exact ⟨x, rfl, rfl, rfl⟩
  rw [srt_map]
  conv => whnf
  refine ⟨_, _, rfl, rfl, ?_⟩
  repeat ((conv => whnf); first | refine ⟨szL (by simp; done), ?_⟩ | refine ⟨_, rfl, ?_⟩ | refine ⟨rfl, ?_⟩)
  refine putAt_new updM_same rfl ?_
  rw [updM_updM]
  exact q { r with secs := srt r.secs } ⟨srt r.secs, List.mergeSort_perm .., rfl⟩
end LawW

set_option Elab.async false
set_option linter.all false
set_option maxRecDepth 100000
namespace LawW
open PySem L2 DL
theorem view_co {M : Mem} {a : Addr} {c : CO} (h : M a = some (.co c)) : view M (.loc a) = c.tree := by
  show (match M a with | some (.co c) => c.tree | _ => DL.D.loc a) = _
  rw [h]
theorem dget_mem : ∀ {ts : List Raw} {r : Raw}, (ts.map (·.nm)).Nodup → r ∈ ts → dget (ts.map fun t => (.inr t.nm : Key)) (ts.map dTask) (.inr r.nm) = some (dTask r)
  | t :: ts, r, nd, h => by
    unfold dget
    rw [List.map_cons, List.map_cons, List.zip_cons_cons, List.find?_cons]
    rcases List.mem_cons.mp h with rfl | h
    · rw [show decide ((Sum.inr r.nm : Key) = .inr r.nm) = true from decide_eq_true rfl]
      rfl
    · rw [List.map_cons, List.nodup_cons] at nd
      have hne : ¬ (Sum.inr t.nm : Key) = .inr r.nm := fun e => nd.1 (by rw [Sum.inr.inj e]; exact List.mem_map.mpr ⟨r, h, rfl⟩)
      rw [show decide ((Sum.inr t.nm : Key) = .inr r.nm) = false from decide_eq_false hne]
      exact dget_mem nd.2 h
theorem fit_plan_task : Fits tab 2 T_Plan_task spPlanTask := by
  rintro ds M Q ⟨pl, ts, r, rfl, ⟨ps, ks, es, rfl, P⟩, hr, q⟩
  conv => whnf
  refine ⟨0, _, rfl, rfl, ?_⟩
  have dg := dget_mem P.nms hr
  conv => whnf
  refine ⟨_, rfl, ?_⟩
  rw [dg]
  repeat ((conv => whnf); first | refine ⟨szL (by simp; done), ?_⟩ | refine ⟨_, rfl, ?_⟩ | refine ⟨rfl, ?_⟩)
  conv => whnf
  refine ⟨0, _, rfl, rfl, ?_⟩
  conv => whnf
  exact ⟨_, _, rfl, dg, q⟩
theorem nm_inj {ts : List Raw} {a b : Raw} (nd : (ts.map (·.nm)).Nodup) (ha : a ∈ ts) (hb : b ∈ ts) (e : a.nm = b.nm) : a = b := by
  induction ts with
  | nil => cases ha
  | cons t ts ih =>
    rw [List.map_cons, List.nodup_cons] at nd
    rcases List.mem_cons.mp ha with ea | ha
    · rcases List.mem_cons.mp hb with eb | hb
      · rw [ea, eb]
      · exact absurd (List.mem_map.mpr ⟨b, hb, by rw [← e, ea]⟩) nd.1
    · rcases List.mem_cons.mp hb with eb | hb
      · exact absurd (List.mem_map.mpr ⟨a, ha, by rw [e, eb]⟩) nd.1
      · exact ih nd.2 ha hb
theorem filterMap_if {α β : Type} {xs : List α} {p : α → Bool} {f : α → β} : xs.filterMap (fun x => if p x then some (f x) else none) = (xs.filter p).map f := by
  induction xs with
  | nil => rfl
  | cons x xs ih =>
    rw [List.filterMap_cons, List.filter_cons]
    cases p x with
    | true => simp [ih]
    | false => simp [ih]
/-- a comprehension over what stands for xs, with a test -/
theorem compL_if {α : Type} {bd : DL.D → Mem → (Option DL.D → Mem → Prop) → Prop} {Q : List DL.D → Mem → Prop} {M : Mem} (g : α → DL.D) (p : α → Bool) (f : α → DL.D) : ∀ {xs : List α} {acc : List DL.D}, (∀ x ∈ xs, ∀ K : Option DL.D → Mem → Prop, K (if p x then some (f x) else none) M → bd (g x) M K) → Q (acc ++ (xs.filter p).map f) M → compL bd (xs.map g) acc M Q
  | [], acc, _, q => by
    have q : Q (acc ++ []) M := q
    rw [List.append_nil] at q
    rw [List.map_nil, compL_nilE]; exact q
  | x :: xs, acc, h, q => by
    rw [List.map_cons, compL_consE]
    refine h x (List.mem_cons_self ..) _ ?_
    rw [List.filter_cons] at q
    cases e : p x with
    | true =>
      rw [e] at q
      exact compL_if (acc := acc ++ [f x]) g p f (fun y m => h y (List.mem_cons_of_mem _ m)) (by simpa using q)
    | false =>
      rw [e] at q
      exact compL_if (acc := acc) g p f (fun y m => h y (List.mem_cons_of_mem _ m)) (by simpa using q)
theorem fit_above : Fits tab 4 T_Plan_above spAbove := by
  rintro ds M Q ⟨pl, ts, r, rfl, hP, hr, q⟩
  obtain ⟨ps, ks, es, rfl, P⟩ := id hP
  conv => whnf
  refine ⟨.inl ⟨_, rfl⟩, ?_⟩
  conv => whnf
  refine ⟨_, ts, r, rfl, hP, hr, ?_⟩
  conv => whnf
  refine ⟨1, _, rfl, rfl, ?_⟩
  conv => whnf
  refine ⟨_, rfl, trivial, fun _ => ?_⟩
  refine compL_if dTask (fun t => decide (t.rk < r.rk)) dTask (fun t m K k => ?_) ?_
  · conv => whnf
    refine ⟨1, _, rfl, rfl, ?_⟩
    conv => whnf
    refine ⟨1, _, rfl, rfl, ?_⟩
    conv => whnf
    refine ⟨_, rfl, rfl, ?_⟩
    refine ic_ (fun h => ?_) fun h => ?_
    · rw [h] at k
      conv => whnf
      exact ⟨rfl, k⟩
    · rw [h] at k
      conv => whnf
      exact k
  · conv => whnf
    exact q _ (P.perm.filter _) (P.sorted.filter _)
end LawW

set_option Elab.async false
set_option linter.all false
set_option maxRecDepth 100000
namespace LawW
open PySem L2 DL
/-! ### sums -/
theorem minL_spec : ∀ {l : List Int}, l ≠ [] → minL l ∈ l ∧ ∀ y ∈ l, minL l ≤ y
  | [], h => absurd rfl h
  | a :: l, _ => foldl_min l a
theorem minL_perm {a b : List Int} (h : a.Perm b) : minL a = minL b := by
  by_cases ha : a = []
  · subst ha
    rw [List.nil_perm.mp h]
  · have hb : b ≠ [] := fun e => ha (by rw [e] at h; exact List.perm_nil.mp h)
    have h1 := minL_spec ha
    have h2 := minL_spec hb
    have e1 := h1.2 _ (h.mem_iff.mpr h2.1)
    have e2 := h2.2 _ (h.mem_iff.mp h1.1)
    omega
theorem ceil_perm {a b : List Raw} (h : a.Perm b) (k : Str) : ceil a k = ceil b k := minL_perm ((h.filter _).map _)
theorem backs_perm {a b : List Raw} (h : a.Perm b) (rk : Int) : (backs a rk).Perm (backs b rk) := by
  unfold backs
  rw [show (fun t : Raw => (t.secs.filter fun s => decide (ceil a s.k ≤ rk)).map fun s => s.l - 1) = fun t : Raw => (t.secs.filter fun s => decide (ceil b s.k ≤ rk)).map fun s => s.l - 1 by
    funext t
    congr 2
    funext s
    rw [ceil_perm h]]
  exact (h.filter _).flatMap_right _
theorem foldl_max_eq {l : List Int} {m : Int} (h1 : m ∈ l) (h2 : ∀ y ∈ l, y ≤ m) (h0 : 0 ≤ m) : l.foldl max 0 = m := by
  obtain ⟨a, b⟩ := foldl_max l 0
  have e1 := b m (List.mem_cons_of_mem _ h1)
  rcases List.mem_cons.mp a with e | e
  · rw [e] at e1 ⊢; omega
  · have := h2 _ e; omega
theorem foldl_max_perm {a b : List Int} (h : a.Perm b) : a.foldl max 0 = b.foldl max 0 := by
  obtain ⟨a1, b1⟩ := foldl_max a 0
  obtain ⟨a2, b2⟩ := foldl_max b 0
  have hh : ∀ x, x ∈ (0 : Int) :: a ↔ x ∈ (0 : Int) :: b := fun x => (List.Perm.cons 0 h).mem_iff
  have e1 := b2 _ ((hh _).mp a1)
  have e2 := b1 _ ((hh _).mpr a2)
  omega
theorem back_perm {a b : List Raw} (h : a.Perm b) (rk : Int) : back a rk = back b rk := foldl_max_perm (backs_perm h rk)
theorem back_nn (ts : List Raw) (rk : Int) : 0 ≤ back ts rk := (foldl_max (backs ts rk) 0).2 0 (List.mem_cons_self ..)
theorem sum_perm {a b : List Int} (h : a.Perm b) : a.sum = b.sum := by
  induction h with
  | nil => rfl
  | cons x _ ih => rw [List.sum_cons, List.sum_cons, ih]
  | swap x y l => simp only [List.sum_cons]; omega
  | trans _ _ h1 h2 => exact h1.trans h2
theorem upN_mono {t : Raw} (h : RawOk t) {x y : Int} (hxy : x ≤ y) : upN t x ≤ upN t y := by
  unfold upN
  have h1 := h.gap1
  have h2 := h.mst1
  exact Int.mul_le_mul_of_nonneg_left (Int.ediv_le_ediv (by omega) (by omega)) (by omega)
theorem upN_nn {t : Raw} (h : RawOk t) {x : Int} (hx : 0 ≤ x) : 0 ≤ upN t x := by
  unfold upN
  have h1 := h.gap1
  have h2 := h.mst1
  have h3 := h.wt0
  exact Int.mul_nonneg (by omega) (Int.ediv_nonneg (by omega) (by omega))
theorem sum_mono {l : List Raw} {f g : Raw → Int} (h : ∀ t ∈ l, f t ≤ g t) : (l.map f).sum ≤ (l.map g).sum := by
  induction l with
  | nil => exact Int.le_refl _
  | cons t l ih =>
    simp only [List.map_cons, List.sum_cons]
    have := h t (List.mem_cons_self ..)
    have := ih fun x m => h x (List.mem_cons_of_mem _ m)
    omega
theorem sum_nn {l : List Int} (h : ∀ t ∈ l, 0 ≤ t) : 0 ≤ l.sum := by
  induction l with
  | nil => exact Int.le_refl _
  | cons t l ih =>
    simp only [List.sum_cons]
    have := h t (List.mem_cons_self ..)
    have := ih fun x m => h x (List.mem_cons_of_mem _ m)
    omega
theorem side_mono {ts : List Raw} {r : Raw} (h : ∀ t ∈ ts, RawOk t) {x y : Int} (hxy : x ≤ y) : side ts r x ≤ side ts r y := by
  unfold side
  have := sum_mono (l := ts.filter fun t => decide (t.rk < r.rk)) (f := fun t => upN t x) (g := fun t => upN t y) fun t m => upN_mono (h t (List.mem_filter.mp m).1) hxy
  omega
theorem side_pos {ts : List Raw} {r : Raw} (h : ∀ t ∈ ts, RawOk t) (hr : RawOk r) {x : Int} (hx : 0 ≤ x) : 1 ≤ side ts r x := by
  unfold side
  have h1 := back_nn ts r.rk
  have h2 := hr.mst1
  have h3 : 0 ≤ ((ts.filter fun t => decide (t.rk < r.rk)).map fun t => upN t x).sum := sum_nn fun v m => by
    obtain ⟨t, mt, rfl⟩ := List.mem_map.mp m
    exact upN_nn (h t (List.mem_filter.mp mt).1) hx
  omega
theorem side_perm {a b : List Raw} (h : a.Perm b) (r : Raw) (x : Int) : side a r x = side b r x := by
  unfold side
  rw [back_perm h, sum_perm ((h.filter _).map _)]
/-! ### what holds back -/
def hold (cs : List Raw) (rk : Int) (qs : List Raw) : List (Raw × Sec) := (qs.filter fun t => decide (rk < t.rk)).flatMap fun t => (t.secs.filter fun s => decide (ceil cs s.k ≤ rk)).map fun s => (t, s)
theorem hold_backs (cs : List Raw) (rk : Int) : ((hold cs rk cs).map fun p => p.2.l - 1) = backs cs rk := by
  unfold hold backs
  rw [List.map_flatMap]
  congr 1
  funext t
  rw [List.map_map]
  rfl
theorem hold_len {cs qs : List Raw} {rk : Int} (h : ∀ t ∈ qs, t.secs.length ≤ 8) : (hold cs rk qs).length ≤ 8 * qs.length := by
  induction qs with
  | nil => exact Nat.le_refl _
  | cons t qs ih =>
    have h1 := ih fun x m => h x (List.mem_cons_of_mem _ m)
    have h2 := h t (List.mem_cons_self ..)
    unfold hold at h1 ⊢
    rw [List.filter_cons]
    have h3 : (t.secs.filter fun s => decide (ceil cs s.k ≤ rk)).length ≤ t.secs.length := List.length_filter_le ..
    split
    · rw [List.flatMap_cons, List.length_append, List.length_map, List.length_cons]; omega
    · rw [List.length_cons]; omega
theorem hold_snoc {cs qs : List Raw} {rk : Int} {t : Raw} : hold cs rk (qs ++ [t]) = hold cs rk qs ++ (if rk < t.rk then (t.secs.filter fun s => decide (ceil cs s.k ≤ rk)).map fun s => (t, s) else []) := by
  unfold hold
  rw [List.filter_append, List.flatMap_append]
  congr 1
  by_cases h : rk < t.rk
  · rw [if_pos h, List.filter_cons, if_pos (decide_eq_true h)]
    simp
  · rw [if_neg h, List.filter_cons, if_neg (ne_d h)]
    simp
def dPair (p : Raw × Sec) : DL.D := .tup [dTask p.1, dSec p.2]
theorem fit_holding : Fits tab 6 T_Plan_holding spHolding := by
  rintro ds M Q ⟨pl, ts, r, rfl, hP, hr, q⟩
  obtain ⟨ps, ks, es, rfl, P⟩ := id hP
  have C := P.ce.at_
  conv => whnf
  refine ⟨.inl ⟨_, rfl⟩, ?_⟩
  conv => whnf
  refine ⟨_, ts, r, rfl, hP, hr, ?_⟩
  repeat ((conv => whnf); first | refine ⟨szL (by simp; done), ?_⟩ | refine ⟨_, rfl, ?_⟩ | refine ⟨rfl, ?_⟩)
  conv => whnf
  refine ⟨1, _, rfl, rfl, ?_⟩
  conv => whnf
  refine ⟨_, rfl, trivial, fun _ => ?_⟩
  conv => whnf
  have okp : ∀ t ∈ ps, RawOk t := fun t m => P.ok t (P.perm.mem_iff.mp m)
  have lp : ps.length < 64 := by rw [P.perm.length_eq]; exact P.few
  refine forL_inv (fun j ρ M' => M' = M ∧ ∃ v4 v5 : LV, ρ = [.val (PlanD ts ps ks es), .val (.str r.nm), .val (dTask r), .own (.L ((hold ps r.rk (ps.take j)).map dPair)), v4, v5]) ⟨rfl, _, _, rfl⟩ ?_ ?_
  · rintro j d ρ M' K hd ⟨rfl, v4, v5, rfl⟩ k1 k2 k3 k4
    rw [List.getElem?_map] at hd
    cases ht : ps[j]? with
    | none => rw [ht] at hd; cases hd
    | some t =>
      rw [ht] at hd
      obtain rfl : dTask t = d := Option.some.inj hd
      have mt : t ∈ ps := List.mem_of_getElem? ht
      have hj : j < ps.length := (List.getElem?_eq_some_iff.mp ht).1
      have etk : ps.take (j + 1) = ps.take j ++ [t] := by rw [List.take_add_one, ht]; rfl
      conv => whnf
      refine ⟨1, _, rfl, rfl, ?_⟩
      conv => whnf
      refine ⟨1, _, rfl, rfl, ?_⟩
      conv => whnf
      refine ⟨_, rfl, ?_⟩
      refine ic_ (fun h => ?_) fun h => ?_
      · have h : r.rk < t.rk := of_decide_eq_true h
        conv => whnf
        refine ⟨⟨_, rfl, trivial⟩, ?_⟩
        conv => whnf
        refine ⟨6, _, rfl, rfl, ?_⟩
        conv => whnf
        refine ⟨_, rfl, trivial, fun _ => ?_⟩
        refine compL_if dSec (fun s => decide (ceil ps s.k ≤ r.rk)) (fun s => dPair (t, s)) (fun s ms K' k' => ?_) ?_
        · conv => whnf
          refine ⟨2, _, rfl, rfl, ?_⟩
          conv => whnf
          refine ⟨_, rfl, ?_⟩
          conv => whnf
          refine ⟨_, _, rfl, C s.k ⟨t, mt, s, ms, rfl⟩, ?_⟩
          conv => whnf
          refine ⟨1, _, rfl, rfl, ?_⟩
          conv => whnf
          refine ⟨_, rfl, rfl, ?_⟩
          refine ic_ (fun h => ?_) fun h => ?_
          · rw [h] at k'
            repeat ((conv => whnf); first | refine ⟨szL (by simp; done), ?_⟩ | refine ⟨_, rfl, ?_⟩ | refine ⟨rfl, ?_⟩)
            conv => whnf
            exact k'
          · rw [h] at k'
            conv => whnf
            exact k'
        · conv => whnf
          refine ⟨_, rfl, ?_, ?_⟩
          · rw [List.length_map, List.nil_append, List.length_map]
            have z1 := hold_len (cs := ps) (qs := ps.take j) (rk := r.rk) fun t m => (okp t (List.mem_of_mem_take m)).few
            have z2 : (ps.take j).length ≤ 64 := by rw [List.length_take]; omega
            have z3 : (t.secs.filter fun s => decide (ceil ps s.k ≤ r.rk)).length ≤ t.secs.length := List.length_filter_le ..
            have z4 := (okp t mt).few
            exact szL (by omega)
          · refine k1 _ _ ⟨rfl, .val (dTask t), v5, ?_⟩
            rw [etk, hold_snoc, if_pos h, List.map_append, List.map_map]
            rfl
      · have h : ¬ r.rk < t.rk := of_decide_eq_false h
        conv => whnf
        refine k1 _ _ ⟨rfl, .val (dTask t), v5, ?_⟩
        rw [etk, hold_snoc, if_neg h, List.append_nil]
        rfl
  · rintro ρ M' ⟨rfl, v4, v5, rfl⟩
    rw [List.length_map, List.take_length]
    conv => whnf
    exact q _ (by rw [hold_backs]; exact backs_perm P.perm _)
theorem fit_held_back : Fits tab 4 T_Plan_held_back spHeldBack := by
  rintro ds M Q ⟨pl, ts, r, rfl, hP, hr, q⟩
  obtain ⟨ps, ks, es, rfl, P⟩ := id hP
  conv => whnf
  refine ⟨.inl ⟨_, rfl⟩, ?_⟩
  conv => whnf
  refine ⟨_, ts, r, rfl, hP, hr, fun xs hx => ?_⟩
  conv => whnf
  refine ⟨_, rfl, trivial, fun _ => ?_⟩
  refine compL_if (fun p : Raw × Sec => dPair p) (fun _ => true) (fun p => .int (p.2.l - 1)) (fun p mp K k => ?_) ?_
  · conv => whnf
    refine ⟨rfl, ?_⟩
    repeat ((conv => whnf); first | refine ⟨szL (by simp; done), ?_⟩ | refine ⟨_, rfl, ?_⟩ | refine ⟨rfl, ?_⟩)
    conv => whnf
    exact k
  · have ef : (xs.filter fun _ => true) = xs := List.filter_eq_self.mpr fun _ _ => rfl
    rw [ef, List.nil_append]
    conv => whnf
    refine ⟨_, _, xs.map fun p => p.2.l - 1, rfl, by rw [List.map_map]; rfl, fun e => ?_, fun m hm hy => ?_⟩
    · rw [e] at hx
      have : back ts r.rk = 0 := by unfold back; rw [List.nil_perm.mp hx]; rfl
      rw [this] at q
      exact q
    · have nn : ∀ y ∈ backs ts r.rk, 0 ≤ y := fun y my => by
        unfold backs at my
        obtain ⟨t, mt, my⟩ := List.mem_flatMap.mp my
        obtain ⟨s, ms, rfl⟩ := List.mem_map.mp my
        have := ((P.ok t (List.mem_filter.mp mt).1).secs s (List.mem_filter.mp ms).1).l1
        omega
      have e : back ts r.rk = m := foldl_max_eq (hx.mem_iff.mp hm) (fun y my => hy y (hx.mem_iff.mpr my)) (nn m (hx.mem_iff.mp hm))
      rw [e] at q
      exact q
end LawW

set_option Elab.async false
set_option linter.all false
set_option maxRecDepth 100000
namespace LawW
open PySem L2 DL
theorem p64 {x : Int} (h0 : 0 ≤ x) (h : x < LIM) : -(2 ^ 64 : Int) < x ∧ x < 2 ^ 64 := by
  unfold LIM at h
  have e : (2 : Int) ^ 64 = 18446744073709551616 := by decide
  rw [e]
  omega
theorem fit_right_side : Fits tab 5 T_right_side spRightSide := by
  rintro ds M Q ⟨pl, ts, r, x, rfl, hP, hr, hx0, q⟩
  obtain ⟨ps, ks, es, rfl, P⟩ := id hP
  have okr := P.ok r hr
  conv => whnf
  refine ⟨.inl ⟨_, rfl⟩, ?_⟩
  conv => whnf
  refine ⟨_, ts, r, rfl, hP, hr, ?_⟩
  conv => whnf
  refine ⟨.inl ⟨_, rfl⟩, ?_⟩
  conv => whnf
  refine ⟨_, ts, r, rfl, hP, hr, ?_⟩
  conv => whnf
  refine ⟨3, _, rfl, rfl, ?_⟩
  conv => whnf
  refine ⟨.inl ⟨_, rfl⟩, ?_⟩
  conv => whnf
  refine ⟨_, ts, r, rfl, hP, hr, fun xs hx _ => ?_⟩
  conv => whnf
  refine ⟨_, rfl, trivial, fun _ => ?_⟩
  have okx : ∀ t ∈ xs, RawOk t := fun t m => P.ok t (List.mem_filter.mp (hx.mem_iff.mp m)).1
  refine forL_inv (fun j ρ M' => M' = M ∧ ∃ v4 : LV, ρ = [.val (PlanD ts ps ks es), .val (.str r.nm), .val (.int x), .val (.int (back ts r.rk + r.mst + ((xs.take j).map fun t => upN t x).sum)), v4]) ⟨rfl, .no, ?_⟩ ?_ ?_
  · have e : back ts r.rk + r.mst + ((xs.take 0).map fun t => upN t x).sum = back ts r.rk + r.mst := by simp
    rw [e]
    rfl
  · rintro j d ρ M' K hd ⟨rfl, v4, rfl⟩ k1 k2 k3 k4
    rw [List.getElem?_map] at hd
    cases ht : xs[j]? with
    | none => rw [ht] at hd; cases hd
    | some t =>
      rw [ht] at hd
      obtain rfl : dTask t = d := Option.some.inj hd
      have mt : t ∈ xs := List.mem_of_getElem? ht
      have ok := okx t mt
      have etk : xs.take (j + 1) = xs.take j ++ [t] := by rw [List.take_add_one, ht]; rfl
      conv => whnf
      refine ⟨_, rfl, ?_⟩
      conv => whnf
      refine ⟨3, _, rfl, rfl, ?_⟩
      conv => whnf
      refine ⟨5, _, rfl, rfl, ?_⟩
      conv => whnf
      refine ⟨2, _, rfl, rfl, ?_⟩
      conv => whnf
      refine ⟨_, _, rfl, by have := ok.gap1; omega, ok.gapL, by have := hx0.1; have := ok.wt0; omega, by have := hx0.2; have := ok.wtL; unfold LIM at this; omega, ?_⟩
      conv => whnf
      refine ⟨.inl (p64 (by have := ok.mst1; omega) ok.mstL), ?_⟩
      conv => whnf
      refine ⟨⟨_, _, rfl, rfl⟩, ?_⟩
      conv => whnf
      refine k1 _ _ ⟨rfl, .val (dTask t), ?_⟩
      have e : back ts r.rk + r.mst + ((xs.take (j + 1)).map fun t => upN t x).sum = back ts r.rk + r.mst + ((xs.take j).map fun t => upN t x).sum + t.mst * ((x + t.wt + t.gap - 1) / t.gap) := by
        rw [etk, List.map_append, List.sum_append]
        simp only [List.map_cons, List.map_nil, List.sum_cons, List.sum_nil]
        unfold upN
        omega
      rw [e]
      rfl
  · rintro ρ M' ⟨rfl, v4, rfl⟩
    rw [List.length_map, List.take_length]
    conv => whnf
    have e : side ts r x = back ts r.rk + r.mst + (xs.map fun t => upN t x).sum := by
      unfold side
      rw [sum_perm (hx.map fun t => upN t x)]
    rw [e] at q
    exact q
theorem fit_least : Fits tab 5 T_least_ticks spLeast := by
  rintro ds M Q ⟨pl, ts, r, rfl, hP, hr, q1, q2⟩
  obtain ⟨ps, ks, es, rfl, P⟩ := id hP
  have okr := P.ok r hr
  have mono : ∀ {x y : Int}, x ≤ y → side ts r x ≤ side ts r y := fun h => side_mono P.ok h
  have pos : ∀ {x : Int}, 0 ≤ x → 1 ≤ side ts r x := fun h => side_pos P.ok okr h
  conv => whnf
  refine ⟨.inl ⟨_, rfl⟩, ?_⟩
  conv => whnf
  refine ⟨_, ts, r, rfl, hP, hr, ?_⟩
  conv => whnf
  refine ⟨_, ts, r, 0, rfl, hP, hr, ⟨by decide, by decide⟩, ?_⟩
  conv => whnf
  refine while_inv (fun m ρ M' => M' = M ∧ ∃ t : Int, ρ = [.val (PlanD ts ps ks es), .val (.str r.nm), .val (dTask r), .val (.int t), .val (.int (side ts r t))] ∧ 0 ≤ t ∧ t ≤ side ts r t ∧ (t = 0 ∨ r.wt + t ≤ r.due) ∧ (∀ k, 0 ≤ k → side ts r k = k → t ≤ k) ∧ m = (r.due - r.wt + 1 - t).toNat) ?_ (m := (r.due - r.wt + 1 - 0).toNat) ⟨rfl, 0, rfl, Int.le_refl _, by have := pos (Int.le_refl 0); omega, .inl rfl, fun k h _ => h, rfl⟩
  rintro m ρ M' K ⟨rfl, t, rfl, t0, t1, t2, t3, rfl⟩ k1 k2 k3 k4
  conv => whnf
  refine ⟨_, rfl, ?_⟩
  refine ic_ (fun h => ?_) fun h => ?_
  · have h : t < side ts r t := of_decide_eq_true h
    have m1 := mono (Int.le_of_lt h)
    have m2 : ∀ k, 0 ≤ k → side ts r k = k → side ts r t ≤ k := fun k h0 e => by
      have := mono (t3 k h0 e)
      omega
    conv => whnf
    refine ⟨5, _, rfl, rfl, ?_⟩
    conv => whnf
    refine ⟨4, _, rfl, rfl, ?_⟩
    conv => whnf
    refine ⟨_, rfl, ?_⟩
    refine ic_ (fun h' => ?_) fun h' => ?_
    · have h' : r.due < r.wt + side ts r t := of_decide_eq_true h'
      conv => whnf
      show K.rt .non M'
      rw [k4]
      exact q2 fun k h0 e => by have := m2 k h0 e; omega
    · have h' : ¬ r.due < r.wt + side ts r t := of_decide_eq_false h'
      conv => whnf
      refine ⟨_, ts, r, side ts r t, rfl, hP, hr, ⟨by omega, by have := okr.dueG; have := okr.gapL; have := okr.wt0; unfold LIM at *; omega⟩, ?_⟩
      conv => whnf
      refine k1 (r.due - r.wt + 1 - side ts r t).toNat _ _ (by omega) ⟨rfl, side ts r t, rfl, by omega, m1, .inr (by omega), m2, rfl⟩
  · have h : ¬ t < side ts r t := of_decide_eq_false h
    conv => whnf
    have et : side ts r t = t := by omega
    have tp := pos t0
    exact q1 t ⟨t0, et, t3⟩ (by omega)
theorem fit_bound : Fits tab 3 T_bound spBound := by
  rintro ds M Q ⟨pl, ts, r, rfl, hP, hr, q1, q2⟩
  obtain ⟨ps, ks, es, rfl, P⟩ := id hP
  conv => whnf
  refine ⟨_, ts, r, rfl, hP, hr, fun k hk hd => ?_, fun h => ?_⟩
  · conv => whnf
    refine ⟨_, rfl, ?_⟩
    conv => whnf
    refine ⟨.inl ⟨_, rfl⟩, ?_⟩
    conv => whnf
    refine ⟨_, ts, r, rfl, hP, hr, ?_⟩
    conv => whnf
    refine ⟨5, _, rfl, rfl, ?_⟩
    conv => whnf
    exact q1 k hk hd
  · conv => whnf
    refine ⟨_, rfl, ?_⟩
    conv => whnf
    exact q2 h
end LawW

set_option Elab.async false
set_option linter.all false
set_option maxRecDepth 100000
namespace LawW
open PySem L2 DL
theorem dget_none' : ∀ {ks : List Key} {ds : List DL.D} {j : Key}, j ∉ ks → dget ks ds j = none
  | [], ds, j, _ => by unfold dget; simp
  | k :: ks, [], j, _ => by unfold dget; simp
  | k :: ks, d :: ds, j, h => by
    have h1 : ¬ k = j := fun e => h (by rw [e]; exact List.mem_cons_self ..)
    unfold dget
    rw [List.zip_cons_cons, List.find?_cons, show decide (k = j) = false from decide_eq_false h1]
    exact dget_none' fun m => h (List.mem_cons_of_mem _ m)
theorem dput_new : ∀ {ks : List Key} {ds : List DL.D} {j : Key} {x : DL.D}, j ∉ ks → ks.length = ds.length → dput ks ds j x = (ks ++ [j], ds ++ [x])
  | [], [], j, x, _, _ => by unfold dput; rfl
  | [], d :: ds, j, x, _, e => by cases e
  | k :: ks, [], j, x, _, e => by cases e
  | k :: ks, d :: ds, j, x, h, e => by
    have h1 : ¬ k = j := fun e => h (by rw [e]; exact List.mem_cons_self ..)
    unfold dput
    rw [if_neg h1, dput_new (fun m => h (List.mem_cons_of_mem _ m)) (by simpa using e)]
    rfl
theorem dget_snoc {ks : List Key} {ds : List DL.D} {j k : Key} {x : DL.D} (e : ks.length = ds.length) (h : dget ks ds j = none) : dget (ks ++ [j]) (ds ++ [x]) k = if j = k then some x else dget ks ds k := by
  unfold dget at h ⊢
  rw [List.zip_append e, List.find?_append]
  cases q : (ks.zip ds).find? (fun p => decide (p.1 = k)) with
  | some p =>
    have hk : j ≠ k := fun z => by
      subst z
      rw [q] at h
      cases h
    rw [if_neg hk]
    rfl
  | none =>
    by_cases hk : j = k
    · rw [if_pos hk]
      subst hk
      simp
    · rw [if_neg hk]
      simp [hk]
theorem dget_rk : ∀ {ts : List Raw} {r : Raw}, (ts.map (·.rk)).Nodup → r ∈ ts → dget (ts.map fun t => (.inl t.rk : Key)) (ts.map dTask) (.inl r.rk) = some (dTask r)
  | t :: ts, r, nd, h => by
    unfold dget
    rw [List.map_cons, List.map_cons, List.zip_cons_cons, List.find?_cons]
    rcases List.mem_cons.mp h with rfl | h
    · rw [show decide ((Sum.inl r.rk : Key) = .inl r.rk) = true from decide_eq_true rfl]
      rfl
    · rw [List.map_cons, List.nodup_cons] at nd
      have hne : ¬ (Sum.inl t.rk : Key) = .inl r.rk := fun e => nd.1 (by rw [Sum.inl.inj e]; exact List.mem_map.mpr ⟨r, h, rfl⟩)
      rw [show decide ((Sum.inl t.rk : Key) = .inl r.rk) = false from decide_eq_false hne]
      exact dget_rk nd.2 h
theorem perm_lift {α β : Type} {f : α → β} {l ms : List β} (h : l.Perm ms) : ∀ {ts : List α}, ts.map f = l → ∃ ps : List α, ps.Perm ts ∧ ps.map f = ms := by
  induction h with
  | nil => exact fun {ts} e => ⟨ts, .refl _, e⟩
  | cons x _ ih =>
    intro ts e
    cases ts with
    | nil => cases e
    | cons t ts =>
      rw [List.map_cons, List.cons.injEq] at e
      obtain ⟨ps, h1, h2⟩ := ih e.2
      exact ⟨t :: ps, h1.cons t, by rw [List.map_cons, e.1, h2]⟩
  | swap x y l =>
    intro ts e
    match ts, e with
    | a :: b :: ts, e =>
      simp only [List.map_cons, List.cons.injEq] at e
      exact ⟨b :: a :: ts, .swap a b ts, by simp only [List.map_cons, e.1, e.2.1, e.2.2]⟩
  | trans _ _ h1 h2 =>
    intro ts e
    obtain ⟨ps, a1, a2⟩ := h1 e
    obtain ⟨qs, b1, b2⟩ := h2 a2
    exact ⟨qs, b1.trans a1, b2⟩
def locksOf (t : Raw) : List (Int × Str) := t.secs.map fun s => (t.rk, s.k)
theorem minL_first {a : Int} {l : List Int} (h : ∀ y ∈ l, a ≤ y) : minL (a :: l) = a := by
  obtain ⟨h1, h2⟩ := minL_spec (l := a :: l) (by simp)
  have := h2 a (List.mem_cons_self ..)
  rcases List.mem_cons.mp h1 with e | m
  · exact e
  · have := h _ m; omega
theorem find_locks {t : Raw} {k : Str} : (locksOf t).find? (fun p => decide (p.2 = k)) = if t.secs.any (fun s => decide (s.k = k)) then some (t.rk, k) else none := by
  unfold locksOf
  induction t.secs with
  | nil => rfl
  | cons s ss ih =>
    rw [List.map_cons, List.find?_cons, List.any_cons]
    by_cases h : s.k = k
    · rw [show decide ((t.rk, s.k).2 = k) = true from decide_eq_true h]
      subst h
      rfl
    · rw [show decide ((t.rk, s.k).2 = k) = false from decide_eq_false h, Bool.false_or]
      exact ih
theorem first_ceil {k : Str} : ∀ {ps : List Raw}, (ps.Pairwise fun a b => a.rk < b.rk) → (∃ t ∈ ps, ∃ s ∈ t.secs, s.k = k) → (ps.flatMap locksOf).find? (fun p => decide (p.2 = k)) = some (ceil ps k, k)
  | [], _, h => by obtain ⟨t, m, _⟩ := h; cases m
  | t :: ps, hp, h => by
    rw [List.flatMap_cons, List.find?_append, find_locks]
    have hp' := List.pairwise_cons.mp hp
    by_cases e : t.secs.any (fun s => decide (s.k = k)) = true
    · rw [if_pos e]
      have : ceil (t :: ps) k = t.rk := by
        unfold ceil
        rw [List.filter_cons, if_pos e, List.map_cons]
        exact minL_first fun y m => by
          obtain ⟨x, mx, rfl⟩ := List.mem_map.mp m
          exact Int.le_of_lt (hp'.1 x (List.mem_filter.mp mx).1)
      rw [this]
      rfl
    · rw [if_neg e]
      have : ceil (t :: ps) k = ceil ps k := by
        unfold ceil
        rw [List.filter_cons, if_neg e]
      rw [this, Option.none_or]
      refine first_ceil hp'.2 ?_
      obtain ⟨x, mx, s, ms, hs⟩ := h
      rcases List.mem_cons.mp mx with rfl | mx
      · exact absurd (List.any_eq_true.mpr ⟨s, ms, decide_eq_true hs⟩) e
      · exact ⟨x, mx, s, ms, hs⟩
/-- what the ceilings' dict holds so far -/
def KsOk (ks : List Key) (done : List (Int × Str)) : Prop := ∃ ls : List Str, ks = ls.map .inr ∧ ls.Nodup ∧ ∀ k, k ∈ ls ↔ k ∈ done.map (·.2)
def CeilI (M : Mem) (p2 : Addr) (done : List (Int × Str)) : Prop := ∃ ks ds, M p2 = some (.co (.K ks ds)) ∧ ks.length = ds.length ∧ ds.length ≤ done.length ∧ KsOk ks done ∧ ∀ k : Str, dget ks ds (.inr k) = (done.find? fun p => decide (p.2 = k)).map fun p => .int p.1
theorem ceilI_step {done : List (Int × Str)} {rk : Int} {k : Str} {ks : List Key} {ds : List DL.D} (hl : ks.length = ds.length) (hd : ds.length ≤ done.length) (hL : KsOk ks done) (h : ∀ k : Str, dget ks ds (.inr k) = (done.find? fun p => decide (p.2 = k)).map fun p => .int p.1) (K : DL.D → CO → Prop)
    (hk : ∀ z ks' ds', ks'.length = ds'.length → ds'.length ≤ (done ++ [(rk, k)]).length → KsOk ks' (done ++ [(rk, k)]) → (∀ j : Str, dget ks' ds' (.inr j) = ((done ++ [(rk, k)]).find? fun p => decide (p.2 = j)).map fun p => .int p.1) → K z (.K ks' ds')) (hz : ds.length < sizeLine) : pmP .setdefault (.K ks ds) [.str k, .int rk] K := by
  refine ⟨.inr k, rfl, hz, ?_⟩
  have h0 := h k
  cases e : dget ks ds (.inr k) with
  | some x =>
    have kin : k ∈ done.map (·.2) := by
      cases q : done.find? (fun p => decide (p.2 = k)) with
      | none => rw [e, q] at h0; cases h0
      | some p => exact List.mem_map.mpr ⟨p, List.mem_of_find?_eq_some q, by have := List.find?_some q; simpa using this⟩
    refine hk x ks ds hl (by rw [List.length_append]; omega) ?_ fun j => ?_
    · obtain ⟨ls, e1, e2, e3⟩ := hL
      refine ⟨ls, e1, e2, fun j => ?_⟩
      rw [e3, List.map_append, List.mem_append]
      constructor
      · exact .inl
      · rintro (m | m)
        · exact m
        · obtain rfl : j = k := by simpa using m
          exact kin
    rw [h j, List.find?_append]
    cases q : done.find? (fun p => decide (p.2 = j)) with
    | some p => rfl
    | none =>
      have hj : ¬ k = j := fun z => by
        subst z
        rw [e, q] at h0
        cases h0
      simp [hj]
  | none =>
    have kin : k ∉ done.map (·.2) := fun m => by
      obtain ⟨p, mp, ep⟩ := List.mem_map.mp m
      rw [e] at h0
      cases q : done.find? (fun p => decide (p.2 = k)) with
      | none => exact absurd (decide_eq_true ep) (List.find?_eq_none.mp q p mp)
      | some p => rw [q] at h0; cases h0
    refine hk (.int rk) (ks ++ [.inr k]) (ds ++ [.int rk]) (by simp [hl]) (by simp only [List.length_append, List.length_singleton]; omega) ?_ fun j => ?_
    · obtain ⟨ls, e1, e2, e3⟩ := hL
      refine ⟨ls ++ [k], by rw [e1, List.map_append]; rfl, ?_, fun j => ?_⟩
      · rw [List.nodup_append]
        refine ⟨e2, List.nodup_cons.mpr ⟨by simp, List.nodup_nil⟩, fun a ma b mb => ?_⟩
        obtain rfl : b = k := by simpa using mb
        exact fun z => kin ((e3 _).mp (z ▸ ma))
      · rw [List.map_append, List.mem_append, List.mem_append, e3]
        exact Iff.rfl
    rw [dget_snoc hl e, List.find?_append, h j]
    rw [e] at h0
    by_cases hj : k = j
    · subst hj
      rw [if_pos rfl]
      cases q : done.find? (fun p => decide (p.2 = k)) with
      | some p => rw [q] at h0; cases h0
      | none => simp
    · rw [if_neg fun z => hj (Sum.inr.inj z)]
      cases q : done.find? (fun p => decide (p.2 = j)) with
      | some p => rfl
      | none => simp [hj]
end LawW

set_option Elab.async false
set_option linter.all false
set_option maxRecDepth 100000
namespace LawW
open PySem L2 DL
theorem locks_len {ps : List Raw} (h : ∀ t ∈ ps, t.secs.length ≤ 8) : (ps.flatMap locksOf).length ≤ 8 * ps.length := by
  induction ps with
  | nil => exact Nat.le_refl _
  | cons t ps ih =>
    have h1 := ih fun x m => h x (List.mem_cons_of_mem _ m)
    have h2 := h t (List.mem_cons_self ..)
    rw [List.flatMap_cons, List.length_append, List.length_cons]
    unfold locksOf at h1 ⊢
    rw [List.length_map]
    omega
theorem putAt_add {cfs : Nat → List Nat} {M : Mem} {a : Addr} {f c : Nat} {fs : List DL.D} {x : DL.D} {P : Mem → Prop} (h : M a = some (.obj c fs)) (hf : posOf (cfs c) f = some fs.length) (q : P (updM M a (.obj c (fs ++ [x])))) : DL.putAt cfs M a f x P := putAt_new h hf q
theorem fit_plan_init : Fits tab 8 T_Plan___init__ spPlanInit := by
  rintro ds M Q ⟨a, ts, dd, rfl, hit, hst, hM, nd1, nd2, few, ok, q⟩
  conv => whnf
  refine ⟨_, rfl, fun p1 hp1 => ?_⟩
  have n1 : p1 ≠ a := fun e => by rw [e, hM] at hp1; cases hp1
  conv => whnf
  refine ⟨_, rfl, ?_⟩
  refine putAt_new (by rw [updM_ne n1.symm]; exact hM) rfl ?_
  conv => whnf
  refine ⟨_, rfl, ?_⟩
  conv => whnf
  refine ⟨_, hit, hst, fun _ => ?_⟩
  refine forL_inv (fun j ρ M' => (∃ v3 v4 v5 v6 v7 : LV, ρ = [.val (.loc a), .val dd, .own (.K ((ts.take j).map fun t => .inl t.rk) ((ts.take j).map dTask)), v3, v4, v5, v6, v7]) ∧ M' a = some (.obj 0 [.loc p1]) ∧ M' p1 = some (.co (.K ((ts.take j).map fun t => .inr t.nm) ((ts.take j).map dTask))) ∧ ∀ b, b ≠ a → b ≠ p1 → M' b = M b)
    ⟨⟨_, _, _, _, _, rfl⟩, updM_same, by rw [updM_ne n1]; exact updM_same, fun b h1 h2 => by rw [updM_ne h1, updM_ne h2]⟩ ?_ ?_
  · rintro j d ρ M' K hd ⟨⟨v3, v4, v5, v6, v7, rfl⟩, m1, m2, m3⟩ k1 k2 k3 k4
    rw [List.getElem?_map] at hd
    cases ht : ts[j]? with
    | none => rw [ht] at hd; cases hd
    | some t =>
      rw [ht] at hd
      obtain rfl : dTask t = d := Option.some.inj hd
      have etk : ts.take (j + 1) = ts.take j ++ [t] := by rw [List.take_add_one, ht]; rfl
      have hj : j < ts.length := (List.getElem?_eq_some_iff.mp ht).1
      have notin : ∀ {β : Type} (f : Raw → β), (ts.map f).Nodup → f t ∉ (ts.take j).map f := fun f nd m => by
        have e : ts.map f = (ts.take (j + 1)).map f ++ (ts.drop (j + 1)).map f := by rw [← List.map_append, List.take_append_drop]
        rw [e, etk, List.map_append, List.nodup_append, List.nodup_append] at nd
        exact nd.1.2.2 _ m _ (List.mem_singleton.mpr rfl) rfl
      have k1n : (Sum.inr t.nm : Key) ∉ (ts.take j).map fun t => (.inr t.nm : Key) := fun m => by
        obtain ⟨x, mx, e⟩ := List.mem_map.mp m
        exact notin (·.nm) nd1 (List.mem_map.mpr ⟨x, mx, Sum.inr.inj e⟩)
      have k2n : (Sum.inl t.rk : Key) ∉ (ts.take j).map fun t => (.inl t.rk : Key) := fun m => by
        obtain ⟨x, mx, e⟩ := List.mem_map.mp m
        exact notin (·.rk) nd2 (List.mem_map.mpr ⟨x, mx, Sum.inl.inj e⟩)
      have sz : (ts.take j).length ≤ 64 := by rw [List.length_take]; omega
      conv => whnf
      refine ⟨0, _, rfl, rfl, ?_⟩
      conv => whnf
      rw [m1]
      refine ⟨0, _, rfl, rfl, ?_⟩
      conv => whnf
      rw [view_co m2]
      conv => whnf
      refine ⟨_, rfl, ?_⟩
      rw [dget_none' k1n]
      conv => whnf
      refine ⟨_, rfl, ?_⟩
      conv => whnf
      refine ⟨1, _, rfl, rfl, ?_⟩
      conv => whnf
      refine ⟨_, rfl, _, rfl, ?_⟩
      rw [dget_none' k2n]
      conv => whnf
      refine ⟨_, rfl, ?_⟩
      conv => whnf
      rw [m1]
      refine ⟨0, _, rfl, rfl, ?_⟩
      conv => whnf
      refine ⟨0, _, rfl, rfl, ?_⟩
      conv => whnf
      refine ⟨p1, _, rfl, m2, _, rfl, by rw [List.length_map, sizeLine_eq]; omega, ?_⟩
      rw [dput_new k1n (by simp)]
      conv => whnf
      refine ⟨⟨_, rfl⟩, ?_⟩
      conv => whnf
      refine ⟨1, _, rfl, rfl, ?_⟩
      conv => whnf
      refine ⟨_, rfl, _, rfl, by rw [List.length_map, sizeLine_eq]; omega, ?_⟩
      rw [dput_new k2n (by simp)]
      refine k1 _ _ ⟨⟨.val (dTask t), v4, v5, v6, v7, ?_⟩, ?_, ?_, fun b h1 h2 => ?_⟩
      · rw [etk, List.map_append, List.map_append]
        rfl
      · rw [updM_ne n1.symm]; exact m1
      · rw [updM_same, etk, List.map_append, List.map_append]
        rfl
      · rw [updM_ne h2]; exact m3 b h1 h2
  rintro ρ M1 ⟨⟨v3, v4, v5, v6, v7, rfl⟩, m1, m2, m3⟩
  rw [List.length_map, List.take_length] at *
  conv => whnf
  refine ⟨_, _, _, ts.map (·.rk), rfl, rfl, by rw [List.map_map]; rfl, by rw [List.length_map]; exact few, fun ms hms hsorted => ?_⟩
  obtain ⟨ps, hp, rfl⟩ := perm_lift hms.symm rfl
  have sorted : ps.Pairwise fun a b => a.rk < b.rk := by
    have h1 : (ps.map (·.rk)).Nodup := hms.nodup_iff.mpr nd2
    rw [List.pairwise_map] at hsorted
    rw [List.nodup_iff_pairwise_ne, List.pairwise_map] at h1
    exact (hsorted.and h1).imp fun ⟨h1, h2⟩ => by omega
  have lp : ps.length < 64 := by rw [hp.length_eq]; exact few
  conv => whnf
  refine ⟨_, rfl, trivial, fun _ => ?_⟩
  rw [List.map_map]
  refine compL_if (fun t : Raw => DL.D.int t.rk) (fun _ => true) dTask (fun t mt K k => ?_) ?_
  · conv => whnf
    refine ⟨rfl, ?_⟩
    conv => whnf
    refine ⟨_, _, rfl, dget_rk nd2 (hp.mem_iff.mp mt), ?_⟩
    exact ⟨rfl, k⟩
  have ef : (ps.filter fun _ => true) = ps := List.filter_eq_self.mpr fun _ _ => rfl
  rw [ef, List.nil_append]
  conv => whnf
  refine ⟨_, _, rfl, rfl, ?_⟩
  conv => whnf
  refine ⟨_, rfl, ?_⟩
  refine putAt_new m1 rfl ?_
  conv => whnf
  refine ⟨_, rfl, fun p2 hp2 => ?_⟩
  have n2 : p2 ≠ a := fun e => by rw [e, updM_same] at hp2; cases hp2
  have n3 : p2 ≠ p1 := fun e => by rw [e, updM_ne n1, m2] at hp2; cases hp2
  conv => whnf
  refine ⟨_, rfl, ?_⟩
  refine putAt_new (by rw [updM_ne n2.symm]; exact updM_same) rfl ?_
  have okp : ∀ t ∈ ps, RawOk t := fun t m => ok t (hp.mem_iff.mp m)
  have lk : ∀ j, ((ps.take j).flatMap locksOf).length ≤ 520 := fun j => by
    have z1 := locks_len (ps := ps.take j) fun t m => (okp t (List.mem_of_mem_take m)).few
    rw [List.length_take] at z1
    omega
  generalize hM3 : updM (updM (updM M1 a (.obj 0 ([.loc p1] ++ [.tup (ps.map dTask)]))) p2 (.co (.K [] []))) a (.obj 0 ([.loc p1] ++ [.tup (ps.map dTask)] ++ [.loc p2])) = M3
  have f1 : M3 a = some (.obj 0 [.loc p1, .tup (ps.map dTask), .loc p2]) := by rw [← hM3, updM_same]; rfl
  have f2 : M3 p1 = some (.co (.K (ts.map fun t => .inr t.nm) (ts.map dTask))) := by rw [← hM3, updM_ne n1, updM_ne n3.symm, updM_ne n1]; exact m2
  have f3 : M3 p2 = some (.co (.K [] [])) := by rw [← hM3, updM_ne n2, updM_same]
  have f4 : ∀ b, b ≠ a → b ≠ p1 → b ≠ p2 → M3 b = M b := fun b hb hb1 hb2 => by
    rw [← hM3, updM_ne hb, updM_ne hb2, updM_ne hb]
    exact m3 b hb hb1
  have f5 : M p2 = none := by
    have e1 : M1 p2 = none := by rw [updM_ne n2] at hp2; exact hp2
    rw [← m3 p2 n2 n3]
    exact e1
  conv => whnf
  rw [f1]
  refine ⟨1, _, rfl, rfl, ?_⟩
  conv => whnf
  refine ⟨_, rfl, trivial, fun _ => ?_⟩
  have I0 : CeilI M3 p2 ((ps.take 0).flatMap locksOf) := ⟨[], [], f3, rfl, Nat.zero_le _, ⟨[], rfl, List.nodup_nil, fun k => by simp⟩, fun k => by unfold dget; rfl⟩
  refine forL_inv (fun j ρ M' => (∃ v3 v4 v5 v6 v7 : LV, ρ = [.val (.loc a), .val dd, .val (.dct (ts.map fun t => .inl t.rk) (ts.map dTask)), v3, v4, v5, v6, v7]) ∧ CeilI M' p2 ((ps.take j).flatMap locksOf) ∧ ∀ b, b ≠ p2 → M' b = M3 b)
    ⟨⟨_, _, _, _, _, rfl⟩, I0, fun _ _ => rfl⟩ ?_ ?_
  · rintro j d ρ M' K hd ⟨⟨v3, v4, v5, v6, v7, rfl⟩, C, fr⟩ k1 k2 k3 k4
    rw [List.getElem?_map] at hd
    cases ht : ps[j]? with
    | none => rw [ht] at hd; cases hd
    | some t =>
      rw [ht] at hd
      obtain rfl : dTask t = d := Option.some.inj hd
      have etk : ps.take (j + 1) = ps.take j ++ [t] := by rw [List.take_add_one, ht]; rfl
      have mt : t ∈ ps := List.mem_of_getElem? ht
      conv => whnf
      refine ⟨6, _, rfl, rfl, ?_⟩
      conv => whnf
      refine ⟨_, rfl, trivial, fun _ => ?_⟩
      have e0 : (ps.take j).flatMap locksOf = (ps.take j).flatMap locksOf ++ (locksOf t).take 0 := by simp
      rw [e0] at C
      refine forL_inv (fun i ρ M' => (∃ v4 v5 v6 v7 : LV, ρ = [.val (.loc a), .val dd, .val (.dct (ts.map fun t => .inl t.rk) (ts.map dTask)), .val (dTask t), v4, v5, v6, v7]) ∧ CeilI M' p2 ((ps.take j).flatMap locksOf ++ (locksOf t).take i) ∧ ∀ b, b ≠ p2 → M' b = M3 b)
        ⟨⟨_, _, _, _, rfl⟩, C, fr⟩ ?_ ?_
      · rintro i d ρ M' K' hd ⟨⟨v4, v5, v6, v7, rfl⟩, C, fr⟩ l1 l2 l3 l4
        rw [List.getElem?_map] at hd
        cases hs : t.secs[i]? with
        | none => rw [hs] at hd; cases hd
        | some s =>
          rw [hs] at hd
          obtain rfl : dSec s = d := Option.some.inj hd
          obtain ⟨ks, es, c1, c2, c3, c5, c4⟩ := C
          have els : (locksOf t).take (i + 1) = (locksOf t).take i ++ [(t.rk, s.k)] := by
            unfold locksOf
            rw [List.take_add_one, List.getElem?_map, hs]
            rfl
          have g1 : M' a = some (.obj 0 [.loc p1, .tup (ps.map dTask), .loc p2]) := by rw [fr a n2.symm]; exact f1
          have z1 := lk j
          have z2 : ((locksOf t).take i).length ≤ 8 := by
            have := (okp t mt).few
            unfold locksOf
            rw [List.length_take, List.length_map]
            omega
          have zz : es.length ≤ 528 := by rw [List.length_append] at c3; omega
          conv => whnf
          refine ⟨rfl, ?_⟩
          conv => whnf
          rw [g1]
          refine ⟨2, _, rfl, rfl, ?_⟩
          conv => whnf
          refine ⟨p2, rfl, ⟨_, c1, trivial⟩, ?_⟩
          conv => whnf
          refine ⟨1, _, rfl, rfl, ?_⟩
          conv => whnf
          refine ⟨_, c1, ?_⟩
          refine ceilI_step c2 c3 c5 c4 _ (fun z ks' ds' h1 h2 h5 h3 => ?_) (by rw [sizeLine_eq]; omega)
          refine l1 _ _ ⟨⟨_, _, _, _, rfl⟩, ?_, fun b hb => ?_⟩
          · rw [els, ← List.append_assoc]
            exact ⟨ks', ds', updM_same, h1, h2, h5, h3⟩
          · rw [updM_ne hb]; exact fr b hb
      · rintro ρ M' ⟨⟨v4, v5, v6, v7, rfl⟩, C, fr⟩
        refine k1 _ _ ⟨⟨_, _, _, _, _, rfl⟩, ?_, fr⟩
        have e1 : (locksOf t).take (t.secs.map dSec).length = locksOf t := List.take_of_length_le (by unfold locksOf; rw [List.length_map, List.length_map]; exact Nat.le_refl _)
        rw [e1] at C
        rw [etk, List.flatMap_append]
        simpa using C
  · rintro ρ M' ⟨⟨v3, v4, v5, v6, v7, rfl⟩, C, fr⟩
    rw [List.length_map, List.take_length] at C
    obtain ⟨ks, es, c1, c2, c3, c5, c4⟩ := C
    refine q p1 p2 ps ks es M' (by rw [fr a n2.symm]; exact f1) (by rw [fr p1 n3.symm]; exact f2) c1 (fun b hb hb1 hb2 => by rw [fr b hb2]; exact f4 b hb hb1 hb2) n1 n2 hp1 f5 ⟨⟨fun k hk => ?_, ?_⟩, hp, sorted, nd1, few, ok⟩
    · rw [c4 k, first_ceil sorted hk]
      rfl
    · obtain ⟨ls, e1, e2, e3⟩ := c5
      refine ⟨ls, e1, e2, by rw [← c2, e1, List.length_map], fun k => ?_⟩
      rw [e3, List.mem_map]
      constructor
      · rintro ⟨p, mp, rfl⟩
        obtain ⟨t, mt, m⟩ := List.mem_flatMap.mp mp
        unfold locksOf at m
        obtain ⟨s, ms, rfl⟩ := List.mem_map.mp m
        exact ⟨t, mt, s, ms, rfl⟩
      · rintro ⟨t, mt, s, ms, rfl⟩
        exact ⟨(t.rk, s.k), List.mem_flatMap.mpr ⟨t, mt, List.mem_map.mpr ⟨s, ms, rfl⟩⟩, rfl⟩
end LawW

set_option Elab.async false
set_option linter.all false
set_option maxRecDepth 100000
namespace LawW
open PySem L2 DL
theorem fit_law_task : Fits tab 8 T__law_task spLawTask := by
  rintro ds M Q ⟨r, rfl, h, q⟩
  repeat ((conv => whnf); first | refine ⟨szL (by simp; done), ?_⟩ | refine ⟨_, rfl, ?_⟩ | refine ⟨rfl, ?_⟩)
  conv => whnf
  refine ⟨⟨rfl, rfl⟩, r, rfl, h, fun r' hr => ?_⟩
  exact q r' hr
theorem TasksOf.snoc {rs ts : List Raw} {r t : Raw} (h : TasksOf rs ts) (h2 : TaskOf r t) : TasksOf (rs ++ [r]) (ts ++ [t]) := by
  induction h with
  | nil => exact .cons h2 .nil
  | cons a _ ih => exact .cons a ih
theorem TasksOf.maps {rs ts : List Raw} (h : TasksOf rs ts) : ts.map (·.nm) = rs.map (·.nm) ∧ ts.map (·.rk) = rs.map (·.rk) ∧ ts.length = rs.length := by
  induction h with
  | nil => exact ⟨rfl, rfl, rfl⟩
  | cons a _ ih =>
    obtain ⟨ss, _, rfl⟩ := a
    exact ⟨by rw [List.map_cons, List.map_cons, ih.1], by rw [List.map_cons, List.map_cons, ih.2.1], by rw [List.length_cons, List.length_cons, ih.2.2]⟩
theorem TaskOf.ok {r t : Raw} (h : TaskOf r t) (ok : RawOk r) : RawOk t := by
  obtain ⟨ss, hp, rfl⟩ := h
  exact ⟨ok.nm, ok.rk1, ok.rkL, ok.gap1, ok.gapL, ok.mst1, ok.mstL, ok.due1, ok.dueG, ok.wt0, ok.wtL, fun x m => ok.secs x (hp.mem_iff.mp m), (hp.pairwise_iff fun h => h.symm).mpr ok.tog, by show ss.length ≤ 8; rw [hp.length_eq]; exact ok.few⟩
theorem TasksOf.ok {rs ts : List Raw} (h : TasksOf rs ts) (ok : ∀ r ∈ rs, RawOk r) : ∀ t ∈ ts, RawOk t := by
  induction h with
  | nil => intro t m; cases m
  | cons a _ ih =>
    intro t m
    rcases List.mem_cons.mp m with rfl | m
    · exact a.ok (ok _ (List.mem_cons_self ..))
    · exact ih (fun r m => ok r (List.mem_cons_of_mem _ m)) t m
theorem fit_made : Fits tab 2 T__law_made spMade := by
  rintro ds M Q ⟨rs, rfl, h, q⟩
  conv => whnf
  refine ⟨_, rfl, trivial, fun _ => ?_⟩
  refine compL_inv (fun j acc M' => M' = M ∧ ∃ ts, acc = ts.map dTask ∧ TasksOf (rs.take j) ts) ⟨rfl, [], rfl, .nil⟩ ?_ ?_
  · rintro j d acc M' K hd ⟨rfl, ts, rfl, ht⟩ k1 k2
    rw [List.getElem?_map] at hd
    cases hr : rs[j]? with
    | none => rw [hr] at hd; cases hd
    | some r =>
      rw [hr] at hd
      obtain rfl : dRaw r = d := Option.some.inj hd
      have etk : rs.take (j + 1) = rs.take j ++ [r] := by rw [List.take_add_one, hr]; rfl
      conv => whnf
      refine ⟨rfl, ?_⟩
      conv => whnf
      refine ⟨r, rfl, h.ok r (List.mem_of_getElem? hr), fun t htt => ?_⟩
      conv => whnf
      refine ⟨rfl, k1 _ _ ⟨rfl, ts ++ [t], by rw [List.map_append]; rfl, ?_⟩⟩
      rw [etk]
      exact ht.snoc htt
  · rintro acc M' ⟨rfl, ts, rfl, ht⟩
    rw [List.length_map, List.take_length] at ht
    obtain ⟨e1, e2, e3⟩ := ht.maps
    conv => whnf
    refine ⟨ts, _, rfl, rfl, trivial, by rw [e1]; exact h.nms, by rw [e2]; exact h.rks, by rw [e3]; exact h.few, ht.ok h.ok, fun pl hp => ?_⟩
    exact q ts pl ht hp
theorem filter_nm {rs : List Raw} {r : Raw} (nd : (rs.map (·.nm)).Nodup) (hr : r ∈ rs) : (rs.filter fun t => decide (t.nm = r.nm)) = [r] := by
  induction rs with
  | nil => cases hr
  | cons t rs ih =>
    have nd' := nd
    rw [List.map_cons, List.nodup_cons] at nd
    rw [List.filter_cons]
    rcases List.mem_cons.mp hr with e | hr
    · subst e
      rw [if_pos (decide_eq_true rfl)]
      have : (rs.filter fun t => decide (t.nm = r.nm)) = [] := List.filter_eq_nil_iff.mpr fun x m e => nd.1 (List.mem_map.mpr ⟨x, m, of_decide_eq_true e⟩)
      rw [this]
    · have hne : ¬ t.nm = r.nm := fun e => nd.1 (List.mem_map.mpr ⟨r, hr, e.symm⟩)
      rw [if_neg (ne_d hne)]
      exact ih nd.2 hr
theorem fit_law_raw : Fits tab 3 T__law_raw spLawRaw := by
  rintro ds M Q ⟨rs, r, rfl, h, hr, q⟩
  conv => whnf
  refine ⟨_, rfl, trivial, fun _ => ?_⟩
  refine compL_if dRaw (fun t => decide (t.nm = r.nm)) dRaw (fun t m K k => ?_) ?_
  · repeat ((conv => whnf); first | refine ⟨szL (by simp; done), ?_⟩ | refine ⟨_, rfl, ?_⟩ | refine ⟨rfl, ?_⟩)
    conv => whnf
    refine ic_ (fun h => ?_) fun h => ?_
    · have h : decide (t.nm = r.nm) = true := h
      rw [h] at k
      conv => whnf
      exact ⟨rfl, k⟩
    · have h : decide (t.nm = r.nm) = false := h
      rw [h] at k
      conv => whnf
      exact k
  · rw [filter_nm h.nms hr]
    conv => whnf
    exact ⟨_, rfl, q⟩
theorem any_map {α : Type} {xs : List α} {f : α → DL.D} {p : DL.D → Bool} : (xs.map f).any p = xs.any fun x => p (f x) := by
  induction xs with
  | nil => rfl
  | cons x xs ih => rw [List.map_cons, List.any_cons, List.any_cons, ih]
theorem fit_law_ceiling : Fits tab 4 T__law_ceiling spLawCeiling := by
  rintro ds M Q ⟨rs, k, rfl, h, hk, q⟩
  conv => whnf
  refine ⟨_, rfl, trivial, fun _ => ?_⟩
  refine compL_if dRaw (fun t => t.secs.any fun s => decide (s.k = k)) (fun t => .int t.rk) (fun t m K kk => ?_) ?_
  · conv => whnf
    refine ⟨_, rfl, ?_⟩
    conv => whnf
    refine ⟨_, rfl, trivial, fun _ => ?_⟩
    refine compL_if dSec (fun _ => true) (fun s => .str s.k) (fun s ms K' kk' => ?_) ?_
    · conv => whnf
      refine ⟨rfl, ?_⟩
      repeat ((conv => whnf); first | refine ⟨szL (by simp; done), ?_⟩ | refine ⟨_, rfl, ?_⟩ | refine ⟨rfl, ?_⟩)
      conv => whnf
      exact kk'
    · have ef : (t.secs.filter fun _ => true) = t.secs := List.filter_eq_self.mpr fun _ _ => rfl
      rw [ef, List.nil_append]
      conv => whnf
      refine ⟨?_, ?_⟩
      · rw [Bool.and_eq_true]
        refine ⟨rfl, List.all_eq_true.mpr fun d md => ?_⟩
        obtain ⟨s, _, rfl⟩ := List.mem_map.mp md
        rfl
      · rw [any_map]
        conv => whnf
        refine ⟨_, rfl, rfl, ?_⟩
        refine ic_ (fun hh => ?_) fun hh => ?_
        · have hh : (t.secs.any fun s => decide (s.k = k)) = true := hh
          rw [hh] at kk
          repeat ((conv => whnf); first | refine ⟨szL (by simp; done), ?_⟩ | refine ⟨_, rfl, ?_⟩ | refine ⟨rfl, ?_⟩)
          conv => whnf
          exact kk
        · have hh : (t.secs.any fun s => decide (s.k = k)) = false := hh
          rw [hh] at kk
          conv => whnf
          exact kk
  · conv => whnf
    have ne : ((rs.filter fun t => t.secs.any fun s => decide (s.k = k)).map (·.rk)) ≠ [] := by
      obtain ⟨t, mt, s, ms, e⟩ := hk
      intro z
      have : t.rk ∈ ((rs.filter fun t => t.secs.any fun s => decide (s.k = k)).map (·.rk)) := List.mem_map.mpr ⟨t, List.mem_filter.mpr ⟨mt, List.any_eq_true.mpr ⟨s, ms, decide_eq_true e⟩⟩, rfl⟩
      rw [z] at this
      cases this
    refine ⟨_, (rs.filter fun t => t.secs.any fun s => decide (s.k = k)).map (·.rk), rfl, by rw [List.map_map]; rfl, ne, fun m hm hy => ?_⟩
    obtain ⟨h1, h2⟩ := minL_spec ne
    have e : ceil rs k = m := by
      have a := h2 m hm
      have b := hy _ h1
      unfold ceil
      omega
    rw [e] at q
    exact q
end LawW

set_option Elab.async false
set_option linter.all false
set_option maxRecDepth 100000
namespace LawW
open PySem L2 DL
theorem foldl_max_cons (l : List Int) (m : Int) (h1 : m ∈ (0 : Int) :: l) (h2 : ∀ y ∈ (0 : Int) :: l, y ≤ m) : l.foldl max 0 = m := by
  obtain ⟨a, b⟩ := foldl_max l 0
  have e1 := b m h1
  have e2 := h2 _ a
  omega
theorem fit_law_back : Fits tab 8 T__law_back spLawBack := by
  rintro ds M Q ⟨rs, r, rfl, h, hr, q⟩
  conv => whnf
  refine ⟨rs, r, rfl, h, hr, ?_⟩
  repeat ((conv => whnf); first | refine ⟨szL (by simp; done), ?_⟩ | refine ⟨_, rfl, ?_⟩ | refine ⟨rfl, ?_⟩)
  refine ⟨trivial, fun _ => ?_⟩
  have hl : rs.length < 64 := h.few
  refine forL_inv (fun j ρ M' => M' = M ∧ ∃ v4 v5 v6 v7 : LV, ρ = [.val (.lst (rs.map dRaw)), .val (.str r.nm), .val (.int r.rk), .val (.lst ((0 :: (hold rs r.rk (rs.take j)).map fun p => p.2.l - 1).map .int)), v4, v5, v6, v7]) ⟨rfl, _, _, _, _, rfl⟩ ?_ ?_
  · rintro j d ρ M' K hd ⟨rfl, v4, v5, v6, v7, rfl⟩ k1 k2 k3 k4
    rw [List.getElem?_map] at hd
    cases ht : rs[j]? with
    | none => rw [ht] at hd; cases hd
    | some t =>
      rw [ht] at hd
      obtain rfl : dRaw t = d := Option.some.inj hd
      have mt : t ∈ rs := List.mem_of_getElem? ht
      have etk : rs.take (j + 1) = rs.take j ++ [t] := by rw [List.take_add_one, ht]; rfl
      repeat ((conv => whnf); first | refine ⟨szL (by simp; done), ?_⟩ | refine ⟨_, rfl, ?_⟩ | refine ⟨rfl, ?_⟩)
      refine ic_ (fun hh => ?_) fun hh => ?_
      · have hh : r.rk < t.rk := of_decide_eq_true hh
        repeat ((conv => whnf); first | refine ⟨szL (by simp; done), ?_⟩ | refine ⟨_, rfl, ?_⟩ | refine ⟨rfl, ?_⟩)
        refine ⟨trivial, fun _ => ?_⟩
        refine compL_if dSec (fun s => decide (ceil rs s.k ≤ r.rk)) (fun s => .int (s.l - 1)) (fun s ms K' kk => ?_) ?_
        · conv => whnf
          refine ⟨rfl, ?_⟩
          conv => whnf
          refine ⟨rs, s.k, rfl, h, ⟨t, mt, s, ms, rfl⟩, ?_⟩
          conv => whnf
          refine ⟨_, rfl, rfl, ?_⟩
          refine ic_ (fun h' => ?_) fun h' => ?_
          · rw [h'] at kk
            conv => whnf
            exact ⟨rfl, kk⟩
          · rw [h'] at kk
            conv => whnf
            exact kk
        · conv => whnf
          have z1 := hold_len (cs := rs) (qs := rs.take j) (rk := r.rk) fun t m => (h.ok t (List.mem_of_mem_take m)).few
          have z2 : (rs.take j).length ≤ 64 := by rw [List.length_take]; omega
          have z3 : (t.secs.filter fun s => decide (ceil rs s.k ≤ r.rk)).length ≤ t.secs.length := List.length_filter_le ..
          have z4 := (h.ok t mt).few
          refine ⟨szL (by simp only [List.length_map, List.length_cons, List.nil_append]; omega), ?_⟩
          refine k1 _ _ ⟨rfl, .val (dRaw t), v5, v6, v7, ?_⟩
          rw [etk, hold_snoc, if_pos hh, List.map_append, ← List.cons_append, List.map_append, List.map_map, List.map_map]
          rfl
      · have hh : ¬ r.rk < t.rk := of_decide_eq_false hh
        conv => whnf
        refine k1 _ _ ⟨rfl, .val (dRaw t), v5, v6, v7, ?_⟩
        rw [etk, hold_snoc, if_neg hh, List.append_nil]
        rfl
  · rintro ρ M' ⟨rfl, v4, v5, v6, v7, rfl⟩
    rw [List.length_map, List.take_length]
    conv => whnf
    rw [hold_backs]
    refine ⟨_, 0 :: backs rs r.rk, rfl, rfl, by simp, fun m hm hy => ?_⟩
    have e : back rs r.rk = m := foldl_max_cons _ m hm hy
    rw [e] at q
    exact q
theorem filter_snoc {α : Type} {p : α → Bool} {xs : List α} {t : α} : (xs ++ [t]).filter p = xs.filter p ++ (if p t then [t] else []) := by
  rw [List.filter_append, List.filter_cons, List.filter_nil]
theorem fit_law_side : Fits tab 7 T__law_side spLawSide := by
  rintro ds M Q ⟨rs, r, x, rfl, h, hr, hx0, q⟩
  conv => whnf
  refine ⟨rs, r, rfl, h, hr, ?_⟩
  conv => whnf
  refine ⟨rs, r, rfl, h, hr, ?_⟩
  repeat ((conv => whnf); first | refine ⟨szL (by simp; done), ?_⟩ | refine ⟨_, rfl, ?_⟩ | refine ⟨rfl, ?_⟩)
  refine ⟨trivial, fun _ => ?_⟩
  refine forL_inv (fun j ρ M' => M' = M ∧ ∃ v5 v6 : LV, ρ = [.val (.lst (rs.map dRaw)), .val (.str r.nm), .val (.int x), .val (dRaw r), .val (.int (back rs r.rk + r.mst + (((rs.take j).filter fun t => decide (t.rk < r.rk)).map fun t => upN t x).sum)), v5, v6]) ⟨rfl, .no, .no, ?_⟩ ?_ ?_
  · have e : back rs r.rk + r.mst + (((rs.take 0).filter fun t => decide (t.rk < r.rk)).map fun t => upN t x).sum = back rs r.rk + r.mst := by simp
    rw [e]
    rfl
  · rintro j d ρ M' K hd ⟨rfl, v5, v6, rfl⟩ k1 k2 k3 k4
    rw [List.getElem?_map] at hd
    cases ht : rs[j]? with
    | none => rw [ht] at hd; cases hd
    | some t =>
      rw [ht] at hd
      obtain rfl : dRaw t = d := Option.some.inj hd
      have mt : t ∈ rs := List.mem_of_getElem? ht
      have ok := h.ok t mt
      have etk : rs.take (j + 1) = rs.take j ++ [t] := by rw [List.take_add_one, ht]; rfl
      repeat ((conv => whnf); first | refine ⟨szL (by simp; done), ?_⟩ | refine ⟨_, rfl, ?_⟩ | refine ⟨rfl, ?_⟩)
      refine ic_ (fun hh => ?_) fun hh => ?_
      · repeat ((conv => whnf); first | refine ⟨szL (by simp; done), ?_⟩ | refine ⟨_, rfl, ?_⟩ | refine ⟨rfl, ?_⟩)
        conv => whnf
        refine ⟨⟨by have := ok.gap1; omega, .inr (wide_ok (by have := ok.gap1; omega) ok.gapL (by have := hx0.1; have := ok.wt0; omega) (by have := hx0.2; have := ok.wtL; unfold LIM at this; omega))⟩, ?_⟩
        repeat ((conv => whnf); first | refine ⟨szL (by simp; done), ?_⟩ | refine ⟨_, rfl, ?_⟩ | refine ⟨rfl, ?_⟩)
        conv => whnf
        refine ⟨.inl (p64 (by have := ok.mst1; omega) ok.mstL), ?_⟩
        conv => whnf
        refine k1 _ _ ⟨rfl, .val (dRaw t), .val (.int ((x + t.wt + t.gap - 1) / t.gap)), ?_⟩
        have e : back rs r.rk + r.mst + (((rs.take (j + 1)).filter fun t => decide (t.rk < r.rk)).map fun t => upN t x).sum = back rs r.rk + r.mst + (((rs.take j).filter fun t => decide (t.rk < r.rk)).map fun t => upN t x).sum + t.mst * ((x + t.wt + t.gap - 1) / t.gap) := by
          rw [etk, filter_snoc, if_pos hh, List.map_append, List.sum_append]
          simp only [List.map_cons, List.map_nil, List.sum_cons, List.sum_nil]
          unfold upN
          omega
        rw [e]
        rfl
      · conv => whnf
        refine k1 _ _ ⟨rfl, .val (dRaw t), v6, ?_⟩
        rw [etk, filter_snoc, if_neg (ne_t hh), List.append_nil]
        rfl
  · rintro ρ M' ⟨rfl, v5, v6, rfl⟩
    rw [List.length_map, List.take_length]
    conv => whnf
    exact q
end LawW

set_option Elab.async false
set_option linter.all false
set_option maxRecDepth 100000
namespace LawW
open PySem L2 DL
def pk : List Key := [.inr "cells", .inr "at", .inr "left"]
theorem n_cl : ¬ (("cells" : Str) = "left") := by decide +kernel
theorem n_ca : ¬ (("cells" : Str) = "at") := by decide +kernel
theorem n_al : ¬ (("at" : Str) = "left") := by decide +kernel
theorem gp_cells (x y z : DL.D) : dget pk [x, y, z] (.inr "cells") = some x := by
  unfold dget pk
  simp
theorem gp_at (x y z : DL.D) : dget pk [x, y, z] (.inr "at") = some y := by
  unfold dget pk
  simp [n_ca]
theorem gp_left (x y z : DL.D) : dget pk [x, y, z] (.inr "left") = some z := by
  unfold dget pk
  simp [n_cl, n_al]
theorem pp_at (x y z u : DL.D) : dput pk [x, y, z] (.inr "at") u = (pk, [x, u, z]) := by
  unfold pk
  simp only [dput, Sum.inr.injEq, n_ca, if_false, if_true]
theorem pp_left (x y z u : DL.D) : dput pk [x, y, z] (.inr "left") u = (pk, [x, y, u]) := by
  unfold pk
  simp only [dput, Sum.inr.injEq, n_cl, n_al, if_false, if_true]
theorem dats_ints : ∀ ns : List Int, dats (ns.map .int) = true
  | [] => by unfold dats; rfl
  | n :: ns => by rw [List.map_cons]; unfold dats; rw [dats_ints ns]; rfl
theorem deps_ints : ∀ ns : List Int, deps (ns.map .int) = 0
  | [] => by unfold deps; rfl
  | n :: ns => by rw [List.map_cons]; unfold deps; rw [deps_ints ns]; rfl
theorem eqOk_ints (xs ys : List Int) : eqOk (.lst (xs.map .int)) (.lst (ys.map .int)) = true := by
  have h : ∀ ns : List Int, dat (.lst (ns.map .int)) = true := fun ns => by unfold dat; exact dats_ints ns
  have h2 : ∀ ns : List Int, dep (.lst (ns.map .int)) = 1 := fun ns => by unfold dep; rw [deps_ints ns]
  show (dat (.lst (xs.map .int)) && dat (.lst (ys.map .int)) && decide (dep (.lst (xs.map .int)) ≤ 60) && decide (dep (.lst (ys.map .int)) ≤ 60)) = true
  rw [h, h, h2, h2]
  rfl
theorem cut_map {α β : Type} {f : α → β} {xs : List α} {lo hi : Option Int} : cutD (xs.map f) lo hi = (cutD xs lo hi).map f := by
  unfold cutD
  rw [List.length_map, List.map_take, List.map_drop]
theorem fit_pen : Fits tab 2 T__law_pen spPen := by
  rintro ds M Q ⟨ns, rfl, q⟩
  conv => whnf
  refine ⟨_, rfl, ?_⟩
  conv => whnf
  refine ⟨_, rfl, trivial, fun _ => ?_⟩
  rw [cut_map]
  refine compL_if DL.D.int (fun _ => true) DL.D.int (fun n _ K k => ?_) ?_
  · conv => whnf
    refine ⟨rfl, ?_⟩
    conv => whnf
    exact ⟨rfl, k⟩
  have ef : ((cutD ns none (some 63)).filter fun _ => true) = cutD ns none (some 63) := List.filter_eq_self.mpr fun _ _ => rfl
  rw [ef, List.nil_append]
  conv => whnf
  refine ⟨rfl, ⟨rfl, by decide +kernel, by decide⟩, ?_⟩
  conv => whnf
  refine ⟨_, rfl, fun p hp => ?_⟩
  exact q p _ hp (fun b hb => updM_ne hb) ⟨cutD ns none (some 63), 0, 0, updM_same, Int.le_refl _, Int.le_refl _, Int.le_refl _⟩
def P31 : Int := 4294967311
theorem fit_draw : Fits tab 7 T__law_draw spDraw := by
  rintro ds M Q ⟨a, n, c, rfl, hn, hn2, ⟨cs, i, l, hM, i0, ic, l0⟩, hc, q⟩
  have vM := view_co hM
  have fin : ∀ (r : Int) (M' : Mem) (i' l' : Int), 0 ≤ r → r < n → But a M M' → M' a = some (.co (.K pk [.lst (cs.map .int), .int i', .int l'])) → 0 ≤ i' → i' ≤ c + 1 → 0 ≤ l' → Q (.int r) M' := fun r M' i' l' h1 h2 h3 h4 h5 h6 h7 => q r M' h1 h2 h3 ⟨cs, i', l', h4, h5, h6, h7⟩
  have md : ∀ x : Int, 0 ≤ x % n ∧ x % n < n := fun x => ⟨Int.emod_nonneg _ (by omega), Int.emod_lt_of_pos _ hn⟩
  conv => whnf
  rw [vM]
  refine ⟨_, _, rfl, gp_left _ _ _, ?_⟩
  conv => whnf
  refine ⟨_, rfl, ?_⟩
  refine ic_ (fun h => ?_) fun h => ?_
  · conv => whnf
    rw [vM]
    refine ⟨_, _, rfl, gp_left _ _ _, ?_⟩
    conv => whnf
    refine ⟨hn, ?_⟩
    conv => whnf
    rw [vM]
    refine ⟨_, _, rfl, gp_left _ _ _, ?_⟩
    conv => whnf
    refine ⟨⟨hn, .inl hn2⟩, ?_⟩
    conv => whnf
    refine ⟨a, _, rfl, hM, _, rfl, by show 3 < sizeLine; rw [sizeLine_eq]; decide, ?_⟩
    rw [show dput [.inr "cells", .inr "at", .inr "left"] [.lst (cs.map .int), .int i, .int l] (.inr (Str.ofString "left")) (.int (l / n)) = (pk, [.lst (cs.map .int), .int i, .int (l / n)]) from pp_left _ _ _ _]
    conv => whnf
    exact fin _ _ i (l / n) (md l).1 (md l).2 (fun b hb => updM_ne hb) updM_same i0 (by omega) (Int.ediv_nonneg l0 (by omega))
  conv => whnf
  rw [vM]
  refine ⟨_, _, rfl, gp_at _ _ _, ?_⟩
  conv => whnf
  refine ⟨a, _, rfl, hM, _, rfl, by show 3 < sizeLine; rw [sizeLine_eq]; decide, ?_⟩
  rw [show dput [.inr "cells", .inr "at", .inr "left"] [.lst (cs.map .int), .int i, .int l] (.inr (Str.ofString "at")) (.int (i + 1)) = (pk, [.lst (cs.map .int), .int (i + 1), .int l]) from pp_at _ _ _ _]
  dsimp only
  generalize hM1 : updM M a (.co (.K pk [.lst (cs.map .int), .int (i + 1), .int l])) = M1
  have m1 : M1 a = some (.co (.K pk [.lst (cs.map .int), .int (i + 1), .int l])) := by rw [← hM1]; exact updM_same
  have but1 : But a M M1 := fun b hb => by rw [← hM1]; exact updM_ne hb
  have v1 := view_co m1
  have p64' : -(2 ^ 64 : Int) < i ∧ i < 2 ^ 64 := by
    have e : (2 : Int) ^ 64 = 18446744073709551616 := by decide
    rw [e]; omega
  conv => whnf
  refine ⟨.inl p64', ?_⟩
  conv => whnf
  rw [v1]
  refine ⟨_, _, rfl, gp_cells _ _ _, ?_⟩
  conv => whnf
  refine ⟨szL (by simp), ?_⟩
  -- pen['cells'] != []
  have step : ∀ cell : Int, wpS tab (.seq (.cond (.and (.cmp .lt (.var 2) (.bi .len (.cons (.idx (.var 0) (.str "cells")) .nil))) (.cmp .ge (.bi .abs (.cons (.var 3) .nil)) (.bin .pow (.int 10) (.int 18)))) (.seq (.setIx (.var 0) (.str "left") (.bin .fdiv (.bi .abs (.cons (.var 3) .nil)) (.var 1)))
  (.ret (.bin .mod (.bi .abs (.cons (.var 3) .nil)) (.var 1)))) .skip)
  (.seq (.set 4 (.bin .mod (.bin .mul (.bin .add (.bin .add (.bin .mod (.var 3) (.int 4294967311)) (.bin .mul (.int 65539) (.var 2))) (.int 17)) (.int 48271)) (.int 4294967311)))
  (.seq (.for (.tname 5) (.rng1 (.int 3))
  (.seq (.set 4 (.bin .add (.bin .add (.bin .add (.bin .mul (.var 4) (.var 4)) (.bin .mul (.int 69621) (.var 4))) (.var 2)) (.var 5)))
  (.set 4 (.bin .mod (.var 4) (.int 4294967311)))))
  (.ret (.bin .mod (.bin .fdiv (.var 4) (.int 32)) (.var 1)))))) [.val (.loc a), .val (.int n), .val (.int i), .val (.int cell), .no, .no, .no] M1 (enOf Q) := by
    intro cell
    have back : wpS tab (.seq (.set 4 (.bin .mod (.bin .mul (.bin .add (.bin .add (.bin .mod (.var 3) (.int 4294967311)) (.bin .mul (.int 65539) (.var 2))) (.int 17)) (.int 48271)) (.int 4294967311)))
  (.seq (.for (.tname 5) (.rng1 (.int 3))
  (.seq (.set 4 (.bin .add (.bin .add (.bin .add (.bin .mul (.var 4) (.var 4)) (.bin .mul (.int 69621) (.var 4))) (.var 2)) (.var 5)))
  (.set 4 (.bin .mod (.var 4) (.int 4294967311)))))
  (.ret (.bin .mod (.bin .fdiv (.var 4) (.int 32)) (.var 1))))) [.val (.loc a), .val (.int n), .val (.int i), .val (.int cell), .no, .no, .no] M1 (enOf Q) := by
      have q31 : ∀ x : Int, 0 ≤ x % 4294967311 ∧ x % 4294967311 < 4294967311 := fun x => ⟨Int.emod_nonneg _ (by omega), Int.emod_lt_of_pos _ (by omega)⟩
      have b64 : ∀ x : Int, 0 ≤ x → x < 4294967311 → -(2 ^ 64 : Int) < x ∧ x < 2 ^ 64 := fun x h1 h2 => by
        have e : (2 : Int) ^ 64 = 18446744073709551616 := by decide
        rw [e]; omega
      conv => whnf
      refine ⟨by decide, ?_⟩
      conv => whnf
      refine ⟨.inl (by decide), ?_⟩
      conv => whnf
      refine ⟨.inr (by decide), ?_⟩
      conv => whnf
      refine ⟨by decide, ?_⟩
      conv => whnf
      refine ⟨_, rfl, ⟨by decide, by decide⟩, ?_⟩
      refine forL_inv (fun j ρ M' => M' = M1 ∧ ∃ (x : Int) (v5 : LV), ρ = [.val (.loc a), .val (.int n), .val (.int i), .val (.int cell), .val (.int x), v5, .no] ∧ 0 ≤ x ∧ x < 4294967311) ⟨rfl, _, _, rfl, (q31 _).1, (q31 _).2⟩ ?_ ?_
      · rintro j d ρ M' K hd ⟨rfl, x, v5, rfl, x0, x1⟩ k1 k2 k3 k4
        obtain ⟨hj, rfl⟩ := rng_get hd
        conv => whnf
        refine ⟨.inl (b64 x x0 x1), ?_⟩
        conv => whnf
        refine ⟨.inl (by decide), ?_⟩
        conv => whnf
        refine ⟨by decide, ?_⟩
        conv => whnf
        exact k1 _ _ ⟨rfl, _, _, rfl, (q31 _).1, (q31 _).2⟩
      · rintro ρ M' ⟨rfl, x, v5, rfl, x0, x1⟩
        conv => whnf
        refine ⟨⟨by decide, .inl (by decide)⟩, ?_⟩
        conv => whnf
        refine ⟨hn, ?_⟩
        conv => whnf
        exact fin _ _ (i + 1) l (md _).1 (md _).2 but1 m1 (by omega) (by omega) l0
    conv => whnf
    rw [v1]
    refine ⟨_, _, rfl, gp_cells _ _ _, ?_⟩
    conv => whnf
    refine ⟨_, rfl, ?_⟩
    conv => whnf
    refine ⟨_, rfl, ?_⟩
    refine ic_ (fun h => ?_) fun h => ?_
    · conv => whnf
      refine ⟨_, rfl, ?_⟩
      conv => whnf
      refine ⟨⟨by decide, by decide, by decide⟩, ?_⟩
      conv => whnf
      refine ⟨_, rfl, ?_⟩
      refine ic_ (fun h => ?_) fun h => ?_
      · conv => whnf
        refine ⟨_, rfl, ?_⟩
        conv => whnf
        refine ⟨⟨hn, .inl hn2⟩, ?_⟩
        conv => whnf
        refine ⟨a, _, rfl, m1, _, rfl, by show 3 < sizeLine; rw [sizeLine_eq]; decide, ?_⟩
        rw [show dput pk [.lst (cs.map .int), .int (i + 1), .int l] (.inr (Str.ofString "left")) (.int ((if cell < 0 then -cell else cell) / n)) = (pk, [.lst (cs.map .int), .int (i + 1), .int ((if cell < 0 then -cell else cell) / n)]) from pp_left _ _ _ _]
        conv => whnf
        refine ⟨_, rfl, ?_⟩
        conv => whnf
        refine ⟨hn, ?_⟩
        have nn : 0 ≤ (if cell < 0 then -cell else cell) := by split <;> omega
        exact fin _ _ (i + 1) _ (md _).1 (md _).2 (fun b hb => by rw [updM_ne hb]; exact but1 b hb) updM_same (by omega) (by omega) (Int.ediv_nonneg nn (by omega))
      · exact back
    · conv => whnf
      exact ⟨_, rfl, back⟩
  have eo := eqOk_ints cs []
  conv => whnf
  refine ⟨eo, ?_⟩
  conv => whnf
  refine ⟨_, rfl, ?_⟩
  cases cs with
  | nil =>
    refine if_ (by simp only [List.map_nil, deq, deqs]; rfl) ?_
    exact step _
  | cons x xs =>
    refine it_ (by simp only [List.map_cons, List.map_nil, deq, deqs]; rfl) ?_
    conv => whnf
    rw [v1]
    refine ⟨_, _, rfl, gp_cells _ _ _, ?_⟩
    conv => whnf
    rw [v1]
    refine ⟨_, _, rfl, gp_cells _ _ _, ?_⟩
    conv => whnf
    refine ⟨_, rfl, ?_⟩
    have hl : (((x :: xs).map DL.D.int).length : Int) = (xs.length + 1 : Nat) := by rw [List.length_map, List.length_cons]
    conv => whnf
    refine ⟨by rw [hl]; omega, ?_⟩
    conv => whnf
    obtain ⟨j, hj, ej⟩ : ∃ j : Nat, j < xs.length + 1 ∧ i % (((x :: xs).map DL.D.int).length : Int) = (j : Int) := by
      have h1 : 0 ≤ i % ((xs.length + 1 : Nat) : Int) := Int.emod_nonneg _ (by omega)
      have h2 : i % ((xs.length + 1 : Nat) : Int) < ((xs.length + 1 : Nat) : Int) := Int.emod_lt_of_pos _ (by omega)
      rw [hl]
      exact ⟨(i % ((xs.length + 1 : Nat) : Int)).toNat, by omega, by omega⟩
    rw [ej]
    obtain ⟨y, hy⟩ : ∃ y, (x :: xs)[j]? = some y := ⟨_, List.getElem?_eq_getElem hj⟩
    refine ⟨.int y, atI_nat (by rw [List.getElem?_map, hy]; rfl), ?_⟩
    exact step y
end LawW

set_option Elab.async false
set_option linter.all false
set_option maxRecDepth 100000
namespace LawW
open PySem L2 DL
def alpha : Str := Str.ofString "abcdefghijklmnopqrstuvwxyz"
def sgn (c : Nat) : Str := ⟨#[c]⟩
theorem alpha_at {i : Int} (h0 : 0 ≤ i) (h1 : i < 26) : atI alpha.cps.toList i = some (97 + i.toNat) := by
  have e : i = (i.toNat : Int) := by omega
  have all : (List.range 26).all (fun j => alpha.cps.toList[j]? == some (97 + j)) = true := by decide +kernel
  have := List.all_eq_true.mp all i.toNat (List.mem_range.mpr (by omega))
  rw [e]
  rw [Int.toNat_natCast]
  exact atI_nat (beq_iff_eq.mp this)
theorem alpha_len : alpha.length ≤ sizeLine := szL (by decide +kernel)
def cl (s : Str) : List Nat := s.cps.toList
theorem cl_append (a b : Str) : cl (a ++ b) = cl a ++ cl b := by
  show (a.cps ++ b.cps).toList = _
  rw [Array.toList_append]
  rfl
theorem cl_inj {a b : Str} (h : cl a = cl b) : a = b := by
  cases a; cases b
  simp only [cl] at h
  rw [Array.toList_inj.mp h]
theorem cl_join (ys : List Str) : cl (Txt.join ⟨#[]⟩ ys) = (ys.map cl).flatten := by
  rw [TL.join_eq]
  induction ys with
  | nil => rfl
  | cons x r ih =>
    cases r with
    | nil => simp [Str.join]
    | cons z r =>
      show cl (x ++ ⟨#[]⟩ ++ Str.join ⟨#[]⟩ (z :: r)) = _
      rw [cl_append, cl_append, ih]
      simp [cl]
theorem empty_eq : Str.ofString "" = ⟨#[]⟩ := by decide +kernel
theorem PenM.mono {c c' : Int} {M : Mem} {a : Addr} (h : PenM c M a) (hc : c ≤ c') : PenM c' M a := by
  obtain ⟨cs, i, l, e, h1, h2, h3⟩ := h
  exact ⟨cs, i, l, e, h1, by omega, h3⟩
theorem But.trans {a : Addr} {M1 M2 M3 : Mem} (h : But a M1 M2) (h' : But a M2 M3) : But a M1 M3 := fun b hb => (h' b hb).trans (h b hb)
theorem But.refl (a : Addr) (M : Mem) : But a M M := fun _ _ => rfl
theorem six (r : Int) (h0 : 0 ≤ r) (h1 : r < 6) : ∃ b : Int, atI ([.int 3, .int 5, .int 7, .int 9, .int 11, .int 15] : List DL.D) r = some (.int b) ∧ (b = 3 ∨ b = 5 ∨ b = 7 ∨ b = 9 ∨ b = 11 ∨ b = 15) := by
  have : r = 0 ∨ r = 1 ∨ r = 2 ∨ r = 3 ∨ r = 4 ∨ r = 5 := by omega
  rcases this with rfl | rfl | rfl | rfl | rfl | rfl
  · exact ⟨3, rfl, by simp⟩
  · exact ⟨5, rfl, by simp⟩
  · exact ⟨7, rfl, by simp⟩
  · exact ⟨9, rfl, by simp⟩
  · exact ⟨11, rfl, by simp⟩
  · exact ⟨15, rfl, by simp⟩
theorem spread {f b k j : Int} (hb : b = 3 ∨ b = 5 ∨ b = 7 ∨ b = 9 ∨ b = 11 ∨ b = 15) (k0 : 0 ≤ k) (k1 : k < 26) (j0 : 0 ≤ j) (j1 : j < 26) (e : (f + b * k) % 26 = (f + b * j) % 26) : k = j := by
  rcases hb with rfl | rfl | rfl | rfl | rfl | rfl <;> omega
def letAt (f b : Int) (k : Nat) : Str := sgn (97 + ((f + b * (k : Int)) % 26).toNat)
theorem letAt_ok (f b : Int) (k : Nat) : ∀ c ∈ cl (letAt f b k), LetOk c := by
  intro c m
  have h1 : 0 ≤ (f + b * (k : Int)) % 26 := Int.emod_nonneg _ (by omega)
  have h2 : (f + b * (k : Int)) % 26 < 26 := Int.emod_lt_of_pos _ (by omega)
  have e : c = 97 + ((f + b * (k : Int)) % 26).toNat := by simpa [cl, letAt, sgn] using m
  exact ⟨by omega, by omega⟩
theorem letAt_inj {f b : Int} (hb : b = 3 ∨ b = 5 ∨ b = 7 ∨ b = 9 ∨ b = 11 ∨ b = 15) {k j : Nat} (hk : k < 26) (hj : j < 26) (e : cl (letAt f b k) = cl (letAt f b j)) : k = j := by
  have h1 : 0 ≤ (f + b * (k : Int)) % 26 := Int.emod_nonneg _ (by omega)
  have h2 : 0 ≤ (f + b * (j : Int)) % 26 := Int.emod_nonneg _ (by omega)
  have e : 97 + ((f + b * (k : Int)) % 26).toNat = 97 + ((f + b * (j : Int)) % 26).toNat := by simpa [cl, letAt, sgn] using e
  have := spread (f := f) hb (k := k) (j := j) (by omega) (by omega) (by omega) (by omega) (by omega)
  omega
theorem len_cl (s : Str) : s.length = (cl s).length := by unfold cl; rw [Array.length_toList]; rfl
theorem nodup_range {n : Nat} {g : Nat → Str} (h : ∀ k j, k < n → j < n → g k = g j → k = j) : ((List.range n).map g).Nodup := by
  rw [List.nodup_iff_pairwise_ne, List.pairwise_map]
  refine List.Pairwise.imp_of_mem ?_ (List.nodup_iff_pairwise_ne.mp List.nodup_range)
  intro x y hx hy hne e
  exact hne (h x y (List.mem_range.mp hx) (List.mem_range.mp hy) e)
theorem fit_names : Fits tab 10 T__law_names spNames := by
  rintro ds M Q ⟨a, n, c, rfl, n0, n26, hp, hc, q⟩
  conv => whnf
  refine ⟨trivial, ?_⟩
  conv => whnf
  refine ⟨a, 12, c, rfl, by decide, by decide, hp, by omega, fun r M1 r0 r1 b1 p1 => ?_⟩
  conv => whnf
  refine ⟨_, rfl, ⟨by omega, by omega⟩, ?_⟩
  refine compL_inv (fun j acc M' => But a M M' ∧ PenM (c + 1 + j) M' a ∧ ∃ ys : List Str, acc = ys.map .str ∧ ys.length = j ∧ ∀ y ∈ ys, ∃ x, cl y = [x] ∧ LetOk x) ⟨b1, by simpa using p1, [], rfl, rfl, by simp⟩ ?_ ?_
  · rintro j d acc M' K hd ⟨bt, pt, ys, rfl, hy, hl⟩ k1 k2
    obtain ⟨hj, rfl⟩ := rng_get hd
    conv => whnf
    refine ⟨rfl, ?_⟩
    conv => whnf
    refine ⟨a, 26, c + 1 + j, rfl, by decide, by decide, pt, by omega, fun r' M2 s0 s1 b2 p2 => ?_⟩
    conv => whnf
    refine ⟨_, alpha_len, alpha_at s0 s1, ?_⟩
    refine ⟨rfl, k1 _ _ ⟨bt.trans b2, p2.mono (by omega), ys ++ [sgn (97 + r'.toNat)], by rw [List.map_append]; rfl, by rw [List.length_append, hy]; rfl, fun y m => ?_⟩⟩
    rcases List.mem_append.mp m with m | m
    · exact hl y m
    · rw [List.mem_singleton.mp m]
      exact ⟨_, rfl, by omega, by omega⟩
  rintro acc M2 ⟨b2, p2, ys, rfl, hy, hl⟩
  rw [List.length_map, List.length_range] at hy p2
  have hy12 : ys.length ≤ 11 := by omega
  have ylen : ∀ y ∈ ys, y.length = 1 := fun y m => by
    obtain ⟨x, e, _⟩ := hl y m
    rw [len_cl, e]; rfl
  have sum1 : (ys.map (·.length)).sum ≤ 11 := by
    have : ∀ zs : List Str, (∀ y ∈ zs, y.length = 1) → (zs.map (·.length)).sum = zs.length := by
      intro zs
      induction zs with
      | nil => intro _; rfl
      | cons z zs ih => intro h; rw [List.map_cons, List.sum_cons, ih fun y m => h y (List.mem_cons_of_mem _ m), h z (List.mem_cons_self ..), List.length_cons]; omega
    rw [this ys ylen]; exact hy12
  conv => whnf
  refine ⟨ys, rfl, ?_, ?_⟩
  · have e0 : (Str.ofString "").length = 0 := by decide +kernel
    rw [e0]; omega
  generalize htl : Txt.join (Str.ofString "") ys = tl
  have tlc : cl tl = (ys.map cl).flatten := by rw [← htl, empty_eq, cl_join]
  have tll : (cl tl).length ≤ 11 := by
    rw [tlc]
    have : ∀ zs : List Str, (∀ y ∈ zs, ∃ x, cl y = [x] ∧ LetOk x) → (zs.map cl).flatten.length = zs.length := by
      intro zs
      induction zs with
      | nil => intro _; rfl
      | cons z zs ih =>
        intro h
        obtain ⟨x, e, _⟩ := h z (List.mem_cons_self ..)
        rw [List.map_cons, List.flatten_cons, List.length_append, ih fun y m => h y (List.mem_cons_of_mem _ m), e, List.length_cons, List.length_cons, List.length_nil]; omega
    rw [this ys hl]; exact hy12
  have tlo : ∀ x ∈ cl tl, LetOk x := fun x m => by
    rw [tlc] at m
    obtain ⟨l, ml, mx⟩ := List.mem_flatten.mp m
    obtain ⟨y, my, rfl⟩ := List.mem_map.mp ml
    obtain ⟨z, e, hz⟩ := hl y my
    rw [e] at mx
    rw [List.mem_singleton.mp mx]; exact hz
  have hc2 : c + 1 + (r.toNat : Int) ≤ c + 20 := by omega
  conv => whnf
  refine ⟨a, 26, c + 1 + r.toNat, rfl, by decide, by decide, by simpa using p2, by omega, fun f M3 f0 f1 b3 p3 => ?_⟩
  conv => whnf
  refine ⟨szL (by simp), ?_⟩
  conv => whnf
  refine ⟨a, 6, _, rfl, by decide, by decide, p3, by omega, fun g M4 g0 g1 b4 p4 => ?_⟩
  obtain ⟨by', e6, hby⟩ := six g g0 g1
  conv => whnf
  refine ⟨_, e6, ?_⟩
  conv => whnf
  refine ⟨a, 2, _, rfl, by decide, by decide, p4, by omega, fun w M5 w0 w1 b5 p5 => ?_⟩
  have bt : But a M M5 := ((b2.trans b3).trans b4).trans b5
  conv => whnf
  refine ⟨_, rfl, ⟨by omega, by omega⟩, ?_⟩
  refine compL_if (fun k : Nat => DL.D.int (k : Nat)) (fun _ => true) (fun k => .str (letAt f by' k)) (fun k mk K kk => ?_) ?_
  · have hk : k < 26 := by have := List.mem_range.mp mk; omega
    conv => whnf
    refine ⟨rfl, ?_⟩
    conv => whnf
    refine ⟨.inl ⟨by have e : (2 : Int) ^ 64 = 18446744073709551616 := by decide
                     rw [e]; omega, by have e : (2 : Int) ^ 64 = 18446744073709551616 := by decide
                                       rw [e]; omega⟩, ?_⟩
    conv => whnf
    refine ⟨by decide, ?_⟩
    conv => whnf
    refine ⟨_, alpha_len, alpha_at (Int.emod_nonneg _ (by omega)) (Int.emod_lt_of_pos _ (by omega)), ?_⟩
    exact ⟨rfl, kk⟩
  have ef : ((List.range n.toNat).filter fun _ => true) = List.range n.toNat := List.filter_eq_self.mpr fun _ _ => rfl
  rw [ef, List.nil_append]
  have l1 : ∀ k, (letAt f by' k).length = 1 := fun k => by rw [len_cl]; rfl
  have tl1 : tl.length ≤ 11 := by rw [len_cl]; exact tll
  conv => whnf
  refine ⟨_, rfl, trivial, fun _ => ?_⟩
  let g2 : Nat → Str := fun k => if w = 0 then letAt f by' k ++ tl else tl ++ letAt f by' k
  refine compL_if (fun k : Nat => DL.D.str (letAt f by' k)) (fun _ => true) (fun k => .str (g2 k)) (fun k mk K kk => ?_) ?_
  · have z1 := l1 k
    conv => whnf
    refine ⟨rfl, ?_⟩
    conv => whnf
    refine ⟨szL (by omega), ?_⟩
    conv => whnf
    refine ⟨szL (by omega), ?_⟩
    conv => whnf
    refine ⟨szL (by simp), ?_⟩
    conv => whnf
    have hw : w = 0 ∨ w = 1 := by omega
    rcases hw with rfl | rfl
    · exact ⟨_, rfl, rfl, kk⟩
    · exact ⟨_, rfl, rfl, kk⟩
  rw [ef, List.nil_append]
  conv => whnf
  have e7 : (List.range n.toNat).map (fun k => DL.D.str (g2 k)) = ((List.range n.toNat).map g2).map .str := by rw [List.map_map]; rfl
  rw [e7]
  have gcl : ∀ k, cl (g2 k) = (if w = 0 then cl (letAt f by' k) ++ cl tl else cl tl ++ cl (letAt f by' k)) := fun k => by
    show cl (if w = 0 then letAt f by' k ++ tl else tl ++ letAt f by' k) = _
    split <;> rw [cl_append]
  refine q _ M5 (by rw [List.length_map, List.length_range]) (nodup_range fun k j hk hj e => ?_) (fun x mx => ?_) bt (p5.mono (by omega))
  · have e := congrArg cl e
    rw [gcl, gcl] at e
    split at e
    · exact letAt_inj hby (by omega) (by omega) (List.append_cancel_right e)
    · exact letAt_inj hby (by omega) (by omega) (List.append_cancel_left e)
  · obtain ⟨k, _, rfl⟩ := List.mem_map.mp mx
    have e1 : (cl (letAt f by' k)).length = 1 := rfl
    have ok : ∀ c ∈ cl (g2 k), LetOk c := fun c mc => by
      rw [gcl] at mc
      split at mc
      · rcases List.mem_append.mp mc with m | m
        · exact letAt_ok f by' k c m
        · exact tlo c m
      · rcases List.mem_append.mp mc with m | m
        · exact tlo c m
        · exact letAt_ok f by' k c m
    have ln : (cl (g2 k)).length = 1 + (cl tl).length := by
      rw [gcl]
      split <;> rw [List.length_append] <;> omega
    exact ⟨by show 1 ≤ (cl (g2 k)).length; omega, by show (cl (g2 k)).length ≤ 12; omega, ok⟩
end LawW

set_option Elab.async false
set_option linter.all false
set_option maxRecDepth 100000
namespace LawW
open PySem L2 DL
theorem at3 {ls : List Str} (h : 3 ≤ ls.length) {i : Int} (h0 : 0 ≤ i) (h1 : i < 3) : ∃ k : Str, ls[i.toNat]? = some k ∧ k ∈ ls ∧ atI (ls.map DL.D.str) i = some (.str k) := by
  obtain ⟨j, rfl⟩ : ∃ j : Nat, i = (j : Int) := ⟨i.toNat, by omega⟩
  have hi : j < ls.length := by omega
  refine ⟨ls[j], List.getElem?_eq_getElem hi, List.getElem_mem hi, atI_nat ?_⟩
  rw [List.getElem?_map, List.getElem?_eq_getElem hi]
  rfl
theorem at_ne {ls : List Str} (nd : ls.Nodup) {i j : Nat} {a b : Str} (hi : ls[i]? = some a) (hj : ls[j]? = some b) (h : i ≠ j) : a ≠ b := by
  obtain ⟨h1, e1⟩ := List.getElem?_eq_some_iff.mp hi
  obtain ⟨h2, e2⟩ := List.getElem?_eq_some_iff.mp hj
  have pw := List.pairwise_iff_getElem.mp (List.nodup_iff_pairwise_ne.mp nd)
  rcases Nat.lt_or_gt_of_ne h with h | h
  · have := pw i j h1 h2 h
    rw [e1, e2] at this
    exact this
  · have := pw j i h2 h1 h
    rw [e1, e2] at this
    exact fun e => this e.symm
theorem fit_sections : Fits tab 9 T__law_sections spSections := by
  rintro ds M Q ⟨a, full, ls, c, rfl, f1, fL, l3, nd, nok, hp, hc, q⟩
  have nil : ∀ M', But a M M' → PenM (c + 100) M' a → Q (.tup []) M' := fun M' b p => q [] M' (fun _ m => nomatch m) .nil (Nat.zero_le _) b p
  conv => whnf
  refine ⟨_, rfl, ?_⟩
  refine ic_ (fun h => ?_) fun h => ?_
  · conv => whnf
    refine ⟨_, rfl, ?_⟩
    conv => whnf
    exact ⟨szL (by simp), nil M (But.refl a M) (hp.mono (by omega))⟩
  have f3 : 3 ≤ full := by have := of_decide_eq_false h; omega
  conv => whnf
  refine ⟨a, 3, c, rfl, by decide, by decide, hp, by omega, fun r0 M0 _ _ b0 p0 => ?_⟩
  conv => whnf
  refine ⟨rfl, ?_⟩
  conv => whnf
  refine ⟨_, rfl, ?_⟩
  refine ic_ (fun h => ?_) fun h => ?_
  · conv => whnf
    exact ⟨szL (by simp), nil M0 b0 (p0.mono (by omega))⟩
  conv => whnf
  refine ⟨a, full - 1, c + 1, rfl, by omega, by omega, p0, by omega, fun st M1 s0 s1 b1 p1 => ?_⟩
  conv => whnf
  refine ⟨_, _, rfl, ?_⟩
  have emx : (if full - st - 1 > 1 then full - st - 1 else 1) = max 1 (full - st - 1) := by split <;> omega
  conv => whnf
  refine ⟨a, _, c + 1 + 1, rfl, by split <;> omega, by split <;> omega, p1, by omega, fun d1 M2 d0 d1' b2 p2 => ?_⟩
  have bt2 : But a M M2 := (b0.trans b1).trans b2
  conv => whnf
  refine ⟨_, rfl, ?_⟩
  refine ic_ (fun h => ?_) fun h => ?_
  · conv => whnf
    exact ⟨szL (by simp), nil M2 bt2 (p2.mono (by omega))⟩
  have hfit : st + (1 + d1) < full := by have := of_decide_eq_false h; omega
  conv => whnf
  refine ⟨a, 3, _, rfl, by decide, by decide, p2, by omega, fun at' M3 a0 a1 b3 p3 => ?_⟩
  obtain ⟨k1, hk1, mk1, ek1⟩ := at3 l3 a0 a1
  conv => whnf
  refine ⟨_, ek1, ?_⟩
  conv => whnf
  refine ⟨szL (by simp), ?_⟩
  conv => whnf
  refine ⟨szL (by simp), ?_⟩
  conv => whnf
  refine ⟨_, rfl, ?_⟩
  conv => whnf
  refine ⟨a, _, _, rfl, by omega, by omega, p3, by omega, fun inn M4 i0 i1 b4 p4 => ?_⟩
  have bt4 : But a M M4 := (bt2.trans b3).trans b4
  let S1 : Sec := ⟨st, 1 + d1, k1⟩
  have S1ok : SecOk full S1 := ⟨s0, by show (1 : Int) ≤ 1 + d1; omega, nok k1 mk1, hfit⟩
  -- what stands behind the first one or two
  have tail : ∀ (xs : List Sec) (M5 : Mem) (c5 : Int) (v8 : LV), (∀ x ∈ xs, SecOk full x) → xs.Pairwise Together → xs.length ≤ 2 → (∀ x ∈ xs, x.s + x.l ≤ st + (1 + d1)) → But a M M5 → PenM c5 M5 a → c5 ≤ c + 20 →
      wpS tab (.seq (.set 8 (.bin .add (.bin .add (.var 3) (.var 4)) (.call 0 (.cons (.var 0) (.cons (.int 2) .nil)))))
  (.seq (.cond (.cmp .lt (.bin .add (.var 8) (.int 1)) (.var 1)) (.expr (.pmO .append 6 (.cons (.tup (.cons (.var 8) (.cons (.bin .add (.int 1) (.call 0 (.cons (.var 0) (.cons (.bin .sub (.bin .sub (.var 1) (.var 8)) (.int 1)) .nil)))) (.cons (.idx (.var 2) (.call 0 (.cons (.var 0) (.cons (.int 3) .nil)))) .nil)))) .nil))) .skip)
  (.ret (.bi .tuple (.cons (.stp (.var 6) (.bin .sub (.int 1) (.bin .mul (.int 2) (.call 0 (.cons (.var 0) (.cons (.int 2) .nil)))))) .nil)))))
        [.val (.loc a), .val (.int full), .val (.lst (ls.map .str)), .val (.int st), .val (.int (1 + d1)), .val (.int at'), .own (.L (xs.map dSec)), .val (.int inn), .no] M5 (enOf Q) := by
    intro xs M5 c5 v8 ok pw lx le bt p5 hc5
    have fin : ∀ (ys : List Sec) (M6 : Mem) (c6 : Int) (v8 : LV), (∀ x ∈ ys, SecOk full x) → ys.Pairwise Together → ys.length ≤ 3 → But a M M6 → PenM c6 M6 a → c6 ≤ c + 40 →
        wpS tab (.ret (.bi .tuple (.cons (.stp (.var 6) (.bin .sub (.int 1) (.bin .mul (.int 2) (.call 0 (.cons (.var 0) (.cons (.int 2) .nil)))))) .nil)))
          [.val (.loc a), .val (.int full), .val (.lst (ls.map .str)), .val (.int st), .val (.int (1 + d1)), .val (.int at'), .own (.L (ys.map dSec)), .val (.int inn), v8] M6 (enOf Q) := by
      intro ys M6 c6 v8 ok pw ly bt p6 hc6
      conv => whnf
      refine ⟨a, 2, _, rfl, by decide, by decide, p6, by omega, fun w M7 w0 w1 b7 p7 => ?_⟩
      have bt7 := bt.trans b7
      conv => whnf
      refine ⟨.inl (by decide), ?_⟩
      conv => whnf
      have hw : w = 0 ∨ w = 1 := by omega
      rcases hw with rfl | rfl
      · refine ⟨_, rfl, .inl ⟨rfl, ?_⟩⟩
        conv => whnf
        exact ⟨_, _, rfl, rfl, q ys M7 ok pw (by omega) bt7 (p7.mono (by omega))⟩
      · refine ⟨_, rfl, .inr ⟨rfl, ?_⟩⟩
        conv => whnf
        refine ⟨_, _, rfl, rfl, ?_⟩
        rw [← List.map_reverse]
        exact q ys.reverse M7 (fun x m => ok x (List.mem_reverse.mp m)) (List.pairwise_reverse.mpr (pw.imp fun h => h.symm)) (by rw [List.length_reverse]; omega) bt7 (p7.mono (by omega))
    conv => whnf
    refine ⟨a, 2, _, rfl, by decide, by decide, p5, by omega, fun g M6 g0 g1 b6 p6 => ?_⟩
    have bt6 := bt.trans b6
    conv => whnf
    refine ⟨_, rfl, ?_⟩
    refine ic_ (fun h => ?_) fun h => ?_
    · have h : st + (1 + d1) + g + 1 < full := of_decide_eq_true h
      conv => whnf
      refine ⟨⟨_, rfl, trivial⟩, ?_⟩
      conv => whnf
      refine ⟨a, _, _, rfl, by omega, by omega, p6, by omega, fun m M7 m0 m1 b7 p7 => ?_⟩
      conv => whnf
      refine ⟨a, 3, _, rfl, by decide, by decide, p7, by omega, fun t M8 t0 t1 b8 p8 => ?_⟩
      obtain ⟨k3, hk3, mk3, ek3⟩ := at3 l3 t0 t1
      conv => whnf
      refine ⟨_, ek3, ?_⟩
      conv => whnf
      refine ⟨szL (by simp), ?_⟩
      conv => whnf
      refine ⟨_, rfl, by rw [List.length_map, sizeLine_eq]; omega, ?_⟩
      have e1 : xs.map dSec ++ [dSec ⟨st + (1 + d1) + g, 1 + m, k3⟩] = (xs ++ [(⟨st + (1 + d1) + g, 1 + m, k3⟩ : Sec)]).map dSec := by rw [List.map_append]; rfl
      show wpS tab _ [.val (.loc a), .val (.int full), .val (.lst (ls.map .str)), .val (.int st), .val (.int (1 + d1)), .val (.int at'), .own (.L (xs.map dSec ++ [dSec ⟨st + (1 + d1) + g, 1 + m, k3⟩])), .val (.int inn), .val (.int (st + (1 + d1) + g))] M8 _
      rw [e1]
      refine fin _ M8 _ _ (fun x mx => ?_) (List.pairwise_append.mpr ⟨pw, List.pairwise_singleton .., fun x mx y my => ?_⟩) (by rw [List.length_append, List.length_singleton]; omega) ((bt6.trans b7).trans b8) p8 (by omega)
      · rcases List.mem_append.mp mx with mx | mx
        · exact ok x mx
        · rw [List.mem_singleton.mp mx]
          exact ⟨by show 0 ≤ st + (1 + d1) + g; omega, by show 1 ≤ 1 + m; omega, nok k3 mk3, by show st + (1 + d1) + g + (1 + m) < full; omega⟩
      · rw [List.mem_singleton.mp my]
        exact .inl (by show x.s + x.l ≤ st + (1 + d1) + g; have := le x mx; omega)
    · conv => whnf
      exact fin xs M6 _ _ ok pw (by omega) bt6 p6 (by omega)
  conv => whnf
  refine ⟨a, 2, _, rfl, by decide, by decide, p4, by omega, fun z M5 z0 z1 b5 p5 => ?_⟩
  have bt5 := bt4.trans b5
  conv => whnf
  refine ⟨rfl, ?_⟩
  conv => whnf
  refine ⟨_, rfl, ?_⟩
  refine ic_ (fun h => ?_) fun h => ?_
  · conv => whnf
    refine ⟨⟨_, rfl, trivial⟩, ?_⟩
    conv => whnf
    refine ⟨a, _, _, rfl, by omega, by omega, p5, by omega, fun m M6 m0 m1 b6 p6 => ?_⟩
    have h3 : 0 ≤ (at' + 1) % 3 ∧ (at' + 1) % 3 < 3 := ⟨Int.emod_nonneg _ (by omega), Int.emod_lt_of_pos _ (by omega)⟩
    obtain ⟨k2, hk2, mk2, ek2⟩ := at3 l3 h3.1 h3.2
    conv => whnf
    refine ⟨by decide, ?_⟩
    conv => whnf
    refine ⟨_, ek2, ?_⟩
    conv => whnf
    refine ⟨szL (by simp), ?_⟩
    conv => whnf
    refine ⟨_, rfl, by show 1 < sizeLine; rw [sizeLine_eq]; decide, ?_⟩
    let S2 : Sec := ⟨st + inn, 1 + m, k2⟩
    have hne : k1 ≠ k2 := at_ne nd hk1 hk2 (by omega)
    refine tail [S1, S2] M6 _ .no (fun x mx => ?_) (List.pairwise_cons.mpr ⟨fun y my => ?_, List.pairwise_singleton ..⟩) (by simp) (fun x mx => ?_) (bt5.trans b6) p6 (by omega)
    · rcases List.mem_cons.mp mx with rfl | mx
      · exact S1ok
      · rw [List.mem_singleton.mp mx]
        exact ⟨by show 0 ≤ st + inn; omega, by show 1 ≤ 1 + m; omega, nok k2 mk2, by show st + inn + (1 + m) < full; omega⟩
    · rw [List.mem_singleton.mp my]
      exact .inr (.inr ⟨hne, .inr ⟨by show st ≤ st + inn; omega, by show st + inn + (1 + m) ≤ st + (1 + d1); omega⟩⟩)
    · rcases List.mem_cons.mp mx with rfl | mx
      · exact Int.le_refl _
      · rw [List.mem_singleton.mp mx]
        show st + inn + (1 + m) ≤ st + (1 + d1)
        omega
  · conv => whnf
    exact tail [S1] M5 _ .no (fun x mx => by rw [List.mem_singleton.mp mx]; exact S1ok) (List.pairwise_singleton ..) (by simp) (fun x mx => by rw [List.mem_singleton.mp mx]; exact Int.le_refl _) bt5 p5 (by omega)
end LawW

set_option Elab.async false
set_option linter.all false
set_option maxRecDepth 100000
namespace LawW
open PySem L2 DL
theorem four (x y z u : Int) (r : Int) (h0 : 0 ≤ r) (h1 : r < 4) : ∃ b : Int, atI ([.int x, .int y, .int z, .int u] : List DL.D) r = some (.int b) ∧ (b = x ∨ b = y ∨ b = z ∨ b = u) := by
  have : r = 0 ∨ r = 1 ∨ r = 2 ∨ r = 3 := by omega
  rcases this with rfl | rfl | rfl | rfl
  · exact ⟨x, rfl, by simp⟩
  · exact ⟨y, rfl, by simp⟩
  · exact ⟨z, rfl, by simp⟩
  · exact ⟨u, rfl, by simp⟩
theorem fit_one : Fits tab 9 T__law_one spOne := by
  rintro ds M Q ⟨a, nm, rk, ls, wide, c, rfl, w1, wL, l3, nd, nok, nmok, rk1, rkL, hp, hc, q⟩
  conv => whnf
  refine ⟨.inl (by decide), ?_⟩
  conv => whnf
  refine ⟨a, _, c, rfl, by omega, by omega, hp, by omega, fun d1 M1 d10 d11 b1 p1 => ?_⟩
  conv => whnf
  refine ⟨⟨by decide, .inl (by decide)⟩, ?_⟩
  conv => whnf
  refine ⟨_, _, rfl, ?_⟩
  conv => whnf
  refine ⟨a, _, _, rfl, by split <;> omega, by split <;> omega, p1, by omega, fun d2 M2 d20 d21 b2 p2 => ?_⟩
  have hfull : 1 + d2 < 100000 := by
    have : (if (wide + d1) / 3 > 1 then (wide + d1) / 3 else 1) ≤ wide + d1 := by split <;> omega
    omega
  conv => whnf
  refine ⟨a, 4, _, rfl, by decide, by decide, p2, by omega, fun d3 M3 d30 d31 b3 p3 => ?_⟩
  conv => whnf
  refine ⟨a, _, _, rfl, by omega, by omega, p3, by omega, fun d4 M4 d40 d41 b4 p4 => ?_⟩
  conv => whnf
  refine ⟨szL (by simp), ?_⟩
  conv => whnf
  refine ⟨a, 4, _, rfl, by decide, by decide, p4, by omega, fun d5 M5 d50 d51 b5 p5 => ?_⟩
  obtain ⟨stay, e5, h5⟩ := four 0 0 d3 d4 d5 d50 d51
  conv => whnf
  refine ⟨_, e5, ?_⟩
  conv => whnf
  refine ⟨a, _, _, rfl, by omega, by omega, p5, by omega, fun d6 M6 d60 d61 b6 p6 => ?_⟩
  conv => whnf
  refine ⟨a, 4, _, rfl, by decide, by decide, p6, by omega, fun d7 M7 d70 d71 b7 p7 => ?_⟩
  conv => whnf
  refine ⟨_, _, rfl, ?_⟩
  conv => whnf
  refine ⟨szL (by simp), ?_⟩
  conv => whnf
  refine ⟨a, 4, _, rfl, by decide, by decide, p7, by omega, fun d8 M8 d80 d81 b8 p8 => ?_⟩
  obtain ⟨lim, e8, h8⟩ := four (wide + d1) (wide + d1) (1 + d6) (if wide + d1 - d7 > 1 then wide + d1 - d7 else 1) d8 d80 d81
  conv => whnf
  refine ⟨_, e8, ?_⟩
  conv => whnf
  refine ⟨a, 1 + d2, ls, _, rfl, by omega, by omega, l3, nd, nok, p8, by omega, fun xs M9 hx pw lx b9 p9 => ?_⟩
  conv => whnf
  refine ⟨szL (by simp), ?_⟩
  have hlim : 1 ≤ lim ∧ lim ≤ wide + d1 := by
    rcases h8 with h | h | h | h
    · omega
    · omega
    · omega
    · rw [h]; split <;> omega
  have hstay : 0 ≤ stay ∧ stay < 100000 := by
    rcases h5 with h | h | h | h <;> omega
  refine q ⟨nm, rk, wide + d1, 1 + d2, lim, stay, xs⟩ M9 rfl rfl ⟨nmok, rk1, rkL, by show 1 ≤ wide + d1; omega, by show wide + d1 < LIM; unfold LIM; omega, by show 1 ≤ 1 + d2; omega, by show 1 + d2 < LIM; unfold LIM; omega, hlim.1, hlim.2, hstay.1, by show stay < LIM; unfold LIM; omega, hx, pw, lx⟩ ⟨by show 1 + d2 < 100000; omega, by show stay < 100000; omega, by show wide + d1 < 100000; omega⟩
    ((((((((b1.trans b2).trans b3).trans b4).trans b5).trans b6).trans b7).trans b8).trans b9) (p9.mono (by omega))
/-! ### ranks -/
theorem dedup_mem : ∀ (ns acc : List Int) (x : Int), x ∈ ns.foldl PyProof.Rows.step_dedup acc → x ∈ acc ∨ x ∈ ns
  | [], acc, x, h => .inl h
  | n :: ns, acc, x, h => by
    rcases dedup_mem ns _ x h with h | h
    · unfold PyProof.Rows.step_dedup at h
      split at h
      · exact .inl h
      · rcases List.mem_append.mp h with h | h
        · exact .inl h
        · rw [List.mem_singleton.mp h]; exact .inr (List.mem_cons_self ..)
    · exact .inr (List.mem_cons_of_mem _ h)
theorem dedup_len : ∀ (ns acc : List Int), acc.Nodup → (ns.foldl PyProof.Rows.step_dedup acc).length ≤ acc.length + ns.length ∧ ((ns.foldl PyProof.Rows.step_dedup acc).length = acc.length + ns.length → (acc ++ ns).Nodup)
  | [], acc, h => ⟨Nat.le_refl _, fun _ => by rw [List.append_nil]; exact h⟩
  | n :: ns, acc, h => by
    rw [List.foldl_cons, List.length_cons]
    by_cases hn : acc.any (· == n) = true
    · have e : PyProof.Rows.step_dedup acc n = acc := by unfold PyProof.Rows.step_dedup; rw [if_pos hn]
      rw [e]
      have h1 := dedup_len ns acc h
      exact ⟨by omega, fun z => by omega⟩
    · have e : PyProof.Rows.step_dedup acc n = acc ++ [n] := by unfold PyProof.Rows.step_dedup; rw [if_neg hn]
      have hm : n ∉ acc := fun m => hn (List.any_eq_true.mpr ⟨n, m, by simp⟩)
      have nd : (acc ++ [n]).Nodup := by
        rw [List.nodup_append]
        exact ⟨h, by simp, fun x mx y my => by rw [List.mem_singleton.mp my]; exact fun z => hm (z ▸ mx)⟩
      rw [e]
      have h1 := dedup_len ns (acc ++ [n]) nd
      rw [List.length_append, List.length_singleton] at h1
      refine ⟨by omega, fun z => ?_⟩
      have := h1.2 (by omega)
      rwa [List.append_assoc] at this
theorem eraseIdx_perm {α : Type} : ∀ {xs : List α} {k : Nat} {x : α}, xs[k]? = some x → xs.Perm (x :: xs.eraseIdx k)
  | [], k, x, h => by simp at h
  | y :: xs, 0, x, h => by simp at h; subst h; exact .refl _
  | y :: xs, k + 1, x, h => by
    have h : xs[k]? = some x := by simpa using h
    exact ((eraseIdx_perm h).cons y).trans (.swap x y _)
theorem erase_map {α β : Type} {f : α → β} : ∀ {l : List α} {k : Nat}, (l.map f).eraseIdx k = (l.eraseIdx k).map f
  | [], k => by simp
  | x :: l, 0 => rfl
  | x :: l, k + 1 => by rw [List.map_cons, List.eraseIdx_cons_succ, List.eraseIdx_cons_succ, List.map_cons, erase_map]
theorem fit_raws : Fits tab 10 T__law_raws spRaws := by
  rintro ds M Q ⟨a, many, wide, c, rfl, m1, m20, w1, wL, hp, hc, q⟩
  conv => whnf
  refine ⟨a, _, c, rfl, by omega, by omega, hp, by omega, fun xs M1 xl xnd xok b1 p1 => ?_⟩
  conv => whnf
  refine ⟨a, _, _, rfl, by omega, by omega, p1, by omega, fun d1 M2 d10 d11 b2 p2 => ?_⟩
  conv => whnf
  refine ⟨a, 3, _, rfl, by decide, by decide, p2, by omega, fun d2 M3 d20 d21 b3 p3 => ?_⟩
  have bt3 : But a M M3 := (b1.trans b2).trans b3
  conv => whnf
  refine ⟨_, rfl, ⟨by omega, by omega⟩, ?_⟩
  refine compL_inv (fun j acc M' => But a M M' ∧ PenM (c + 102 + j) M' a ∧ ∃ ns : List Int, acc = ns.map .int ∧ ns.length = j ∧ ∀ x ∈ ns, 1 ≤ x ∧ x < 100) ⟨bt3, p3.mono (by omega), [], rfl, rfl, by simp⟩ ?_ ?_
  · rintro j d acc M' K hd ⟨bt, pt, ns, rfl, hl, hx⟩ k1 k2
    obtain ⟨hj, rfl⟩ := rng_get hd
    conv => whnf
    refine ⟨rfl, ?_⟩
    conv => whnf
    refine ⟨a, 3, _, rfl, by decide, by decide, pt, by omega, fun g M4 g0 g1 b4 p4 => ?_⟩
    conv => whnf
    have e64 : (2 : Int) ^ 64 = 18446744073709551616 := by decide
    have hd2 : d2 = 0 ∨ d2 = 1 ∨ d2 = 2 := by omega
    refine ⟨.inr (by rw [e64]; omega), ?_⟩
    conv => whnf
    refine ⟨⟨by decide, .inl (by decide)⟩, ?_⟩
    conv => whnf
    refine ⟨.inl (by rw [e64]; omega), ?_⟩
    conv => whnf
    refine ⟨rfl, k1 _ _ ⟨bt.trans b4, p4.mono (by omega), ns ++ [_], by rw [List.map_append]; rfl, by rw [List.length_append, hl]; rfl, fun x m => ?_⟩⟩
    rcases List.mem_append.mp m with m | m
    · exact hx x m
    · rw [List.mem_singleton.mp m]
      rcases hd2 with rfl | rfl | rfl <;> omega
  rintro acc M4 ⟨bt4, p4, ns, rfl, hl, hx⟩
  rw [List.length_map, List.length_range] at hl p4
  have hcnt : 1 ≤ (1 + d1).toNat ∧ (1 + d1).toNat ≤ 20 := by omega
  have rest : ∀ (rk : List Int) (M5 : Mem) (v8 : LV), rk.length = (1 + d1).toNat → rk.Nodup → (∀ x ∈ rk, 1 ≤ x ∧ x < 400) → But a M M5 → PenM (c + 200) M5 a →
      wpS tab (.seq (.setO 7 (.lst .nil))
  (.seq (.for (.tname 8) (.rng1 (.var 4))
  (.seq (.set 9 (.pmO .popAt 6 (.cons (.call 0 (.cons (.var 0) (.cons (.lenO 6) .nil))) .nil)))
  (.expr (.pmO .append 7 (.cons (.call 3 (.cons (.var 0) (.cons (.idx (.var 3) (.var 8)) (.cons (.var 9) (.cons (.sl (.var 3) (.prt (.var 1)) .non) (.cons (.var 2) .nil)))))) .nil)))))
  (.ret (.var 7)))) [.val (.loc a), .val (.int many), .val (.int wide), .val (.lst (xs.map .str)), .val (.int (1 + d1)), .val (.int (1 + d2)), .own (.L (rk.map .int)), .no, v8, .no] M5 (enOf Q) := by
    intro rk M5 v8 hrk nd hb bt p5
    conv => whnf
    refine ⟨szL (by simp), ?_⟩
    conv => whnf
    refine ⟨_, rfl, ?_⟩
    conv => whnf
    refine ⟨_, rfl, ⟨by omega, by omega⟩, ?_⟩
    refine forL_inv (fun j ρ M' => But a M M' ∧ PenM (c + 200 + 1001 * j) M' a ∧ ∃ (rs : List Raw) (left : List Int) (v8 v9 : LV), ρ = [.val (.loc a), .val (.int many), .val (.int wide), .val (.lst (xs.map .str)), .val (.int (1 + d1)), .val (.int (1 + d2)), .own (.L (left.map .int)), .own (.L (rs.map dRaw)), v8, v9] ∧ rs.length = j ∧ rs.map (·.nm) = xs.take j ∧ (rs.map (·.rk) ++ left).Perm rk ∧ ∀ r ∈ rs, RawOk r ∧ RawS r)
      ⟨bt, by simpa using p5, [], rk, v8, .no, rfl, rfl, by simp, by simp, by simp⟩ ?_ ?_
    · rintro j d ρ M' K hd ⟨bt, pt, rs, left, v8, v9, rfl, hj, hn, hpm, hok⟩ k1 k2 k3 k4
      obtain ⟨hjl, rfl⟩ := rng_get hd
      have hl : left.length = (1 + d1).toNat - j := by
        have := hpm.length_eq
        rw [List.length_append, List.length_map, hj, hrk] at this
        omega
      conv => whnf
      refine ⟨⟨_, rfl, trivial⟩, ?_⟩
      conv => whnf
      refine ⟨_, rfl, ?_⟩
      conv => whnf
      have hlm : ((left.map DL.D.int).length : Int) = (left.length : Int) := by rw [List.length_map]
      refine ⟨a, _, _, rfl, by rw [hlm]; omega, by rw [hlm]; omega, pt, by omega, fun g M6 g0 g1 b6 p6 => ?_⟩
      rw [hlm] at g1
      obtain ⟨k, rfl⟩ : ∃ k : Nat, g = (k : Int) := ⟨g.toNat, by omega⟩
      have hk : k < left.length := by omega
      obtain ⟨y, hy⟩ : ∃ y, left[k]? = some y := ⟨_, List.getElem?_eq_getElem hk⟩
      conv => whnf
      refine ⟨_, rfl, k, .int y, by omega, rfl, by rw [List.getElem?_map, hy]; rfl, ?_⟩
      conv => whnf
      refine ⟨⟨_, rfl, trivial⟩, ?_⟩
      obtain ⟨x, hxj⟩ : ∃ x, xs[j]? = some x := ⟨_, List.getElem?_eq_getElem (by omega)⟩
      have mx : x ∈ xs := List.mem_of_getElem? hxj
      conv => whnf
      refine ⟨.str x, atI_nat (by rw [List.getElem?_map, hxj]; rfl), ?_⟩
      conv => whnf
      refine ⟨_, rfl, ?_⟩
      conv => whnf
      have ecut : cutD (xs.map DL.D.str) (some many) none = (xs.drop many.toNat).map .str := by
        have em : many = (many.toNat : Int) := by omega
        rw [em, Int.toNat_natCast, cut_drop (by rw [List.length_map]; omega), List.map_drop]
      rw [ecut]
      have my : y ∈ rk := hpm.mem_iff.mp (List.mem_append_right _ (List.mem_of_getElem? hy))
      have hy1 := hb y my
      refine ⟨a, x, y, xs.drop many.toNat, wide, _, rfl, w1, wL, by rw [List.length_drop]; omega, xnd.sublist (List.drop_sublist ..), fun z mz => xok z (List.mem_of_mem_drop mz), xok x mx, hy1.1, by unfold LIM; omega, p6, by omega, fun r M7 hr1 hr2 hr3 hr4 b7 p7 => ?_⟩
      conv => whnf
      refine ⟨_, rfl, by rw [List.length_map, sizeLine_eq]; omega, ?_⟩
      refine k1 _ _ ⟨(bt.trans b6).trans b7, p7.mono (by omega), rs ++ [r], left.eraseIdx k, .val (.int (j : Nat)), .val (.int y), ?_, by rw [List.length_append, hj]; rfl, ?_, ?_, fun z mz => ?_⟩
      · rw [List.map_append, erase_map]
        rfl
      · rw [List.map_append, hn, List.take_add_one, hxj, ← hr1]; rfl
      · rw [List.map_append, List.append_assoc]
        refine List.Perm.trans ?_ hpm
        refine List.Perm.append_left _ ?_
        show ([r.rk] ++ left.eraseIdx k).Perm left
        rw [hr2]
        exact (eraseIdx_perm hy).symm
      · rcases List.mem_append.mp mz with mz | mz
        · exact hok z mz
        · rw [List.mem_singleton.mp mz]; exact ⟨hr3, hr4⟩
    · rintro ρ M' ⟨bt, pt, rs, left, v8, v9, rfl, hj, hn, hpm, hok⟩
      rw [List.length_map, List.length_range] at hj hn pt
      have hl : left = [] := by
        have := hpm.length_eq
        rw [List.length_append, List.length_map, hj, hrk] at this
        exact List.length_eq_zero_iff.mp (by omega)
      subst hl
      rw [List.append_nil] at hpm
      conv => whnf
      exact q rs M' ⟨by rw [hn]; exact xnd.sublist (List.take_sublist ..), hpm.nodup_iff.mpr nd, fun r hr => (hok r hr).1, by omega⟩ ⟨fun r hr => ⟨(hb _ (hpm.mem_iff.mp (List.mem_map.mpr ⟨r, hr, rfl⟩))).2, (hok r hr).2⟩, by omega, by omega⟩ bt (pt.mono (by omega))
  conv => whnf
  refine ⟨_, rfl, ?_⟩
  conv => whnf
  refine ⟨ns, rfl, by omega, ?_⟩
  conv => whnf
  refine ⟨_, rfl, ?_⟩
  refine ic_ (fun h => ?_) fun h => ?_
  · conv => whnf
    refine ⟨_, rfl, ⟨by omega, by omega⟩, ?_⟩
    obtain ⟨n0, nr, rfl⟩ : ∃ n0 nr, ns = n0 :: nr := by
      cases ns with
      | nil => rw [List.length_nil] at hl; omega
      | cons n0 nr => exact ⟨n0, nr, rfl⟩
    have h0 := hx n0 (List.mem_cons_self ..)
    refine compL_if (fun k : Nat => DL.D.int (k : Nat)) (fun _ => true) (fun k : Nat => .int (n0 + 12 * (k : Int))) (fun k mk K kk => ?_) ?_
    · conv => whnf
      refine ⟨rfl, ?_⟩
      conv => whnf
      refine ⟨.int n0, (atI_nat (j := 0) rfl : atI ((n0 :: nr).map DL.D.int) ((0 : Nat) : Int) = _), ?_⟩
      conv => whnf
      refine ⟨.inl (by decide), ?_⟩
      exact ⟨rfl, kk⟩
    have ef : ((List.range (1 + d1).toNat).filter fun _ => true) = List.range (1 + d1).toNat := List.filter_eq_self.mpr fun _ _ => rfl
    rw [ef, List.nil_append]
    conv => whnf
    refine ⟨_, rfl, ?_⟩
    have e1 : (List.range (1 + d1).toNat).map (fun k : Nat => DL.D.int (n0 + 12 * (k : Int))) = ((List.range (1 + d1).toNat).map fun k : Nat => n0 + 12 * (k : Int)).map .int := by rw [List.map_map]; rfl
    rw [e1]
    refine rest _ M4 _ (by rw [List.length_map, List.length_range]) ?_ (fun x m => ?_) bt4 (p4.mono (by omega))
    · rw [List.nodup_iff_pairwise_ne, List.pairwise_map]
      exact (List.nodup_iff_pairwise_ne.mp List.nodup_range).imp fun h => by omega
    · obtain ⟨k, mk, rfl⟩ := List.mem_map.mp m
      have := List.mem_range.mp mk
      omega
  · have h : ¬ ((ns.foldl PyProof.Rows.step_dedup []).length : Int) < 1 + d1 := of_decide_eq_false h
    have dl := dedup_len ns [] List.nodup_nil
    rw [List.length_nil, Nat.zero_add, List.nil_append] at dl
    conv => whnf
    refine ⟨⟨_, rfl⟩, ?_⟩
    exact rest ns M4 _ (by omega) (dl.2 (by omega)) (fun x m => by have := hx x m; omega) bt4 (p4.mono (by omega))
end LawW

set_option Elab.async false
set_option linter.all false
set_option maxRecDepth 100000
namespace LawW
open PySem L2 DL
theorem any_perm {a b : List Sec} (h : a.Perm b) (p : Sec → Bool) : a.any p = b.any p := by
  cases e : b.any p with
  | true =>
    obtain ⟨x, m, e⟩ := List.any_eq_true.mp e
    exact List.any_eq_true.mpr ⟨x, h.mem_iff.mpr m, e⟩
  | false =>
    rw [List.any_eq_false] at e ⊢
    exact fun x m => e x (h.mem_iff.mp m)
theorem ceil_tasks {rs ts : List Raw} (h : TasksOf rs ts) (k : Str) : ceil rs k = ceil ts k := by
  unfold ceil
  congr 1
  induction h with
  | nil => rfl
  | cons a _ ih =>
    obtain ⟨ss, hp, rfl⟩ := a
    rw [List.filter_cons, List.filter_cons, any_perm hp]
    split
    · rw [List.map_cons, List.map_cons, ih]
    · exact ih
theorem backs_tasks {rs ts : List Raw} (h : TasksOf rs ts) (rk : Int) : (backs rs rk).Perm (backs ts rk) := by
  unfold backs
  rw [show (fun t : Raw => (t.secs.filter fun s => decide (ceil rs s.k ≤ rk)).map fun s => s.l - 1) = fun t : Raw => (t.secs.filter fun s => decide (ceil ts s.k ≤ rk)).map fun s => s.l - 1 by
    funext t
    congr 2
    funext s
    rw [ceil_tasks h]]
  generalize ceil ts = cf
  induction h with
  | nil => exact .nil
  | cons a _ ih =>
    obtain ⟨ss, hp, rfl⟩ := a
    rw [List.filter_cons, List.filter_cons]
    dsimp only
    split
    · rw [List.flatMap_cons, List.flatMap_cons]
      exact ((hp.symm.filter _).map _).append ih
    · exact ih
theorem sum_tasks {rs ts : List Raw} (h : TasksOf rs ts) (rk x : Int) : ((rs.filter fun t => decide (t.rk < rk)).map fun t => upN t x).sum = ((ts.filter fun t => decide (t.rk < rk)).map fun t => upN t x).sum := by
  induction h with
  | nil => rfl
  | cons a _ ih =>
    obtain ⟨ss, hp, rfl⟩ := a
    rw [List.filter_cons, List.filter_cons]
    dsimp only
    split
    · rw [List.map_cons, List.map_cons, List.sum_cons, List.sum_cons, ih]
      rfl
    · exact ih
theorem side_tasks {rs ts : List Raw} (h : TasksOf rs ts) {r t : Raw} (hrt : TaskOf r t) (x : Int) : side ts t x = side rs r x := by
  obtain ⟨ss, hp, rfl⟩ := hrt
  unfold side
  rw [show back ts r.rk = back rs r.rk from (foldl_max_perm (backs_tasks h r.rk)).symm]
  show back rs r.rk + r.mst + ((ts.filter fun t => decide (t.rk < r.rk)).map fun t => upN t x).sum = _
  rw [sum_tasks h]
theorem TasksOf.get {rs ts : List Raw} (h : TasksOf rs ts) : ∀ {j : Nat} {r : Raw}, rs[j]? = some r → ∃ t, ts[j]? = some t ∧ TaskOf r t := by
  induction h with
  | nil => intro j r e; simp at e
  | cons a _ ih =>
    intro j r e
    cases j with
    | zero => simp at e; subst e; exact ⟨_, rfl, a⟩
    | succ j => obtain ⟨t, h1, h2⟩ := ih (by simpa using e); exact ⟨t, by simpa using h1, h2⟩
theorem TasksOf.get' {rs ts : List Raw} (h : TasksOf rs ts) : ∀ {t : Raw}, t ∈ ts → ∃ r ∈ rs, TaskOf r t := by
  induction h with
  | nil => intro t m; cases m
  | cons a _ ih =>
    intro t m
    rcases List.mem_cons.mp m with rfl | m
    · exact ⟨_, List.mem_cons_self .., a⟩
    · obtain ⟨r, h1, h2⟩ := ih m; exact ⟨r, List.mem_cons_of_mem _ h1, h2⟩
theorem HasB_tasks {rs ts : List Raw} (h : TasksOf rs ts) {r t : Raw} (hrt : TaskOf r t) : HasB ts t ↔ HasB rs r := by
  have e : side ts t = side rs r := funext fun x => side_tasks h hrt x
  obtain ⟨ss, hp, rfl⟩ := hrt
  unfold HasB
  rw [e]
/-- the numbers that are their own right sides, gone up to from 1 on -/
def fixs (rs : List Raw) (r : Raw) : List Nat := (List.range (r.due - r.wt).toNat).filter fun k : Nat => decide (side rs r (1 + (k : Int)) = 1 + (k : Int))
theorem fixs_mem {rs : List Raw} {r : Raw} (ok : ∀ t ∈ rs, RawOk t) (hr : RawOk r) {k : Int} (h0 : 0 ≤ k) (h1 : side rs r k = k) (h2 : k ≤ r.due - r.wt) : (k - 1).toNat ∈ fixs rs r ∧ 1 ≤ k := by
  have := side_pos ok hr h0
  refine ⟨List.mem_filter.mpr ⟨List.mem_range.mpr (by omega), decide_eq_true ?_⟩, by omega⟩
  have e : 1 + ((k - 1).toNat : Int) = k := by omega
  rw [e]
  exact h1
theorem fixs_head {rs : List Raw} {r : Raw} (ok : ∀ t ∈ rs, RawOk t) (hr : RawOk r) {k0 : Nat} {ks : List Nat} (e : fixs rs r = k0 :: ks) : LFix (side rs r) (1 + (k0 : Int)) ∧ 1 + (k0 : Int) ≤ r.due - r.wt := by
  have m0 : k0 ∈ fixs rs r := by rw [e]; exact List.mem_cons_self ..
  have m1 := List.mem_filter.mp m0
  have m2 := List.mem_range.mp m1.1
  refine ⟨⟨by omega, of_decide_eq_true m1.2, fun j j0 je => ?_⟩, by omega⟩
  by_cases hj : j ≤ r.due - r.wt
  · obtain ⟨mj, j1⟩ := fixs_mem ok hr j0 je hj
    have pw : (fixs rs r).Pairwise (· < ·) := List.pairwise_lt_range.filter _
    rw [e] at pw mj
    rcases List.mem_cons.mp mj with h | h
    · omega
    · have := (List.pairwise_cons.mp pw).1 _ h
      omega
  · omega
end LawW

set_option Elab.async false
set_option linter.all false
set_option maxRecDepth 100000
set_option maxHeartbeats 0
namespace LawW
open PySem L2 PySem.W DL PySem.Spec PyProof.Rows
theorem task_mk : ∀ ds M Q, spTask ds M Q → mkSpF 1 7 spTaskInit ds M Q := by
  rintro ds M Q ⟨r, rfl, ok, q⟩ a ha
  refine ⟨a, r, rfl, by simp [updM], ok, fun r' h => ⟨rfl, fldsR r', by simp [updM], rfl, ?_⟩⟩
  rw [rmM_upd ha]
  exact q r' h
theorem plan_mk : ∀ ds M Q, spPlan ds M Q → mkSpFF 0 3 spPlanInit ds M Q := by
  rintro ds M Q ⟨ts, d, rfl, hs, hst, nd1, nd2, few, ok, q⟩ a ha
  refine ⟨a, ts, d, rfl, hs, hst, by simp [updM], nd1, nd2, few, ok, fun d1 d2 ps ks es M' h1 h2 h3 h4 n1 n2 m1 m2 pp => ⟨rfl, _, h1, rfl, ?_⟩⟩
  have n3 : d1 ≠ a := n1
  have em : clr (rmM M' a) [.loc d1, .tup (ps.map dTask), .loc d2] = M := by
    funext b
    show rmM (rmM (rmM M' a) d1) d2 b = M b
    by_cases b2 : b = d2
    · subst b2
      have m2 : updM M a (.obj 0 []) b = none := m2
      rw [show rmM (rmM (rmM M' a) d1) b b = none from by simp [rmM]]
      by_cases e : b = a
      · exact absurd e n2
      · rw [updM, if_neg e] at m2; exact m2.symm
    · rw [rmM_ne b2]
      by_cases b1 : b = d1
      · subst b1
        rw [show rmM (rmM M' a) b b = none from by simp [rmM]]
        rw [updM, if_neg n1] at m1; exact m1.symm
      · rw [rmM_ne b1]
        by_cases b0 : b = a
        · subst b0; rw [ha]; simp [rmM]
        · rw [rmM_ne b0, h4 b b0 b1 b2]; simp [updM, b0]
  have ev : [DL.D.loc d1, .tup (ps.map dTask), .loc d2].map (view M') = [.dct (ts.map fun t => .inr t.nm) (ts.map dTask), .tup (ps.map dTask), .dct ks es] := by
    show [view M' (.loc d1), .tup (ps.map dTask), view M' (.loc d2)] = _
    rw [view_co h2, view_co h3]; rfl
  rw [em, ev]
  exact q _ ⟨ps, ks, es, rfl, pp⟩
end LawW

set_option Elab.async false
set_option linter.all false
set_option maxRecDepth 100000
namespace LawW
open PySem L2 DL
theorem PenM.keep {c : Int} {M M' : Mem} {a : Addr} (h : PenM c M a) (k : Keeps M M') : PenM c M' a := by
  obtain ⟨cs, i, l, e, r⟩ := h
  exact ⟨cs, i, l, k _ _ e, r⟩
theorem deq_ii (x y : Int) : deq (.int x) (.int y) = decide (x = y) := by simp only [deq]
theorem deq_bb (x y : Bool) : deq (.bl x) (.bl y) = (x == y) := by simp only [deq]
theorem deq_ss (x y : Str) : deq (.str x) (.str y) = decide (x = y) := by simp only [deq]
end LawW

set_option Elab.async false
set_option linter.all false
set_option maxRecDepth 100000
namespace LawW
open PySem L2 DL
/-! ### least numbers -/
theorem lfix_of {f : Int → Int} (mono : ∀ x y, 0 ≤ x → x ≤ y → f x ≤ f y) (nn : ∀ x, 0 ≤ x → 0 ≤ f x) : ∀ (n : Nat) {k : Int}, k.toNat ≤ n → 0 ≤ k → f k ≤ k → ∃ l, LFix f l ∧ l ≤ k
  | n, k, hn, hk, h => by
    by_cases e : ∃ j, 0 ≤ j ∧ j < k ∧ f j ≤ j
    · obtain ⟨j, j0, jk, hj⟩ := e
      cases n with
      | zero => exfalso; omega
      | succ n =>
        obtain ⟨l, h1, h2⟩ := lfix_of mono nn n (k := j) (by omega) j0 hj
        exact ⟨l, h1, by omega⟩
    · have no : ∀ j, 0 ≤ j → f j ≤ j → k ≤ j := fun j h1 h2 => by
        by_cases z : k ≤ j
        · exact z
        · exact absurd ⟨j, h1, by omega, h2⟩ e
      have z := no (f k) (nn k hk) (mono _ _ (nn k hk) h)
      have ek : f k = k := by omega
      exact ⟨k, ⟨hk, ek, fun j h1 h2 => no j h1 (by omega)⟩, Int.le_refl _⟩
theorem LFix.uniq {f : Int → Int} {a b : Int} (x : LFix f a) (y : LFix f b) : a = b := Int.le_antisymm (x.2.2 b y.1 y.2.1) (y.2.2 a x.1 x.2.1)
theorem side_nn {rs : List Raw} {r : Raw} (ok : ∀ t ∈ rs, RawOk t) (hr : RawOk r) (x : Int) (hx : 0 ≤ x) : 0 ≤ side rs r x := by
  have h1 := back_nn rs r.rk
  have h2 := hr.mst1
  have h3 : 0 ≤ ((rs.filter fun t => decide (t.rk < r.rk)).map fun t => upN t x).sum := sum_nn fun y hy => by
    obtain ⟨t, mt, rfl⟩ := List.mem_map.mp hy
    exact upN_nn (ok t (List.mem_filter.mp mt).1) hx
  unfold side
  omega
theorem lfix_side {rs : List Raw} {r : Raw} (ok : ∀ t ∈ rs, RawOk t) (hr : RawOk r) {k : Int} (hk : 0 ≤ k) (h : side rs r k ≤ k) : ∃ l, LFix (side rs r) l ∧ l ≤ k :=
  lfix_of (fun x y h1 h2 => side_mono ok h2) (side_nn ok hr) k.toNat (Nat.le_refl _) hk h
theorem HasB_tasks_all {rs ts : List Raw} (h : TasksOf rs ts) : (∀ t ∈ ts, HasB ts t) ↔ ∀ r ∈ rs, HasB rs r := by
  constructor
  · intro hh r mr
    obtain ⟨i, hi⟩ := List.mem_iff_getElem?.mp mr
    obtain ⟨t, ht, hrt⟩ := h.get hi
    exact (HasB_tasks h hrt).mp (hh t (List.mem_of_getElem? ht))
  · intro hh t mt
    obtain ⟨r, mr, hrt⟩ := h.get' mt
    exact (HasB_tasks h hrt).mpr (hh r mr)
theorem nodup_sub_len {α : Type} [DecidableEq α] : ∀ {l l' : List α}, l.Nodup → (∀ x ∈ l, x ∈ l') → l.length ≤ l'.length
  | [], l', _, _ => Nat.zero_le _
  | x :: l, l', nd, h => by
    rw [List.nodup_cons] at nd
    have hx := h x List.mem_cons_self
    have z := nodup_sub_len (l := l) (l' := l'.erase x) nd.2 fun y hy => by
      rw [List.mem_erase_of_ne (fun e => by subst e; exact nd.1 hy)]
      exact h y (List.mem_cons_of_mem _ hy)
    rw [List.length_erase_of_mem hx] at z
    have : 0 < l'.length := List.length_pos_of_mem hx
    rw [List.length_cons]
    omega
theorem Keeps.trans {M1 M2 M3 : Mem} (h : Keeps M1 M2) (h' : Keeps M2 M3) : Keeps M1 M3 := fun b mo e => h' b mo (h b mo e)
theorem dat_raw {r : Raw} (ok : RawOk r) : dat (dRaw r) = true := by
  have h1 : dat (.tup (r.secs.map dSec)) = true := by
    unfold dat
    refine dats_all fun d md => ?_
    obtain ⟨x, mx, rfl⟩ := List.mem_map.mp md
    have := cps_lt (ok.secs x mx).nm
    unfold dSec
    simp only [dat, dats, this]
    rfl
  have h2 : dat (.str r.nm) = true := by unfold dat; exact cps_lt ok.nm
  unfold dRaw fldsR
  simp only [dat] at h1 h2
  simp only [dat, dats, h1, h2]
  rfl
theorem dep_raw (r : Raw) : dep (dRaw r) ≤ 3 := by
  have h : deps (r.secs.map dSec) ≤ 1 := deps_all fun d md => by
    obtain ⟨x, mx, rfl⟩ := List.mem_map.mp md
    unfold dSec
    simp only [dep, deps]
    decide
  unfold dRaw fldsR
  simp only [dep, deps]
  omega
theorem eqOk_raws {rs : List Raw} (ok : ∀ r ∈ rs, RawOk r) : eqOk (.lst (rs.map dRaw)) (.lst []) = true := by
  have h1 : dats (rs.map dRaw) = true := dats_all fun d md => by
    obtain ⟨r, mr, rfl⟩ := List.mem_map.mp md
    exact dat_raw (ok r mr)
  have h2 : deps (rs.map dRaw) ≤ 3 := deps_all fun d md => by
    obtain ⟨r, mr, rfl⟩ := List.mem_map.mp md
    exact dep_raw r
  have e1 : dat (.lst (rs.map dRaw)) = true := by unfold dat; exact h1
  have e2 : dep (.lst (rs.map dRaw)) ≤ 60 := by unfold dep; omega
  have e3 : dat (.lst []) = true := rfl
  have e4 : dep (.lst []) ≤ 60 := by decide
  show (dat (.lst (rs.map dRaw)) && dat (.lst []) && decide (dep (.lst (rs.map dRaw)) ≤ 60) && decide (dep (.lst []) ≤ 60)) = true
  rw [e1, e3, decide_eq_true e2, decide_eq_true e4]
  rfl
theorem deq_lnil (ds : List DL.D) : deq (.lst ds) (.lst []) = ds.isEmpty := by
  cases ds with
  | nil => simp only [deq, deqs]; rfl
  | cons d ds => simp only [deq, deqs]; rfl
end LawW

set_option Elab.async false
set_option linter.all false
set_option maxRecDepth 100000
namespace LawW
open PySem L2 DL
theorem nodup_len {α : Type} [DecidableEq α] : ∀ {xs ys : List α}, xs.Nodup → (∀ x ∈ xs, x ∈ ys) → xs.length ≤ ys.length
  | [], _, _, _ => Nat.zero_le _
  | x :: xs, ys, nd, h => by
    obtain ⟨h1, h2⟩ := List.nodup_cons.mp nd
    have m := h x List.mem_cons_self
    have := nodup_len (ys := ys.erase x) h2 fun y my => (List.mem_erase_of_ne (by intro e; subst e; exact h1 my)).mpr (h y (List.mem_cons_of_mem _ my))
    rw [List.length_erase_of_mem m] at this
    have := List.length_pos_of_mem m
    rw [List.length_cons]
    omega
theorem flat_strs (xs : List Str) : (xs.map DL.D.str).all flatD = true := by
  rw [List.all_eq_true]
  intro d m
  obtain ⟨x, _, rfl⟩ := List.mem_map.mp m
  rfl
theorem any_strs (xs : List Str) (s : Str) : ((xs.map DL.D.str).any fun d => deq d (.str s)) = decide (s ∈ xs) := by
  induction xs with
  | nil => simp
  | cons x xs ih =>
    rw [List.map_cons, List.any_cons, ih, deq_ss]
    by_cases h : x = s
    · subst h; simp
    · have h' : ¬ s = x := fun z => h z.symm
      simp [h, h']
/-- a name that none of them has -/
theorem strange_of {rs : List Raw} {xs : List Str} (nx : xs.Nodup) (h : rs.length < xs.length) : ∃ s ss, (xs.filter fun s => !decide (s ∈ rs.map (·.nm))) = s :: ss ∧ s ∈ xs ∧ ∀ r ∈ rs, r.nm ≠ s := by
  cases e : xs.filter fun s => !decide (s ∈ rs.map (·.nm)) with
  | nil =>
    exfalso
    have : xs.length ≤ (rs.map (·.nm)).length := nodup_len nx fun x m => by
      have := List.filter_eq_nil_iff.mp e x m
      simpa using this
    rw [List.length_map] at this
    omega
  | cons s ss =>
    have m : s ∈ xs.filter fun s => !decide (s ∈ rs.map (·.nm)) := by rw [e]; exact List.mem_cons_self
    obtain ⟨m1, m2⟩ := List.mem_filter.mp m
    have m2 : s ∉ rs.map (·.nm) := by simpa using m2
    exact ⟨s, ss, rfl, m1, fun r mr z => m2 (List.mem_map.mpr ⟨r, mr, z⟩)⟩
theorem dat_nm {s : Str} (h : NmS s) : dat (.str s) = true := by unfold dat; exact cps_lt h
end LawW

set_option Elab.async false
set_option linter.all false
set_option maxRecDepth 100000
set_option maxHeartbeats 0
namespace LawW
open PySem L2 DL
theorem fit_law : Fits tab 10 T_law spLaw := by
  rintro ds M Q ⟨sc, rfl, hl, rfl, q⟩
  conv => whnf
  refine ⟨sc, rfl, fun a M1 _ _ p1 => ?_⟩
  conv => whnf
  refine ⟨_, rfl, ?_⟩
  conv => whnf
  refine ⟨_, _, rfl, ?_⟩
  conv => whnf
  refine ⟨_, rfl, ⟨by split <;> omega, by split <;> omega⟩, ?_⟩
  refine forL_inv (fun j ρ M' => PenM (200000 * j) M' a ∧ ∃ v2 v3 v4 v5 v6 v7 v8 v9 : LV, ρ = [.val (.scr sc), .val (.loc a), v2, v3, v4, v5, v6, v7, v8, v9] ∧ (1 ≤ j → ∃ rs r rs', rs = r :: rs' ∧ v3 = .val (.lst (rs.map dRaw)) ∧ RawsOk rs)) ⟨by simpa using p1, _, _, _, _, _, _, _, _, rfl, fun z => absurd z (by decide)⟩ ?_ ?_
  · rintro j d ρ M2 K hd ⟨p2, v2, v3, v4, v5, v6, v7, v8, v9, rfl, _⟩ k1 k2 k3 k4
    obtain ⟨hj, rfl⟩ := rng_get hd
    have hj10 : j ≤ 10 := by
      have : (if (sc.length : Int) < 7 then (sc.length : Int) else 7) ≤ 7 := by split <;> omega
      omega
    conv => whnf
    refine ⟨a, 12, _, rfl, by decide, by decide, p2, by omega, fun g M3 g0 g1 b3 p3 => ?_⟩
    conv => whnf
    refine ⟨a, 8, _, _, rfl, by decide, by decide, by omega, by omega, p3, by omega, fun rs M4 hrs hrb b4 p4 => ?_⟩
    conv => whnf
    refine ⟨rs, rfl, hrs, fun ts pl hts hpl => ?_⟩
    have okr := hrs.ok
    conv => whnf
    refine ⟨_, rfl, trivial, fun _ => ?_⟩
    refine forL_inv (fun i ρ M' => PenM (200000 * j + 100001 + 10 * i) M' a ∧ ∃ v5 v6 v7 v8 v9 : LV, ρ = [.val (.scr sc), .val (.loc a), .val (.int (j : Nat)), .val (.lst (rs.map dRaw)), .val pl, v5, v6, v7, v8, v9]) ⟨p4.mono (by omega), _, _, _, _, _, rfl⟩ ?_ ?_
    · rintro i d ρ M5 K' hd ⟨p5, v5, v6, v7, v8, v9, rfl⟩ l1 l2 l3 l4
      rw [List.getElem?_map] at hd
      cases hr : rs[i]? with
      | none => rw [hr] at hd; cases hd
      | some r =>
        rw [hr] at hd
        obtain rfl : dRaw r = d := Option.some.inj hd
        have mr : r ∈ rs := List.mem_of_getElem? hr
        have hi : i < 64 := by have := (List.getElem?_eq_some_iff.mp hr).1; have := hrs.few; omega
        obtain ⟨t, ht, hrt⟩ := hts.get hr
        have mt : t ∈ ts := List.mem_of_getElem? ht
        have es : side ts t = side rs r := funext fun x => side_tasks hts hrt x
        have enm : t.nm = r.nm := by obtain ⟨ss, _, rfl⟩ := hrt; rfl
        conv => whnf
        refine ⟨a, 30, _, rfl, by decide, by decide, p5, by omega, fun x1 M6 x10 x11 b6 p6 => ?_⟩
        conv => whnf
        refine ⟨a, 400, _, rfl, by decide, by decide, p6, by omega, fun x2 M7 x20 x21 b7 p7 => ?_⟩
        conv => whnf
        refine ⟨⟨by decide, by decide, by decide⟩, ?_⟩
        conv => whnf
        refine ⟨a, 1000000, _, rfl, by decide, by decide, p7, by omega, fun x3 M8 x30 x31 b8 p8 => ?_⟩
        conv => whnf
        refine ⟨⟨by decide, by decide, by decide⟩, ?_⟩
        conv => whnf
        refine ⟨.inr ⟨by decide, by decide⟩, ?_⟩
        conv => whnf
        refine ⟨szL (by simp), ?_⟩
        conv => whnf
        refine ⟨_, rfl, trivial, fun _ => ?_⟩
        have e6 : (10 : Int) ^ (Int.toNat 6) = 1000000 := by decide
        rw [e6]
        have few : ∀ y ∈ [0, x1, x2, x3 * 1000000], Sml y := by
          intro y my
          simp only [List.mem_cons, List.not_mem_nil, or_false] at my
          unfold Sml
          rcases my with rfl | rfl | rfl | rfl <;> omega
        have eL : [DL.D.int 0, .int x1, .int x2, .int (x3 * 1000000)] = ([0, x1, x2, x3 * 1000000].map .int) := rfl
        refine forL_inv (fun k ρ M' => M' = M8 ∧ ∃ v6 v8 v9 : LV, ρ = [.val (.scr sc), .val (.loc a), .val (.int (j : Nat)), .val (.lst (rs.map dRaw)), .val pl, .val (dRaw r), v6, .val (.lst ([0, x1, x2, x3 * 1000000].map .int)), v8, v9]) ⟨rfl, _, _, _, rfl⟩ ?_ ?_
        · rintro k d ρ M' K2 hd2 ⟨rfl, v6, v8, v9, rfl⟩ m1 m2 m3 m4
          have hd2 : ([0, x1, x2, x3 * 1000000].map DL.D.int)[k]? = some d := hd2
          rw [List.getElem?_map] at hd2
          cases hy : [0, x1, x2, x3 * 1000000][k]? with
          | none => rw [hy] at hd2; cases hd2
          | some y =>
            rw [hy] at hd2
            obtain rfl : DL.D.int y = d := Option.some.inj hd2
            have sy := few y (List.mem_of_getElem? hy)
            conv => whnf
            refine ⟨_, rfl, ?_⟩
            conv => whnf
            refine ⟨pl, ts, t, y, by rw [enm], hpl, mt, sy, ?_⟩
            conv => whnf
            refine ⟨_, rfl, ?_⟩
            conv => whnf
            refine ⟨rs, r, y, rfl, hrs, mr, sy, ?_⟩
            conv => whnf
            refine ⟨rfl, ?_⟩
            conv => whnf
            refine ⟨_, rfl, ?_⟩
            refine if_ (by show (!deq (.int (side ts t y)) (.int (side rs r y))) = false; rw [es, deq_ii]; simp) ?_
            conv => whnf
            exact m1 _ _ ⟨rfl, _, _, _, rfl⟩
        · rintro ρ M' ⟨rfl, v6, v8, v9, rfl⟩
          conv => whnf
          exact l1 _ _ ⟨p8.mono (by omega), _, _, _, _, _, rfl⟩
    · rintro ρ M5 ⟨p5, v5, v6, v7, v8, v9, rfl⟩
      rw [List.length_map] at p5
      have lim6 : rs.length < 64 := hrs.few
      conv => whnf
      refine ⟨a, 25, _, rfl, by decide, by decide, p5, by omega, fun xs M6 lx nx okx b6 p6 => ?_⟩
      conv => whnf
      refine ⟨_, rfl, trivial, fun _ => ?_⟩
      refine compL_if DL.D.str (fun s => !decide (s ∈ rs.map (·.nm))) DL.D.str (fun s ms K2 kk => ?_) ?_
      · conv => whnf
        refine ⟨_, rfl, trivial, fun _ => ?_⟩
        refine compL_if dRaw (fun _ => true) (fun r => .str r.nm) (fun r mr K3 k3 => ?_) ?_
        · conv => whnf
          refine ⟨rfl, ?_⟩
          conv => whnf
          refine ⟨_, rfl, ?_⟩
          conv => whnf
          exact ⟨rfl, k3⟩
        · have ef : (rs.filter fun _ => true) = rs := List.filter_eq_self.mpr fun _ _ => rfl
          rw [ef, List.nil_append, show (rs.map fun r => DL.D.str r.nm) = ((rs.map (·.nm)).map DL.D.str) from by rw [List.map_map]; rfl]
          conv => whnf
          refine ⟨by rw [flat_strs]; rfl, ?_⟩
          refine ⟨_, rfl, rfl, ?_⟩
          rw [show DL.view M6 (.str s) = .str s from rfl, any_strs]
          refine ic_ (fun h => ?_) fun h => ?_
          · rw [h] at kk
            conv => whnf
            exact ⟨rfl, kk⟩
          · rw [h] at kk
            conv => whnf
            exact kk
      · obtain ⟨s, ss, e1, ms, hs⟩ := strange_of (rs := rs) nx (by rw [lx]; show rs.length < 25; have := hrb.2.2; omega)
        rw [e1]
        conv => whnf
        refine ⟨_, (atI_nat (j := 0) rfl : atI ([] ++ (s :: ss).map DL.D.str) ((0 : Nat) : Int) = _), ?_⟩
        conv => whnf
        refine ⟨pl, ts, s, rfl, hpl, fun t mt => ?_, dat_nm (okx s ms), ?_⟩
        · obtain ⟨r, mr, ht⟩ := hts.get' mt
          obtain ⟨_, _, rfl⟩ := ht
          exact hs r mr
        · conv => whnf
          refine ⟨true, rfl, _, rfl, ?_⟩
          conv => whnf
          refine k1 _ _ ⟨p6.mono (by omega), _, _, _, _, _, _, _, _, rfl, fun _ => ?_⟩
          cases rs with
          | nil => exact absurd hrb.2.1 (by decide)
          | cons r rs' => exact ⟨_, r, rs', rfl, rfl, hrs⟩
  · rintro ρ M2 ⟨p2, v2, v3, v4, v5, v6, v7, v8, v9, rfl, h⟩
    obtain ⟨rs, r, rs', e, rfl, hrs⟩ := h (by rw [List.length_map, List.length_range]; split <;> omega)
    have mr : r ∈ rs := by rw [e]; exact List.mem_cons_self
    have h0 : atI (rs.map dRaw) ((0 : Nat) : Int) = some (dRaw r) := atI_nat (j := 0) (by rw [e]; rfl)
    have s7 : Sml 7 := by unfold Sml; omega
    conv => whnf
    refine ⟨rs, rfl, hrs, fun ts pl hts hpl => ?_⟩
    obtain ⟨t, ht, hrt⟩ := hts.get (j := 0) (r := r) (by rw [e]; rfl)
    have mt : t ∈ ts := List.mem_of_getElem? ht
    have es : side ts t = side rs r := funext fun x => side_tasks hts hrt x
    have enm : t.nm = r.nm := by obtain ⟨ss, _, rfl⟩ := hrt; rfl
    conv => whnf
    refine ⟨_, h0, ?_⟩
    conv => whnf
    refine ⟨_, rfl, ?_⟩
    conv => whnf
    refine ⟨⟨rfl, rfl⟩, pl, ts, t, 7, by rw [enm]; rfl, hpl, mt, s7, ?_⟩
    conv => whnf
    refine ⟨_, h0, ?_⟩
    conv => whnf
    refine ⟨_, rfl, ?_⟩
    conv => whnf
    refine ⟨rs, r, 7, rfl, hrs, mr, s7, ?_⟩
    conv => whnf
    refine ⟨rfl, ?_⟩
    show Q (.bl (deq (.int (side ts t 7)) (.int (side rs r 7)))) M2
    rw [es, deq_ii]
    simp only [decide_true]
    exact q M2
end LawW

set_option Elab.async false
set_option linter.all false
set_option maxRecDepth 100000
set_option maxHeartbeats 0
namespace LawW
open PySem L2 PySem.W DL PySem.Spec PyProof.Rows
/-! the plan's defs where a name is not there -/
abbrev xcF (C0 : Addr) : XcT := fun c => match c with | _ => (C0, "name")
abbrev s_x_NoTask : Stmt := inClass (top 8) 0
theorem sc_x_NoTask : FnScope ["self", "name"] ["self", "name"] (defScope s_x_NoTask) := ⟨rfl, rfl, rfl, (by decide +kernel), rfl, (by decide +kernel), (by decide +kernel)⟩
theorem xok_NoTask {P : Program} {w : World} {K : PySem.W.Frag} {mg : Str → Option Value} {base : Heap} {N : Nam} {C0 : Addr} {fI : Addr} {fd0 : FuncData} (F0 : FunD K "__init__" "NoTask.__init__" (defArgs s_x_NoTask) (defBody s_x_NoTask) (defScope s_x_NoTask) [] [] fI fd0) (m0 : mg "NoTask" = some (.ref C0)) (fct : XFct K C0 fI "KeyError" "LookupError.__new__" "KeyError.__init__" "LookupError" "LookupError.__init__" PySem.XOwn.lkM PySem.XOwn.keyM "name") (zk : mg "KeyError" = none) : XOk ⟨P, w, K, mg, base, tab, N⟩ (xcF C0) 1 "NoTask" 0 := by
  have I0 : FnOk P w K mg base CX0 1 fI fd0 ["self", "name"] (spXI C0 "name") := xinit_ok (k := 0) (B := "KeyError") F0 sc_x_NoTask rfl fct.T fct.R.no zk (by kernel_rfl) (by decide +kernel) (by decide +kernel) (by decide +kernel) (by decide +kernel) fct.vV (by decide +kernel) (by decide +kernel) (by decide +kernel) (by decide +kernel) (by decide +kernel) (by decide +kernel) (by decide +kernel) (fun _ => ⟨_, rfl⟩) (fun _ => rfl) (fun _ => rfl)
  have B0 := F0.bindsN (ps := ["self", "name"]) fun _ _ _ _ _ _ us hl => match us, hl with | [_, _], _ => rfl
  exact ⟨m0, _, _, _, _, _, _, _, _, _, _, fct.T, fct.iC, fct.tI, I0, B0⟩
def NoNm (ts : List Raw) (s : Str) : Prop := ∀ t ∈ ts, t.nm ≠ s
def sprTask : DSpR := fun ds M X => ∃ (pl : DL.D) (ts : List Raw) (s : Str), ds = [pl, .str s] ∧ PlanAt pl ts ∧ NoNm ts s ∧ X 0 (.str s) M
def sprSide : DSpR := fun ds M X => ∃ (pl : DL.D) (ts : List Raw) (s : Str) (d : DL.D), ds = [pl, .str s, d] ∧ PlanAt pl ts ∧ NoNm ts s ∧ X 0 (.str s) M
theorem dget_none {ts : List Raw} {s : Str} (h : NoNm ts s) : dget (ts.map fun t => .inr t.nm) (ts.map dTask) (.inr s) = none := by
  induction ts with
  | nil => rfl
  | cons t ts ih =>
    have h1 := h t List.mem_cons_self
    have e : ¬ ((Sum.inr t.nm : Key) = .inr s) := fun z => h1 (Sum.inr.inj z)
    have := ih fun u m => h u (List.mem_cons_of_mem _ m)
    unfold dget at this ⊢
    rw [List.map_cons, List.map_cons, List.zip_cons_cons, List.find?_cons]
    simp only [e, decide_false]
    exact this
section
variable {P : Program} {w : World} {K : PySem.W.Frag} {mg : Str → Option Value} {base : Heap} {N : Nam} {xc : XcT}
theorem rx_task (x : XOk ⟨P, w, K, mg, base, tab, N⟩ xc 1 "NoTask" 0) : ∃ wr, (∀ A, Room 2 A → RSs ⟨P, w, K, mg, base, tab, N⟩ xc A k_Plan_task true (defBody s_Plan_task) wr) ∧ ∀ ds M Q, sprTask ds M Q → wr (startD 2 ds) M fun c d _ M => Q c d M := by
  refine ⟨_, fun A hr => (r_head (r_if (t_cmp .notin rfl rfl (v_ 1 (by decide +kernel)) (h_attr 0 rfl (fun _ => rfl) (v_ 0 (by decide +kernel)))) (r_head (r_raise x hr (by decide +kernel) rfl (by decide +kernel) (v_ 1 (by decide +kernel)))))), ?_⟩
  rintro ds M Q ⟨pl, ts, s, rfl, ⟨ps, ks, es, rfl, P1⟩, hn, q⟩
  conv => whnf
  refine ⟨0, _, rfl, rfl, ?_⟩
  conv => whnf
  refine ⟨_, rfl, ?_⟩
  rw [dget_none hn]
  conv => whnf
  refine ⟨true, rfl, rfl, ?_⟩
  conv => whnf
  exact q
theorem plan_ins {M : Mem} {pl : DL.D} {ts : List Raw} (h : PlanAt pl ts) : insD 0 M pl := by
  obtain ⟨ps, ks, es, rfl, _⟩ := h
  exact .inl ⟨_, rfl⟩
theorem rx_holding (m : MtR ⟨P, w, K, mg, base, tab, N⟩ xc 3 0 "task" 1 sprTask) : ∃ wr, (∀ A, Room 3 A → RSs ⟨P, w, K, mg, base, tab, N⟩ xc A k_Plan_holding true (defBody s_Plan_holding) wr) ∧ ∀ ds M Q, sprTask ds M Q → wr (startD 6 ds) M fun c d _ M => Q c d M := by
  refine ⟨_, fun A hr => (r_head (r_set 2 (by decide +kernel) (fun _ => rfl) (m A _ _ _ _ _ _ _ (hr.mono (by decide)) rfl rfl (fun _ => ⟨_, rfl⟩) (v_ 0 (by decide +kernel)) (a_cons rfl (v_ 1 (by decide +kernel)) a_nil)))), ?_⟩
  rintro ds M Q ⟨pl, ts, s, rfl, hp, hn, q⟩
  conv => whnf
  refine ⟨plan_ins hp, ?_⟩
  conv => whnf
  exact ⟨pl, ts, s, rfl, hp, hn, q⟩
theorem rx_held (Z : Facts ⟨P, w, K, mg, base, tab, N⟩) (m : MtR ⟨P, w, K, mg, base, tab, N⟩ xc 4 0 "holding" 1 sprTask) : ∃ wr, (∀ A, Room 4 A → RSs ⟨P, w, K, mg, base, tab, N⟩ xc A k_Plan_held_back true (defBody s_Plan_held_back) wr) ∧ ∀ ds M Q, sprTask ds M Q → wr (startD 4 ds) M fun c d _ M => Q c d M := by
  refine ⟨_, fun A hr => (r_head (r_ret (r_callBK Z.z_max (by decide +kernel) (by decide +kernel : bootBuiltins "max" = some (.builtin "max")) (by decide +kernel) (by decide +kernel) rfl (r_comp (own := [("one", 2), ("section", 3)]) (by decide +kernel) (fun _ _ => rfl) (m A _ _ _ _ _ _ _ (hr.mono (by decide)) rfl rfl (fun _ => ⟨_, rfl⟩) (v_ 0 (by decide +kernel)) (a_cons rfl (v_ 1 (by decide +kernel)) a_nil)))))), ?_⟩
  rintro ds M Q ⟨pl, ts, s, rfl, hp, hn, q⟩
  conv => whnf
  refine ⟨plan_ins hp, ?_⟩
  conv => whnf
  exact ⟨pl, ts, s, rfl, hp, hn, q⟩
theorem rx_side (m : MtR ⟨P, w, K, mg, base, tab, N⟩ xc 5 0 "held_back" 1 sprTask) : ∃ wr, (∀ A, Room 5 A → RSs ⟨P, w, K, mg, base, tab, N⟩ xc A k_right_side true (defBody s_right_side) wr) ∧ ∀ ds M Q, sprSide ds M Q → wr (startD 5 ds) M fun c d _ M => Q c d M := by
  refine ⟨_, fun A hr => (r_head (r_set 3 (by decide +kernel) (fun _ => rfl) (r_bin .add rfl (m A _ _ _ _ _ _ _ (hr.mono (by decide)) rfl rfl (fun _ => ⟨_, rfl⟩) (v_ 0 (by decide +kernel)) (a_cons rfl (v_ 1 (by decide +kernel)) a_nil))))), ?_⟩
  rintro ds M Q ⟨pl, ts, s, d, rfl, hp, hn, q⟩
  conv => whnf
  refine ⟨plan_ins hp, ?_⟩
  conv => whnf
  exact ⟨pl, ts, s, rfl, hp, hn, q⟩
theorem rx_least (m : MtR ⟨P, w, K, mg, base, tab, N⟩ xc 3 0 "task" 1 sprTask) : ∃ wr, (∀ A, Room 3 A → RSs ⟨P, w, K, mg, base, tab, N⟩ xc A k_least_ticks true (defBody s_least_ticks) wr) ∧ ∀ ds M Q, sprTask ds M Q → wr (startD 5 ds) M fun c d _ M => Q c d M := by
  refine ⟨_, fun A hr => (r_head (r_set 2 (by decide +kernel) (fun _ => rfl) (m A _ _ _ _ _ _ _ (hr.mono (by decide)) rfl rfl (fun _ => ⟨_, rfl⟩) (v_ 0 (by decide +kernel)) (a_cons rfl (v_ 1 (by decide +kernel)) a_nil)))), ?_⟩
  rintro ds M Q ⟨pl, ts, s, rfl, hp, hn, q⟩
  conv => whnf
  refine ⟨plan_ins hp, ?_⟩
  conv => whnf
  exact ⟨pl, ts, s, rfl, hp, hn, q⟩
theorem rx_bound (m : FnR ⟨P, w, K, mg, base, tab, N⟩ xc 4 "least_ticks" 2 sprTask) : ∃ wr, (∀ A, Room 4 A → RSs ⟨P, w, K, mg, base, tab, N⟩ xc A k_bound true (defBody s_bound) wr) ∧ ∀ ds M Q, sprTask ds M Q → wr (startD 3 ds) M fun c d _ M => Q c d M := by
  refine ⟨_, fun A hr => (r_head (r_set 2 (by decide +kernel) (fun _ => rfl) (m A _ _ _ _ _ _ (hr.mono (by decide)) rfl rfl (by decide +kernel) (a_cons rfl (v_ 0 (by decide +kernel)) (a_cons rfl (v_ 1 (by decide +kernel)) a_nil))))), ?_⟩
  rintro ds M Q ⟨pl, ts, s, rfl, hp, hn, q⟩
  conv => whnf
  exact ⟨pl, ts, s, rfl, hp, hn, q⟩
/-- the plan's defs, where they raise NoTask -/
structure PlanR (b : Bz) (xc : XcT) : Prop where
  task : MtR b xc 3 0 "task" 1 sprTask
  held : MtR b xc 5 0 "held_back" 1 sprTask
  side : FnR b xc 6 "right_side" 3 sprSide
  least : FnR b xc 4 "least_ticks" 2 sprTask
  bound : FnR b xc 5 "bound" 2 sprTask
theorem len_task : ∀ ds M Q, sprTask ds M Q → ds.length = 2 := by rintro ds M Q ⟨_, _, _, rfl, _⟩; rfl
theorem len_side : ∀ ds M Q, sprSide ds M Q → ds.length = 3 := by rintro ds M Q ⟨_, _, _, _, rfl, _⟩; rfl
theorem planR_ok (Z : Facts ⟨P, w, K, mg, base, tab, N⟩) (x : XOk ⟨P, w, K, mg, base, tab, N⟩ xc 1 "NoTask" 0) (cl : Cls K (N.cad 0)) {f_Plan_task : Addr} {fd_Plan_task : FuncData} (F_Plan_task : FunD K "task" "Plan.task" (defArgs s_Plan_task) (defBody s_Plan_task) (defScope s_Plan_task) [] [] f_Plan_task fd_Plan_task) (mt_Plan_task : Meth K (N.cad 0) "task" f_Plan_task) {f_Plan_holding : Addr} {fd_Plan_holding : FuncData} (F_Plan_holding : FunD K "holding" "Plan.holding" (defArgs s_Plan_holding) (defBody s_Plan_holding) (defScope s_Plan_holding) [] [] f_Plan_holding fd_Plan_holding) (mt_Plan_holding : Meth K (N.cad 0) "holding" f_Plan_holding) {f_Plan_held_back : Addr} {fd_Plan_held_back : FuncData} (F_Plan_held_back : FunD K "held_back" "Plan.held_back" (defArgs s_Plan_held_back) (defBody s_Plan_held_back) (defScope s_Plan_held_back) [] [] f_Plan_held_back fd_Plan_held_back) (mt_Plan_held_back : Meth K (N.cad 0) "held_back" f_Plan_held_back) {f_right_side : Addr} {fd_right_side : FuncData} (F_right_side : FunD K "right_side" "right_side" (defArgs s_right_side) (defBody s_right_side) (defScope s_right_side) [] [] f_right_side fd_right_side) (m_right_side : mg "right_side" = some (.ref f_right_side)) {f_least_ticks : Addr} {fd_least_ticks : FuncData} (F_least_ticks : FunD K "least_ticks" "least_ticks" (defArgs s_least_ticks) (defBody s_least_ticks) (defScope s_least_ticks) [] [] f_least_ticks fd_least_ticks) (m_least_ticks : mg "least_ticks" = some (.ref f_least_ticks)) {f_bound : Addr} {fd_bound : FuncData} (F_bound : FunD K "bound" "bound" (defArgs s_bound) (defBody s_bound) (defScope s_bound) [] [] f_bound fd_bound) (m_bound : mg "bound" = some (.ref f_bound)) : PlanR ⟨P, w, K, mg, base, tab, N⟩ xc := by
  have no : ∀ m : Str, m ∉ ((cfsN 0).map fun f => (Str.ofString (attrN f) : Str)) → m ∉ N.nms 0 := fun m h => by rw [Z.g.nm.nms]; exact h
  obtain ⟨w1, t1, q1⟩ := rx_task x
  have R1 := fnX_okD (b := ⟨P, w, K, mg, base, tab, N⟩) F_Plan_task (⟨rfl, rfl, rfl, (by decide +kernel), rfl, (by decide +kernel), (by decide +kernel)⟩ : FnScope n_Plan_task ["self", "name"] (defScope s_Plan_task)) Z.g len_task t1 q1
  have M1 := mtR_of (n := 1) R1 Z.g cl mt_Plan_task (F_Plan_task.bindsN (ps := ["self", "name"]) fun _ _ _ _ _ _ us hl => match us, hl with | [_, _], _ => rfl) (no _ (by decide +kernel)) (by decide)
  obtain ⟨w2, t2, q2⟩ := rx_holding M1
  have R2 := fnX_okD (b := ⟨P, w, K, mg, base, tab, N⟩) F_Plan_holding (⟨rfl, rfl, rfl, (by decide +kernel), rfl, (by decide +kernel), (by decide +kernel)⟩ : FnScope n_Plan_holding ["self", "name"] (defScope s_Plan_holding)) Z.g len_task t2 q2
  have M2 := mtR_of (n := 1) R2 Z.g cl mt_Plan_holding (F_Plan_holding.bindsN (ps := ["self", "name"]) fun _ _ _ _ _ _ us hl => match us, hl with | [_, _], _ => rfl) (no _ (by decide +kernel)) (by decide)
  obtain ⟨w3, t3, q3⟩ := rx_held Z M2
  have R3 := fnX_okD (b := ⟨P, w, K, mg, base, tab, N⟩) F_Plan_held_back (⟨rfl, rfl, rfl, (by decide +kernel), rfl, (by decide +kernel), (by decide +kernel)⟩ : FnScope n_Plan_held_back ["self", "name"] (defScope s_Plan_held_back)) Z.g len_task t3 q3
  have M3 := mtR_of (n := 1) R3 Z.g cl mt_Plan_held_back (F_Plan_held_back.bindsN (ps := ["self", "name"]) fun _ _ _ _ _ _ us hl => match us, hl with | [_, _], _ => rfl) (no _ (by decide +kernel)) (by decide)
  obtain ⟨w4, t4, q4⟩ := rx_side M3
  have R4 := fnX_okD (b := ⟨P, w, K, mg, base, tab, N⟩) F_right_side (⟨rfl, rfl, rfl, (by decide +kernel), rfl, (by decide +kernel), (by decide +kernel)⟩ : FnScope n_right_side ["plan", "name", "ticks"] (defScope s_right_side)) Z.g len_side t4 q4
  have G4 := fnR_of (b := ⟨P, w, K, mg, base, tab, N⟩) (n := 3) R4 m_right_side F_right_side.kp (F_right_side.bindsN (ps := ["plan", "name", "ticks"]) fun _ _ _ _ _ _ us hl => match us, hl with | [_, _, _], _ => rfl) (by decide +kernel) (by decide)
  obtain ⟨w5, t5, q5⟩ := rx_least M1
  have R5 := fnX_okD (b := ⟨P, w, K, mg, base, tab, N⟩) F_least_ticks (⟨rfl, rfl, rfl, (by decide +kernel), rfl, (by decide +kernel), (by decide +kernel)⟩ : FnScope n_least_ticks ["plan", "name"] (defScope s_least_ticks)) Z.g len_task t5 q5
  have G5 := fnR_of (b := ⟨P, w, K, mg, base, tab, N⟩) (n := 2) R5 m_least_ticks F_least_ticks.kp (F_least_ticks.bindsN (ps := ["plan", "name"]) fun _ _ _ _ _ _ us hl => match us, hl with | [_, _], _ => rfl) (by decide +kernel) (by decide)
  obtain ⟨w6, t6, q6⟩ := rx_bound G5
  have R6 := fnX_okD (b := ⟨P, w, K, mg, base, tab, N⟩) F_bound (⟨rfl, rfl, rfl, (by decide +kernel), rfl, (by decide +kernel), (by decide +kernel)⟩ : FnScope n_bound ["plan", "name"] (defScope s_bound)) Z.g len_task t6 q6
  have G6 := fnR_of (b := ⟨P, w, K, mg, base, tab, N⟩) (n := 2) R6 m_bound F_bound.kp (F_bound.bindsN (ps := ["plan", "name"]) fun _ _ _ _ _ _ us hl => match us, hl with | [_, _], _ => rfl) (by decide +kernel) (by decide)
  exact ⟨M1, M3, G4, G5, G6⟩
end
end LawW

set_option Elab.async false
set_option linter.all false
set_option maxRecDepth 100000
set_option maxHeartbeats 0
namespace LawW
open PySem L2 PySem.W DL PySem.Spec PyProof.Rows
section
variable {P : Program} {w : World} {K : PySem.W.Frag} {mg : Str → Option Value} {base : Heap} {N : Nam} {C0 : Addr}
theorem wx_strange (Z : Facts ⟨P, w, K, mg, base, tab, N⟩) (R : XRd K C0 "name") (hm : mg "NoTask" = some (.ref C0)) (p : PlanR ⟨P, w, K, mg, base, tab, N⟩ (xcF C0)) :
    ∃ ws, (∀ A, Room 18 A → HSsw ⟨P, w, K, mg, base, tab, N⟩ A k__law_strange (defBody s__law_strange) ws) ∧ ∀ ds M Q, spStrange ds M Q → ws (startD 6 ds) M (enOf Q) := by
  refine ⟨_, fun A hr => (sw_cons (hs_w (x_setO 2 (by decide +kernel) (fun _ => rfl) (o_lst a_nil)))
      (sw_cons (sw_for (fun _ _ => rfl) (i_rng1 Z.z_range (by decide +kernel) rfl h_int) (g_ 3 (by decide +kernel))
      (sw_cons (hs_w (x_set 4 (by decide +kernel) (fun _ => rfl) h_non))
      (sw_cons (s_try (xc := (xcF C0)) (cn := 0) (i := 5) R (by decide +kernel) (by decide +kernel) (by decide +kernel) hm (fun _ => rfl) (r_head (r_expr (fun _ => rfl) (r_pmO 2 row_append (by decide +kernel) (few1 rfl) (by decide +kernel) rfl (ra_hd rfl (r_lst (ra_hd rfl (r_ife (t_cmp .eq rfl rfl (v_ 3 (by decide +kernel)) h_int) (p.side A _ _ _ _ _ _ (hr.mono (by decide)) rfl rfl (by decide +kernel) (a_cons rfl (v_ 0 (by decide +kernel)) (a_cons rfl (v_ 1 (by decide +kernel)) (a_cons rfl h_int a_nil)))) (p.bound A _ _ _ _ _ _ (hr.mono (by decide)) rfl rfl (by decide +kernel) (a_cons rfl (v_ 0 (by decide +kernel)) (a_cons rfl (v_ 1 (by decide +kernel)) a_nil)))))))))) (sx_set (j := 4) R (by decide +kernel) (by decide +kernel) (by decide) (by decide +kernel) (by decide +kernel) (fun _ => rfl) (fun _ => rfl)))
      (sw_one (hs_w (s_expr (fun _ => rfl) (x_pmO 2 row_append (by decide +kernel) (few1 rfl) (by decide +kernel) rfl (a_cons rfl (v_ 4 (by decide +kernel)) a_nil))))))))
      (sw_one (hs_w (s_ret (h_cmp .eq rfl rfl (v_ 2 (by decide +kernel)) (HO.he (o_lst (a_cons rfl (v_ 1 (by decide +kernel)) (a_cons rfl (v_ 1 (by decide +kernel)) a_nil)))))))))), ?_⟩
  rintro ds M Q ⟨pl, ts, s, rfl, hp, hn, hd, q⟩
  conv => whnf
  refine ⟨szL (by simp), ?_⟩
  conv => whnf
  refine ⟨_, rfl, ?_⟩
  conv => whnf
  refine ⟨2, rfl, by decide, ?_⟩
  refine forL_cons ?_
  conv => whnf
  refine ⟨⟨_, rfl, trivial⟩, ?_⟩
  conv => whnf
  refine ⟨rfl, true, rfl, ?_⟩
  conv => whnf
  refine ⟨pl, ts, s, _, rfl, hp, hn, rfl, (by show 5 < 6; decide), ?_⟩
  conv => whnf
  refine ⟨⟨_, rfl, trivial⟩, ?_⟩
  conv => whnf
  refine ⟨_, rfl, szL (by simp), ?_⟩
  refine forL_cons ?_
  conv => whnf
  refine ⟨⟨_, rfl, trivial⟩, ?_⟩
  conv => whnf
  refine ⟨rfl, false, rfl, ?_⟩
  conv => whnf
  refine ⟨pl, ts, s, rfl, hp, hn, rfl, (by show 5 < 6; decide), ?_⟩
  conv => whnf
  refine ⟨⟨_, rfl, trivial⟩, ?_⟩
  conv => whnf
  refine ⟨_, rfl, szL (by simp), ?_⟩
  refine forL_nil ?_
  conv => whnf
  refine ⟨szL (by simp), ?_⟩
  conv => whnf
  refine ⟨by show (dat (.lst [.str s, .str s]) && dat (.lst [.str s, .str s]) && decide (dep (.lst [.str s, .str s]) ≤ 60) && decide (dep (.lst [.str s, .str s]) ≤ 60)) = true; unfold dat dats dats dats; rw [hd]; rfl, ?_⟩
  show Q (.bl (deq (.lst [.str s, .str s]) (.lst [.str s, .str s]))) M
  simp only [deq, deqs, decide_true, Bool.and_true]
  exact q
theorem strange_ok (Z : Facts ⟨P, w, K, mg, base, tab, N⟩) {fI : Addr} {fd0 : FuncData} (F0 : FunD K "__init__" "NoTask.__init__" (defArgs s_x_NoTask) (defBody s_x_NoTask) (defScope s_x_NoTask) [] [] fI fd0) (m0 : mg "NoTask" = some (.ref C0)) (fct : XFct K C0 fI "KeyError" "LookupError.__new__" "KeyError.__init__" "LookupError" "LookupError.__init__" PySem.XOwn.lkM PySem.XOwn.keyM "name") (zk : mg "KeyError" = none) (cl : Cls K (N.cad 0))
    {f_Plan_task : Addr} {fd_Plan_task : FuncData} (F_Plan_task : FunD K "task" "Plan.task" (defArgs s_Plan_task) (defBody s_Plan_task) (defScope s_Plan_task) [] [] f_Plan_task fd_Plan_task) (mt_Plan_task : Meth K (N.cad 0) "task" f_Plan_task) {f_Plan_holding : Addr} {fd_Plan_holding : FuncData} (F_Plan_holding : FunD K "holding" "Plan.holding" (defArgs s_Plan_holding) (defBody s_Plan_holding) (defScope s_Plan_holding) [] [] f_Plan_holding fd_Plan_holding) (mt_Plan_holding : Meth K (N.cad 0) "holding" f_Plan_holding) {f_Plan_held_back : Addr} {fd_Plan_held_back : FuncData} (F_Plan_held_back : FunD K "held_back" "Plan.held_back" (defArgs s_Plan_held_back) (defBody s_Plan_held_back) (defScope s_Plan_held_back) [] [] f_Plan_held_back fd_Plan_held_back) (mt_Plan_held_back : Meth K (N.cad 0) "held_back" f_Plan_held_back) {f_right_side : Addr} {fd_right_side : FuncData} (F_right_side : FunD K "right_side" "right_side" (defArgs s_right_side) (defBody s_right_side) (defScope s_right_side) [] [] f_right_side fd_right_side) (m_right_side : mg "right_side" = some (.ref f_right_side)) {f_least_ticks : Addr} {fd_least_ticks : FuncData} (F_least_ticks : FunD K "least_ticks" "least_ticks" (defArgs s_least_ticks) (defBody s_least_ticks) (defScope s_least_ticks) [] [] f_least_ticks fd_least_ticks) (m_least_ticks : mg "least_ticks" = some (.ref f_least_ticks)) {f_bound : Addr} {fd_bound : FuncData} (F_bound : FunD K "bound" "bound" (defArgs s_bound) (defBody s_bound) (defScope s_bound) [] [] f_bound fd_bound) (m_bound : mg "bound" = some (.ref f_bound)) {f__law_strange : Addr} {fd__law_strange : FuncData} (F__law_strange : FunD K "_law_strange" "_law_strange" (defArgs s__law_strange) (defBody s__law_strange) (defScope s__law_strange) [] [] f__law_strange fd__law_strange) (m__law_strange : mg "_law_strange" = some (.ref f__law_strange)) : FnOk P w K mg base CX0 (18 + 1) f__law_strange fd__law_strange ["plan", "a_name"] (liftS N spStrange) := by
  have x := xok_NoTask (P := P) (w := w) (base := base) (N := N) F0 m0 fct zk
  have p := planR_ok (xc := xcF C0) Z x cl F_Plan_task mt_Plan_task F_Plan_holding mt_Plan_holding F_Plan_held_back mt_Plan_held_back F_right_side m_right_side F_least_ticks m_least_ticks F_bound m_bound
  obtain ⟨ws, t, q⟩ := wx_strange Z fct.R m0 p
  exact fnW_okD (b := ⟨P, w, K, mg, base, tab, N⟩) F__law_strange (⟨rfl, rfl, rfl, (by decide +kernel), rfl, (by decide +kernel), (by decide +kernel)⟩ : FnScope n__law_strange ["plan", "a_name"] (defScope s__law_strange)) Z.g (by intro ds M Q h; obtain ⟨_, _, _, rfl, _⟩ := h; rfl) t q
end
end LawW

set_option Elab.async false
set_option linter.all false
set_option maxRecDepth 100000
set_option maxHeartbeats 0
namespace LawW
open PySem L2 PySem.W DL PySem.Spec PyProof.Rows
theorem sc__law_pen : FnScope n__law_pen ["script"] (defScope s__law_pen) := ⟨rfl, rfl, rfl, (by decide +kernel), rfl, (by decide +kernel), (by decide +kernel)⟩
theorem sc__law_draw : FnScope n__law_draw ["pen", "many"] (defScope s__law_draw) := ⟨rfl, rfl, rfl, (by decide +kernel), rfl, (by decide +kernel), (by decide +kernel)⟩
theorem sc_Plan___init__ : FnScope n_Plan___init__ ["self", "tasks"] (defScope s_Plan___init__) := ⟨rfl, rfl, rfl, (by decide +kernel), rfl, (by decide +kernel), (by decide +kernel)⟩
theorem sc_is_name : FnScope n_is_name ["thing"] (defScope s_is_name) := ⟨rfl, rfl, rfl, (by decide +kernel), rfl, (by decide +kernel), (by decide +kernel)⟩
theorem sc_is_whole : FnScope n_is_whole ["thing", "least"] (defScope s_is_whole) := ⟨rfl, rfl, rfl, (by decide +kernel), rfl, (by decide +kernel), (by decide +kernel)⟩
theorem sc_lies_within : FnScope n_lies_within ["one", "other"] (defScope s_lies_within) := ⟨rfl, rfl, rfl, (by decide +kernel), rfl, (by decide +kernel), (by decide +kernel)⟩
theorem sc_written_place : FnScope n_written_place ["section"] (defScope s_written_place) := ⟨rfl, rfl, rfl, (by decide +kernel), rfl, (by decide +kernel), (by decide +kernel)⟩
theorem sc_Plan_task : FnScope n_Plan_task ["self", "name"] (defScope s_Plan_task) := ⟨rfl, rfl, rfl, (by decide +kernel), rfl, (by decide +kernel), (by decide +kernel)⟩
theorem sc_times_up : FnScope n_times_up ["number", "gap"] (defScope s_times_up) := ⟨rfl, rfl, rfl, (by decide +kernel), rfl, (by decide +kernel), (by decide +kernel)⟩
theorem sc__law_raw : FnScope n__law_raw ["raws", "title"] (defScope s__law_raw) := ⟨rfl, rfl, rfl, (by decide +kernel), rfl, (by decide +kernel), (by decide +kernel)⟩
theorem sc__law_ceiling : FnScope n__law_ceiling ["raws", "lock"] (defScope s__law_ceiling) := ⟨rfl, rfl, rfl, (by decide +kernel), rfl, (by decide +kernel), (by decide +kernel)⟩
theorem sc__law_names : FnScope n__law_names ["pen", "many"] (defScope s__law_names) := ⟨rfl, rfl, rfl, (by decide +kernel), rfl, (by decide +kernel), (by decide +kernel)⟩
theorem sc__law_sections : FnScope n__law_sections ["pen", "full", "locks"] (defScope s__law_sections) := ⟨rfl, rfl, rfl, (by decide +kernel), rfl, (by decide +kernel), (by decide +kernel)⟩
theorem sc_go_together : FnScope n_go_together ["one", "other"] (defScope s_go_together) := ⟨rfl, rfl, rfl, (by decide +kernel), rfl, (by decide +kernel), (by decide +kernel)⟩
theorem sc_is_section : FnScope n_is_section ["thing", "most"] (defScope s_is_section) := ⟨rfl, rfl, rfl, (by decide +kernel), rfl, (by decide +kernel), (by decide +kernel)⟩
theorem sc_Plan_above : FnScope n_Plan_above ["self", "name"] (defScope s_Plan_above) := ⟨rfl, rfl, rfl, (by decide +kernel), rfl, (by decide +kernel), (by decide +kernel)⟩
theorem sc_Plan_holding : FnScope n_Plan_holding ["self", "name"] (defScope s_Plan_holding) := ⟨rfl, rfl, rfl, (by decide +kernel), rfl, (by decide +kernel), (by decide +kernel)⟩
theorem sc__law_back : FnScope n__law_back ["raws", "title"] (defScope s__law_back) := ⟨rfl, rfl, rfl, (by decide +kernel), rfl, (by decide +kernel), (by decide +kernel)⟩
theorem sc__law_one : FnScope n__law_one ["pen", "title", "place", "locks", "wide"] (defScope s__law_one) := ⟨rfl, rfl, rfl, (by decide +kernel), rfl, (by decide +kernel), (by decide +kernel)⟩
theorem sc_are_sections : FnScope n_are_sections ["thing", "most"] (defScope s_are_sections) := ⟨rfl, rfl, rfl, (by decide +kernel), rfl, (by decide +kernel), (by decide +kernel)⟩
theorem sc_Plan_held_back : FnScope n_Plan_held_back ["self", "name"] (defScope s_Plan_held_back) := ⟨rfl, rfl, rfl, (by decide +kernel), rfl, (by decide +kernel), (by decide +kernel)⟩
theorem sc__law_side : FnScope n__law_side ["raws", "title", "many"] (defScope s__law_side) := ⟨rfl, rfl, rfl, (by decide +kernel), rfl, (by decide +kernel), (by decide +kernel)⟩
theorem sc__law_raws : FnScope n__law_raws ["pen", "many", "wide"] (defScope s__law_raws) := ⟨rfl, rfl, rfl, (by decide +kernel), rfl, (by decide +kernel), (by decide +kernel)⟩
theorem sc_bad_part : FnScope n_bad_part ["name", "rank", "gap", "most", "due", "wait", "sections"] (defScope s_bad_part) := ⟨rfl, rfl, rfl, (by decide +kernel), rfl, (by decide +kernel), (by decide +kernel)⟩
theorem sc_right_side : FnScope n_right_side ["plan", "name", "ticks"] (defScope s_right_side) := ⟨rfl, rfl, rfl, (by decide +kernel), rfl, (by decide +kernel), (by decide +kernel)⟩
theorem sc_Task___init__ : FnScope n_Task___init__ ["self", "name", "rank", "gap", "most", "due", "wait", "sections"] (defScope s_Task___init__) := ⟨rfl, rfl, rfl, (by decide +kernel), rfl, (by decide +kernel), (by decide +kernel)⟩
theorem sc_least_ticks : FnScope n_least_ticks ["plan", "name"] (defScope s_least_ticks) := ⟨rfl, rfl, rfl, (by decide +kernel), rfl, (by decide +kernel), (by decide +kernel)⟩
theorem sc__law_task : FnScope n__law_task ["raw"] (defScope s__law_task) := ⟨rfl, rfl, rfl, (by decide +kernel), rfl, (by decide +kernel), (by decide +kernel)⟩
theorem sc_bound : FnScope n_bound ["plan", "name"] (defScope s_bound) := ⟨rfl, rfl, rfl, (by decide +kernel), rfl, (by decide +kernel), (by decide +kernel)⟩
theorem sc__law_made : FnScope n__law_made ["raws"] (defScope s__law_made) := ⟨rfl, rfl, rfl, (by decide +kernel), rfl, (by decide +kernel), (by decide +kernel)⟩
theorem sc__law_strange : FnScope n__law_strange ["plan", "a_name"] (defScope s__law_strange) := ⟨rfl, rfl, rfl, (by decide +kernel), rfl, (by decide +kernel), (by decide +kernel)⟩
theorem sc_law : FnScope n_law ["script"] (defScope s_law) := ⟨rfl, rfl, rfl, (by decide +kernel), rfl, (by decide +kernel), (by decide +kernel)⟩
section
variable {P : Program} {w : World} {K : PySem.W.Frag} {mg : Str → Option Value} {base : Heap} {N : Nam}
theorem law_ok {E0 : Addr} (hE0 : N.emp 0 = some E0) (Z : Facts ⟨P, w, K, mg, base, tab, N⟩)
  {f__law_pen : Addr} {fd__law_pen : FuncData} (F__law_pen : FunD K "_law_pen" "_law_pen" (defArgs s__law_pen) (defBody s__law_pen) (defScope s__law_pen) [] [] f__law_pen fd__law_pen)
  (m__law_pen : mg "_law_pen" = some (.ref f__law_pen))
  {f__law_draw : Addr} {fd__law_draw : FuncData} (F__law_draw : FunD K "_law_draw" "_law_draw" (defArgs s__law_draw) (defBody s__law_draw) (defScope s__law_draw) [] [] f__law_draw fd__law_draw)
  (m__law_draw : mg "_law_draw" = some (.ref f__law_draw))
  {f_Plan___init__ : Addr} {fd_Plan___init__ : FuncData} (F_Plan___init__ : FunD K "__init__" "Plan.__init__" (defArgs s_Plan___init__) (defBody s_Plan___init__) (defScope s_Plan___init__) [.ref E0] [] f_Plan___init__ fd_Plan___init__)
  (mk_Plan : Mk K (N.cad 0) f_Plan___init__) (mc_Plan : mg "Plan" = some (.ref (N.cad 0)))
  {f_is_name : Addr} {fd_is_name : FuncData} (F_is_name : FunD K "is_name" "is_name" (defArgs s_is_name) (defBody s_is_name) (defScope s_is_name) [] [] f_is_name fd_is_name)
  (m_is_name : mg "is_name" = some (.ref f_is_name))
  {f_is_whole : Addr} {fd_is_whole : FuncData} (F_is_whole : FunD K "is_whole" "is_whole" (defArgs s_is_whole) (defBody s_is_whole) (defScope s_is_whole) [] [("least", (.int 0))] f_is_whole fd_is_whole)
  (m_is_whole : mg "is_whole" = some (.ref f_is_whole))
  {f_lies_within : Addr} {fd_lies_within : FuncData} (F_lies_within : FunD K "lies_within" "lies_within" (defArgs s_lies_within) (defBody s_lies_within) (defScope s_lies_within) [] [] f_lies_within fd_lies_within)
  (m_lies_within : mg "lies_within" = some (.ref f_lies_within))
  {f_written_place : Addr} {fd_written_place : FuncData} (F_written_place : FunD K "written_place" "written_place" (defArgs s_written_place) (defBody s_written_place) (defScope s_written_place) [] [] f_written_place fd_written_place)
  (m_written_place : mg "written_place" = some (.ref f_written_place))
  {f_Plan_task : Addr} {fd_Plan_task : FuncData} (F_Plan_task : FunD K "task" "Plan.task" (defArgs s_Plan_task) (defBody s_Plan_task) (defScope s_Plan_task) [] [] f_Plan_task fd_Plan_task)
  (mt_Plan_task : Meth K (N.cad 0) "task" f_Plan_task)
  {f_times_up : Addr} {fd_times_up : FuncData} (F_times_up : FunD K "times_up" "times_up" (defArgs s_times_up) (defBody s_times_up) (defScope s_times_up) [] [] f_times_up fd_times_up)
  (m_times_up : mg "times_up" = some (.ref f_times_up))
  {f__law_raw : Addr} {fd__law_raw : FuncData} (F__law_raw : FunD K "_law_raw" "_law_raw" (defArgs s__law_raw) (defBody s__law_raw) (defScope s__law_raw) [] [] f__law_raw fd__law_raw)
  (m__law_raw : mg "_law_raw" = some (.ref f__law_raw))
  {f__law_ceiling : Addr} {fd__law_ceiling : FuncData} (F__law_ceiling : FunD K "_law_ceiling" "_law_ceiling" (defArgs s__law_ceiling) (defBody s__law_ceiling) (defScope s__law_ceiling) [] [] f__law_ceiling fd__law_ceiling)
  (m__law_ceiling : mg "_law_ceiling" = some (.ref f__law_ceiling))
  {f__law_names : Addr} {fd__law_names : FuncData} (F__law_names : FunD K "_law_names" "_law_names" (defArgs s__law_names) (defBody s__law_names) (defScope s__law_names) [] [] f__law_names fd__law_names)
  (m__law_names : mg "_law_names" = some (.ref f__law_names))
  {f__law_sections : Addr} {fd__law_sections : FuncData} (F__law_sections : FunD K "_law_sections" "_law_sections" (defArgs s__law_sections) (defBody s__law_sections) (defScope s__law_sections) [] [] f__law_sections fd__law_sections)
  (m__law_sections : mg "_law_sections" = some (.ref f__law_sections))
  {f_go_together : Addr} {fd_go_together : FuncData} (F_go_together : FunD K "go_together" "go_together" (defArgs s_go_together) (defBody s_go_together) (defScope s_go_together) [] [] f_go_together fd_go_together)
  (m_go_together : mg "go_together" = some (.ref f_go_together))
  {f_is_section : Addr} {fd_is_section : FuncData} (F_is_section : FunD K "is_section" "is_section" (defArgs s_is_section) (defBody s_is_section) (defScope s_is_section) [] [] f_is_section fd_is_section)
  (m_is_section : mg "is_section" = some (.ref f_is_section))
  {f_Plan_above : Addr} {fd_Plan_above : FuncData} (F_Plan_above : FunD K "above" "Plan.above" (defArgs s_Plan_above) (defBody s_Plan_above) (defScope s_Plan_above) [] [] f_Plan_above fd_Plan_above)
  (mt_Plan_above : Meth K (N.cad 0) "above" f_Plan_above)
  {f_Plan_holding : Addr} {fd_Plan_holding : FuncData} (F_Plan_holding : FunD K "holding" "Plan.holding" (defArgs s_Plan_holding) (defBody s_Plan_holding) (defScope s_Plan_holding) [] [] f_Plan_holding fd_Plan_holding)
  (mt_Plan_holding : Meth K (N.cad 0) "holding" f_Plan_holding)
  {f__law_back : Addr} {fd__law_back : FuncData} (F__law_back : FunD K "_law_back" "_law_back" (defArgs s__law_back) (defBody s__law_back) (defScope s__law_back) [] [] f__law_back fd__law_back)
  (m__law_back : mg "_law_back" = some (.ref f__law_back))
  {f__law_one : Addr} {fd__law_one : FuncData} (F__law_one : FunD K "_law_one" "_law_one" (defArgs s__law_one) (defBody s__law_one) (defScope s__law_one) [] [] f__law_one fd__law_one)
  (m__law_one : mg "_law_one" = some (.ref f__law_one))
  {f_are_sections : Addr} {fd_are_sections : FuncData} (F_are_sections : FunD K "are_sections" "are_sections" (defArgs s_are_sections) (defBody s_are_sections) (defScope s_are_sections) [] [] f_are_sections fd_are_sections)
  (m_are_sections : mg "are_sections" = some (.ref f_are_sections))
  {f_Plan_held_back : Addr} {fd_Plan_held_back : FuncData} (F_Plan_held_back : FunD K "held_back" "Plan.held_back" (defArgs s_Plan_held_back) (defBody s_Plan_held_back) (defScope s_Plan_held_back) [] [] f_Plan_held_back fd_Plan_held_back)
  (mt_Plan_held_back : Meth K (N.cad 0) "held_back" f_Plan_held_back)
  {f__law_side : Addr} {fd__law_side : FuncData} (F__law_side : FunD K "_law_side" "_law_side" (defArgs s__law_side) (defBody s__law_side) (defScope s__law_side) [] [] f__law_side fd__law_side)
  (m__law_side : mg "_law_side" = some (.ref f__law_side))
  {f__law_raws : Addr} {fd__law_raws : FuncData} (F__law_raws : FunD K "_law_raws" "_law_raws" (defArgs s__law_raws) (defBody s__law_raws) (defScope s__law_raws) [] [] f__law_raws fd__law_raws)
  (m__law_raws : mg "_law_raws" = some (.ref f__law_raws))
  {f_bad_part : Addr} {fd_bad_part : FuncData} (F_bad_part : FunD K "bad_part" "bad_part" (defArgs s_bad_part) (defBody s_bad_part) (defScope s_bad_part) [] [] f_bad_part fd_bad_part)
  (m_bad_part : mg "bad_part" = some (.ref f_bad_part))
  {f_right_side : Addr} {fd_right_side : FuncData} (F_right_side : FunD K "right_side" "right_side" (defArgs s_right_side) (defBody s_right_side) (defScope s_right_side) [] [] f_right_side fd_right_side)
  (m_right_side : mg "right_side" = some (.ref f_right_side))
  {f_Task___init__ : Addr} {fd_Task___init__ : FuncData} (F_Task___init__ : FunD K "__init__" "Task.__init__" (defArgs s_Task___init__) (defBody s_Task___init__) (defScope s_Task___init__) [] [("wait", (.int 0))] f_Task___init__ fd_Task___init__)
  (mk_Task : Mk K (N.cad 1) f_Task___init__) (mc_Task : mg "Task" = some (.ref (N.cad 1)))
  {f_least_ticks : Addr} {fd_least_ticks : FuncData} (F_least_ticks : FunD K "least_ticks" "least_ticks" (defArgs s_least_ticks) (defBody s_least_ticks) (defScope s_least_ticks) [] [] f_least_ticks fd_least_ticks)
  (m_least_ticks : mg "least_ticks" = some (.ref f_least_ticks))
  {f__law_task : Addr} {fd__law_task : FuncData} (F__law_task : FunD K "_law_task" "_law_task" (defArgs s__law_task) (defBody s__law_task) (defScope s__law_task) [] [] f__law_task fd__law_task)
  (m__law_task : mg "_law_task" = some (.ref f__law_task))
  {f_bound : Addr} {fd_bound : FuncData} (F_bound : FunD K "bound" "bound" (defArgs s_bound) (defBody s_bound) (defScope s_bound) [] [] f_bound fd_bound)
  (m_bound : mg "bound" = some (.ref f_bound))
  {f__law_made : Addr} {fd__law_made : FuncData} (F__law_made : FunD K "_law_made" "_law_made" (defArgs s__law_made) (defBody s__law_made) (defScope s__law_made) [] [] f__law_made fd__law_made)
  (m__law_made : mg "_law_made" = some (.ref f__law_made))
  {f__law_strange : Addr} {fd__law_strange : FuncData} (F__law_strange : FunD K "_law_strange" "_law_strange" (defArgs s__law_strange) (defBody s__law_strange) (defScope s__law_strange) [] [] f__law_strange fd__law_strange)
  (m__law_strange : mg "_law_strange" = some (.ref f__law_strange))
  {f_law : Addr} {fd_law : FuncData} (F_law : FunD K "law" "law" (defArgs s_law) (defBody s_law) (defScope s_law) [] [] f_law fd_law)
  (m_law : mg "law" = some (.ref f_law))
  (cl_Plan : Cls K (N.cad 0))
  (cl_Task : Cls K (N.cad 1))
  {CE0 fIX0 : Addr} {fd_x_NoTask : FuncData} (F_x_NoTask : FunD K "__init__" "NoTask.__init__" (defArgs s_x_NoTask) (defBody s_x_NoTask) (defScope s_x_NoTask) [] [] fIX0 fd_x_NoTask) (m_x_NoTask : mg "NoTask" = some (.ref CE0)) (fct_NoTask : XFct K CE0 fIX0 "KeyError" "LookupError.__new__" "KeyError.__init__" "LookupError" "LookupError.__init__" PySem.XOwn.lkM PySem.XOwn.keyM "name")
  (zk_KeyError : mg "KeyError" = none) :
  FnOk P w K mg base CX0 22 f_law fd_law ["script"] (liftS N spLaw) := by
  have G__law_pen : FnOk P w K mg base CX0 1 f__law_pen fd__law_pen ["script"] (liftS N spPen) := fn_okD (b := ⟨P, w, K, mg, base, tab, N⟩) F__law_pen sc__law_pen Z.g (by intro ds M Q h; first | (obtain ⟨_, rfl, _⟩ := h; rfl) | (obtain ⟨_, _, rfl, _⟩ := h; rfl) | (obtain ⟨_, _, _, rfl, _⟩ := h; rfl) | (obtain ⟨_, _, _, _, rfl, _⟩ := h; rfl) | (obtain ⟨_, _, _, _, _, rfl, _⟩ := h; rfl) | (obtain ⟨_, _, _, _, _, _, rfl, _⟩ := h; rfl) | (obtain ⟨_, _, _, _, _, _, _, rfl, _⟩ := h; rfl) | (obtain ⟨_, _, _, _, _, _, _, _, rfl, _⟩ := h; rfl) | (obtain ⟨_, _, _, _, _, _, _, _, _, rfl, _⟩ := h; rfl) | (obtain ⟨_, _, _, _, _, _, _, _, _, _, rfl, _⟩ := h; rfl) | (obtain ⟨_, _, _, _, _, _, _, _, _, _, _, rfl, _⟩ := h; rfl)) (fun A hr => w__law_pen Z  hr) fit_pen
  have b_26 := F__law_pen.bindsN (ps := ["script"]) fun _ _ _ _ _ _ us hl => match us, hl with | [_], _ => rfl
  have e_26 : FnI ⟨P, w, K, mg, base, tab, N⟩ 1 "_law_pen" 1 (spN 26) := fnI_of0 G__law_pen m__law_pen F__law_pen.kp b_26 (by decide +kernel)
  have G__law_draw : FnOk P w K mg base CX0 1 f__law_draw fd__law_draw ["pen", "many"] (liftS N spDraw) := fn_okD (b := ⟨P, w, K, mg, base, tab, N⟩) F__law_draw sc__law_draw Z.g (by intro ds M Q h; first | (obtain ⟨_, rfl, _⟩ := h; rfl) | (obtain ⟨_, _, rfl, _⟩ := h; rfl) | (obtain ⟨_, _, _, rfl, _⟩ := h; rfl) | (obtain ⟨_, _, _, _, rfl, _⟩ := h; rfl) | (obtain ⟨_, _, _, _, _, rfl, _⟩ := h; rfl) | (obtain ⟨_, _, _, _, _, _, rfl, _⟩ := h; rfl) | (obtain ⟨_, _, _, _, _, _, _, rfl, _⟩ := h; rfl) | (obtain ⟨_, _, _, _, _, _, _, _, rfl, _⟩ := h; rfl) | (obtain ⟨_, _, _, _, _, _, _, _, _, rfl, _⟩ := h; rfl) | (obtain ⟨_, _, _, _, _, _, _, _, _, _, rfl, _⟩ := h; rfl) | (obtain ⟨_, _, _, _, _, _, _, _, _, _, _, rfl, _⟩ := h; rfl)) (fun A hr => w__law_draw Z  hr) fit_draw
  have b_0 := F__law_draw.bindsN (ps := ["pen", "many"]) fun _ _ _ _ _ _ us hl => match us, hl with | [_, _], _ => rfl
  have e_0 : FnI ⟨P, w, K, mg, base, tab, N⟩ 1 "_law_draw" 2 (spN 0) := fnI_of0 G__law_draw m__law_draw F__law_draw.kp b_0 (by decide +kernel)
  have G_Plan___init__ : FnOk P w K mg base CX0 1 f_Plan___init__ fd_Plan___init__ ["self", "tasks"] (liftS N spPlanInit) := fn_okD (b := ⟨P, w, K, mg, base, tab, N⟩) F_Plan___init__ sc_Plan___init__ Z.g (by intro ds M Q h; first | (obtain ⟨_, rfl, _⟩ := h; rfl) | (obtain ⟨_, _, rfl, _⟩ := h; rfl) | (obtain ⟨_, _, _, rfl, _⟩ := h; rfl) | (obtain ⟨_, _, _, _, rfl, _⟩ := h; rfl) | (obtain ⟨_, _, _, _, _, rfl, _⟩ := h; rfl) | (obtain ⟨_, _, _, _, _, _, rfl, _⟩ := h; rfl) | (obtain ⟨_, _, _, _, _, _, _, rfl, _⟩ := h; rfl) | (obtain ⟨_, _, _, _, _, _, _, _, rfl, _⟩ := h; rfl) | (obtain ⟨_, _, _, _, _, _, _, _, _, rfl, _⟩ := h; rfl) | (obtain ⟨_, _, _, _, _, _, _, _, _, _, rfl, _⟩ := h; rfl) | (obtain ⟨_, _, _, _, _, _, _, _, _, _, _, rfl, _⟩ := h; rfl)) (fun A hr => w_Plan___init__ Z  hr) fit_plan_init
  obtain ⟨ds_14, hv_14, b_14⟩ := F_Plan___init__.binds1 (ps := ["self", "tasks"]) 2 1 (fun z => nomatch z) rfl (fun T kV doc pm an cdv ct us its h1 h2 => match us, h1, its, h2 with | [_, _], _, [_], _ => ⟨_, rfl, rfl⟩)
  have e_14 : FnI ⟨P, w, K, mg, base, tab, N⟩ 2 "Plan" 1 (spN 14) := mkI_of (x := "Plan") (dd := []) mk_Plan (MkP.weak (mkP_frozenD (n := 3) (spI := fun ds => spPlanInit (ds ++ [])) (by rw [Z.g.nm.nms]; rfl)) (fun ds M Q h a ha => by show spPlanInit ((D.loc a :: ds) ++ []) _ _; rw [List.append_nil]; exact plan_mk ds M Q h a ha)) G_Plan___init__ mc_Plan b_14 hv_14 (fun _ => reps_nil.mpr rfl) (by decide +kernel)
  have G_is_name : FnOk P w K mg base CX0 1 f_is_name fd_is_name ["thing"] (liftS N spIsName) := fn_okD (b := ⟨P, w, K, mg, base, tab, N⟩) F_is_name sc_is_name Z.g (by intro ds M Q h; first | (obtain ⟨_, rfl, _⟩ := h; rfl) | (obtain ⟨_, _, rfl, _⟩ := h; rfl) | (obtain ⟨_, _, _, rfl, _⟩ := h; rfl) | (obtain ⟨_, _, _, _, rfl, _⟩ := h; rfl) | (obtain ⟨_, _, _, _, _, rfl, _⟩ := h; rfl) | (obtain ⟨_, _, _, _, _, _, rfl, _⟩ := h; rfl) | (obtain ⟨_, _, _, _, _, _, _, rfl, _⟩ := h; rfl) | (obtain ⟨_, _, _, _, _, _, _, _, rfl, _⟩ := h; rfl) | (obtain ⟨_, _, _, _, _, _, _, _, _, rfl, _⟩ := h; rfl) | (obtain ⟨_, _, _, _, _, _, _, _, _, _, rfl, _⟩ := h; rfl) | (obtain ⟨_, _, _, _, _, _, _, _, _, _, _, rfl, _⟩ := h; rfl)) (fun A hr => w_is_name Z  hr) fit_is_name
  have b_7 := F_is_name.bindsN (ps := ["thing"]) fun _ _ _ _ _ _ us hl => match us, hl with | [_], _ => rfl
  have e_7 : FnI ⟨P, w, K, mg, base, tab, N⟩ 1 "is_name" 1 (spN 7) := fnI_of0 G_is_name m_is_name F_is_name.kp b_7 (by decide +kernel)
  have G_is_whole : FnOk P w K mg base CX0 1 f_is_whole fd_is_whole ["thing", "least"] (liftS N spIsWhole) := fn_okD (b := ⟨P, w, K, mg, base, tab, N⟩) F_is_whole sc_is_whole Z.g (by intro ds M Q h; first | (obtain ⟨_, rfl, _⟩ := h; rfl) | (obtain ⟨_, _, rfl, _⟩ := h; rfl) | (obtain ⟨_, _, _, rfl, _⟩ := h; rfl) | (obtain ⟨_, _, _, _, rfl, _⟩ := h; rfl) | (obtain ⟨_, _, _, _, _, rfl, _⟩ := h; rfl) | (obtain ⟨_, _, _, _, _, _, rfl, _⟩ := h; rfl) | (obtain ⟨_, _, _, _, _, _, _, rfl, _⟩ := h; rfl) | (obtain ⟨_, _, _, _, _, _, _, _, rfl, _⟩ := h; rfl) | (obtain ⟨_, _, _, _, _, _, _, _, _, rfl, _⟩ := h; rfl) | (obtain ⟨_, _, _, _, _, _, _, _, _, _, rfl, _⟩ := h; rfl) | (obtain ⟨_, _, _, _, _, _, _, _, _, _, _, rfl, _⟩ := h; rfl)) (fun A hr => w_is_whole Z  hr) fit_is_whole
  obtain ⟨ds_5, hv_5, b_5⟩ := F_is_whole.binds0 (ps := ["thing", "least"]) 1 (fun z => nomatch z) rfl (fun D doc pm an cdv ct us ks h1 h2 => match us, h1, ks, h2 with | [_], _, [_], _ => ⟨_, _, _, _, _, _, rfl, rfl, rfl⟩)
  have e_5 : FnI ⟨P, w, K, mg, base, tab, N⟩ 1 "is_whole" 1 (spN 5) := fnI_of (b := ⟨P, w, K, mg, base, tab, N⟩) (sp := spIsWhole) (x := "is_whole") (dd := [(.int 0)]) G_is_whole m_is_whole F_is_whole.kp b_5 hv_5 (fun _ => reps_cons.mpr ⟨_, _, rfl, (int_rep _), reps_nil.mpr rfl⟩) (by decide +kernel)
  obtain ⟨mv_6, b_6⟩ := F_is_whole.kbinds0 (ps := ["thing", "least"]) 1 ["least"] [] (fun us _ ws => us ++ ws) (fun z => nomatch z) (fun q z => nomatch z) (fun r1 _ r3 => r1.append r3) (fun D doc pm an cdv ct us mv ws h1 h2 h3 => match us, h1, mv, h2, ws, h3 with | [_], _, [], _, [_], _ => rfl)
  have e_6 : FnKI ⟨P, w, K, mg, base, tab, N⟩ 1 "is_whole" 1 ["least"] (spN 6) := fnKI_of (x := "is_whole") (n := 0) (gD := fun as bs => as ++ bs) G_is_whole m_is_whole F_is_whole.kp b_6 (by decide +kernel) (fun F as bs vs us _ _ r1 r2 => r1.append r2) (fun as bs M Q _ _ h => h)
  have G_lies_within : FnOk P w K mg base CX0 1 f_lies_within fd_lies_within ["one", "other"] (liftS N spWithin) := fn_okD (b := ⟨P, w, K, mg, base, tab, N⟩) F_lies_within sc_lies_within Z.g (by intro ds M Q h; first | (obtain ⟨_, rfl, _⟩ := h; rfl) | (obtain ⟨_, _, rfl, _⟩ := h; rfl) | (obtain ⟨_, _, _, rfl, _⟩ := h; rfl) | (obtain ⟨_, _, _, _, rfl, _⟩ := h; rfl) | (obtain ⟨_, _, _, _, _, rfl, _⟩ := h; rfl) | (obtain ⟨_, _, _, _, _, _, rfl, _⟩ := h; rfl) | (obtain ⟨_, _, _, _, _, _, _, rfl, _⟩ := h; rfl) | (obtain ⟨_, _, _, _, _, _, _, _, rfl, _⟩ := h; rfl) | (obtain ⟨_, _, _, _, _, _, _, _, _, rfl, _⟩ := h; rfl) | (obtain ⟨_, _, _, _, _, _, _, _, _, _, rfl, _⟩ := h; rfl) | (obtain ⟨_, _, _, _, _, _, _, _, _, _, _, rfl, _⟩ := h; rfl)) (fun A hr => w_lies_within Z  hr) fit_within
  have b_4 := F_lies_within.bindsN (ps := ["one", "other"]) fun _ _ _ _ _ _ us hl => match us, hl with | [_, _], _ => rfl
  have e_4 : FnI ⟨P, w, K, mg, base, tab, N⟩ 1 "lies_within" 2 (spN 4) := fnI_of0 G_lies_within m_lies_within F_lies_within.kp b_4 (by decide +kernel)
  have G_written_place : FnOk P w K mg base CX0 1 f_written_place fd_written_place ["section"] (liftS N spWritten) := fn_okD (b := ⟨P, w, K, mg, base, tab, N⟩) F_written_place sc_written_place Z.g (by intro ds M Q h; first | (obtain ⟨_, rfl, _⟩ := h; rfl) | (obtain ⟨_, _, rfl, _⟩ := h; rfl) | (obtain ⟨_, _, _, rfl, _⟩ := h; rfl) | (obtain ⟨_, _, _, _, rfl, _⟩ := h; rfl) | (obtain ⟨_, _, _, _, _, rfl, _⟩ := h; rfl) | (obtain ⟨_, _, _, _, _, _, rfl, _⟩ := h; rfl) | (obtain ⟨_, _, _, _, _, _, _, rfl, _⟩ := h; rfl) | (obtain ⟨_, _, _, _, _, _, _, _, rfl, _⟩ := h; rfl) | (obtain ⟨_, _, _, _, _, _, _, _, _, rfl, _⟩ := h; rfl) | (obtain ⟨_, _, _, _, _, _, _, _, _, _, rfl, _⟩ := h; rfl) | (obtain ⟨_, _, _, _, _, _, _, _, _, _, _, rfl, _⟩ := h; rfl)) (fun A hr => w_written_place Z  hr) fit_written
  have b_12 := F_written_place.bindsN (ps := ["section"]) fun _ _ _ _ _ _ us hl => match us, hl with | [_], _ => rfl
  have e_12 : FnI ⟨P, w, K, mg, base, tab, N⟩ 1 "written_place" 1 (spN 12) := fnI_of0 G_written_place m_written_place F_written_place.kp b_12 (by decide +kernel)
  have r_12 : FnRaw ⟨P, w, K, mg, base, tab, N⟩ 1 "written_place" (spN 12) := raw_of0 G_written_place m_written_place b_12
  have G_Plan_task : FnOk P w K mg base CX0 1 f_Plan_task fd_Plan_task ["self", "name"] (liftS N spPlanTask) := fn_okD (b := ⟨P, w, K, mg, base, tab, N⟩) F_Plan_task sc_Plan_task Z.g (by intro ds M Q h; first | (obtain ⟨_, rfl, _⟩ := h; rfl) | (obtain ⟨_, _, rfl, _⟩ := h; rfl) | (obtain ⟨_, _, _, rfl, _⟩ := h; rfl) | (obtain ⟨_, _, _, _, rfl, _⟩ := h; rfl) | (obtain ⟨_, _, _, _, _, rfl, _⟩ := h; rfl) | (obtain ⟨_, _, _, _, _, _, rfl, _⟩ := h; rfl) | (obtain ⟨_, _, _, _, _, _, _, rfl, _⟩ := h; rfl) | (obtain ⟨_, _, _, _, _, _, _, _, rfl, _⟩ := h; rfl) | (obtain ⟨_, _, _, _, _, _, _, _, _, rfl, _⟩ := h; rfl) | (obtain ⟨_, _, _, _, _, _, _, _, _, _, rfl, _⟩ := h; rfl) | (obtain ⟨_, _, _, _, _, _, _, _, _, _, _, rfl, _⟩ := h; rfl)) (fun A hr => w_Plan_task Z  hr) fit_plan_task
  have b_16 := F_Plan_task.bindsN (ps := ["self", "name"]) fun _ _ _ _ _ _ us hl => match us, hl with | [_, _], _ => rfl
  have e_16 : MtI ⟨P, w, K, mg, base, tab, N⟩ 1 0 "task" 1 (spN 16) := mtI_of0 G_Plan_task Z.g cl_Plan mt_Plan_task b_16 (by rw [Z.g.nm.nms]; show ¬ (_ ∈ (cfsN 0).map fun f => (Str.ofString (attrN f) : Str)); exact (by decide +kernel))
  have G_times_up : FnOk P w K mg base CX0 1 f_times_up fd_times_up ["number", "gap"] (liftS N spTimesUp) := fn_okD (b := ⟨P, w, K, mg, base, tab, N⟩) F_times_up sc_times_up Z.g (by intro ds M Q h; first | (obtain ⟨_, rfl, _⟩ := h; rfl) | (obtain ⟨_, _, rfl, _⟩ := h; rfl) | (obtain ⟨_, _, _, rfl, _⟩ := h; rfl) | (obtain ⟨_, _, _, _, rfl, _⟩ := h; rfl) | (obtain ⟨_, _, _, _, _, rfl, _⟩ := h; rfl) | (obtain ⟨_, _, _, _, _, _, rfl, _⟩ := h; rfl) | (obtain ⟨_, _, _, _, _, _, _, rfl, _⟩ := h; rfl) | (obtain ⟨_, _, _, _, _, _, _, _, rfl, _⟩ := h; rfl) | (obtain ⟨_, _, _, _, _, _, _, _, _, rfl, _⟩ := h; rfl) | (obtain ⟨_, _, _, _, _, _, _, _, _, _, rfl, _⟩ := h; rfl) | (obtain ⟨_, _, _, _, _, _, _, _, _, _, _, rfl, _⟩ := h; rfl)) (fun A hr => w_times_up Z  hr) fit_times_up
  have b_20 := F_times_up.bindsN (ps := ["number", "gap"]) fun _ _ _ _ _ _ us hl => match us, hl with | [_, _], _ => rfl
  have e_20 : FnI ⟨P, w, K, mg, base, tab, N⟩ 1 "times_up" 2 (spN 20) := fnI_of0 G_times_up m_times_up F_times_up.kp b_20 (by decide +kernel)
  have G__law_raw : FnOk P w K mg base CX0 1 f__law_raw fd__law_raw ["raws", "title"] (liftS N spLawRaw) := fn_okD (b := ⟨P, w, K, mg, base, tab, N⟩) F__law_raw sc__law_raw Z.g (by intro ds M Q h; first | (obtain ⟨_, rfl, _⟩ := h; rfl) | (obtain ⟨_, _, rfl, _⟩ := h; rfl) | (obtain ⟨_, _, _, rfl, _⟩ := h; rfl) | (obtain ⟨_, _, _, _, rfl, _⟩ := h; rfl) | (obtain ⟨_, _, _, _, _, rfl, _⟩ := h; rfl) | (obtain ⟨_, _, _, _, _, _, rfl, _⟩ := h; rfl) | (obtain ⟨_, _, _, _, _, _, _, rfl, _⟩ := h; rfl) | (obtain ⟨_, _, _, _, _, _, _, _, rfl, _⟩ := h; rfl) | (obtain ⟨_, _, _, _, _, _, _, _, _, rfl, _⟩ := h; rfl) | (obtain ⟨_, _, _, _, _, _, _, _, _, _, rfl, _⟩ := h; rfl) | (obtain ⟨_, _, _, _, _, _, _, _, _, _, _, rfl, _⟩ := h; rfl)) (fun A hr => w__law_raw Z  hr) fit_law_raw
  have b_21 := F__law_raw.bindsN (ps := ["raws", "title"]) fun _ _ _ _ _ _ us hl => match us, hl with | [_, _], _ => rfl
  have e_21 : FnI ⟨P, w, K, mg, base, tab, N⟩ 1 "_law_raw" 2 (spN 21) := fnI_of0 G__law_raw m__law_raw F__law_raw.kp b_21 (by decide +kernel)
  have G__law_ceiling : FnOk P w K mg base CX0 1 f__law_ceiling fd__law_ceiling ["raws", "lock"] (liftS N spLawCeiling) := fn_okD (b := ⟨P, w, K, mg, base, tab, N⟩) F__law_ceiling sc__law_ceiling Z.g (by intro ds M Q h; first | (obtain ⟨_, rfl, _⟩ := h; rfl) | (obtain ⟨_, _, rfl, _⟩ := h; rfl) | (obtain ⟨_, _, _, rfl, _⟩ := h; rfl) | (obtain ⟨_, _, _, _, rfl, _⟩ := h; rfl) | (obtain ⟨_, _, _, _, _, rfl, _⟩ := h; rfl) | (obtain ⟨_, _, _, _, _, _, rfl, _⟩ := h; rfl) | (obtain ⟨_, _, _, _, _, _, _, rfl, _⟩ := h; rfl) | (obtain ⟨_, _, _, _, _, _, _, _, rfl, _⟩ := h; rfl) | (obtain ⟨_, _, _, _, _, _, _, _, _, rfl, _⟩ := h; rfl) | (obtain ⟨_, _, _, _, _, _, _, _, _, _, rfl, _⟩ := h; rfl) | (obtain ⟨_, _, _, _, _, _, _, _, _, _, _, rfl, _⟩ := h; rfl)) (fun A hr => w__law_ceiling Z  hr) fit_law_ceiling
  have b_22 := F__law_ceiling.bindsN (ps := ["raws", "lock"]) fun _ _ _ _ _ _ us hl => match us, hl with | [_, _], _ => rfl
  have e_22 : FnI ⟨P, w, K, mg, base, tab, N⟩ 1 "_law_ceiling" 2 (spN 22) := fnI_of0 G__law_ceiling m__law_ceiling F__law_ceiling.kp b_22 (by decide +kernel)
  have G__law_names : FnOk P w K mg base CX0 4 f__law_names fd__law_names ["pen", "many"] (liftS N spNames) := fn_okD (b := ⟨P, w, K, mg, base, tab, N⟩) F__law_names sc__law_names Z.g (by intro ds M Q h; first | (obtain ⟨_, rfl, _⟩ := h; rfl) | (obtain ⟨_, _, rfl, _⟩ := h; rfl) | (obtain ⟨_, _, _, rfl, _⟩ := h; rfl) | (obtain ⟨_, _, _, _, rfl, _⟩ := h; rfl) | (obtain ⟨_, _, _, _, _, rfl, _⟩ := h; rfl) | (obtain ⟨_, _, _, _, _, _, rfl, _⟩ := h; rfl) | (obtain ⟨_, _, _, _, _, _, _, rfl, _⟩ := h; rfl) | (obtain ⟨_, _, _, _, _, _, _, _, rfl, _⟩ := h; rfl) | (obtain ⟨_, _, _, _, _, _, _, _, _, rfl, _⟩ := h; rfl) | (obtain ⟨_, _, _, _, _, _, _, _, _, _, rfl, _⟩ := h; rfl) | (obtain ⟨_, _, _, _, _, _, _, _, _, _, _, rfl, _⟩ := h; rfl)) (fun A hr => w__law_names Z e_0 hr) fit_names
  have b_2 := F__law_names.bindsN (ps := ["pen", "many"]) fun _ _ _ _ _ _ us hl => match us, hl with | [_, _], _ => rfl
  have e_2 : FnI ⟨P, w, K, mg, base, tab, N⟩ 4 "_law_names" 2 (spN 2) := fnI_of0 G__law_names m__law_names F__law_names.kp b_2 (by decide +kernel)
  have G__law_sections : FnOk P w K mg base CX0 4 f__law_sections fd__law_sections ["pen", "full", "locks"] (liftS N spSections) := fn_okD (b := ⟨P, w, K, mg, base, tab, N⟩) F__law_sections sc__law_sections Z.g (by intro ds M Q h; first | (obtain ⟨_, rfl, _⟩ := h; rfl) | (obtain ⟨_, _, rfl, _⟩ := h; rfl) | (obtain ⟨_, _, _, rfl, _⟩ := h; rfl) | (obtain ⟨_, _, _, _, rfl, _⟩ := h; rfl) | (obtain ⟨_, _, _, _, _, rfl, _⟩ := h; rfl) | (obtain ⟨_, _, _, _, _, _, rfl, _⟩ := h; rfl) | (obtain ⟨_, _, _, _, _, _, _, rfl, _⟩ := h; rfl) | (obtain ⟨_, _, _, _, _, _, _, _, rfl, _⟩ := h; rfl) | (obtain ⟨_, _, _, _, _, _, _, _, _, rfl, _⟩ := h; rfl) | (obtain ⟨_, _, _, _, _, _, _, _, _, _, rfl, _⟩ := h; rfl) | (obtain ⟨_, _, _, _, _, _, _, _, _, _, _, rfl, _⟩ := h; rfl)) (fun A hr => w__law_sections Z e_0 hr) fit_sections
  have b_1 := F__law_sections.bindsN (ps := ["pen", "full", "locks"]) fun _ _ _ _ _ _ us hl => match us, hl with | [_, _, _], _ => rfl
  have e_1 : FnI ⟨P, w, K, mg, base, tab, N⟩ 4 "_law_sections" 3 (spN 1) := fnI_of0 G__law_sections m__law_sections F__law_sections.kp b_1 (by decide +kernel)
  have G_go_together : FnOk P w K mg base CX0 4 f_go_together fd_go_together ["one", "other"] (liftS N spGo) := fn_okD (b := ⟨P, w, K, mg, base, tab, N⟩) F_go_together sc_go_together Z.g (by intro ds M Q h; first | (obtain ⟨_, rfl, _⟩ := h; rfl) | (obtain ⟨_, _, rfl, _⟩ := h; rfl) | (obtain ⟨_, _, _, rfl, _⟩ := h; rfl) | (obtain ⟨_, _, _, _, rfl, _⟩ := h; rfl) | (obtain ⟨_, _, _, _, _, rfl, _⟩ := h; rfl) | (obtain ⟨_, _, _, _, _, _, rfl, _⟩ := h; rfl) | (obtain ⟨_, _, _, _, _, _, _, rfl, _⟩ := h; rfl) | (obtain ⟨_, _, _, _, _, _, _, _, rfl, _⟩ := h; rfl) | (obtain ⟨_, _, _, _, _, _, _, _, _, rfl, _⟩ := h; rfl) | (obtain ⟨_, _, _, _, _, _, _, _, _, _, rfl, _⟩ := h; rfl) | (obtain ⟨_, _, _, _, _, _, _, _, _, _, _, rfl, _⟩ := h; rfl)) (fun A hr => w_go_together Z e_4 hr) fit_go
  have b_9 := F_go_together.bindsN (ps := ["one", "other"]) fun _ _ _ _ _ _ us hl => match us, hl with | [_, _], _ => rfl
  have e_9 : FnI ⟨P, w, K, mg, base, tab, N⟩ 4 "go_together" 2 (spN 9) := fnI_of0 G_go_together m_go_together F_go_together.kp b_9 (by decide +kernel)
  have G_is_section : FnOk P w K mg base CX0 4 f_is_section fd_is_section ["thing", "most"] (liftS N spIsSection) := fn_okD (b := ⟨P, w, K, mg, base, tab, N⟩) F_is_section sc_is_section Z.g (by intro ds M Q h; first | (obtain ⟨_, rfl, _⟩ := h; rfl) | (obtain ⟨_, _, rfl, _⟩ := h; rfl) | (obtain ⟨_, _, _, rfl, _⟩ := h; rfl) | (obtain ⟨_, _, _, _, rfl, _⟩ := h; rfl) | (obtain ⟨_, _, _, _, _, rfl, _⟩ := h; rfl) | (obtain ⟨_, _, _, _, _, _, rfl, _⟩ := h; rfl) | (obtain ⟨_, _, _, _, _, _, _, rfl, _⟩ := h; rfl) | (obtain ⟨_, _, _, _, _, _, _, _, rfl, _⟩ := h; rfl) | (obtain ⟨_, _, _, _, _, _, _, _, _, rfl, _⟩ := h; rfl) | (obtain ⟨_, _, _, _, _, _, _, _, _, _, rfl, _⟩ := h; rfl) | (obtain ⟨_, _, _, _, _, _, _, _, _, _, _, rfl, _⟩ := h; rfl)) (fun A hr => w_is_section Z e_7 e_5 e_6 hr) fit_is_section
  have b_8 := F_is_section.bindsN (ps := ["thing", "most"]) fun _ _ _ _ _ _ us hl => match us, hl with | [_, _], _ => rfl
  have e_8 : FnI ⟨P, w, K, mg, base, tab, N⟩ 4 "is_section" 2 (spN 8) := fnI_of0 G_is_section m_is_section F_is_section.kp b_8 (by decide +kernel)
  have G_Plan_above : FnOk P w K mg base CX0 4 f_Plan_above fd_Plan_above ["self", "name"] (liftS N spAbove) := fn_okD (b := ⟨P, w, K, mg, base, tab, N⟩) F_Plan_above sc_Plan_above Z.g (by intro ds M Q h; first | (obtain ⟨_, rfl, _⟩ := h; rfl) | (obtain ⟨_, _, rfl, _⟩ := h; rfl) | (obtain ⟨_, _, _, rfl, _⟩ := h; rfl) | (obtain ⟨_, _, _, _, rfl, _⟩ := h; rfl) | (obtain ⟨_, _, _, _, _, rfl, _⟩ := h; rfl) | (obtain ⟨_, _, _, _, _, _, rfl, _⟩ := h; rfl) | (obtain ⟨_, _, _, _, _, _, _, rfl, _⟩ := h; rfl) | (obtain ⟨_, _, _, _, _, _, _, _, rfl, _⟩ := h; rfl) | (obtain ⟨_, _, _, _, _, _, _, _, _, rfl, _⟩ := h; rfl) | (obtain ⟨_, _, _, _, _, _, _, _, _, _, rfl, _⟩ := h; rfl) | (obtain ⟨_, _, _, _, _, _, _, _, _, _, _, rfl, _⟩ := h; rfl)) (fun A hr => w_Plan_above Z e_16 hr) fit_above
  have b_19 := F_Plan_above.bindsN (ps := ["self", "name"]) fun _ _ _ _ _ _ us hl => match us, hl with | [_, _], _ => rfl
  have e_19 : MtI ⟨P, w, K, mg, base, tab, N⟩ 4 0 "above" 1 (spN 19) := mtI_of0 G_Plan_above Z.g cl_Plan mt_Plan_above b_19 (by rw [Z.g.nm.nms]; show ¬ (_ ∈ (cfsN 0).map fun f => (Str.ofString (attrN f) : Str)); exact (by decide +kernel))
  have G_Plan_holding : FnOk P w K mg base CX0 4 f_Plan_holding fd_Plan_holding ["self", "name"] (liftS N spHolding) := fn_okD (b := ⟨P, w, K, mg, base, tab, N⟩) F_Plan_holding sc_Plan_holding Z.g (by intro ds M Q h; first | (obtain ⟨_, rfl, _⟩ := h; rfl) | (obtain ⟨_, _, rfl, _⟩ := h; rfl) | (obtain ⟨_, _, _, rfl, _⟩ := h; rfl) | (obtain ⟨_, _, _, _, rfl, _⟩ := h; rfl) | (obtain ⟨_, _, _, _, _, rfl, _⟩ := h; rfl) | (obtain ⟨_, _, _, _, _, _, rfl, _⟩ := h; rfl) | (obtain ⟨_, _, _, _, _, _, _, rfl, _⟩ := h; rfl) | (obtain ⟨_, _, _, _, _, _, _, _, rfl, _⟩ := h; rfl) | (obtain ⟨_, _, _, _, _, _, _, _, _, rfl, _⟩ := h; rfl) | (obtain ⟨_, _, _, _, _, _, _, _, _, _, rfl, _⟩ := h; rfl) | (obtain ⟨_, _, _, _, _, _, _, _, _, _, _, rfl, _⟩ := h; rfl)) (fun A hr => w_Plan_holding Z e_16 hr) fit_holding
  have b_17 := F_Plan_holding.bindsN (ps := ["self", "name"]) fun _ _ _ _ _ _ us hl => match us, hl with | [_, _], _ => rfl
  have e_17 : MtI ⟨P, w, K, mg, base, tab, N⟩ 4 0 "holding" 1 (spN 17) := mtI_of0 G_Plan_holding Z.g cl_Plan mt_Plan_holding b_17 (by rw [Z.g.nm.nms]; show ¬ (_ ∈ (cfsN 0).map fun f => (Str.ofString (attrN f) : Str)); exact (by decide +kernel))
  have G__law_back : FnOk P w K mg base CX0 4 f__law_back fd__law_back ["raws", "title"] (liftS N spLawBack) := fn_okD (b := ⟨P, w, K, mg, base, tab, N⟩) F__law_back sc__law_back Z.g (by intro ds M Q h; first | (obtain ⟨_, rfl, _⟩ := h; rfl) | (obtain ⟨_, _, rfl, _⟩ := h; rfl) | (obtain ⟨_, _, _, rfl, _⟩ := h; rfl) | (obtain ⟨_, _, _, _, rfl, _⟩ := h; rfl) | (obtain ⟨_, _, _, _, _, rfl, _⟩ := h; rfl) | (obtain ⟨_, _, _, _, _, _, rfl, _⟩ := h; rfl) | (obtain ⟨_, _, _, _, _, _, _, rfl, _⟩ := h; rfl) | (obtain ⟨_, _, _, _, _, _, _, _, rfl, _⟩ := h; rfl) | (obtain ⟨_, _, _, _, _, _, _, _, _, rfl, _⟩ := h; rfl) | (obtain ⟨_, _, _, _, _, _, _, _, _, _, rfl, _⟩ := h; rfl) | (obtain ⟨_, _, _, _, _, _, _, _, _, _, _, rfl, _⟩ := h; rfl)) (fun A hr => w__law_back Z e_22 e_21 hr) fit_law_back
  have b_23 := F__law_back.bindsN (ps := ["raws", "title"]) fun _ _ _ _ _ _ us hl => match us, hl with | [_, _], _ => rfl
  have e_23 : FnI ⟨P, w, K, mg, base, tab, N⟩ 4 "_law_back" 2 (spN 23) := fnI_of0 G__law_back m__law_back F__law_back.kp b_23 (by decide +kernel)
  have G__law_one : FnOk P w K mg base CX0 7 f__law_one fd__law_one ["pen", "title", "place", "locks", "wide"] (liftS N spOne) := fn_okD (b := ⟨P, w, K, mg, base, tab, N⟩) F__law_one sc__law_one Z.g (by intro ds M Q h; first | (obtain ⟨_, rfl, _⟩ := h; rfl) | (obtain ⟨_, _, rfl, _⟩ := h; rfl) | (obtain ⟨_, _, _, rfl, _⟩ := h; rfl) | (obtain ⟨_, _, _, _, rfl, _⟩ := h; rfl) | (obtain ⟨_, _, _, _, _, rfl, _⟩ := h; rfl) | (obtain ⟨_, _, _, _, _, _, rfl, _⟩ := h; rfl) | (obtain ⟨_, _, _, _, _, _, _, rfl, _⟩ := h; rfl) | (obtain ⟨_, _, _, _, _, _, _, _, rfl, _⟩ := h; rfl) | (obtain ⟨_, _, _, _, _, _, _, _, _, rfl, _⟩ := h; rfl) | (obtain ⟨_, _, _, _, _, _, _, _, _, _, rfl, _⟩ := h; rfl) | (obtain ⟨_, _, _, _, _, _, _, _, _, _, _, rfl, _⟩ := h; rfl)) (fun A hr => w__law_one Z e_0 e_1 hr) fit_one
  have b_3 := F__law_one.bindsN (ps := ["pen", "title", "place", "locks", "wide"]) fun _ _ _ _ _ _ us hl => match us, hl with | [_, _, _, _, _], _ => rfl
  have e_3 : FnI ⟨P, w, K, mg, base, tab, N⟩ 7 "_law_one" 5 (spN 3) := fnI_of0 G__law_one m__law_one F__law_one.kp b_3 (by decide +kernel)
  have G_are_sections : FnOk P w K mg base CX0 7 f_are_sections fd_are_sections ["thing", "most"] (liftS N spAreSections) := fn_okD (b := ⟨P, w, K, mg, base, tab, N⟩) F_are_sections sc_are_sections Z.g (by intro ds M Q h; first | (obtain ⟨_, rfl, _⟩ := h; rfl) | (obtain ⟨_, _, rfl, _⟩ := h; rfl) | (obtain ⟨_, _, _, rfl, _⟩ := h; rfl) | (obtain ⟨_, _, _, _, rfl, _⟩ := h; rfl) | (obtain ⟨_, _, _, _, _, rfl, _⟩ := h; rfl) | (obtain ⟨_, _, _, _, _, _, rfl, _⟩ := h; rfl) | (obtain ⟨_, _, _, _, _, _, _, rfl, _⟩ := h; rfl) | (obtain ⟨_, _, _, _, _, _, _, _, rfl, _⟩ := h; rfl) | (obtain ⟨_, _, _, _, _, _, _, _, _, rfl, _⟩ := h; rfl) | (obtain ⟨_, _, _, _, _, _, _, _, _, _, rfl, _⟩ := h; rfl) | (obtain ⟨_, _, _, _, _, _, _, _, _, _, _, rfl, _⟩ := h; rfl)) (fun A hr => w_are_sections Z e_9 e_8 hr) fit_are_sections
  have b_10 := F_are_sections.bindsN (ps := ["thing", "most"]) fun _ _ _ _ _ _ us hl => match us, hl with | [_, _], _ => rfl
  have e_10 : FnI ⟨P, w, K, mg, base, tab, N⟩ 7 "are_sections" 2 (spN 10) := fnI_of0 G_are_sections m_are_sections F_are_sections.kp b_10 (by decide +kernel)
  have G_Plan_held_back : FnOk P w K mg base CX0 7 f_Plan_held_back fd_Plan_held_back ["self", "name"] (liftS N spHeldBack) := fn_okD (b := ⟨P, w, K, mg, base, tab, N⟩) F_Plan_held_back sc_Plan_held_back Z.g (by intro ds M Q h; first | (obtain ⟨_, rfl, _⟩ := h; rfl) | (obtain ⟨_, _, rfl, _⟩ := h; rfl) | (obtain ⟨_, _, _, rfl, _⟩ := h; rfl) | (obtain ⟨_, _, _, _, rfl, _⟩ := h; rfl) | (obtain ⟨_, _, _, _, _, rfl, _⟩ := h; rfl) | (obtain ⟨_, _, _, _, _, _, rfl, _⟩ := h; rfl) | (obtain ⟨_, _, _, _, _, _, _, rfl, _⟩ := h; rfl) | (obtain ⟨_, _, _, _, _, _, _, _, rfl, _⟩ := h; rfl) | (obtain ⟨_, _, _, _, _, _, _, _, _, rfl, _⟩ := h; rfl) | (obtain ⟨_, _, _, _, _, _, _, _, _, _, rfl, _⟩ := h; rfl) | (obtain ⟨_, _, _, _, _, _, _, _, _, _, _, rfl, _⟩ := h; rfl)) (fun A hr => w_Plan_held_back Z e_17 hr) fit_held_back
  have b_18 := F_Plan_held_back.bindsN (ps := ["self", "name"]) fun _ _ _ _ _ _ us hl => match us, hl with | [_, _], _ => rfl
  have e_18 : MtI ⟨P, w, K, mg, base, tab, N⟩ 7 0 "held_back" 1 (spN 18) := mtI_of0 G_Plan_held_back Z.g cl_Plan mt_Plan_held_back b_18 (by rw [Z.g.nm.nms]; show ¬ (_ ∈ (cfsN 0).map fun f => (Str.ofString (attrN f) : Str)); exact (by decide +kernel))
  have G__law_side : FnOk P w K mg base CX0 7 f__law_side fd__law_side ["raws", "title", "many"] (liftS N spLawSide) := fn_okD (b := ⟨P, w, K, mg, base, tab, N⟩) F__law_side sc__law_side Z.g (by intro ds M Q h; first | (obtain ⟨_, rfl, _⟩ := h; rfl) | (obtain ⟨_, _, rfl, _⟩ := h; rfl) | (obtain ⟨_, _, _, rfl, _⟩ := h; rfl) | (obtain ⟨_, _, _, _, rfl, _⟩ := h; rfl) | (obtain ⟨_, _, _, _, _, rfl, _⟩ := h; rfl) | (obtain ⟨_, _, _, _, _, _, rfl, _⟩ := h; rfl) | (obtain ⟨_, _, _, _, _, _, _, rfl, _⟩ := h; rfl) | (obtain ⟨_, _, _, _, _, _, _, _, rfl, _⟩ := h; rfl) | (obtain ⟨_, _, _, _, _, _, _, _, _, rfl, _⟩ := h; rfl) | (obtain ⟨_, _, _, _, _, _, _, _, _, _, rfl, _⟩ := h; rfl) | (obtain ⟨_, _, _, _, _, _, _, _, _, _, _, rfl, _⟩ := h; rfl)) (fun A hr => w__law_side Z e_23 e_21 hr) fit_law_side
  have b_29 := F__law_side.bindsN (ps := ["raws", "title", "many"]) fun _ _ _ _ _ _ us hl => match us, hl with | [_, _, _], _ => rfl
  have e_29 : FnI ⟨P, w, K, mg, base, tab, N⟩ 7 "_law_side" 3 (spN 29) := fnI_of0 G__law_side m__law_side F__law_side.kp b_29 (by decide +kernel)
  have G__law_raws : FnOk P w K mg base CX0 10 f__law_raws fd__law_raws ["pen", "many", "wide"] (liftS N spRaws) := fn_okD (b := ⟨P, w, K, mg, base, tab, N⟩) F__law_raws sc__law_raws Z.g (by intro ds M Q h; first | (obtain ⟨_, rfl, _⟩ := h; rfl) | (obtain ⟨_, _, rfl, _⟩ := h; rfl) | (obtain ⟨_, _, _, rfl, _⟩ := h; rfl) | (obtain ⟨_, _, _, _, rfl, _⟩ := h; rfl) | (obtain ⟨_, _, _, _, _, rfl, _⟩ := h; rfl) | (obtain ⟨_, _, _, _, _, _, rfl, _⟩ := h; rfl) | (obtain ⟨_, _, _, _, _, _, _, rfl, _⟩ := h; rfl) | (obtain ⟨_, _, _, _, _, _, _, _, rfl, _⟩ := h; rfl) | (obtain ⟨_, _, _, _, _, _, _, _, _, rfl, _⟩ := h; rfl) | (obtain ⟨_, _, _, _, _, _, _, _, _, _, rfl, _⟩ := h; rfl) | (obtain ⟨_, _, _, _, _, _, _, _, _, _, _, rfl, _⟩ := h; rfl)) (fun A hr => w__law_raws Z e_0 e_2 e_3 hr) fit_raws
  have b_27 := F__law_raws.bindsN (ps := ["pen", "many", "wide"]) fun _ _ _ _ _ _ us hl => match us, hl with | [_, _, _], _ => rfl
  have e_27 : FnI ⟨P, w, K, mg, base, tab, N⟩ 10 "_law_raws" 3 (spN 27) := fnI_of0 G__law_raws m__law_raws F__law_raws.kp b_27 (by decide +kernel)
  have G_bad_part : FnOk P w K mg base CX0 10 f_bad_part fd_bad_part ["name", "rank", "gap", "most", "due", "wait", "sections"] (liftS N spBadPart) := fn_okD (b := ⟨P, w, K, mg, base, tab, N⟩) F_bad_part sc_bad_part Z.g (by intro ds M Q h; first | (obtain ⟨_, rfl, _⟩ := h; rfl) | (obtain ⟨_, _, rfl, _⟩ := h; rfl) | (obtain ⟨_, _, _, rfl, _⟩ := h; rfl) | (obtain ⟨_, _, _, _, rfl, _⟩ := h; rfl) | (obtain ⟨_, _, _, _, _, rfl, _⟩ := h; rfl) | (obtain ⟨_, _, _, _, _, _, rfl, _⟩ := h; rfl) | (obtain ⟨_, _, _, _, _, _, _, rfl, _⟩ := h; rfl) | (obtain ⟨_, _, _, _, _, _, _, _, rfl, _⟩ := h; rfl) | (obtain ⟨_, _, _, _, _, _, _, _, _, rfl, _⟩ := h; rfl) | (obtain ⟨_, _, _, _, _, _, _, _, _, _, rfl, _⟩ := h; rfl) | (obtain ⟨_, _, _, _, _, _, _, _, _, _, _, rfl, _⟩ := h; rfl)) (fun A hr => w_bad_part Z e_10 e_7 e_5 e_6 hr) fit_bad_part
  have b_11 := F_bad_part.bindsN (ps := ["name", "rank", "gap", "most", "due", "wait", "sections"]) fun _ _ _ _ _ _ us hl => match us, hl with | [_, _, _, _, _, _, _], _ => rfl
  have e_11 : FnI ⟨P, w, K, mg, base, tab, N⟩ 10 "bad_part" 7 (spN 11) := fnI_of0 G_bad_part m_bad_part F_bad_part.kp b_11 (by decide +kernel)
  have G_right_side : FnOk P w K mg base CX0 10 f_right_side fd_right_side ["plan", "name", "ticks"] (liftS N spRightSide) := fn_okD (b := ⟨P, w, K, mg, base, tab, N⟩) F_right_side sc_right_side Z.g (by intro ds M Q h; first | (obtain ⟨_, rfl, _⟩ := h; rfl) | (obtain ⟨_, _, rfl, _⟩ := h; rfl) | (obtain ⟨_, _, _, rfl, _⟩ := h; rfl) | (obtain ⟨_, _, _, _, rfl, _⟩ := h; rfl) | (obtain ⟨_, _, _, _, _, rfl, _⟩ := h; rfl) | (obtain ⟨_, _, _, _, _, _, rfl, _⟩ := h; rfl) | (obtain ⟨_, _, _, _, _, _, _, rfl, _⟩ := h; rfl) | (obtain ⟨_, _, _, _, _, _, _, _, rfl, _⟩ := h; rfl) | (obtain ⟨_, _, _, _, _, _, _, _, _, rfl, _⟩ := h; rfl) | (obtain ⟨_, _, _, _, _, _, _, _, _, _, rfl, _⟩ := h; rfl) | (obtain ⟨_, _, _, _, _, _, _, _, _, _, _, rfl, _⟩ := h; rfl)) (fun A hr => w_right_side Z e_19 e_18 e_16 e_20 hr) fit_right_side
  have b_24 := F_right_side.bindsN (ps := ["plan", "name", "ticks"]) fun _ _ _ _ _ _ us hl => match us, hl with | [_, _, _], _ => rfl
  have e_24 : FnI ⟨P, w, K, mg, base, tab, N⟩ 10 "right_side" 3 (spN 24) := fnI_of0 G_right_side m_right_side F_right_side.kp b_24 (by decide +kernel)
  have b_31 := kbindsP (ps := ["plan", "name", "ticks"]) F_right_side 1 ["ticks", "name"] (fun us ws => us ++ ws.reverse) (fun r1 r3 => r1.append r3.reverse) (fun kV doc pm an cdv ct us ws h1 h3 => match us, h1, ws, h3 with | [_], _, [_, _], _ => rfl)
  have e_31 : FnKI ⟨P, w, K, mg, base, tab, N⟩ 10 "right_side" 1 ["ticks", "name"] (spN 31) := fnKI_of (x := "right_side") (n := 0) (gD := fun as bs => as ++ bs.reverse) G_right_side m_right_side F_right_side.kp b_31 (by decide +kernel) (fun F as bs vs us _ _ r1 r2 => r1.append r2.reverse) (fun as bs M Q h1 h2 ⟨pl, ts, r, x, e, h⟩ => match as, h1, bs, h2, e with | [_], _, [_, _], _, rfl => ⟨pl, ts, r, x, rfl, h⟩)
  have G_Task___init__ : FnOk P w K mg base CX0 13 f_Task___init__ fd_Task___init__ ["self", "name", "rank", "gap", "most", "due", "wait", "sections"] (liftS N spTaskInit) := fn_okD (b := ⟨P, w, K, mg, base, tab, N⟩) F_Task___init__ sc_Task___init__ Z.g (by intro ds M Q h; first | (obtain ⟨_, rfl, _⟩ := h; rfl) | (obtain ⟨_, _, rfl, _⟩ := h; rfl) | (obtain ⟨_, _, _, rfl, _⟩ := h; rfl) | (obtain ⟨_, _, _, _, rfl, _⟩ := h; rfl) | (obtain ⟨_, _, _, _, _, rfl, _⟩ := h; rfl) | (obtain ⟨_, _, _, _, _, _, rfl, _⟩ := h; rfl) | (obtain ⟨_, _, _, _, _, _, _, rfl, _⟩ := h; rfl) | (obtain ⟨_, _, _, _, _, _, _, _, rfl, _⟩ := h; rfl) | (obtain ⟨_, _, _, _, _, _, _, _, _, rfl, _⟩ := h; rfl) | (obtain ⟨_, _, _, _, _, _, _, _, _, _, rfl, _⟩ := h; rfl) | (obtain ⟨_, _, _, _, _, _, _, _, _, _, _, rfl, _⟩ := h; rfl)) (fun A hr => w_Task___init__ Z e_11 r_12 hr) fit_task_init
  obtain ⟨mv_13, b_13⟩ := F_Task___init__.kbinds0 (ps := ["self", "name", "rank", "gap", "most", "due", "wait", "sections"]) 2 ["rank", "gap", "most", "due", "wait", "sections"] [] (fun us _ ws => us ++ ws) (fun z => nomatch z) (fun q z => nomatch z) (fun r1 _ r3 => r1.append r3) (fun D doc pm an cdv ct us mv ws h1 h2 h3 => match us, h1, mv, h2, ws, h3 with | [_, _], _, [], _, [_, _, _, _, _, _], _ => rfl)
  have e_13 : FnKI ⟨P, w, K, mg, base, tab, N⟩ 14 "Task" 1 ["rank", "gap", "most", "due", "wait", "sections"] (spN 13) := mkKI_of (n := 0) (x := "Task") (gD := fun as bs => as ++ bs) mk_Task (MkP.weak (mkP_frozen (n := 7) (by rw [Z.g.nm.nms]; rfl)) task_mk) G_Task___init__ mc_Task b_13 (by decide +kernel) (fun y vs us => rfl) (fun F y as bs vs us _ _ r1 r2 => r1.append r2) (fun as bs M Q _ _ h => h)
  have G_least_ticks : FnOk P w K mg base CX0 13 f_least_ticks fd_least_ticks ["plan", "name"] (liftS N spLeast) := fn_okD (b := ⟨P, w, K, mg, base, tab, N⟩) F_least_ticks sc_least_ticks Z.g (by intro ds M Q h; first | (obtain ⟨_, rfl, _⟩ := h; rfl) | (obtain ⟨_, _, rfl, _⟩ := h; rfl) | (obtain ⟨_, _, _, rfl, _⟩ := h; rfl) | (obtain ⟨_, _, _, _, rfl, _⟩ := h; rfl) | (obtain ⟨_, _, _, _, _, rfl, _⟩ := h; rfl) | (obtain ⟨_, _, _, _, _, _, rfl, _⟩ := h; rfl) | (obtain ⟨_, _, _, _, _, _, _, rfl, _⟩ := h; rfl) | (obtain ⟨_, _, _, _, _, _, _, _, rfl, _⟩ := h; rfl) | (obtain ⟨_, _, _, _, _, _, _, _, _, rfl, _⟩ := h; rfl) | (obtain ⟨_, _, _, _, _, _, _, _, _, _, rfl, _⟩ := h; rfl) | (obtain ⟨_, _, _, _, _, _, _, _, _, _, _, rfl, _⟩ := h; rfl)) (fun A hr => w_least_ticks Z e_16 e_24 hr) fit_least
  have b_25 := F_least_ticks.bindsN (ps := ["plan", "name"]) fun _ _ _ _ _ _ us hl => match us, hl with | [_, _], _ => rfl
  have e_25 : FnI ⟨P, w, K, mg, base, tab, N⟩ 13 "least_ticks" 2 (spN 25) := fnI_of0 G_least_ticks m_least_ticks F_least_ticks.kp b_25 (by decide +kernel)
  have G__law_task : FnOk P w K mg base CX0 16 f__law_task fd__law_task ["raw"] (liftS N spLawTask) := fn_okD (b := ⟨P, w, K, mg, base, tab, N⟩) F__law_task sc__law_task Z.g (by intro ds M Q h; first | (obtain ⟨_, rfl, _⟩ := h; rfl) | (obtain ⟨_, _, rfl, _⟩ := h; rfl) | (obtain ⟨_, _, _, rfl, _⟩ := h; rfl) | (obtain ⟨_, _, _, _, rfl, _⟩ := h; rfl) | (obtain ⟨_, _, _, _, _, rfl, _⟩ := h; rfl) | (obtain ⟨_, _, _, _, _, _, rfl, _⟩ := h; rfl) | (obtain ⟨_, _, _, _, _, _, _, rfl, _⟩ := h; rfl) | (obtain ⟨_, _, _, _, _, _, _, _, rfl, _⟩ := h; rfl) | (obtain ⟨_, _, _, _, _, _, _, _, _, rfl, _⟩ := h; rfl) | (obtain ⟨_, _, _, _, _, _, _, _, _, _, rfl, _⟩ := h; rfl) | (obtain ⟨_, _, _, _, _, _, _, _, _, _, _, rfl, _⟩ := h; rfl)) (fun A hr => w__law_task Z e_13 hr) fit_law_task
  have b_15 := F__law_task.bindsN (ps := ["raw"]) fun _ _ _ _ _ _ us hl => match us, hl with | [_], _ => rfl
  have e_15 : FnI ⟨P, w, K, mg, base, tab, N⟩ 16 "_law_task" 1 (spN 15) := fnI_of0 G__law_task m__law_task F__law_task.kp b_15 (by decide +kernel)
  have G__law_made : FnOk P w K mg base CX0 19 f__law_made fd__law_made ["raws"] (liftS N spMade) := fn_okD (b := ⟨P, w, K, mg, base, tab, N⟩) F__law_made sc__law_made Z.g (by intro ds M Q h; first | (obtain ⟨_, rfl, _⟩ := h; rfl) | (obtain ⟨_, _, rfl, _⟩ := h; rfl) | (obtain ⟨_, _, _, rfl, _⟩ := h; rfl) | (obtain ⟨_, _, _, _, rfl, _⟩ := h; rfl) | (obtain ⟨_, _, _, _, _, rfl, _⟩ := h; rfl) | (obtain ⟨_, _, _, _, _, _, rfl, _⟩ := h; rfl) | (obtain ⟨_, _, _, _, _, _, _, rfl, _⟩ := h; rfl) | (obtain ⟨_, _, _, _, _, _, _, _, rfl, _⟩ := h; rfl) | (obtain ⟨_, _, _, _, _, _, _, _, _, rfl, _⟩ := h; rfl) | (obtain ⟨_, _, _, _, _, _, _, _, _, _, rfl, _⟩ := h; rfl) | (obtain ⟨_, _, _, _, _, _, _, _, _, _, _, rfl, _⟩ := h; rfl)) (fun A hr => w__law_made Z e_14 e_15 hr) fit_made
  have b_28 := F__law_made.bindsN (ps := ["raws"]) fun _ _ _ _ _ _ us hl => match us, hl with | [_], _ => rfl
  have e_28 : FnI ⟨P, w, K, mg, base, tab, N⟩ 19 "_law_made" 1 (spN 28) := fnI_of0 G__law_made m__law_made F__law_made.kp b_28 (by decide +kernel)
  have G__law_strange := strange_ok Z F_x_NoTask m_x_NoTask fct_NoTask zk_KeyError cl_Plan F_Plan_task mt_Plan_task F_Plan_holding mt_Plan_holding F_Plan_held_back mt_Plan_held_back F_right_side m_right_side F_least_ticks m_least_ticks F_bound m_bound F__law_strange m__law_strange
  have b_30 := F__law_strange.bindsN (ps := ["plan", "a_name"]) fun _ _ _ _ _ _ us hl => match us, hl with | [_, _], _ => rfl
  have e_30 : FnI ⟨P, w, K, mg, base, tab, N⟩ 19 "_law_strange" 2 (spN 30) := fnI_of0 G__law_strange m__law_strange F__law_strange.kp b_30 (by decide +kernel)
  have G_law : FnOk P w K mg base CX0 22 f_law fd_law ["script"] (liftS N spLaw) := fn_okD (b := ⟨P, w, K, mg, base, tab, N⟩) F_law sc_law Z.g (by intro ds M Q h; first | (obtain ⟨_, rfl, _⟩ := h; rfl) | (obtain ⟨_, _, rfl, _⟩ := h; rfl) | (obtain ⟨_, _, _, rfl, _⟩ := h; rfl) | (obtain ⟨_, _, _, _, rfl, _⟩ := h; rfl) | (obtain ⟨_, _, _, _, _, rfl, _⟩ := h; rfl) | (obtain ⟨_, _, _, _, _, _, rfl, _⟩ := h; rfl) | (obtain ⟨_, _, _, _, _, _, _, rfl, _⟩ := h; rfl) | (obtain ⟨_, _, _, _, _, _, _, _, rfl, _⟩ := h; rfl) | (obtain ⟨_, _, _, _, _, _, _, _, _, rfl, _⟩ := h; rfl) | (obtain ⟨_, _, _, _, _, _, _, _, _, _, rfl, _⟩ := h; rfl) | (obtain ⟨_, _, _, _, _, _, _, _, _, _, _, rfl, _⟩ := h; rfl)) (fun A hr => w_law Z e_0 e_28 e_2 e_26 e_27 e_29 e_30 e_31 e_24 hr) fit_law
  exact G_law
end
end LawW

set_option Elab.async false
set_option linter.all false
set_option maxRecDepth 100000
set_option maxHeartbeats 0
namespace LawW
open PySem L2 PySem.W DL PySem.Spec PyProof.Rows
def d__law_pen : He.DefD := ⟨("_law_pen", none), "_law_pen", "_law_pen", defArgs s__law_pen, defBody s__law_pen, defScope s__law_pen, [], []⟩
def d__law_draw : He.DefD := ⟨("_law_draw", none), "_law_draw", "_law_draw", defArgs s__law_draw, defBody s__law_draw, defScope s__law_draw, [], []⟩
def d_Plan___init__ : He.DefD := ⟨("Plan", some "__init__"), "__init__", "Plan.__init__", defArgs s_Plan___init__, defBody s_Plan___init__, defScope s_Plan___init__, [.adr (He.dflAt ("Plan", some "__init__") 0)], []⟩
def d_is_name : He.DefD := ⟨("is_name", none), "is_name", "is_name", defArgs s_is_name, defBody s_is_name, defScope s_is_name, [], []⟩
def d_is_whole : He.DefD := ⟨("is_whole", none), "is_whole", "is_whole", defArgs s_is_whole, defBody s_is_whole, defScope s_is_whole, [], [("least", (.int 0))]⟩
def d_lies_within : He.DefD := ⟨("lies_within", none), "lies_within", "lies_within", defArgs s_lies_within, defBody s_lies_within, defScope s_lies_within, [], []⟩
def d_written_place : He.DefD := ⟨("written_place", none), "written_place", "written_place", defArgs s_written_place, defBody s_written_place, defScope s_written_place, [], []⟩
def d_Plan_task : He.DefD := ⟨("Plan", some "task"), "task", "Plan.task", defArgs s_Plan_task, defBody s_Plan_task, defScope s_Plan_task, [], []⟩
def d_times_up : He.DefD := ⟨("times_up", none), "times_up", "times_up", defArgs s_times_up, defBody s_times_up, defScope s_times_up, [], []⟩
def d__law_raw : He.DefD := ⟨("_law_raw", none), "_law_raw", "_law_raw", defArgs s__law_raw, defBody s__law_raw, defScope s__law_raw, [], []⟩
def d__law_ceiling : He.DefD := ⟨("_law_ceiling", none), "_law_ceiling", "_law_ceiling", defArgs s__law_ceiling, defBody s__law_ceiling, defScope s__law_ceiling, [], []⟩
def d__law_names : He.DefD := ⟨("_law_names", none), "_law_names", "_law_names", defArgs s__law_names, defBody s__law_names, defScope s__law_names, [], []⟩
def d__law_sections : He.DefD := ⟨("_law_sections", none), "_law_sections", "_law_sections", defArgs s__law_sections, defBody s__law_sections, defScope s__law_sections, [], []⟩
def d_go_together : He.DefD := ⟨("go_together", none), "go_together", "go_together", defArgs s_go_together, defBody s_go_together, defScope s_go_together, [], []⟩
def d_is_section : He.DefD := ⟨("is_section", none), "is_section", "is_section", defArgs s_is_section, defBody s_is_section, defScope s_is_section, [], []⟩
def d_Plan_above : He.DefD := ⟨("Plan", some "above"), "above", "Plan.above", defArgs s_Plan_above, defBody s_Plan_above, defScope s_Plan_above, [], []⟩
def d_Plan_holding : He.DefD := ⟨("Plan", some "holding"), "holding", "Plan.holding", defArgs s_Plan_holding, defBody s_Plan_holding, defScope s_Plan_holding, [], []⟩
def d__law_back : He.DefD := ⟨("_law_back", none), "_law_back", "_law_back", defArgs s__law_back, defBody s__law_back, defScope s__law_back, [], []⟩
def d__law_one : He.DefD := ⟨("_law_one", none), "_law_one", "_law_one", defArgs s__law_one, defBody s__law_one, defScope s__law_one, [], []⟩
def d_are_sections : He.DefD := ⟨("are_sections", none), "are_sections", "are_sections", defArgs s_are_sections, defBody s_are_sections, defScope s_are_sections, [], []⟩
def d_Plan_held_back : He.DefD := ⟨("Plan", some "held_back"), "held_back", "Plan.held_back", defArgs s_Plan_held_back, defBody s_Plan_held_back, defScope s_Plan_held_back, [], []⟩
def d__law_side : He.DefD := ⟨("_law_side", none), "_law_side", "_law_side", defArgs s__law_side, defBody s__law_side, defScope s__law_side, [], []⟩
def d__law_raws : He.DefD := ⟨("_law_raws", none), "_law_raws", "_law_raws", defArgs s__law_raws, defBody s__law_raws, defScope s__law_raws, [], []⟩
def d_bad_part : He.DefD := ⟨("bad_part", none), "bad_part", "bad_part", defArgs s_bad_part, defBody s_bad_part, defScope s_bad_part, [], []⟩
def d_right_side : He.DefD := ⟨("right_side", none), "right_side", "right_side", defArgs s_right_side, defBody s_right_side, defScope s_right_side, [], []⟩
def d_Task___init__ : He.DefD := ⟨("Task", some "__init__"), "__init__", "Task.__init__", defArgs s_Task___init__, defBody s_Task___init__, defScope s_Task___init__, [], [("wait", (.int 0))]⟩
def d_least_ticks : He.DefD := ⟨("least_ticks", none), "least_ticks", "least_ticks", defArgs s_least_ticks, defBody s_least_ticks, defScope s_least_ticks, [], []⟩
def d__law_task : He.DefD := ⟨("_law_task", none), "_law_task", "_law_task", defArgs s__law_task, defBody s__law_task, defScope s__law_task, [], []⟩
def d_bound : He.DefD := ⟨("bound", none), "bound", "bound", defArgs s_bound, defBody s_bound, defScope s_bound, [], []⟩
def d__law_made : He.DefD := ⟨("_law_made", none), "_law_made", "_law_made", defArgs s__law_made, defBody s__law_made, defScope s__law_made, [], []⟩
def d__law_strange : He.DefD := ⟨("_law_strange", none), "_law_strange", "_law_strange", defArgs s__law_strange, defBody s__law_strange, defScope s__law_strange, [], []⟩
def d_law : He.DefD := ⟨("law", none), "law", "law", defArgs s_law, defBody s_law, defScope s_law, [], []⟩
def d_x_NoTask : He.DefD := ⟨("NoTask", some "__init__"), "__init__", "NoTask.__init__", defArgs s_x_NoTask, defBody s_x_NoTask, defScope s_x_NoTask, [], []⟩
def fnL : List He.DefD := ([d__law_pen, d__law_draw, d_Plan___init__, d_is_name, d_is_whole, d_lies_within, d_written_place, d_Plan_task, d_times_up, d__law_raw, d__law_ceiling, d__law_names, d__law_sections, d_go_together, d_is_section, d_Plan_above, d_Plan_holding, d__law_back, d__law_one, d_are_sections, d_Plan_held_back, d__law_side, d__law_raws, d_bad_part, d_right_side, d_Task___init__, d_least_ticks, d__law_task, d_bound, d__law_made] : List He.DefD) ++ ([d__law_strange, d_law, d_x_NoTask] : List He.DefD)
def faL : List He.Fa := ([.glo "_law_pen", .glo "_law_draw", .glo "is_name", .glo "is_whole", .glo "lies_within", .glo "written_place", .meth "Plan" "task", .glo "times_up", .glo "_law_raw", .glo "_law_ceiling", .glo "_law_names", .glo "_law_sections", .glo "go_together", .glo "is_section", .meth "Plan" "above", .meth "Plan" "holding", .glo "_law_back", .glo "_law_one", .glo "are_sections", .meth "Plan" "held_back", .glo "_law_side", .glo "_law_raws", .glo "bad_part", .glo "right_side", .glo "least_ticks", .glo "_law_task", .glo "bound", .glo "_law_made", .glo "_law_strange", .glo "law"] : List He.Fa) ++ ([.glo "Plan", .cls "Plan", .mkr "Plan", .noat "Plan" "by_name", .noat "Plan" "by_rank", .noat "Plan" "ceilings", .glo "Task", .cls "Task", .mkr "Task", .noat "Task" "name", .noat "Task" "rank", .noat "Task" "gap", .noat "Task" "most", .noat "Task" "due", .noat "Task" "wait", .noat "Task" "sections", .free "abs", .free "all", .free "bool", .free "int", .free "isinstance", .free "len", .free "list", .free "max", .free "min", .free "range", .free "set", .free "sorted", .free "str", .free "tuple"] : List He.Fa) ++ ([.int "LONGEST_NAME" 12, .str "LETTERS" "abcdefghijklmnopqrstuvwxyz", .glo "NoTask", .free "KeyError"] : List He.Fa)
def exB (K : PySem.W.Frag) : Bool := (empB K (He.dflAt ("Plan", some "__init__") 0 K)) && xclsB K "NoTask" "KeyError" "LookupError.__new__" "KeyError.__init__" PySem.XOwn.keyM "name"
def nam (K : PySem.W.Frag) : Nam := { cad := fun c => if c = 0 then He.ga K "Plan" else He.ga K "Task", nms := fun c => (cfsN c).map fun f => (Str.ofString (attrN f) : Str), emp := fun i => if i = 0 then some (He.dflAt ("Plan", some "__init__") 0 K) else none, kl := fun a ns => ∃ (o : Obj) (its : Array Value) (n : Nat), K.lookup a = some o ∧ o.cls = .type "list" ∧ o.dict = none ∧ o.data = .seq its n ∧ its.size ≤ sizeLine ∧ Vals (ns.map V.int) its.toList }
theorem nm_ok {K : PySem.W.Frag} : NmOk tab (nam K) := by
  refine ⟨fun _ => rfl, fun c f g hf hg e => ?_, fun c => ?_, fun c => ?_⟩
  · have h : ∀ c, ∀ f ∈ cfsN c, ∀ g ∈ cfsN c, (Str.ofString (attrN f) : Str) = Str.ofString (attrN g) → f = g := fun c => match c with | 0 => by decide +kernel | 1 => by decide +kernel | _ + 2 => fun f hf => (nomatch hf)
    exact h c f hf g hg e
  · show (cfsN c).length < 1000
    exact match c with | 0 => by decide | 1 => by decide | _ + 2 => by show 0 < 1000; decide
  · show (cfsN c).Nodup
    exact match c with | 0 => by decide | 1 => by decide | _ + 2 => List.nodup_nil
theorem law_start {K : PySem.W.Frag} {H : Hp} {a : Addr} {ns : List Int} (hl : ns.length ≤ 63) (hS : SqL K H a (ns.map V.int)) {Q : VK} {E : XK} (hQ : ∀ H', Q (.bl true) H') : liftS (nam K) spLaw [.ref a] H Q E := by
  refine ⟨H, fun _ => none, [.scr ns], fun d _ => d = .bl true, ⟨fun _ _ h => h, fun _ _ h => (nomatch h), fun _ _ h => (nomatch h)⟩, .one (rep_scr.mpr ⟨a, rfl, hS, Nat.le_trans hl (by decide)⟩), ⟨ns, rfl, hl, rfl, fun _ => rfl⟩, fun d M' v H' F' e S r => ?_⟩
  subst e
  unfold Rep at r
  subst r
  exact hQ H'

theorem all_mk {P : Program} {w : World} {K : PySem.W.Frag} {h : Heap} {mg : Str → Option Value} {fa : Addr} (X : K.In h) (G : h.Ns mainGlobals mg) (hfa : mg "law" = some (.ref fa)) (c : DL.HdOk faL fnL exB K) :
    ∃ fd : FuncData, (∀ (s : Shared) (v : Value), BindsTo s fd ⟨[v], []⟩ [("script", v)]) ∧ ∀ base : Heap, K.In base → base.Ns mainGlobals mg → FnOk P w K mg base CX0 22 fa fd ["script"] (liftS (nam K) spLaw) := by
  obtain ⟨fd__law_pen, F__law_pen⟩ := c.def_ 0 (d := d__law_pen) rfl
  obtain ⟨fd__law_draw, F__law_draw⟩ := c.def_ 1 (d := d__law_draw) rfl
  obtain ⟨fd_Plan___init__, F_Plan___init__⟩ := c.def_ 2 (d := d_Plan___init__) rfl
  obtain ⟨fd_is_name, F_is_name⟩ := c.def_ 3 (d := d_is_name) rfl
  obtain ⟨fd_is_whole, F_is_whole⟩ := c.def_ 4 (d := d_is_whole) rfl
  obtain ⟨fd_lies_within, F_lies_within⟩ := c.def_ 5 (d := d_lies_within) rfl
  obtain ⟨fd_written_place, F_written_place⟩ := c.def_ 6 (d := d_written_place) rfl
  obtain ⟨fd_Plan_task, F_Plan_task⟩ := c.def_ 7 (d := d_Plan_task) rfl
  obtain ⟨fd_times_up, F_times_up⟩ := c.def_ 8 (d := d_times_up) rfl
  obtain ⟨fd__law_raw, F__law_raw⟩ := c.def_ 9 (d := d__law_raw) rfl
  obtain ⟨fd__law_ceiling, F__law_ceiling⟩ := c.def_ 10 (d := d__law_ceiling) rfl
  obtain ⟨fd__law_names, F__law_names⟩ := c.def_ 11 (d := d__law_names) rfl
  obtain ⟨fd__law_sections, F__law_sections⟩ := c.def_ 12 (d := d__law_sections) rfl
  obtain ⟨fd_go_together, F_go_together⟩ := c.def_ 13 (d := d_go_together) rfl
  obtain ⟨fd_is_section, F_is_section⟩ := c.def_ 14 (d := d_is_section) rfl
  obtain ⟨fd_Plan_above, F_Plan_above⟩ := c.def_ 15 (d := d_Plan_above) rfl
  obtain ⟨fd_Plan_holding, F_Plan_holding⟩ := c.def_ 16 (d := d_Plan_holding) rfl
  obtain ⟨fd__law_back, F__law_back⟩ := c.def_ 17 (d := d__law_back) rfl
  obtain ⟨fd__law_one, F__law_one⟩ := c.def_ 18 (d := d__law_one) rfl
  obtain ⟨fd_are_sections, F_are_sections⟩ := c.def_ 19 (d := d_are_sections) rfl
  obtain ⟨fd_Plan_held_back, F_Plan_held_back⟩ := c.def_ 20 (d := d_Plan_held_back) rfl
  obtain ⟨fd__law_side, F__law_side⟩ := c.def_ 21 (d := d__law_side) rfl
  obtain ⟨fd__law_raws, F__law_raws⟩ := c.def_ 22 (d := d__law_raws) rfl
  obtain ⟨fd_bad_part, F_bad_part⟩ := c.def_ 23 (d := d_bad_part) rfl
  obtain ⟨fd_right_side, F_right_side⟩ := c.def_ 24 (d := d_right_side) rfl
  obtain ⟨fd_Task___init__, F_Task___init__⟩ := c.def_ 25 (d := d_Task___init__) rfl
  obtain ⟨fd_least_ticks, F_least_ticks⟩ := c.def_ 26 (d := d_least_ticks) rfl
  obtain ⟨fd__law_task, F__law_task⟩ := c.def_ 27 (d := d__law_task) rfl
  obtain ⟨fd_bound, F_bound⟩ := c.def_ 28 (d := d_bound) rfl
  obtain ⟨fd__law_made, F__law_made⟩ := c.def_ 29 (d := d__law_made) rfl
  obtain ⟨fd__law_strange, F__law_strange⟩ := c.def_ 30 (d := d__law_strange) rfl
  obtain ⟨fd_law, F_law⟩ := c.def_ 31 (d := d_law) rfl
  obtain ⟨fd_x_NoTask, F_x_NoTask⟩ := c.def_ 32 (d := d_x_NoTask) rfl
  have e := hfa.symm.trans (He.glo_ok X G (c.fact 29 (f := .glo "law") rfl))
  cases e
  have b := FunD.bindsA (ps := ["script"]) F_law fun _ _ _ _ _ _ us hl => match us, hl with | [_], _ => rfl
  refine ⟨fd_law, fun s v => b s [v] rfl, fun base _ _ => ?_⟩
  refine law_ok (P := P) (w := w) (K := K) (mg := mg) (base := base) (N := nam K) (E0 := He.dflAt ("Plan", some "__init__") 0 K) rfl ?Z F__law_pen (He.glo_ok X G (c.fact 0 (f := .glo "_law_pen") rfl)) F__law_draw (He.glo_ok X G (c.fact 1 (f := .glo "_law_draw") rfl)) F_Plan___init__ (He.mkr_ok (c.fact 32 (f := .mkr "Plan") rfl)) (He.glo_ok X G (c.fact 30 (f := .glo "Plan") rfl)) F_is_name (He.glo_ok X G (c.fact 2 (f := .glo "is_name") rfl)) F_is_whole (He.glo_ok X G (c.fact 3 (f := .glo "is_whole") rfl)) F_lies_within (He.glo_ok X G (c.fact 4 (f := .glo "lies_within") rfl)) F_written_place (He.glo_ok X G (c.fact 5 (f := .glo "written_place") rfl)) F_Plan_task (He.meth_ok (c.fact 6 (f := .meth "Plan" "task") rfl)) F_times_up (He.glo_ok X G (c.fact 7 (f := .glo "times_up") rfl)) F__law_raw (He.glo_ok X G (c.fact 8 (f := .glo "_law_raw") rfl)) F__law_ceiling (He.glo_ok X G (c.fact 9 (f := .glo "_law_ceiling") rfl)) F__law_names (He.glo_ok X G (c.fact 10 (f := .glo "_law_names") rfl)) F__law_sections (He.glo_ok X G (c.fact 11 (f := .glo "_law_sections") rfl)) F_go_together (He.glo_ok X G (c.fact 12 (f := .glo "go_together") rfl)) F_is_section (He.glo_ok X G (c.fact 13 (f := .glo "is_section") rfl)) F_Plan_above (He.meth_ok (c.fact 14 (f := .meth "Plan" "above") rfl)) F_Plan_holding (He.meth_ok (c.fact 15 (f := .meth "Plan" "holding") rfl)) F__law_back (He.glo_ok X G (c.fact 16 (f := .glo "_law_back") rfl)) F__law_one (He.glo_ok X G (c.fact 17 (f := .glo "_law_one") rfl)) F_are_sections (He.glo_ok X G (c.fact 18 (f := .glo "are_sections") rfl)) F_Plan_held_back (He.meth_ok (c.fact 19 (f := .meth "Plan" "held_back") rfl)) F__law_side (He.glo_ok X G (c.fact 20 (f := .glo "_law_side") rfl)) F__law_raws (He.glo_ok X G (c.fact 21 (f := .glo "_law_raws") rfl)) F_bad_part (He.glo_ok X G (c.fact 22 (f := .glo "bad_part") rfl)) F_right_side (He.glo_ok X G (c.fact 23 (f := .glo "right_side") rfl)) F_Task___init__ (He.mkr_ok (c.fact 38 (f := .mkr "Task") rfl)) (He.glo_ok X G (c.fact 36 (f := .glo "Task") rfl)) F_least_ticks (He.glo_ok X G (c.fact 24 (f := .glo "least_ticks") rfl)) F__law_task (He.glo_ok X G (c.fact 25 (f := .glo "_law_task") rfl)) F_bound (He.glo_ok X G (c.fact 26 (f := .glo "bound") rfl)) F__law_made (He.glo_ok X G (c.fact 27 (f := .glo "_law_made") rfl)) F__law_strange (He.glo_ok X G (c.fact 28 (f := .glo "_law_strange") rfl)) F_law (He.glo_ok X G (c.fact 29 (f := .glo "law") rfl)) (He.cls_ok (c.fact 31 (f := .cls "Plan") rfl)) (He.cls_ok (c.fact 37 (f := .cls "Task") rfl)) F_x_NoTask (He.glo_ok X G (c.fact 62 (f := .glo "NoTask") rfl)) (xclsB_ok PySem.XOwn.xb_KeyError (He.ba (show (_ && _) = true from c.exok)).2) (He.free_ok X G (c.fact 63 (f := .free "KeyError") rfl))
  obtain ⟨t_LONGEST_NAME, h_LONGEST_NAME⟩ := He.int_ok X G (c.fact 60 (f := .int "LONGEST_NAME" 12) rfl)
  obtain ⟨t_LETTERS, h_LETTERS⟩ := He.str_ok X G (c.fact 61 (f := .str "LETTERS" "abcdefghijklmnopqrstuvwxyz") rfl)
  refine { g := ⟨nm_ok, ?cl, ?em, fun a ns h H => .inr h⟩, z_abs := He.free_ok X G (c.fact 46 (f := .free "abs") rfl), z_all := He.free_ok X G (c.fact 47 (f := .free "all") rfl), z_bool := He.free_ok X G (c.fact 48 (f := .free "bool") rfl), z_int := He.free_ok X G (c.fact 49 (f := .free "int") rfl), z_isinstance := He.free_ok X G (c.fact 50 (f := .free "isinstance") rfl), z_len := He.free_ok X G (c.fact 51 (f := .free "len") rfl), z_list := He.free_ok X G (c.fact 52 (f := .free "list") rfl), z_max := He.free_ok X G (c.fact 53 (f := .free "max") rfl), z_min := He.free_ok X G (c.fact 54 (f := .free "min") rfl), z_range := He.free_ok X G (c.fact 55 (f := .free "range") rfl), z_set := He.free_ok X G (c.fact 56 (f := .free "set") rfl), z_sorted := He.free_ok X G (c.fact 57 (f := .free "sorted") rfl), z_str := He.free_ok X G (c.fact 58 (f := .free "str") rfl), z_tuple := He.free_ok X G (c.fact 59 (f := .free "tuple") rfl), g_LONGEST_NAME := fun hg => h_glob (v := .int 12) 0 hg h_LONGEST_NAME ⟨_, rfl⟩ (fun F => int_rep _) (by decide +kernel), g_LETTERS := fun hg => h_glob (v := .str "abcdefghijklmnopqrstuvwxyz") 1 hg h_LETTERS ⟨_, rfl⟩ (fun F => rep_str.mpr rfl) (by decide +kernel) }
  case cl =>
    intro c1 f hf
    match c1, hf with
    | 0, hf =>
      refine ⟨He.cls_ok (c.fact 31 (f := .cls "Plan") rfl), ?_⟩
      have hf : f ∈ ([0, 3, 4] : List Nat) := hf
      simp only [List.mem_cons, List.not_mem_nil, or_false] at hf
      rcases hf with rfl | rfl | rfl
      · exact He.noat_ok (c.fact 33 (f := .noat "Plan" "by_name") rfl)
      · exact He.noat_ok (c.fact 34 (f := .noat "Plan" "by_rank") rfl)
      · exact He.noat_ok (c.fact 35 (f := .noat "Plan" "ceilings") rfl)
    | 1, hf =>
      refine ⟨He.cls_ok (c.fact 37 (f := .cls "Task") rfl), ?_⟩
      have hf : f ∈ ([1, 2, 6, 7, 8, 9, 5] : List Nat) := hf
      simp only [List.mem_cons, List.not_mem_nil, or_false] at hf
      rcases hf with rfl | rfl | rfl | rfl | rfl | rfl | rfl
      · exact He.noat_ok (c.fact 39 (f := .noat "Task" "name") rfl)
      · exact He.noat_ok (c.fact 40 (f := .noat "Task" "rank") rfl)
      · exact He.noat_ok (c.fact 41 (f := .noat "Task" "gap") rfl)
      · exact He.noat_ok (c.fact 42 (f := .noat "Task" "most") rfl)
      · exact He.noat_ok (c.fact 43 (f := .noat "Task" "due") rfl)
      · exact He.noat_ok (c.fact 44 (f := .noat "Task" "wait") rfl)
      · exact He.noat_ok (c.fact 45 (f := .noat "Task" "sections") rfl)
    | _ + 2, hf => exact nomatch hf
  case em =>
    intro i a h H
    have ex := c.exok
    unfold exB at ex
    have ex := (He.ba ex).1
    have h : (if i = 0 then some (He.dflAt ("Plan", some "__init__") 0 K) else none) = some a := h
    split at h
    · cases h; exact empB_ok ex H
    · cases h
/-! ### the head -/
abbrev R : PySem.W.OpenRow := PySem.W.OpenLaw.row PySem.Challenge.rw_promptworks_k05_right_sides
abbrev hk : PySem.W.Hook := DL.hookX 6 faL fnL exB
def ob (s : PySem.W.SharedT) : Bool × He.AlD := DL.obsXG 6 faL fnL exB (HandSHeadRun.getT s)
theorem ob_eq (s : PySem.W.SharedT) : ob s = hk.obs s.abs := DL.obsXG_eq (HandSHeadRun.getT_eq s)
def looseL : List PySem.Str := (["_wall", "times_up", "right_side", "least_ticks", "bound", "BadTask", "NoTask", "Twice", "Shared", "Plan", "LETTERS", "LONGEST_NAME", "is_name", "is_whole", "is_section", "lies_within", "go_together", "are_sections", "written_place", "bad_part", "Task", "_law_pen", "_law_draw", "_law_names", "_law_sections", "_law_one", "_law_raws", "_law_task", "_law_made", "_law_ceiling"] : List PySem.Str) ++ (["_law_raw", "_law_back", "_law_side", "_law_strange"] : List PySem.Str)
theorem run (w : World) : HandSHeadRun.RunEq R (PySem.W.view R.prog [40]) hk ob 4000 looseL w := by
  intro os
  kernel_rfl
end LawW
open PySem PySem.W PySem.Calls PyProof.Rows
theorem PySem.Challenge.cw_promptworks_k05_right_sides_holds : PySem.Challenge.rw_promptworks_k05_right_sides.Holds := by
  w_on; o_law
  refine HandSHeadRun.head_any (r := OpenLaw.row PySem.Challenge.rw_promptworks_k05_right_sides) (q := view (OpenLaw.row PySem.Challenge.rw_promptworks_k05_right_sides).prog [40]) (H := LawW.hk) (ob := LawW.ob) (M := 4000) (loose := LawW.looseL) (d := HandSHeadRun.topDef (OpenLaw.row PySem.Challenge.rw_promptworks_k05_right_sides).prog 40) (kwd := []) LawW.ob_eq
    (by kernel_rfl) (fun s => by kernel_rfl) LawW.run (by kernel_rfl) (by kernel_rfl) (by kernel_rfl) (by rfl) (by first | assumption | decide +kernel) (by decide +kernel) ⟨rfl, rfl, rfl, rfl, rfl, by decide +kernel⟩ ?hw ?hc
  case hw => w_witness2
  case hc =>
    refine L2.walk_ofE (l := PySem.Challenge.rw_promptworks_k05_right_sides) (n := 63) (k := 22) (x := "script") (CX := L2.CX0) rfl (by decide) (by kernel_rfl) ⟨rfl, by decide, by decide⟩ ?F (fun _ _ _ _ z => z)
    intro w mg fa h Y G hmg0
    obtain ⟨K, KX, c⟩ := Y
    have hmg : mg ("law" : PySem.Str) = some (.ref fa) := by
      have e : (HandSHeadRun.topDef (OpenLaw.row PySem.Challenge.rw_promptworks_k05_right_sides).prog 40).name = ("law" : PySem.Str) := by kernel_rfl
      rw [← e]
      exact hmg0
    obtain ⟨fd, hb, hF⟩ := LawW.all_mk (P := (PySem.Challenge.rw_promptworks_k05_right_sides).prog) (w := w) KX G hmg c
    exact ⟨K, fd, DL.liftS (LawW.nam K) LawW.spLaw, KX, hb, fun H a ns hl _ hS => LawW.law_start hl hS fun _ => rfl, hF⟩
