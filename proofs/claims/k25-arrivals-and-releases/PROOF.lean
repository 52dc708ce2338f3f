import PyProof.Rows.All
import Wide.All
import OpenK.AllK
import Wide.FinOn
import HandS.ForMost
import HandS.Style
import HandS.Lambda
import HandS.IsInst
import KE.SortKeyHeap
import KE.DataMinKey
import HandS.Text
import HandS.TupAny
import HandS.Wide
import HandS.SortKw
import HandS.WordsDict
import HandS.More
import KE.DataMinMax
import HandS.SetKeys
import HandS.Walk
import HandS.Defaults
import HandS.MakeKwOnly
import HandS.ExcValue
import HandS.Flow
import HandS.RaiseMore
import HandS.DictComp
import HandS.HeadHook4
import HandS.EndTab
import HandS.Conv
import KE.SortData
import HandS.Replace
import KE.KStateDown
import HandS.Base
import HandS.Call
import HandS.Ends
import HandS.Words
import HandS.Head0
import HandS.Head1
import HandS.Head2
import HandS.HeadEnd
import HandS.HeadHook1
import HandS.HeadHook2
import HandS.HeadWalk
import PySem.Challenge.RW_promptworks_k25_arrivals_and_releases
set_option Elab.async false
set_option linter.all false
set_option maxRecDepth 100000
/-! DL: values as trees over the hand layer. -/
namespace DL
open PySem L2

/-- a value as a tree; .loc: what may change, by its address -/
inductive D where
  | non | bl (b : Bool) | int (i : Int) | str (s : Str) | ty (n : String)
  | tup (ds : List D) | lst (ds : List D)
  | obj (c : Nat) (fs : List D)
  | dct (ks : List Key) (ds : List D)
  | loc (a : Addr)
  | scr (ns : List Int)
  | kemp (i : Nat)

/-- contents of what may change -/
inductive CO where
  | L (ds : List D)
  | K (ks : List Key) (ds : List D)
/-- what a slot holds -/
inductive LV where
  | no | val (d : D) | own (c : CO)
/-- an object that may change -/
inductive MO where
  | co (c : CO)
  | obj (c : Nat) (fs : List D)
abbrev Env := List LV
abbrev Mem := Addr → Option MO
/-- the promise of a def, over trees -/
abbrev DSp := List D → Mem → (D → Mem → Prop) → Prop

/-- what can be called: a global name, or a method of a class; so many positional arguments, these keywords -/
structure Ent where
  x : String
  npos : Nat
  kws : List String
  cls : Nat
def Ent.nkw (e : Ent) : Nat := e.kws.length
/-- the text's table -/
structure Tab where
  attr : Nat → String
  cname : Nat → String
  cfs : Nat → List Nat
  ent : Nat → Ent
  sp : Nat → DSp
  glb : Nat → String × D

/-- addresses of classes, names of attributes -/
structure Nam where
  cad : Nat → Addr
  nms : Nat → List Str
  emp : Nat → Option Addr
  kl : Addr → List Int → Prop
  tbs : List (Addr × Str)

mutual
def Rep (N : Nam) (F : Hp) : D → V → Prop
  | .non, v => v = .non
  | .bl b, v => v = .bl b
  | .int i, v => v = .int i
  | .str s, v => v = .str s
  | .ty n, v => v = .ty n
  | .loc a, v => v = .ref a
  | .kemp i, v => ∃ a, N.emp i = some a ∧ v = .ref a
  | .scr ns, v => ∃ a, v = .ref a ∧ (Rd F a (.lst (ns.map V.int)) ∨ N.kl a ns) ∧ ns.length ≤ sizeLine
  | .tup ds, v => ∃ a vs, v = .ref a ∧ F a = some (.tup vs) ∧ vs.length ≤ sizeLine ∧ Reps N F ds vs
  | .lst ds, v => ∃ a vs, v = .ref a ∧ F a = some (.lst vs) ∧ vs.length ≤ sizeLine ∧ Reps N F ds vs
  | .obj c ds, v => ∃ a dx vs, v = .ref a ∧ F a = some (.ins (N.cad c) dx ((N.nms c).zip vs)) ∧ (N.nms c).length = vs.length ∧ Reps N F ds vs
  | .dct ks ds, v => ∃ a vs, v = .ref a ∧ F a = some (.dK (ks.zip vs)) ∧ ks.length = vs.length ∧ vs.length ≤ sizeLine ∧ ks.Nodup ∧ Reps N F ds vs
def Reps (N : Nam) (F : Hp) : List D → List V → Prop
  | [], vs => vs = []
  | d :: ds, vs => ∃ v r, vs = v :: r ∧ Rep N F d v ∧ Reps N F ds r
end

section
variable {N : Nam} {F F' : Hp}
def Le (F F' : Hp) : Prop := ∀ a o, F a = some o → F' a = some o
theorem Le.refl (F : Hp) : Le F F := fun _ _ h => h
theorem Le.trans {F1 : Hp} (a : Le F F') (b : Le F' F1) : Le F F1 := fun x o h => b x o (a x o h)
mutual
theorem Rep.mono (h : Le F F') : ∀ {d : D} {v : V}, Rep N F d v → Rep N F' d v
  | .non, v, r => by unfold Rep at r ⊢; exact r
  | .bl b, v, r => by unfold Rep at r ⊢; exact r
  | .int i, v, r => by unfold Rep at r ⊢; exact r
  | .str s, v, r => by unfold Rep at r ⊢; exact r
  | .ty n, v, r => by unfold Rep at r ⊢; exact r
  | .loc a, v, r => by unfold Rep at r ⊢; exact r
  | .kemp i, v, r => by unfold Rep at r ⊢; exact r
  | .scr ns, v, r => by
    unfold Rep at r ⊢
    obtain ⟨a, e, (f | ⟨o, f⟩) | g, z⟩ := r
    · exact ⟨a, e, .inl (.inl (h _ _ f)), z⟩
    · exact ⟨a, e, .inl (.inr ⟨o, h _ _ f⟩), z⟩
    · exact ⟨a, e, .inr g, z⟩
  | .tup ds, v, r => by
    unfold Rep at r ⊢
    obtain ⟨a, vs, e, f, z, q⟩ := r
    exact ⟨a, vs, e, h _ _ f, z, Reps.mono h q⟩
  | .lst ds, v, r => by
    unfold Rep at r ⊢
    obtain ⟨a, vs, e, f, z, q⟩ := r
    exact ⟨a, vs, e, h _ _ f, z, Reps.mono h q⟩
  | .obj c ds, v, r => by
    unfold Rep at r ⊢
    obtain ⟨a, dx, vs, e, f, z, q⟩ := r
    exact ⟨a, dx, vs, e, h _ _ f, z, Reps.mono h q⟩
  | .dct ks ds, v, r => by
    unfold Rep at r ⊢
    obtain ⟨a, vs, e, f, z, z2, nd, q⟩ := r
    exact ⟨a, vs, e, h _ _ f, z, z2, nd, Reps.mono h q⟩
theorem Reps.mono (h : Le F F') : ∀ {ds : List D} {vs : List V}, Reps N F ds vs → Reps N F' ds vs
  | [], vs, r => by unfold Reps at r ⊢; exact r
  | d :: ds, vs, r => by
    unfold Reps at r ⊢
    obtain ⟨v, r', e, q, t⟩ := r
    exact ⟨v, r', e, Rep.mono h q, Reps.mono h t⟩
end
theorem reps_nil {vs : List V} : Reps N F [] vs ↔ vs = [] := by unfold Reps; exact Iff.rfl
theorem reps_cons {d : D} {ds : List D} {vs : List V} : Reps N F (d :: ds) vs ↔ ∃ v r, vs = v :: r ∧ Rep N F d v ∧ Reps N F ds r := by
  constructor
  · intro h; unfold Reps at h; exact h
  · intro h; unfold Reps; exact h
theorem Reps.length : ∀ {ds : List D} {vs : List V}, Reps N F ds vs → vs.length = ds.length
  | [], vs, r => by rw [reps_nil] at r; subst r; rfl
  | d :: ds, vs, r => by
    rw [reps_cons] at r
    obtain ⟨v, t, rfl, _, q⟩ := r
    simp [Reps.length q]
theorem Reps.get : ∀ {ds : List D} {vs : List V} {i : Nat} {d : D}, Reps N F ds vs → ds[i]? = some d → ∃ v, vs[i]? = some v ∧ Rep N F d v
  | [], _, _, _, _, e => by simp at e
  | d :: ds, vs, 0, x, r, e => by
    rw [reps_cons] at r
    obtain ⟨v, t, rfl, q, _⟩ := r
    simp at e; subst e
    exact ⟨v, rfl, q⟩
  | d :: ds, vs, i + 1, x, r, e => by
    rw [reps_cons] at r
    obtain ⟨v, t, rfl, _, q⟩ := r
    obtain ⟨u, h1, h2⟩ := Reps.get (i := i) (d := x) q (by simpa using e)
    exact ⟨u, by simpa using h1, h2⟩
theorem Reps.get' : ∀ {ds : List D} {vs : List V} {i : Nat} {v : V}, Reps N F ds vs → vs[i]? = some v → ∃ d, ds[i]? = some d ∧ Rep N F d v
  | [], vs, _, _, r, e => by rw [reps_nil] at r; subst r; simp at e
  | d :: ds, vs, 0, x, r, e => by
    rw [reps_cons] at r
    obtain ⟨v, t, rfl, q, _⟩ := r
    simp at e; subst e
    exact ⟨d, rfl, q⟩
  | d :: ds, vs, i + 1, x, r, e => by
    rw [reps_cons] at r
    obtain ⟨v, t, rfl, _, q⟩ := r
    obtain ⟨u, h1, h2⟩ := Reps.get' (i := i) (v := x) q (by simpa using e)
    exact ⟨u, by simpa using h1, h2⟩
theorem Reps.append : ∀ {ds es : List D} {vs us : List V}, Reps N F ds vs → Reps N F es us → Reps N F (ds ++ es) (vs ++ us)
  | [], es, vs, us, r, s => by rw [reps_nil] at r; subst r; exact s
  | d :: ds, es, vs, us, r, s => by
    rw [reps_cons] at r
    obtain ⟨v, t, rfl, q, w⟩ := r
    exact reps_cons.mpr ⟨v, t ++ us, rfl, q, Reps.append w s⟩
theorem Reps.one {d : D} {v : V} (r : Rep N F d v) : Reps N F [d] [v] := reps_cons.mpr ⟨v, [], rfl, r, reps_nil.mpr rfl⟩
theorem Reps.drop : ∀ {ds : List D} {vs : List V} (n : Nat), Reps N F ds vs → Reps N F (ds.drop n) (vs.drop n)
  | _, _, 0, r => r
  | [], vs, n + 1, r => by rw [reps_nil] at r; subst r; exact reps_nil.mpr rfl
  | d :: ds, vs, n + 1, r => by
    rw [reps_cons] at r
    obtain ⟨v, t, rfl, _, w⟩ := r
    exact Reps.drop n w
theorem Reps.take : ∀ {ds : List D} {vs : List V} (n : Nat), Reps N F ds vs → Reps N F (ds.take n) (vs.take n)
  | _, _, 0, r => reps_nil.mpr rfl
  | [], vs, n + 1, r => by rw [reps_nil] at r; subst r; exact reps_nil.mpr rfl
  | d :: ds, vs, n + 1, r => by
    rw [reps_cons] at r
    obtain ⟨v, t, rfl, q, w⟩ := r
    exact reps_cons.mpr ⟨v, t.take n, rfl, q, Reps.take n w⟩
theorem Reps.set : ∀ {ds : List D} {vs : List V} {d : D} {v : V} (i : Nat), Rep N F d v → Reps N F ds vs → Reps N F (ds.set i d) (vs.set i v)
  | [], vs, d, v, i, _, r => by rw [reps_nil] at r; subst r; exact reps_nil.mpr rfl
  | x :: ds, vs, d, v, 0, q, r => by
    rw [reps_cons] at r
    obtain ⟨y, t, rfl, _, w⟩ := r
    exact reps_cons.mpr ⟨v, t, rfl, q, w⟩
  | x :: ds, vs, d, v, i + 1, q, r => by
    rw [reps_cons] at r
    obtain ⟨y, t, rfl, p, w⟩ := r
    exact reps_cons.mpr ⟨y, t.set i v, rfl, p, Reps.set i q w⟩
theorem Reps.reverse {ds : List D} {vs : List V} (r : Reps N F ds vs) : Reps N F ds.reverse vs.reverse := by
  induction ds generalizing vs with
  | nil => rw [reps_nil] at r; subst r; exact reps_nil.mpr rfl
  | cons d ds ih =>
    rw [reps_cons] at r
    obtain ⟨v, t, rfl, q, w⟩ := r
    rw [List.reverse_cons, List.reverse_cons]
    exact (ih w).append (.one q)
theorem Reps.eraseIdx : ∀ {ds : List D} {vs : List V} (i : Nat), Reps N F ds vs → Reps N F (ds.eraseIdx i) (vs.eraseIdx i)
  | [], vs, i, r => by rw [reps_nil] at r; subst r; exact reps_nil.mpr rfl
  | x :: ds, vs, 0, r => by
    rw [reps_cons] at r
    obtain ⟨y, t, rfl, _, w⟩ := r
    exact w
  | x :: ds, vs, i + 1, r => by
    rw [reps_cons] at r
    obtain ⟨y, t, rfl, p, w⟩ := r
    exact reps_cons.mpr ⟨y, t.eraseIdx i, rfl, p, Reps.eraseIdx i w⟩
end

/-! ### the state -/
def CoOk (N : Nam) (F H : Hp) (p : Addr) : CO → Prop
  | .L ds => ∃ vs, H p = some (.lst vs) ∧ vs.length ≤ sizeLine ∧ Reps N F ds vs
  | .K ks ds => ∃ vs, H p = some (.dK (ks.zip vs)) ∧ ks.length = vs.length ∧ vs.length ≤ sizeLine ∧ ks.Nodup ∧ Reps N F ds vs
def LvOk (N : Nam) (F H : Hp) (ow : Addr → Option Nat) (i : Nat) (v : Option V) : LV → Prop
  | .no => True
  | .val d => ∃ u, v = some u ∧ Rep N F d u
  | .own c => ∃ p, v = some (.ref p) ∧ ow p = some i ∧ CoOk N F H p c
def MoOk (N : Nam) (F H : Hp) (a : Addr) : MO → Prop
  | .co c => CoOk N F H a c
  | .obj c fs => ∃ dx vs, H a = some (.ins (N.cad c) dx (((N.nms c).take vs.length).zip vs)) ∧ vs.length ≤ (N.nms c).length ∧ Reps N F fs vs

/-- the entry of the def that runs -/
structure Ety where
  H_0 : Hp
  M_0 : Mem
  F_0 : Hp
/-- the tables of code objects: none of them is looked at by a value, by memory; each is as it should be -/
structure TbOk (N : Nam) (H_0 : Hp) (F : Hp) (M : Mem) (H : Hp) : Prop where
  tab : ∀ p ∈ N.tbs, LamX.TabS H p.1 p.2
  fn : ∀ p ∈ N.tbs, F p.1 = none
  mn : ∀ p ∈ N.tbs, M p.1 = none
  tz : ∀ p ∈ N.tbs, ∃ ps, H_0 p.1 = some (.tbl ps)
structure Sim (N : Nam) (Z : Ety) (F : Hp) (ρ : Env) (M : Mem) (σ : St) (H : Hp) : Prop where
  sub : ∀ a o, F a = some o → H a = some o
  le0 : Le Z.F_0 F
  mf : ∀ a mo, M a = some mo → F a = none
  mem : ∀ a mo, M a = some mo → MoOk N F H a mo
  mnew : ∀ a mo, M a = some mo → Z.M_0 a = none → Z.H_0 a = none
  fnew : ∀ a o, F a = some o → Z.F_0 a = none → Z.M_0 a = none → Z.H_0 a = none
  keep : ∀ a o, Z.H_0 a = some o → Z.M_0 a = none → (∀ p ∈ N.tbs, p.1 ≠ a) → H a = some o
  there : ∀ a o, Z.H_0 a = some o → ∃ o', H a = some o'
  own : ∃ ow : Addr → Option Nat, (∀ p i, ow p = some i → F p = none ∧ M p = none ∧ Z.H_0 p = none ∧ ∃ o, H p = some o) ∧
    ∀ i lv, ρ[i]? = some lv → LvOk N F H ow i (σ[i]?.bind id) lv
  len : ρ.length = σ.length
  tb : TbOk N Z.H_0 F M H
end DL

set_option Elab.async false
set_option linter.all false
set_option maxRecDepth 100000
namespace DL
open PySem L2

inductive BOp where | add | sub | mul | fdiv | mod | pow deriving DecidableEq
inductive COp where | lt | le | gt | ge | eq | ne | isin | notin | isN | notN | isB deriving DecidableEq
/-- methods that change a container -/
inductive PM where | append | extend | popAt | clear | setdefault deriving DecidableEq

/-- built-in functions -/
inductive BI where | len | abs | max2 | min2 | maxL | minL | maxD | minD | sum | sorted | sortedS | sortedDI | sortedDS | list | tuple | all | any | dictP | dictC | intB | repr | sortedD | listR deriving DecidableEq
/-- built-in methods that change nothing -/
inductive BM where | join | index | indexS | upper | get1 | get2 deriving DecidableEq
/-- classes for isinstance -/
inductive Ty where | b (x : String) | c (k : Nat)

inductive T where
  | nil | cons (a r : T)
  | var (i : Nat) | glob (k : Nat) | int (k : Int) | str (s : Str) | bl (b : Bool) | non
  | bin (o : BOp) (a b : T) | neg (a : T)
  | cmp (o : COp) (a b : T) | chain (o p : COp) (a b c : T)
  | and (a b : T) | or (a b : T) | not (a : T) | ife (c a b : T)
  | tup (r : T) | lst (r : T) | dnew
  | idx (a b : T) | prt (a : T) | sl (a lo hi : T) | rev (a : T) | stp (a s : T)
  | attr (a : T) (f : Nat)
  | call (k : Nat) (r : T) | callK (k : Nat) (r : T) (kw : T) | meth (k : Nat) (o : T) (r : T)
  | bi (x : BI) (r : T)
  | bm (x : BM) (o : T) (r : T)
  | isi (a : T) (ts : List Ty)
  | comp (own : List Nat) (tg it ifs el : T)
  | comp2 (own own2 : List Nat) (tg it ifs tg2 it2 ifs2 el : T)
  | disp (ks : List Key) (r : T) | lenSet (a : T) | lenSetO (i : Nat) | sortedK (k : Nat) (a : T)
  | idxO (i : Nat) (b : T) | lenO (i : Nat) | inO (neg : Bool) (a : T) (i : Nat)
  | pmO (m : PM) (i : Nat) (r : T) | pm (m : PM) (p : T) (r : T)
  | newM (e : T) | frz (e : T) | orV (a b : T)
  | bmO (x : BM) (i : Nat) (r : T)
  | dcomp (own : List Nat) (tg it ifs k v : T) | sortedL (a : T) (i : Nat) (tb : T) | minKL (a : T) (i : Nat) (tb : T) | minKLD (a : T) (i : Nat) (tb d : T)
  -- what is walked
  | items (e : T) | vals (e : T) | keysI (e : T)
  | it (e : T) | rng1 (a : T) | rng2 (a b : T) | enum (a : T) | zip (a b : T)
  -- targets
  | tname (i : Nat) | ttup (r : T)
  -- statements
  | skip | chk (i : Nat) | seq (s t : T) | sealS (i : Nat) (s : T)
  | setM (i : Nat) (e : T) | retM (e : T)
  | set (i : Nat) (e : T) | setO (i : Nat) (e : T) | asgT (tg e : T) | setIxO (i : Nat) (ix e : T) | setIx (p ix e : T) | setIx2 (p ix : T) (i : Nat) (ix2 e : T) | par2 (i j : Nat) (r : T) | par3 (i j k : Nat) (r : T) | setAt (o : T) (f : Nat) (e : T) | setAtO (o : T) (f : Nat) (e : T)
  | aug (i : Nat) (o : BOp) (e : T) | augAt (a : T) (f : Nat) (o : BOp) (e : T)
  | cond (c s t : T) | for (tg it body : T) | while (c body : T)
  | ret (e : T) | retN | expr (e : T) | brk | cnt | never

/-! ### values -/
def CO.tree : CO → D
  | .L ds => .lst ds
  | .K ks ds => .dct ks ds
def itemsOf : D → Option (List D)
  | .lst ds => some ds
  | .tup ds => some ds
  | .str s => some (s.cps.toList.map fun c => .str ⟨#[c]⟩)
  | .scr ns => some (ns.map .int)
  | .kemp _ => some []
  | _ => none
def strSz : D → Prop
  | .str s => s.length ≤ sizeLine
  | _ => True
def keyOf : D → Option Key
  | .int i => some (.inl i)
  | .str s => some (.inr s)
  | _ => none
def dget (ks : List Key) (ds : List D) (k : Key) : Option D := ((ks.zip ds).find? fun p => decide (p.1 = k)).map (·.2)
def dput : List Key → List D → Key → D → List Key × List D
  | k :: ks, d :: ds, j, x => if k = j then (k :: ks, x :: ds) else (k :: (dput ks ds j x).1, d :: (dput ks ds j x).2)
  | _, _, j, x => ([j], [x])
mutual
def toPy : D → Option PyData
  | .non => some .none
  | .bl b => some (.bool b)
  | .int i => some (.int i)
  | .str s => some (.str s)
  | .tup ds => (toPys ds).map .tuple
  | .lst ds => (toPys ds).map .list
  | _ => none
def toPys : List D → Option (List PyData)
  | [] => some []
  | d :: ds => match toPy d, toPys ds with
    | some x, some xs => some (x :: xs)
    | _, _ => none
end
mutual
/-- == of data -/
def deq : D → D → Bool
  | .non, .non => true
  | .bl a, .bl b => a == b
  | .bl a, .int j => (if a then 1 else 0) == j
  | .int i, .bl b => i == (if b then 1 else 0)
  | .int i, .int j => decide (i = j)
  | .str x, .str y => decide (x = y)
  | .lst xs, .lst ys => deqs xs ys
  | .tup xs, .tup ys => deqs xs ys
  | _, _ => false
def deqs : List D → List D → Bool
  | [], [] => true
  | x :: xs, y :: ys => deq x y && deqs xs ys
  | _, _ => false
end
mutual
def dep : D → Nat
  | .tup ds => deps ds + 1
  | .lst ds => deps ds + 1
  | _ => 0
def deps : List D → Nat
  | [] => 0
  | d :: ds => max (dep d) (deps ds)
end
mutual
def py : D → PyData
  | .non => .none
  | .bl b => .bool b
  | .int i => .int i
  | .str s => .str s
  | .tup ds => .tuple (pys ds)
  | .lst ds => .list (pys ds)
  | _ => .none
def pys : List D → List PyData
  | [] => []
  | d :: ds => py d :: pys ds
end
def scalD : D → Bool
  | .non => true | .bl _ => true | .int _ => true | .str _ => true | _ => false
mutual
def dat : D → Bool
  | .non => true | .bl _ => true | .int _ => true | .str s => s.cps.all (· < 1114112)
  | .tup ds => dats ds | .lst ds => dats ds
  | _ => false
def dats : List D → Bool
  | [] => true
  | d :: ds => dat d && dats ds
end
def eqOk (x y : D) : Bool := match x, y with
  | .str _, .str _ => true
  | x, y => dat x && dat y && decide (dep x ≤ 60) && decide (dep y ≤ 60)
def binP : BOp → D → D → (D → Prop) → Prop
  | .add, .int i, .int j, Q => Q (.int (i + j))
  | .add, .str i, .str j, Q => i.length + j.length ≤ sizeLine ∧ Q (.str (i ++ j))
  | .add, .lst i, .lst j, Q => i.length + j.length ≤ sizeLine ∧ Q (.lst (i ++ j))
  | .add, .tup i, .tup j, Q => i.length + j.length ≤ sizeLine ∧ Q (.tup (i ++ j))
  | .sub, .int i, .int j, Q => Q (.int (i - j))
  | .mul, .int i, .int j, Q => ((-(2 ^ 64) < i ∧ i < 2 ^ 64) ∨ (-(2 ^ 64) < j ∧ j < 2 ^ 64)) ∧ Q (.int (i * j))
  | .fdiv, .int i, .int j, Q => (0 < j ∧ (j < 1073741824 ∨ (i.natAbs < 2 ^ 200 ∧ j < 2 ^ 200))) ∧ Q (.int (i / j))
  | .mod, .int i, .int j, Q => 0 < j ∧ Q (.int (i % j))
  | .pow, .int i, .int j, Q => (0 ≤ j ∧ j ≤ 1000000 ∧ i.natAbs < 2 ^ 64) ∧ Q (.int (i ^ j.toNat))
  | _, _, _, _ => False
/-- ints alone -/
def binI (o : BOp) (x y : D) (Q : D → Prop) : Prop := (∃ i j, x = .int i ∧ y = .int j) ∧ binP o x y Q
def flatD : D → Bool
  | .non => true | .bl _ => true | .int _ => true | .str _ => true | _ => false
def isNon : D → Bool
  | .non => true | _ => false
def cmpP : COp → D → D → (Bool → Prop) → Prop
  | .lt, .int i, .int j, Q => Q (decide (i < j))
  | .le, .int i, .int j, Q => Q (decide (i ≤ j))
  | .gt, .int i, .int j, Q => Q (decide (j < i))
  | .ge, .int i, .int j, Q => Q (decide (j ≤ i))
  | .eq, x, y, Q => eqOk x y = true ∧ Q (deq x y)
  | .ne, x, y, Q => eqOk x y = true ∧ Q (!deq x y)
  | .isin, x, .lst ds, Q => (flatD x && ds.all flatD) = true ∧ Q (ds.any fun d => deq d x)
  | .isin, x, .tup ds, Q => (flatD x && ds.all flatD) = true ∧ Q (ds.any fun d => deq d x)
  | .isin, x, .dct ks ds, Q => ∃ k, keyOf x = some k ∧ Q (dget ks ds k).isSome
  | .isin, .str x, .str y, Q => Q (!(Builtin.Str.occurrences y x 0 y.length 1).isEmpty)
  | .notin, x, .lst ds, Q => (flatD x && ds.all flatD) = true ∧ Q (!ds.any fun d => deq d x)
  | .notin, x, .tup ds, Q => (flatD x && ds.all flatD) = true ∧ Q (!ds.any fun d => deq d x)
  | .notin, x, .dct ks ds, Q => ∃ k, keyOf x = some k ∧ Q (!(dget ks ds k).isSome)
  | .notin, .str x, .str y, Q => Q (!(!(Builtin.Str.occurrences y x 0 y.length 1).isEmpty))
  | .isN, x, .non, Q => Q (isNon x)
  | .notN, x, .non, Q => Q (!isNon x)
  | .isB, .bl a, .bl b, Q => Q (decide (a = b))
  | _, _, _, _ => False
def idxP : D → D → (D → Prop) → Prop
  | .lst ds, .int i, Q => ∃ d, atI ds i = some d ∧ Q d
  | .tup ds, .int i, Q => ∃ d, atI ds i = some d ∧ Q d
  | .str s, .int i, Q => ∃ c, s.length ≤ sizeLine ∧ atI s.cps.toList i = some c ∧ Q (.str ⟨#[c]⟩)
  | .dct ks ds, x, Q => ∃ k d, keyOf x = some k ∧ dget ks ds k = some d ∧ Q d
  | _, _, _ => False
def partOf : D → Option (Option Int)
  | .non => some none
  | .int i => some (some i)
  | _ => none
def cutD {α : Type} (xs : List α) (lo hi : Option Int) : List α := (xs.drop (HT.sIx xs.length 0 lo)).take (HT.sIx xs.length xs.length hi - HT.sIx xs.length 0 lo)
def slP : D → Option Int → Option Int → (D → Prop) → Prop
  | .lst ds, lo, hi, Q => Q (.lst (cutD ds lo hi))
  | .scr ns, lo, hi, Q => Q (.lst (cutD (ns.map .int) lo hi))
  | .tup ds, lo, hi, Q => Q (.tup (cutD ds lo hi))
  | .str s, lo, hi, Q => s.length ≤ sizeLine ∧ Q (.str (cutS s lo hi))
  | _, _, _, _ => False

def iteN : Nat → Prop → Prop → Prop
  | 0, _, B => B
  | 1, A, _ => A
  | n + 2, A, B => iteN n A B
/-! ### the state -/
structure En where
  nx : Env → Mem → Prop
  rt : D → Mem → Prop
  bk : Env → Mem → Prop
  ct : Env → Mem → Prop
abbrev WE := Env → Mem → (D → Env → Mem → Prop) → Prop
abbrev WA := Env → Mem → (List D → Env → Mem → Prop) → Prop
abbrev WS := Env → Mem → En → Prop
def wipeD (ρ : Env) : List Nat → Env
  | [] => ρ
  | v :: vs => (wipeD ρ vs).set v .no
def hideL : LV → LV
  | .own _ => .no
  | l => l
def hideD (ρ : Env) : Env := ρ.map hideL
def readP (ρ : Env) (i : Nat) (M : Mem) (Q : D → Env → Mem → Prop) : Prop :=
  match ρ[i]? with
  | some (.val d) => Q d ρ M
  | some (.own c) => Q c.tree (ρ.set i (.val c.tree)) M
  | _ => False
def lenT : T → Nat
  | .cons _ r => lenT r + 1
  | _ => 0
def bindP : T → D → Env → (Env → Prop) → Prop
  | .tname i, d, ρ, K => K (ρ.set i (.val d))
  | .ttup r, .tup ds, ρ, K => ds.length = lenT r ∧ binds r ds ρ K
  | _, _, _, _ => False
where binds : T → List D → Env → (Env → Prop) → Prop
  | .nil, [], ρ, K => K ρ
  | .cons (.tname i) r, d :: ds, ρ, K => binds r ds (ρ.set i (.val d)) K
  | .cons (.ttup q) r, .tup es :: ds, ρ, K => es.length = lenT q ∧ binds q es ρ fun ρ' => binds r ds ρ' K
  | _, _, _, _ => False
@[irreducible] def forL (bd : D → WS) : List D → WS
  | [], ρ, M, E => E.nx ρ M
  | d :: ds, ρ, M, E => bd d ρ M { nx := fun ρ M => forL bd ds ρ M E, ct := fun ρ M => forL bd ds ρ M E, bk := E.nx, rt := E.rt }
@[irreducible] def compL (bd : D → Mem → (Option D → Mem → Prop) → Prop) : List D → List D → Mem → (List D → Mem → Prop) → Prop
  | [], acc, M, Q => Q acc M
  | d :: ds, acc, M, Q => bd d M fun r M' => compL bd ds (match r with | some x => acc ++ [x] | none => acc) M' Q
@[irreducible] def compM (bd : D → List D → Mem → (List D → Mem → Prop) → Prop) : List D → List D → Mem → (List D → Mem → Prop) → Prop
  | [], acc, M, Q => Q acc M
  | d :: ds, acc, M, Q => bd d acc M fun acc' M' => compM bd ds acc' M' Q
/-- a dict comprehension -/
@[irreducible] def compD (bd : D → Mem → (Option (D × D) → Mem → Prop) → Prop) : List D → List Key → List D → Mem → (List Key → List D → Mem → Prop) → Prop
  | [], ks, es, M, Q => Q ks es M
  | d :: ds, ks, es, M, Q => bd d M fun r M' => match r with
    | none => compD bd ds ks es M' Q
    | some (x, y) => ∃ j, keyOf x = some j ∧ compD bd ds (dput ks es j y).1 (dput ks es j y).2 M' Q
/-- the first one of the least -/
def minBy (lt : D → D → Bool) (kf : D → D) : D → List D → D
  | b, [] => b
  | b, e :: es => if lt (kf e) (kf b) then minBy lt kf e es else minBy lt kf b es
def ltD (a b : D) : Bool := PySem.W.dataLt (py a) (py b)
/-- data of one shape: they can be compared -/
def MinOk (ds : List D) : Prop := dats ds = true ∧ deps ds ≤ 60 ∧ ∀ a ∈ ds, ∀ b ∈ ds, PySem.W.alike (py a) (py b) = true ∧ py a ≠ .none
/-- keys that are sorted: rows of whole numbers and texts, of one shape -/
def SortOk (ds : List D) : Prop := ds.length < 64 ∧ dats ds = true ∧ deps ds ≤ 60 ∧ PySem.W.AllAlike (pys ds) ∧ PySem.W.Sortable (pys ds)
def leD (a b : D) : Bool := PySem.W.dataLe false py a b
@[irreducible] def whileN (c : WE) (bd : WS) : Nat → WS
  | 0, _, _, _ => False
  | n + 1, ρ, M, E => c ρ M fun d ρ1 M1 => ∃ b, d = .bl b ∧ iteN (Bool.toNat b) (bd ρ1 M1 { nx := fun ρ M => whileN c bd n ρ M E, ct := fun ρ M => whileN c bd n ρ M E, bk := E.nx, rt := E.rt }) (E.nx ρ1 M1)

theorem forL_nilE {bd : D → WS} {ρ : Env} {M : Mem} {E : En} : forL bd [] ρ M E = E.nx ρ M := by with_unfolding_all rfl
theorem forL_consE {bd : D → WS} {d : D} {ds : List D} {ρ : Env} {M : Mem} {E : En} : forL bd (d :: ds) ρ M E = bd d ρ M { nx := fun ρ M => forL bd ds ρ M E, ct := fun ρ M => forL bd ds ρ M E, bk := E.nx, rt := E.rt } := by with_unfolding_all rfl
theorem compL_nilE {bd : D → Mem → (Option D → Mem → Prop) → Prop} {acc : List D} {M : Mem} {Q : List D → Mem → Prop} : compL bd [] acc M Q = Q acc M := by with_unfolding_all rfl
theorem compL_consE {bd : D → Mem → (Option D → Mem → Prop) → Prop} {d : D} {ds acc : List D} {M : Mem} {Q : List D → Mem → Prop} : compL bd (d :: ds) acc M Q = bd d M fun r M' => compL bd ds (match r with | some x => acc ++ [x] | none => acc) M' Q := by with_unfolding_all rfl
theorem compM_nilE {bd : D → List D → Mem → (List D → Mem → Prop) → Prop} {acc : List D} {M : Mem} {Q : List D → Mem → Prop} : compM bd [] acc M Q = Q acc M := by with_unfolding_all rfl
theorem compM_consE {bd : D → List D → Mem → (List D → Mem → Prop) → Prop} {d : D} {ds acc : List D} {M : Mem} {Q : List D → Mem → Prop} : compM bd (d :: ds) acc M Q = bd d acc M fun acc' M' => compM bd ds acc' M' Q := by with_unfolding_all rfl
theorem compD_nilE {bd : D → Mem → (Option (D × D) → Mem → Prop) → Prop} {ks : List Key} {es : List D} {M : Mem} {Q : List Key → List D → Mem → Prop} : compD bd [] ks es M Q = Q ks es M := by with_unfolding_all rfl
theorem compD_consE {bd : D → Mem → (Option (D × D) → Mem → Prop) → Prop} {d : D} {ds : List D} {ks : List Key} {es : List D} {M : Mem} {Q : List Key → List D → Mem → Prop} : compD bd (d :: ds) ks es M Q = bd d M fun r M' => match r with
    | none => compD bd ds ks es M' Q
    | some (x, y) => ∃ j, keyOf x = some j ∧ compD bd ds (dput ks es j y).1 (dput ks es j y).2 M' Q := by with_unfolding_all rfl
theorem whileN_zeroE {c : WE} {bd : WS} {ρ : Env} {M : Mem} {E : En} : whileN c bd 0 ρ M E = False := by with_unfolding_all rfl
theorem whileN_succE {c : WE} {bd : WS} {n : Nat} {ρ : Env} {M : Mem} {E : En} : whileN c bd (n + 1) ρ M E = c ρ M fun d ρ1 M1 => ∃ b, d = .bl b ∧ iteN (Bool.toNat b) (bd ρ1 M1 { nx := fun ρ M => whileN c bd n ρ M E, ct := fun ρ M => whileN c bd n ρ M E, bk := E.nx, rt := E.rt }) (E.nx ρ1 M1) := by with_unfolding_all rfl

/-- what is read at a value that may be a place -/
def view (M : Mem) : D → D
  | .loc p => match M p with | some (.co c) => c.tree | _ => .loc p
  | d => d
def insD (c : Nat) (M : Mem) (d : D) : Prop := (∃ fs, d = .obj c fs) ∨ ∃ a fs, d = .loc a ∧ M a = some (.obj c fs)
def updM (M : Mem) (a : Addr) (o : MO) : Mem := fun b => if b = a then some o else M b
def rmM (M : Mem) (a : Addr) : Mem := fun b => if b = a then none else M b
def truD : D → Option Bool
  | .non => some false
  | .bl b => some b
  | .int i => some (i != 0)
  | _ => none
def posOf : List Nat → Nat → Option Nat
  | [], _ => none
  | g :: gs, f => if g = f then some 0 else (posOf gs f).map (· + 1)
def attrP (cfs : Nat → List Nat) (M : Mem) (d : D) (f : Nat) (Q : D → Prop) : Prop :=
  match d with
  | .obj c fs => ∃ k x, posOf (cfs c) f = some k ∧ fs[k]? = some x ∧ Q x
  | .loc a => match M a with
    | some (.obj c fs) => ∃ k x, posOf (cfs c) f = some k ∧ fs[k]? = some x ∧ Q x
    | _ => False
  | _ => False
/-- o.f = x, at a: the fields in the order of the class -/
def putAt (cfs : Nat → List Nat) (M : Mem) (a : Addr) (f : Nat) (x : D) (K : Mem → Prop) : Prop :=
  match M a with
  | some (.obj c fs) => ∃ k, posOf (cfs c) f = some k ∧ ((k < fs.length ∧ K (updM M a (.obj c (fs.set k x)))) ∨ (k = fs.length ∧ K (updM M a (.obj c (fs ++ [x])))))
  | _ => False
def lenP : D → (Nat → Prop) → Prop
  | .lst ds, Q => Q ds.length
  | .tup ds, Q => Q ds.length
  | .str s, Q => s.length ≤ sizeLine ∧ Q s.length
  | .dct ks _, Q => Q ks.length
  | .scr ns, Q => Q ns.length
  | _, _ => False
def seqOf : D → Option (List D)
  | .lst ds => some ds
  | .tup ds => some ds
  | _ => none
def kD : Key → D
  | .inl i => .int i
  | .inr s => .str s
def biP (M : Mem) : BI → List D → (D → Prop) → Prop
  | .len, ds, Q => ∃ d, ds = [d] ∧ lenP (view M d) fun n => Q (.int n)
  | .abs, ds, Q => ∃ i, ds = [.int i] ∧ Q (.int (if i < 0 then -i else i))
  | .max2, ds, Q => ∃ i j, ds = [.int i, .int j] ∧ Q (.int (if j > i then j else i))
  | .min2, ds, Q => ∃ i j, ds = [.int i, .int j] ∧ Q (.int (if j < i then j else i))
  | .maxL, ds, Q => ∃ (es : List D) (ns : List Int), ds = [.lst es] ∧ es = ns.map .int ∧ ns ≠ [] ∧ ∀ m, m ∈ ns → (∀ y, y ∈ ns → y ≤ m) → Q (.int m)
  | .minL, ds, Q => ∃ (es : List D) (ns : List Int), ds = [.lst es] ∧ es = ns.map .int ∧ ns ≠ [] ∧ ∀ m, m ∈ ns → (∀ y, y ∈ ns → m ≤ y) → Q (.int m)
  | .maxD, ds, Q => ∃ (es : List D) (d : D) (ns : List Int), ds = [.lst es, d] ∧ es = ns.map .int ∧ (ns = [] → Q d) ∧ ∀ m, m ∈ ns → (∀ y, y ∈ ns → y ≤ m) → Q (.int m)
  | .minD, ds, Q => ∃ (es : List D) (d : D) (ns : List Int), ds = [.lst es, d] ∧ es = ns.map .int ∧ (ns = [] → Q d) ∧ ∀ m, m ∈ ns → (∀ y, y ∈ ns → m ≤ y) → Q (.int m)
  | .sum, ds, Q => ∃ (es : List D) (ns : List Int), ds = [.lst es] ∧ es = ns.map .int ∧ Q (.int ns.sum)
  | .all, ds, Q => ∃ (es : List D) (bs : List Bool), ds = [.lst es] ∧ es = bs.map .bl ∧ Q (.bl (bs.all id))
  | .any, ds, Q => ∃ (es : List D) (bs : List Bool), ds = [.lst es] ∧ es = bs.map .bl ∧ Q (.bl (bs.any id))
  | .sorted, ds, Q => ∃ (es : List D) (ns : List Int), ds = [.lst es] ∧ es = ns.map .int ∧ ns.length < 64 ∧ ∀ ms : List Int, ms.Perm ns → ms.Pairwise (· ≤ ·) → Q (.lst (ms.map .int))
  | .sortedS, ds, Q => ∃ (es : List D) (ns : List Str), ds = [.lst es] ∧ es = ns.map .str ∧ ns.length < 64 ∧ ∀ ms : List Str, ms.Perm ns → PyProof.Rows.sortedS ms = true → Q (.lst (ms.map .str))
  | .sortedDI, ds, Q => ∃ (d : D) (ks : List Key) (es : List D) (ns : List Int), ds = [d] ∧ view M d = .dct ks es ∧ ks = ns.map Sum.inl ∧ ns.length < 64 ∧ ∀ ms : List Int, ms.Perm ns → ms.Pairwise (· ≤ ·) → Q (.lst (ms.map .int))
  | .sortedDS, ds, Q => ∃ (d : D) (ks : List Key) (es : List D) (ns : List Str), ds = [d] ∧ view M d = .dct ks es ∧ ks = ns.map Sum.inr ∧ ns.length < 64 ∧ ∀ ms : List Str, ms.Perm ns → PyProof.Rows.sortedS ms = true → Q (.lst (ms.map .str))
  | .list, ds, Q => ∃ d es, ds = [d] ∧ seqOf (view M d) = some es ∧ Q (.lst es)
  | .tuple, ds, Q => ∃ d es, ds = [d] ∧ seqOf (view M d) = some es ∧ Q (.tup es)
  | .dictP, ds, Q => ∃ (d : D) (kds : List (Key × D)), ds = [d] ∧ view M d = .lst (kds.map fun p => .tup [kD p.1, p.2]) ∧ (kds.map (·.1)).Nodup ∧ Q (.dct (kds.map (·.1)) (kds.map (·.2)))
  | .dictC, ds, Q => ∃ (d : D) (ks : List Key) (es : List D), ds = [d] ∧ view M d = .dct ks es ∧ Q (.dct ks es)
  | .repr, ds, Q => (ds = [.non] ∧ Q (.str (Str.ofString "None"))) ∨ (∃ i : Int, ds = [.int i] ∧ i.natAbs.log2 < 1920 ∧ Q (.str (Str.ofString (toString i))))
  | .sortedD, ds, Q => ∃ (es : List D), ds = [.lst es] ∧ SortOk es ∧ Q (.lst (es.mergeSort leD))
  | .listR, ds, Q => ∃ n : Int, ds = [.int n] ∧ (0 ≤ n ∧ n ≤ 16777216) ∧ Q (.lst ((List.range n.toNat).map fun k => .int (k : Nat)))
  | .intB, ds, Q => (∃ b : Bool, ds = [.bl b] ∧ Q (.int (if b then 1 else 0))) ∨ (∃ i : Int, ds = [.int i] ∧ Q (.int i))
def bmP : BM → D → List D → (D → Prop) → Prop
  | .join, .str a, [.lst es], Q => ∃ ys : List Str, es = ys.map .str ∧ (ys.map (·.length)).sum + ys.length * a.length ≤ 16777216 ∧ Q (.str (Txt.join a ys))
  | .index, .lst ds, [x], Q => (flatD x && ds.all flatD) = true ∧ ∃ (j : Nat) (z : D), ds[j]? = some z ∧ deq z x = true ∧ (∀ (m : Nat) (z' : D), m < j → ds[m]? = some z' → deq z' x = false) ∧ Q (.int (j : Nat))
  | .indexS, .str a, [.str x], Q => ∃ (i : Nat) (rest : List Nat), Builtin.Str.occurrences a x 0 a.length 1 = i :: rest ∧ Q (.int (i : Nat))
  | .get1, .dct ks ds, [k], Q => ∃ j, keyOf k = some j ∧ Q ((dget ks ds j).getD .non)
  | .get2, .dct ks ds, [k, d], Q => ∃ j, keyOf k = some j ∧ Q ((dget ks ds j).getD d)
  | _, _, _, _ => False
def bmK : BM → D → Prop
  | .join, .str _ => True
  | .index, .lst _ => True
  | .indexS, .str _ => True
  | .get1, .dct _ _ => True
  | .get2, .dct _ _ => True
  | _, _ => False
def pmP : PM → CO → List D → (D → CO → Prop) → Prop
  | .append, .L ds, [d], K => ds.length < sizeLine ∧ K .non (.L (ds ++ [d]))
  | .extend, .L ds, [.lst es], K => ds.length + es.length ≤ sizeLine ∧ K .non (.L (ds ++ es))
  | .popAt, .L ds, [.int i], K => ∃ k d, 0 ≤ i ∧ i = (k : Nat) ∧ ds[k]? = some d ∧ K d (.L (ds.eraseIdx k))
  | .clear, .L ds, [], K => K .non (.L [])
  | .setdefault, .K ks ds, [k, d], K => ∃ j, keyOf k = some j ∧ ds.length < sizeLine ∧ match dget ks ds j with
    | some x => K x (.K ks ds)
    | none => K d (.K (ks ++ [j]) (ds ++ [d]))
  | _, _, _, _ => False
def kindP : PM → CO → Prop
  | .setdefault, .K _ _ => True
  | .setdefault, .L _ => False
  | _, .L _ => True
  | _, .K _ _ => False
def setIxP : CO → D → D → (CO → Prop) → Prop
  | .L ds, .int i, d, K => ∃ j, ixN ds.length i = some j ∧ K (.L (ds.set j d))
  | .K ks ds, k, d, K => ∃ j, keyOf k = some j ∧ ds.length < sizeLine ∧ K (.K (dput ks ds j d).1 (dput ks ds j d).2)
  | _, _, _, _ => False
def isiB : D → Ty → Option Bool
  | .int _, .b x => kitB "int" x
  | .bl _, .b x => kitB "bool" x
  | .str _, .b x => kitB "str" x
  | .non, .b x => kitB "NoneType" x
  | .tup _, .b x => kitB "tuple" x
  | .lst _, .b x => kitB "list" x
  | .dct _ _, .b x => kitB "dict" x
  | _, _ => none
def isiP (d : D) : List Ty → Option Bool
  | [] => some false
  | t :: ts => match isiB d t with
    | some true => some true
    | some false => isiP d ts
    | none => none
def freshLst : D → Option CO
  | .lst ds => some (.L ds)
  | .dct ks ds => some (.K ks ds)
  | _ => none

section
variable (B : Tab)
mutual
def wpE : T → WE
  | .var i, ρ, M, Q => readP ρ i M Q
  | .glob k, ρ, M, Q => Q (B.glb k).2 ρ M
  | .int k, ρ, M, Q => Q (.int k) ρ M
  | .str s, ρ, M, Q => Q (.str s) ρ M
  | .bl b, ρ, M, Q => Q (.bl b) ρ M
  | .non, ρ, M, Q => Q .non ρ M
  | .bin o a b, ρ, M, Q => wpE a ρ M fun x ρ M => wpE b ρ M fun y ρ M => binP o (view M x) (view M y) fun z => Q z ρ M
  | .neg a, ρ, M, Q => wpE a ρ M fun x ρ M => ∃ i, x = .int i ∧ Q (.int (-i)) ρ M
  | .cmp o a b, ρ, M, Q => wpE a ρ M fun x ρ M => wpE b ρ M fun y ρ M => cmpP o (view M x) (view M y) fun z => Q (.bl z) ρ M
  | .chain o p a b c, ρ, M, Q => wpE a ρ M fun x ρ M => wpE b ρ M fun y ρ M => cmpP o (view M x) (view M y) fun z => iteN (Bool.toNat z) (wpE c ρ M fun u ρ M => cmpP p (view M y) (view M u) fun z' => Q (.bl z') ρ M) (Q (.bl false) ρ M)
  | .and a b, ρ, M, Q => wpE a ρ M fun x ρ M => ∃ c, x = .bl c ∧ iteN (Bool.toNat c) (wpE b ρ M Q) (Q (.bl false) ρ M)
  | .or a b, ρ, M, Q => wpE a ρ M fun x ρ M => ∃ c, x = .bl c ∧ iteN (Bool.toNat c) (Q (.bl true) ρ M) (wpE b ρ M Q)
  | .not a, ρ, M, Q => wpE a ρ M fun x ρ M => ∃ c, x = .bl c ∧ Q (.bl (!c)) ρ M
  | .ife c a b, ρ, M, Q => wpE c ρ M fun x ρ M => ∃ k, x = .bl k ∧ iteN (Bool.toNat k) (wpE a ρ M Q) (wpE b ρ M Q)
  | .tup r, ρ, M, Q => wpA r ρ M fun ds ρ M => ds.length ≤ sizeLine ∧ Q (.tup ds) ρ M
  | .lst r, ρ, M, Q => wpA r ρ M fun ds ρ M => ds.length ≤ sizeLine ∧ Q (.lst ds) ρ M
  | .dnew, ρ, M, Q => Q (.dct [] []) ρ M
  | .idx a b, ρ, M, Q => wpE a ρ M fun x ρ M => wpE b ρ M fun y ρ M => idxP (view M x) (view M y) fun z => Q z ρ M
  | .sl a lo hi, ρ, M, Q => wpE a ρ M fun x ρ M => wpP lo ρ M fun i ρ M => wpP hi ρ M fun j ρ M => slP (view M x) i j fun z => Q z ρ M
  | .rev a, ρ, M, Q => wpE a ρ M fun x ρ M => ∃ ds, view M x = .lst ds ∧ Q (.lst ds.reverse) ρ M
  | .stp a s, ρ, M, Q => wpE a ρ M fun x ρ M => wpE s ρ M fun y ρ M => ∃ ds, view M x = .lst ds ∧ ((y = .int 1 ∧ Q (.lst ds) ρ M) ∨ (y = .int (-1) ∧ Q (.lst ds.reverse) ρ M))
  | .attr a f, ρ, M, Q => wpE a ρ M fun x ρ M => attrP B.cfs M x f fun z => Q z ρ M
  | .call k r, ρ, M, Q => wpA r ρ M fun ds ρ M => B.sp k ds M fun d M' => Q d ρ M'
  | .callK k r kw, ρ, M, Q => wpA r ρ M fun ds ρ M => wpA kw ρ M fun es ρ M => (ds.length = (B.ent k).npos ∧ es.length = (B.ent k).nkw) ∧ B.sp k (ds ++ es) M fun d M' => Q d ρ M'
  | .meth k o r, ρ, M, Q => wpE o ρ M fun x ρ M => insD (B.ent k).cls M x ∧ wpA r ρ M fun ds ρ M => B.sp k (x :: ds) M fun d M' => Q d ρ M'
  | .bi x r, ρ, M, Q => wpA r ρ M fun ds ρ M => biP M x ds fun z => Q z ρ M
  | .bm x o r, ρ, M, Q => wpE o ρ M fun y ρ M => bmK x (view M y) ∧ wpA r ρ M fun ds ρ M => bmP x (view M y) ds fun z => Q z ρ M
  | .isi a ts, ρ, M, Q => wpE a ρ M fun x ρ M => ∃ b, isiP (view M x) ts = some b ∧ Q (.bl b) ρ M
  | .comp own tg it ifs el, ρ, M, Q => wpI it ρ M fun ds ρ M => compL (fun d M K => bindP tg d (hideD (wipeD ρ own)) fun ρ1 => wpC ifs ρ1 M fun b ρ2 M1 => ρ2 = ρ1 ∧
      iteN (Bool.toNat b) (wpE el ρ1 M1 fun x ρ3 M2 => ρ3 = ρ1 ∧ K (some x) M2) (K none M1)) ds [] M fun es M => Q (.lst es) ρ M
  | .comp2 own own2 tg it ifs tg2 it2 ifs2 el, ρ, M, Q => wpI it ρ M fun ds ρ M => compM (fun d acc M K => bindP tg d (hideD (wipeD ρ own)) fun ρ1 => wpC ifs ρ1 M fun b ρ2 M1 => ρ2 = ρ1 ∧
      iteN (Bool.toNat b) (wpI it2 ρ1 M1 fun es ρ3 M2 => ρ3 = ρ1 ∧ acc.length + es.length ≤ sizeLine ∧ compL (fun e M K' => bindP tg2 e (hideD (wipeD ρ1 own2)) fun ρ4 => wpC ifs2 ρ4 M fun b ρ5 M3 => ρ5 = ρ4 ∧
        iteN (Bool.toNat b) (wpE el ρ4 M3 fun x ρ6 M4 => ρ6 = ρ4 ∧ K' (some x) M4) (K' none M3)) es acc M2 K) (K acc M1)) ds [] M fun es M => Q (.lst es) ρ M
  | .disp ks r, ρ, M, Q => wpA r (hideD ρ) M fun ds ρ' M' => ρ' = hideD ρ ∧ (ks.length = ds.length ∧ ks.Nodup ∧ ks.length ≤ 15) ∧ Q (.dct ks ds) ρ M'
  | .lenSet a, ρ, M, Q => wpE a ρ M fun x ρ M => ∃ ns : List Int, view M x = .lst (ns.map .int) ∧ ns.length < 64 ∧ Q (.int ((ns.foldl PyProof.Rows.step_dedup []).length : Nat)) ρ M
  | .lenSetO i, ρ, M, Q => ∃ ns : List Int, ρ[i]? = some (.own (.L (ns.map .int))) ∧ ns.length < 64 ∧ Q (.int ((ns.foldl PyProof.Rows.step_dedup []).length : Nat)) ρ M
  | .sortedK k a, ρ, M, Q => wpE a ρ M fun x ρ M => ∃ (es : List D) (kf : D → D), seqOf (view M x) = some es ∧ SortOk (es.map kf) ∧ (∀ e ∈ es, B.sp k [e] M fun d M' => M' = M ∧ d = kf e) ∧ Q (.lst (es.mergeSort fun a b => leD (kf a) (kf b))) ρ M
  | .idxO i b, ρ, M, Q => (∃ c, ρ[i]? = some (.own c)) ∧ wpE b ρ M fun y ρ M => ∃ c, ρ[i]? = some (.own c) ∧ idxP c.tree (view M y) fun z => Q z ρ M
  | .lenO i, ρ, M, Q => ∃ c, ρ[i]? = some (.own c) ∧ lenP c.tree fun n => Q (.int n) ρ M
  | .inO ng a i, ρ, M, Q => wpE a ρ M fun x ρ M => ∃ c, ρ[i]? = some (.own c) ∧ cmpP (if ng then .notin else .isin) (view M x) c.tree fun z => Q (.bl z) ρ M
  | .pmO m i r, ρ, M, Q => (∃ c, ρ[i]? = some (.own c) ∧ kindP m c) ∧ wpA r ρ M fun ds ρ M => ∃ c, ρ[i]? = some (.own c) ∧ pmP m c ds fun z c' => Q z (ρ.set i (.own c')) M
  | .pm m p r, ρ, M, Q => wpE p ρ M fun x ρ M => ∃ a, x = .loc a ∧ (∃ c, M a = some (.co c) ∧ kindP m c) ∧ wpA r ρ M fun ds ρ M => ∃ c, M a = some (.co c) ∧ pmP m c ds fun z c' => Q z ρ (updM M a (.co c'))
  | .bmO x i r, ρ, M, Q => (∃ c, ρ[i]? = some (.own c) ∧ bmK x c.tree) ∧ wpA r ρ M fun ds ρ M => ∃ c, ρ[i]? = some (.own c) ∧ bmP x c.tree ds fun z => Q z ρ M
  | .dcomp own tg it ifs kx vx, ρ, M, Q => wpI it ρ M fun ds ρ M => compD (fun d M K => bindP tg d (hideD (wipeD ρ own)) fun ρ1 => wpC ifs ρ1 M fun b ρ2 M1 => ρ2 = ρ1 ∧
      iteN (Bool.toNat b) (wpE kx ρ1 M1 fun x ρ3 M2 => ρ3 = ρ1 ∧ wpE vx ρ1 M2 fun y ρ4 M3 => ρ4 = ρ1 ∧ K (some (x, y)) M3) (K none M1)) ds [] [] M fun ks es M => Q (.dct ks es) ρ M
  | .sortedL a i tb, ρ, M, Q => wpE a ρ M fun x ρ M => ∃ (es : List D) (kf : D → D), seqOf (view M x) = some es ∧ SortOk (es.map kf) ∧ (∀ e ∈ es, wpE tb ((hideD ρ).set i (.val e)) M fun d _ M' => M' = M ∧ d = kf e) ∧ Q (.lst (es.mergeSort fun a b => leD (kf a) (kf b))) ρ M
  | .minKL a i tb, ρ, M, Q => wpE a ρ M fun x ρ M => ∃ (e : D) (es : List D) (kf : D → D), view M x = .lst (e :: es) ∧ MinOk ((e :: es).map kf) ∧ (∀ y ∈ e :: es, wpE tb ((hideD ρ).set i (.val y)) M fun d _ M' => M' = M ∧ d = kf y) ∧ Q (minBy ltD kf e es) ρ M
  | .minKLD a i tb dv, ρ, M, Q => wpE a ρ M fun x ρ M => wpE dv ρ M fun z ρ M => ∃ (es : List D) (kf : D → D), view M x = .lst es ∧ MinOk (es.map kf) ∧ (∀ y ∈ es, wpE tb ((hideD ρ).set i (.val y)) M fun d _ M' => M' = M ∧ d = kf y) ∧ (es = [] → Q z ρ M) ∧ ∀ e es', es = e :: es' → Q (minBy ltD kf e es') ρ M
  | .newM e, ρ, M, Q => wpE e ρ M fun x ρ M => ∃ c, freshLst x = some c ∧ ∀ p, M p = none → Q (.loc p) ρ (updM M p (.co c))
  | .frz e, ρ, M, Q => wpE e ρ M fun x ρ M => ∃ p c, x = .loc p ∧ M p = some (.co c) ∧ Q c.tree ρ (rmM M p)
  | .orV a b, ρ, M, Q => wpE a ρ M fun x ρ M => ∃ k, truD x = some k ∧ iteN (Bool.toNat k) (Q x ρ M) (wpE b ρ M Q)
  | _, _, _, _ => False
def wpA : T → WA
  | .nil, ρ, M, Q => Q [] ρ M
  | .cons a r, ρ, M, Q => wpE a ρ M fun x ρ M => wpA r ρ M fun xs ρ M => Q (x :: xs) ρ M
  | _, _, _, _ => False
/-- a part of a slice -/
def wpP : T → Env → Mem → (Option Int → Env → Mem → Prop) → Prop
  | .non, ρ, M, Q => Q none ρ M
  | .prt a, ρ, M, Q => wpE a ρ M fun x ρ M => ∃ i, x = .int i ∧ Q (some i) ρ M
  | _, _, _, _ => False
/-- a clause's tests: none or one -/
def wpC : T → Env → Mem → (Bool → Env → Mem → Prop) → Prop
  | .nil, ρ, M, Q => Q true ρ M
  | .cons c .nil, ρ, M, Q => wpE c ρ M fun x ρ M => ∃ b, x = .bl b ∧ Q b ρ M
  | _, _, _, _ => False
def wpI : T → WA
  | .it e, ρ, M, Q => wpE e ρ M fun x ρ M => ∃ ds, itemsOf x = some ds ∧ strSz x ∧ (ds.length ≤ sizeLine → Q ds ρ M)
  | .rng1 a, ρ, M, Q => wpE a ρ M fun x ρ M => ∃ j : Int, x = .int j ∧ (-(2 ^ 62) ≤ j ∧ j ≤ 16777216) ∧ Q ((List.range j.toNat).map fun k => .int (k : Nat)) ρ M
  | .rng2 a b, ρ, M, Q => wpE a ρ M fun x ρ M => wpE b ρ M fun y ρ M => ∃ i j : Int, x = .int i ∧ y = .int j ∧ (-(2 ^ 62) ≤ i ∧ i < 2 ^ 62 ∧ -(2 ^ 62) ≤ j ∧ j < 2 ^ 62 ∧ j - i ≤ 16777216) ∧ Q ((List.range (j - i).toNat).map fun k => .int (i + (k : Nat))) ρ M
  | .enum a, ρ, M, Q => wpE a ρ M fun x ρ M => ∃ ds, x = .lst ds ∧ (ds.length ≤ sizeLine → Q (ds.zipIdx.map fun p => .tup [.int (p.2 : Nat), p.1]) ρ M)
  | .items e, ρ, M, Q => wpE e ρ M fun x ρ M => ∃ ks es, view M x = .dct ks es ∧ ((es.length ≤ sizeLine → Q ((ks.zip es).map fun p => .tup [kD p.1, p.2]) ρ M))
  | .vals e, ρ, M, Q => wpE e ρ M fun x ρ M => ∃ ks es, view M x = .dct ks es ∧ ((es.length ≤ sizeLine → Q es ρ M))
  | .keysI e, ρ, M, Q => wpE e ρ M fun x ρ M => ∃ ks es, view M x = .dct ks es ∧ ((es.length ≤ sizeLine → Q (ks.map kD) ρ M))
  | .zip a b, ρ, M, Q => wpE a ρ M fun x ρ M => wpE b ρ M fun y ρ M => ∃ ds es, x = .lst ds ∧ y = .lst es ∧ (ds.length ≤ sizeLine → es.length ≤ sizeLine → Q ((ds.zip es).map fun p => .tup [p.1, p.2]) ρ M)
  | _, _, _, _ => False
end
def wpS : T → WS
  | .skip, ρ, M, E => E.nx ρ M
  | .chk i, ρ, M, E => (∃ c, ρ[i]? = some (.own c)) ∧ E.nx ρ M
  | .seq s t, ρ, M, E => wpS s ρ M { E with nx := fun ρ M => wpS t ρ M E }
  | .sealS i s, ρ, M, E => readP ρ i M fun _ ρ M => wpS s ρ M E
  | .set i e, ρ, M, E => wpE B e ρ M fun x ρ M => E.nx (ρ.set i (.val x)) M
  | .setM i e, ρ, M, E => wpE B e ρ M fun x ρ M => ∃ c, freshLst x = some c ∧ ∀ p, M p = none → E.nx (ρ.set i (.val (.loc p))) (updM M p (.co c))
  | .retM e, ρ, M, E => wpE B e ρ M fun x _ M => ∃ c, freshLst x = some c ∧ ∀ p, M p = none → E.rt (.loc p) (updM M p (.co c))
  | .setO i e, ρ, M, E => wpE B e ρ M fun x ρ M => ∃ c, freshLst x = some c ∧ E.nx (ρ.set i (.own c)) M
  | .asgT tg e, ρ, M, E => wpE B e ρ M fun x ρ M => bindP tg x ρ fun ρ => E.nx ρ M
  | .setIxO i ix e, ρ, M, E => wpE B e ρ M fun x ρ M => (∃ c, ρ[i]? = some (.own c)) ∧ wpE B ix ρ M fun y ρ M => ∃ c, ρ[i]? = some (.own c) ∧ setIxP c (view M y) x fun c' => E.nx (ρ.set i (.own c')) M
  | .setIx p ix e, ρ, M, E => wpE B e ρ M fun x ρ M => wpE B p ρ M fun q ρ M => wpE B ix ρ M fun y ρ M => ∃ a c, q = .loc a ∧ M a = some (.co c) ∧ setIxP c (view M y) x fun c' => E.nx ρ (updM M a (.co c'))
  | .setIx2 p ix i ix2 e, ρ, M, E => wpE B e ρ M fun x ρ M => wpE B p ρ M fun q ρ M => wpE B ix ρ M fun y ρ M => ∃ a c, q = .loc a ∧ M a = some (.co c) ∧ setIxP c (view M y) x fun c' => (∃ c, ρ[i]? = some (.own c)) ∧ wpE B ix2 ρ (updM M a (.co c')) fun y ρ M => ∃ c, ρ[i]? = some (.own c) ∧ setIxP c (view M y) x fun c' => E.nx (ρ.set i (.own c')) M
  | .par2 i j r, ρ, M, E => wpA B r ρ M fun ds ρ M => ∃ x y, ds = [x, y] ∧ E.nx ((ρ.set i (.val x)).set j (.val y)) M
  | .par3 i j k r, ρ, M, E => wpA B r ρ M fun ds ρ M => ∃ x y z, ds = [x, y, z] ∧ E.nx (((ρ.set i (.val x)).set j (.val y)).set k (.val z)) M
  | .setAt o f e, ρ, M, E => wpE B e ρ M fun x ρ M => wpE B o ρ M fun q ρ M => ∃ a, q = .loc a ∧ putAt B.cfs M a f x fun M => E.nx ρ M
  | .setAtO o f e, ρ, M, E => wpE B e ρ M fun x ρ M => ∃ c, freshLst x = some c ∧ ∀ p, M p = none → wpE B o ρ (updM M p (.co c)) fun q ρ M => ∃ a, q = .loc a ∧ putAt B.cfs M a f (.loc p) fun M => E.nx ρ M
  | .aug i o e, ρ, M, E => ∃ x, ρ[i]? = some (.val x) ∧ wpE B e ρ M fun y ρ M => binI o x y fun z => E.nx (ρ.set i (.val z)) M
  | .augAt a f o e, ρ, M, E => wpE B a ρ M fun q ρ M => ∃ l c, q = .loc l ∧ (∃ fs, M l = some (.obj c fs)) ∧ attrP B.cfs M q f fun x => wpE B e ρ M fun y ρ M => (∃ fs, M l = some (.obj c fs)) ∧ binI o x y fun z => putAt B.cfs M l f z fun M => E.nx ρ M
  | .cond c s t, ρ, M, E => wpE B c ρ M fun x ρ M => ∃ b, x = .bl b ∧ iteN (Bool.toNat b) (wpS s ρ M E) (wpS t ρ M E)
  | .for tg it body, ρ, M, E => wpI B it ρ M fun ds ρ M => forL (fun d ρ M E => bindP tg d ρ fun ρ => wpS body ρ M E) ds ρ M E
  | .while c body, ρ, M, E => ∃ n, whileN (wpE B c) (wpS body) n ρ M E
  | .ret e, ρ, M, E => wpE B e ρ M fun x _ M => E.rt x M
  | .retN, _, M, E => E.rt .non M
  | .expr e, ρ, M, E => wpE B e ρ M fun _ ρ M => E.nx ρ M
  | .brk, ρ, M, E => E.bk ρ M
  | .cnt, ρ, M, E => E.ct ρ M
  | _, _, _, _ => False
end
end DL

set_option Elab.async false
set_option linter.all false
set_option maxRecDepth 100000
namespace DL
open PySem L2

section
variable {N : Nam} {Z : Ety} {F F' : Hp} {ρ ρ' : Env} {M M' : Mem} {σ σ' : St} {H H' : Hp}

/-- what belongs to the tables -/
def codeish (b : Addr) (o : HO) : Prop := (∃ ps, o = .tbl ps) ∨ ∃ q, o = LamX.CodeO b q
theorem TabS.chg {P : Addr} {q : Str} (t : LamX.TabS H P q) (e : ∀ b o, H b = some o → codeish b o → H' b = some o) : LamX.TabS H' P q := by
  obtain ⟨ps, h1, h2, h3⟩ := t
  refine ⟨ps, e _ _ h1 (.inl ⟨_, rfl⟩), h2, fun pos cv hc => ?_⟩
  obtain ⟨c, e1, e2⟩ := h3 pos cv hc
  exact ⟨c, e1, e _ _ e2 (.inr ⟨_, rfl⟩)⟩
theorem TabS.there {P : Addr} {q : Str} (t : LamX.TabS H P q) : ∃ ps, H P = some (.tbl ps) := let ⟨ps, h, _⟩ := t; ⟨ps, h⟩
/-- neither a table nor a code object stands at p -/
def NoCode (H : Hp) (p : Addr) : Prop := ∀ o, H p = some o → ¬ codeish p o
theorem TabS.upd {P p : Addr} {q : Str} {ho : HO} (t : LamX.TabS H P q) (n : NoCode H p) : LamX.TabS (upd H p ho) P q := TabS.chg t fun b o e c => by rw [upd_ne (fun z => by subst z; exact n o e c)]; exact e
theorem noCode_none {p : Addr} (h : H p = none) : NoCode H p := fun o e => by rw [h] at e; cases e
theorem codeish_lst {b : Addr} {vs : List V} : ¬ codeish b (.lst vs) := by rintro (⟨_, e⟩ | ⟨_, e⟩) <;> first | cases e | (unfold LamX.CodeO at e; cases e)
theorem codeish_dK {b : Addr} {vs : List (Key × V)} : ¬ codeish b (.dK vs) := by rintro (⟨_, e⟩ | ⟨_, e⟩) <;> first | cases e | (unfold LamX.CodeO at e; cases e)
theorem codeish_ins {b C dx : Addr} {fs : List (Str × V)} : ¬ codeish b (.ins C dx fs) := by rintro (⟨_, e⟩ | ⟨_, e⟩) <;> first | cases e | (unfold LamX.CodeO at e; cases e)
theorem CoOk.noCode {p : Addr} {c : CO} (x : CoOk N F H p c) : NoCode H p := by
  cases c with
  | L ds => obtain ⟨vs, e, _⟩ := x; intro o z; rw [e] at z; cases z; exact codeish_lst
  | K ks ds => obtain ⟨vs, e, _⟩ := x; intro o z; rw [e] at z; cases z; exact codeish_dK
theorem MoOk.noCode {p : Addr} {c : MO} (x : MoOk N F H p c) : NoCode H p := by
  cases c with
  | co c => exact CoOk.noCode x
  | obj c fs => obtain ⟨dx, vs, e, _⟩ := x; intro o z; rw [e] at z; cases z; exact codeish_ins
theorem TbOk.heap {H_0 : Hp} (t : TbOk N H_0 F M H) {p : Addr} {ho : HO} (n : NoCode H p) : TbOk N H_0 F M (upd H p ho) := ⟨fun q m => TabS.upd (t.tab q m) n, t.fn, t.mn, t.tz⟩
theorem TbOk.neH {H_0 : Hp} (t : TbOk N H_0 F M H) {p : Addr} (h : H_0 p = none) : ∀ q ∈ N.tbs, q.1 ≠ p := fun q m e => by obtain ⟨ps, z⟩ := t.tz q m; rw [e, h] at z; cases z
theorem TbOk.neM {H_0 : Hp} (t : TbOk N H_0 F M H) {p : Addr} {mo : MO} (h : M p = some mo) : ∀ q ∈ N.tbs, q.1 ≠ p := fun q m e => by have z := t.mn q m; rw [e, h] at z; cases z
theorem TbOk.neN {H_0 : Hp} (t : TbOk N H_0 F M H) {p : Addr} (h : H p = none) : ∀ q ∈ N.tbs, q.1 ≠ p := fun q m e => by obtain ⟨ps, z⟩ := TabS.there (t.tab q m); rw [e, h] at z; cases z
theorem TbOk.putF {H_0 : Hp} (t : TbOk N H_0 F M H) {p : Addr} {ho : HO} (h : ∀ q ∈ N.tbs, q.1 ≠ p) : TbOk N H_0 (upd F p ho) M H := ⟨t.tab, fun q m => by rw [upd_ne (h q m)]; exact t.fn q m, t.mn, t.tz⟩
theorem TbOk.putM {H_0 : Hp} (t : TbOk N H_0 F M H) {p : Addr} {mo : MO} (h : ∀ q ∈ N.tbs, q.1 ≠ p) : TbOk N H_0 F (updM M p mo) H := ⟨t.tab, t.fn, fun q m => by unfold updM; rw [if_neg (h q m)]; exact t.mn q m, t.tz⟩
theorem TbOk.rmM {H_0 : Hp} (t : TbOk N H_0 F M H) (p : Addr) : TbOk N H_0 F (rmM M p) H := ⟨t.tab, t.fn, fun q m => by unfold DL.rmM; split <;> first | rfl | exact t.mn q m, t.tz⟩
theorem CoOk.there {p : Addr} {c : CO} (x : CoOk N F H p c) : ∃ o, H p = some o := by
  cases c with
  | L ds => obtain ⟨vs, e, _⟩ := x; exact ⟨_, e⟩
  | K ks ds => obtain ⟨vs, e, _⟩ := x; exact ⟨_, e⟩
theorem CoOk.mono {p : Addr} {c : CO} (x : CoOk N F H p c) (h : Le F F') (e : ∀ o, H p = some o → H' p = some o) : CoOk N F' H' p c := by
  cases c with
  | L ds => obtain ⟨vs, q, z, r⟩ := x; exact ⟨vs, e _ q, z, r.mono h⟩
  | K ks ds => obtain ⟨vs, q, z, z2, nd, r⟩ := x; exact ⟨vs, e _ q, z, z2, nd, r.mono h⟩
theorem MoOk.there {p : Addr} {c : MO} (x : MoOk N F H p c) : ∃ o, H p = some o := by
  cases c with
  | co c => exact CoOk.there x
  | obj c fs => obtain ⟨dx, vs, e, _⟩ := x; exact ⟨_, e⟩
theorem MoOk.mono {p : Addr} {c : MO} (x : MoOk N F H p c) (h : Le F F') (e : ∀ o, H p = some o → H' p = some o) : MoOk N F' H' p c := by
  cases c with
  | co c => exact CoOk.mono x h e
  | obj c fs => obtain ⟨dx, vs, q, z, r⟩ := x; exact ⟨dx, vs, e _ q, z, r.mono h⟩
theorem LvOk.mono {ow : Addr → Option Nat} {i : Nat} {v : Option V} {l : LV} (x : LvOk N F H ow i v l) (h : Le F F') (e : ∀ p o, ow p = some i → H p = some o → H' p = some o) : LvOk N F' H' ow i v l := by
  cases l with
  | no => trivial
  | val d => obtain ⟨u, q, r⟩ := x; exact ⟨u, q, r.mono h⟩
  | own c => obtain ⟨p, q, o, r⟩ := x; exact ⟨p, q, o, r.mono h fun o' z => e p o' o z⟩

theorem Sim.mh (S : Sim N Z F ρ M σ H) {a : Addr} {mo : MO} (e : M a = some mo) : ∃ o, H a = some o := (S.mem a mo e).there
theorem Sim.mnone (S : Sim N Z F ρ M σ H) {a : Addr} (e : H a = none) : M a = none := by
  cases q : M a with
  | none => rfl
  | some mo => obtain ⟨o, z⟩ := S.mh q; rw [e] at z; cases z
theorem Sim.fnone (S : Sim N Z F ρ M σ H) {a : Addr} (e : H a = none) : F a = none := by
  cases q : F a with
  | none => rfl
  | some o => have z := S.sub a o q; rw [e] at z; cases z
theorem Sim.h0 (S : Sim N Z F ρ M σ H) {a : Addr} (e : H a = none) (hm : Z.M_0 a = none) : Z.H_0 a = none := by
  cases q : Z.H_0 a with
  | none => rfl
  | some o => obtain ⟨u, z⟩ := S.there a o q; rw [e] at z; cases z

/-- the heap grows, more is frozen that was not there -/
theorem Sim.ext (S : Sim N Z F ρ M σ H) (hF : Le F F') (hH : ∀ a o, H a = some o → H' a = some o) (hs : ∀ a o, F' a = some o → H' a = some o) (hn : ∀ a o, F' a = some o → F a = none → H a = none) : Sim N Z F' ρ M σ H' := by
  have fn : ∀ a, F a = none → (∃ o, H a = some o) → F' a = none := fun a h1 ⟨o, h2⟩ => by
    cases q : F' a with
    | none => rfl
    | some u => have z := hn a u q h1; rw [h2] at z; cases z
  refine ⟨hs, S.le0.trans hF, fun a mo e => fn a (S.mf a mo e) (S.mh e), fun a mo e => (S.mem a mo e).mono hF fun o => hH a o, S.mnew, fun a o e h1 h2 => ?_, fun a o e h h' => hH a o (S.keep a o e h h'), fun a o e => let ⟨u, q⟩ := S.there a o e; ⟨u, hH a u q⟩, ?_, S.len, ⟨fun p m => (S.tb.tab p m).ext hH, fun p m => fn _ (S.tb.fn p m) (let ⟨ps, z⟩ := TabS.there (S.tb.tab p m); ⟨_, z⟩), S.tb.mn, S.tb.tz⟩⟩
  · cases q : F a with
    | some u => exact S.fnew a u q h1 h2
    | none => exact S.h0 (hn a o e q) h2
  · obtain ⟨ow, o1, o2⟩ := S.own
    refine ⟨ow, fun p i e => ?_, fun i lv e => (o2 i lv e).mono hF fun p o _ => hH p o⟩
    obtain ⟨h1, h2, h3, o, h4⟩ := o1 p i e
    exact ⟨fn p h1 ⟨o, h4⟩, h2, h3, o, hH p o h4⟩
/-- a new frozen object -/
theorem Le.new {p : Addr} {o : HO} (h : F p = none) : Le F (upd F p o) := fun a u e => by
  rw [upd_ne (ne_of_none e h)]; exact e
theorem Sim.alloc (S : Sim N Z F ρ M σ H) {p : Addr} {o : HO} (h : H p = none) : Sim N Z (upd F p o) ρ M σ (upd H p o) :=
  S.ext (Le.new (S.fnone h)) (Le.new h) (fun a u e => by
    by_cases z : a = p
    · subst z; rw [upd_same] at e ⊢; exact e
    · rw [upd_ne z] at e ⊢; exact S.sub a u e) fun a u e q => by
    by_cases z : a = p
    · subst z; exact h
    · rw [upd_ne z, q] at e; cases e
/-- the heap grows by what is nobody's -/
theorem Sim.more (S : Sim N Z F ρ M σ H) {p : Addr} {o : HO} (h : H p = none) : Sim N Z F ρ M σ (upd H p o) :=
  S.ext (Le.refl _) (Le.new h) (fun a u e => by
    rw [upd_ne (ne_of_none (S.sub a u e) h)]; exact S.sub a u e) fun a u e q => by rw [q] at e; cases e

/-- an entry of its own -/
theorem Sim.start (S : Sim N Z F ρ M σ H) : Sim N ⟨H, M, F⟩ F (hideD ρ) M σ H := by
  refine ⟨S.sub, Le.refl _, S.mf, S.mem, fun a mo e h => ?_, fun a o e h => ?_, fun a o e _ _ => e, fun a o e => ⟨o, e⟩, ?_, by unfold hideD; rw [List.length_map]; exact S.len, ⟨S.tb.tab, S.tb.fn, S.tb.mn, fun p m => TabS.there (S.tb.tab p m)⟩⟩
  · have h : M a = none := h
    rw [h] at e; cases e
  · have h : F a = none := h
    rw [h] at e; cases e
  · obtain ⟨ow, o1, o2⟩ := S.own
    refine ⟨fun _ => none, fun _ _ e => (nomatch e), fun i lv e => ?_⟩
    unfold hideD at e
    rw [List.getElem?_map] at e
    cases q : ρ[i]? with
    | none => rw [q] at e; cases e
    | some l =>
      rw [q] at e
      have e : hideL l = lv := Option.some.inj e
      have z := o2 i l q
      cases l with
      | no => subst e; trivial
      | val d => subst e; exact z
      | own c => subst e; trivial
/-- back from it -/
theorem Sim.back {ρ1 : Env} {σ1 : St} (S : Sim N Z F ρ M σ H) (S' : Sim N ⟨H, M, F⟩ F' ρ1 M' σ1 H') : Sim N Z F' ρ M' σ H' := by
  have le : Le F F' := S'.le0
  have kp : ∀ a o, H a = some o → M a = none → (∀ p ∈ N.tbs, p.1 ≠ a) → H' a = some o := S'.keep
  refine ⟨S'.sub, S.le0.trans le, S'.mf, S'.mem, fun a mo e h => ?_, fun a o e h1 h2 => ?_, fun a o e h h' => ?_, fun a o e => let ⟨u, q⟩ := S.there a o e; S'.there a u q, ?_, S.len, ⟨S'.tb.tab, S'.tb.fn, S'.tb.mn, S.tb.tz⟩⟩
  · cases q : M a with
    | some u => exact S.mnew a u q h
    | none => exact S.h0 (S'.mnew a mo e q) h
  · cases q : F a with
    | some u => exact S.fnew a u q h1 h2
    | none =>
      cases q2 : M a with
      | some u => exact S.mnew a u q2 h2
      | none => exact S.h0 (S'.fnew a o e q q2) h2
  · have z := S.keep a o e h h'
    refine kp a o z ?_ h'
    cases q : M a with
    | none => rfl
    | some u => have y := S.mnew a u q h; rw [e] at y; cases y
  · obtain ⟨ow, o1, o2⟩ := S.own
    refine ⟨ow, fun p i e => ?_, fun i lv e => (o2 i lv e).mono le fun p o q z => kp p o z (o1 p i q).2.1 (S.tb.neH (o1 p i q).2.2.1)⟩
    obtain ⟨h1, h2, h3, o, h4⟩ := o1 p i e
    refine ⟨?_, ?_, h3, o, kp p o h4 h2 (S.tb.neH h3)⟩
    · cases q : F' p with
      | none => rfl
      | some u => have z := S'.fnew p u q h1 h2; have z : H p = none := z; rw [h4] at z; cases z
    · cases q : M' p with
      | none => rfl
      | some u => have z := S'.mnew p u q h2; have z : H p = none := z; rw [h4] at z; cases z

/-! ### slots -/
theorem Sim.val (S : Sim N Z F ρ M σ H) {i : Nat} {d : D} (e : ρ[i]? = some (.val d)) : ∃ v, σ[i]? = some (some v) ∧ Rep N F d v := by
  obtain ⟨ow, _, o2⟩ := S.own
  obtain ⟨u, h, r⟩ := o2 i _ e
  refine ⟨u, ?_, r⟩
  cases q : σ[i]? with
  | none => rw [q] at h; cases h
  | some x => rw [q] at h; cases x with
    | none => cases h
    | some y => exact congrArg some h
theorem Sim.set (S : Sim N Z F ρ M σ H) (i : Nat) {d : D} {v : V} (r : Rep N F d v) : Sim N Z F (ρ.set i (.val d)) M (σ.set i (some v)) H := by
  refine ⟨S.sub, S.le0, S.mf, S.mem, S.mnew, S.fnew, S.keep, S.there, ?_, by rw [List.length_set, List.length_set]; exact S.len, S.tb⟩
  obtain ⟨ow, o1, o2⟩ := S.own
  refine ⟨ow, o1, fun j lv e => ?_⟩
  by_cases h : i = j
  · subst h
    have hl : i < ρ.length := by
      have := (List.getElem?_eq_some_iff.mp e).1
      rwa [List.length_set] at this
    rw [List.getElem?_set_self hl] at e
    cases e
    rw [List.getElem?_set_self (by rw [← S.len]; exact hl)]
    exact ⟨v, rfl, r⟩
  · rw [List.getElem?_set_ne h] at e ⊢
    exact o2 j lv e
/-- a slot forgotten -/
theorem Sim.drop (S : Sim N Z F ρ M σ H) (hl : ρ'.length = σ'.length) (h : ∀ (i : Nat) lv, ρ'[i]? = some lv → lv = .no ∨ (ρ[i]? = some lv ∧ σ'[i]? = σ[i]?)) : Sim N Z F ρ' M σ' H := by
  refine ⟨S.sub, S.le0, S.mf, S.mem, S.mnew, S.fnew, S.keep, S.there, ?_, hl, S.tb⟩
  obtain ⟨ow, o1, o2⟩ := S.own
  refine ⟨ow, o1, fun i lv e => ?_⟩
  rcases h i lv e with rfl | ⟨h1, h2⟩
  · trivial
  · rw [h2]; exact o2 i lv h1
theorem wipeD_length (ρ : Env) : ∀ vs : List Nat, (wipeD ρ vs).length = ρ.length
  | [] => rfl
  | v :: vs => by unfold wipeD; rw [List.length_set, wipeD_length ρ vs]
theorem wipeD_get {ρ : Env} {i : Nat} {l : LV} : ∀ {vs : List Nat}, (wipeD ρ vs)[i]? = some l → l = .no ∨ (ρ[i]? = some l ∧ i ∉ vs)
  | [], e => .inr ⟨e, by simp⟩
  | v :: vs, e => by
    unfold wipeD at e
    by_cases h : v = i
    · subst h
      by_cases hv : v < (wipeD ρ vs).length
      · rw [List.getElem?_set_self hv] at e; cases e; exact .inl rfl
      · rw [List.getElem?_eq_none (by simpa using hv)] at e; cases e
    · rw [List.getElem?_set_ne h] at e
      rcases wipeD_get e with z | ⟨z, y⟩
      · exact .inl z
      · exact .inr ⟨z, by simp only [List.mem_cons, not_or]; exact ⟨fun q => h q.symm, y⟩⟩
theorem wipe_get' {σ : St} {i : Nat} : ∀ {vs : List Nat}, i ∉ vs → (wipe σ vs)[i]? = σ[i]? := fun {vs} h => wipe_out h
theorem Sim.wipe (S : Sim N Z F ρ M σ H) (vs : List Nat) : Sim N Z F (wipeD ρ vs) M (wipe σ vs) H :=
  S.drop (by rw [wipeD_length, wipe_length]; exact S.len) fun i lv e => by
    rcases wipeD_get e with z | ⟨z, y⟩
    · exact .inl z
    · exact .inr ⟨z, wipe_get' y⟩
theorem Rep.co {p : Addr} {c : CO} {ho : HO} (x : CoOk N F H p c) (e : H p = some ho) (h : F p = none) : Rep N (upd F p ho) c.tree (.ref p) := by
  have le : Le F (upd F p ho) := Le.new h
  cases c with
  | L ds =>
    obtain ⟨vs, q, z, r⟩ := x
    rw [e] at q; cases q
    show Rep N _ (.lst ds) _
    unfold Rep
    exact ⟨p, vs, rfl, upd_same, z, r.mono le⟩
  | K ks ds =>
    obtain ⟨vs, q, z, z2, nd, r⟩ := x
    rw [e] at q; cases q
    show Rep N _ (.dct ks ds) _
    unfold Rep
    exact ⟨p, vs, rfl, upd_same, z, z2, nd, r.mono le⟩
/-- an own container is sealed -/
theorem Sim.seal (S : Sim N Z F ρ M σ H) {i : Nat} {c : CO} (e : ρ[i]? = some (.own c)) : ∃ p ho, σ[i]? = some (some (.ref p)) ∧ F p = none ∧ Rep N (upd F p ho) c.tree (.ref p) ∧ Sim N Z (upd F p ho) (ρ.set i (.val c.tree)) M σ H := by
  obtain ⟨ow, o1, o2⟩ := S.own
  obtain ⟨p, h, w, x⟩ := o2 i _ e
  have hσ : σ[i]? = some (some (.ref p)) := by
    cases q : σ[i]? with
    | none => rw [q] at h; cases h
    | some y => rw [q] at h; cases y with
      | none => cases h
      | some y => exact congrArg some h
  obtain ⟨h1, h2, h3, ho, h4⟩ := o1 p i w
  have rp := Rep.co x h4 h1
  have le : Le F (upd F p ho) := Le.new h1
  refine ⟨p, ho, hσ, h1, rp, ⟨fun a o q => ?_, S.le0.trans le, fun a mo q => ?_, fun a mo q => (S.mem a mo q).mono le fun o z => z, S.mnew, fun a o q z1 z2 => ?_, S.keep, S.there, ?_, by rw [List.length_set]; exact S.len, S.tb.putF (S.tb.neH h3)⟩⟩
  · by_cases z : a = p
    · subst z; rw [upd_same] at q; cases q; exact h4
    · rw [upd_ne z] at q; exact S.sub a o q
  · rw [upd_ne (fun z => by subst z; rw [h2] at q; cases q)]; exact S.mf a mo q
  · by_cases z : a = p
    · subst z; exact h3
    · rw [upd_ne z] at q; exact S.fnew a o q z1 z2
  · refine ⟨fun b => if b = p then none else ow b, fun b j q => ?_, fun j lv q => ?_⟩
    · have q : (if b = p then none else ow b) = some j := q
      by_cases z : b = p
      · rw [if_pos z] at q; cases q
      · rw [if_neg z] at q
        obtain ⟨k1, k2, k3, k4⟩ := o1 b j q
        exact ⟨by rw [upd_ne z]; exact k1, k2, k3, k4⟩
    · by_cases z : i = j
      · subst z
        have hl : i < ρ.length := (List.getElem?_eq_some_iff.mp e).1
        rw [List.getElem?_set_self hl] at q
        cases q
        exact ⟨.ref p, by rw [hσ]; rfl, rp⟩
      · rw [List.getElem?_set_ne z] at q
        have y := o2 j lv q
        cases lv with
        | no => trivial
        | val d => obtain ⟨u, k1, k2⟩ := y; exact ⟨u, k1, k2.mono le⟩
        | own c' =>
          obtain ⟨p', k1, k2, k3⟩ := y
          refine ⟨p', k1, ?_, k3.mono le fun o z => z⟩
          show (if p' = p then none else ow p') = some j
          rw [if_neg]
          · exact k2
          · rintro rfl
            rw [w] at k2; cases k2; exact z rfl
/-- an own container as it stands -/
theorem Sim.ownAt (S : Sim N Z F ρ M σ H) {i : Nat} {c : CO} (e : ρ[i]? = some (.own c)) : ∃ p, σ[i]? = some (some (.ref p)) ∧ CoOk N F H p c ∧ F p = none ∧ M p = none := by
  obtain ⟨ow, o1, o2⟩ := S.own
  obtain ⟨p, h, w, x⟩ := o2 i _ e
  refine ⟨p, ?_, x, (o1 p i w).1, (o1 p i w).2.1⟩
  cases q : σ[i]? with
  | none => rw [q] at h; cases h
  | some y => rw [q] at h; cases y with
    | none => cases h
    | some y => exact congrArg some h
/-- an own container changes -/
theorem Sim.putO (S : Sim N Z F ρ M σ H) {i : Nat} {c c' : CO} {p : Addr} {ho : HO} (e : ρ[i]? = some (.own c)) (hp : σ[i]? = some (some (.ref p))) (x : CoOk N F (upd H p ho) p c') : Sim N Z F (ρ.set i (.own c')) M σ (upd H p ho) := by
  obtain ⟨ow, o1, o2⟩ := S.own
  obtain ⟨p', h, w, x0⟩ := o2 i _ e
  rw [hp] at h
  cases h
  obtain ⟨h1, h2, h3, h4⟩ := o1 p i w
  have ke : ∀ a o, a ≠ p → H a = some o → (upd H p ho) a = some o := fun a o z q => by rw [upd_ne z]; exact q
  refine ⟨fun a o q => ke a o (fun z => by rw [z, h1] at q; cases q) (S.sub a o q), S.le0, S.mf, fun a mo q => (S.mem a mo q).mono (Le.refl _) fun o => ke a o (fun z => by rw [z, h2] at q; cases q),
    S.mnew, S.fnew, fun a o q z z' => ke a o (fun y => by rw [y, h3] at q; cases q) (S.keep a o q z z'), fun a o q => let ⟨u, y⟩ := S.there a o q; if z : a = p then ⟨ho, by rw [z]; exact upd_same⟩ else ⟨u, ke a u z y⟩, ?_, by rw [List.length_set]; exact S.len, S.tb.heap x0.noCode⟩
  refine ⟨ow, fun b j q => ?_, fun j lv q => ?_⟩
  · obtain ⟨k1, k2, k3, o, k4⟩ := o1 b j q
    by_cases z : b = p
    · subst z; exact ⟨k1, k2, k3, _, upd_same⟩
    · exact ⟨k1, k2, k3, o, ke b o z k4⟩
  · by_cases z : i = j
    · subst z
      have hl : i < ρ.length := (List.getElem?_eq_some_iff.mp e).1
      rw [List.getElem?_set_self hl] at q
      cases q
      exact ⟨p, by rw [hp]; rfl, w, x⟩
    · rw [List.getElem?_set_ne z] at q
      refine (o2 j lv q).mono (Le.refl _) fun b o k => ke b o ?_
      rintro rfl
      rw [w] at k; cases k; exact z rfl
/-- an object that may change changes -/
theorem Sim.putM (S : Sim N Z F ρ M σ H) {a : Addr} {mo mo' : MO} {ho : HO} (e : M a = some mo) (x : MoOk N F (upd H a ho) a mo') : Sim N Z F ρ (updM M a mo') σ (upd H a ho) := by
  have ke : ∀ b o, b ≠ a → H b = some o → (upd H a ho) b = some o := fun b o z q => by rw [upd_ne z]; exact q
  have fa := S.mf a mo e
  refine ⟨fun b o q => ke b o (fun z => by subst z; rw [fa] at q; cases q) (S.sub b o q), S.le0, fun b m q => ?_, fun b m q => ?_, fun b m q z => ?_, S.fnew, fun b o q z z' => ?_, fun b o q => let ⟨u, y⟩ := S.there b o q; if z : b = a then ⟨ho, by rw [z]; exact upd_same⟩ else ⟨u, ke b u z y⟩, ?_, S.len, (S.tb.heap (S.mem a mo e).noCode).putM (S.tb.neM e)⟩
  · unfold updM at q
    by_cases z : b = a
    · subst z; exact fa
    · rw [if_neg z] at q; exact S.mf b m q
  · unfold updM at q
    by_cases z : b = a
    · subst z; rw [if_pos rfl] at q; cases q; exact x
    · rw [if_neg z] at q; exact (S.mem b m q).mono (Le.refl _) fun o => ke b o z
  · unfold updM at q
    by_cases y : b = a
    · subst y; exact S.mnew b mo e z
    · rw [if_neg y] at q; exact S.mnew b m q z
  · refine ke b o (fun y => ?_) (S.keep b o q z z')
    subst y
    have := S.mnew b mo e z
    rw [q] at this; cases this
  · obtain ⟨ow, o1, o2⟩ := S.own
    refine ⟨ow, fun b j q => ?_, fun j lv q => (o2 j lv q).mono (Le.refl _) fun b o k => ke b o ?_⟩
    · obtain ⟨k1, k2, k3, o, k4⟩ := o1 b j q
      have nb : b ≠ a := fun z => by subst z; rw [e] at k2; cases k2
      exact ⟨k1, by unfold updM; rw [if_neg nb]; exact k2, k3, o, ke b o nb k4⟩
    · rintro rfl
      have := (o1 _ _ k).2.1
      rw [e] at this; cases this
/-- a container just made becomes an object of the memory -/
theorem Sim.newM (S : Sim N Z F ρ M σ H) {p : Addr} {o : HO} {mo : MO} (h : H p = none) (x : MoOk N F (upd H p o) p mo) : Sim N Z F ρ (updM M p mo) σ (upd H p o) := by
  have S1 := S.more (p := p) (o := o) h
  have mp := S.mnone h
  have fp := S.fnone h
  refine ⟨S1.sub, S1.le0, fun b m q => ?_, fun b m q => ?_, fun b m q z => ?_, S1.fnew, S1.keep, S1.there, ?_, S1.len, S1.tb.putM (S.tb.neN h)⟩
  · unfold updM at q
    by_cases z : b = p
    · subst z; exact fp
    · rw [if_neg z] at q; exact S1.mf b m q
  · unfold updM at q
    by_cases z : b = p
    · subst z; rw [if_pos rfl] at q; cases q; exact x
    · rw [if_neg z] at q; exact S1.mem b m q
  · unfold updM at q
    by_cases y : b = p
    · subst y; exact S.h0 h z
    · rw [if_neg y] at q; exact S1.mnew b m q z
  · obtain ⟨ow, o1, o2⟩ := S1.own
    obtain ⟨ow', o1', o2'⟩ := S.own
    refine ⟨ow', fun b j q => ?_, fun j lv q => (o2' j lv q).mono (Le.refl _) fun b o' k z => ?_⟩
    · obtain ⟨k1, k2, k3, o', k4⟩ := o1' b j q
      have nb : b ≠ p := fun z => by subst z; rw [h] at k4; cases k4
      exact ⟨k1, by unfold updM; rw [if_neg nb]; exact k2, k3, o', by rw [upd_ne nb]; exact k4⟩
    · rw [upd_ne (fun y => by subst y; rw [h] at z; cases z)]; exact z
/-- a container just made is owned by a slot behind all others -/
theorem Sim.newO (S : Sim N Z F ρ M σ H) {p : Addr} {o : HO} {c : CO} (h : H p = none) (x : CoOk N F (upd H p o) p c) : Sim N Z F (ρ ++ [.own c]) M (σ ++ [some (.ref p)]) (upd H p o) := by
  have S1 := S.more (p := p) (o := o) h
  have mp := S.mnone h
  refine ⟨S1.sub, S1.le0, S1.mf, S1.mem, S1.mnew, S1.fnew, S1.keep, S1.there, ?_, by simp [S.len], S1.tb⟩
  obtain ⟨ow, o1, o2⟩ := S.own
  have np : ∀ i, ow p ≠ some i := fun i q => by
    obtain ⟨_, _, _, o', k4⟩ := o1 p i q
    rw [h] at k4; cases k4
  refine ⟨fun b => if b = p then some ρ.length else ow b, fun b j q => ?_, fun j lv q => ?_⟩
  · have q : (if b = p then some ρ.length else ow b) = some j := q
    by_cases z : b = p
    · subst z
      refine ⟨S.fnone h, mp, ?_, _, upd_same⟩
      cases q2 : Z.H_0 b with
      | none => rfl
      | some u => obtain ⟨o', y⟩ := S.there b u q2; rw [h] at y; cases y
    · rw [if_neg z] at q
      obtain ⟨k1, k2, k3, o', k4⟩ := o1 b j q
      exact ⟨k1, k2, k3, o', by rw [upd_ne z]; exact k4⟩
  · by_cases z : j < ρ.length
    · rw [List.getElem?_append_left z] at q
      have y := o2 j lv q
      rw [List.getElem?_append_left (by rw [← S.len]; exact z)]
      have y2 : LvOk N F (upd H p o) ow j (σ[j]?.bind id) lv := y.mono (Le.refl _) fun b o' k w => by
        rw [upd_ne (fun r => by subst r; rw [h] at w; cases w)]; exact w
      cases lv with
      | no => trivial
      | val d => exact y2
      | own c' =>
        obtain ⟨p', k1, k2, k3⟩ := y2
        refine ⟨p', k1, ?_, k3⟩
        show (if p' = p then some ρ.length else ow p') = some j
        rw [if_neg (fun r => by subst r; exact np j k2)]
        exact k2
    · have hj : j = ρ.length := by
        have := (List.getElem?_eq_some_iff.mp q).1
        simp at this; omega
      subst hj
      rw [List.getElem?_append_right (Nat.le_refl _)] at q
      simp at q
      subst q
      refine ⟨p, ?_, ?_, x⟩
      · rw [List.getElem?_append_right (by rw [S.len]; exact Nat.le_refl _), S.len]; simp
      · show (if p = p then some ρ.length else ow p) = some ρ.length
        rw [if_pos rfl]
end
end DL

set_option Elab.async false
set_option linter.all false
set_option maxRecDepth 100000
namespace DL
open PySem L2

/-! ### readings to trees -/
section
variable (X : Cx) (N : Nam)
def DE (e : Expr) (wp : WE) : Prop := ∃ t, PE X e t ∧ ∀ (Z : Ety) (σ : St) (H F : Hp) (ρ : Env) (M : Mem) (Q : D → Env → Mem → Prop) (K : VK), Sim N Z F ρ M σ H → wp ρ M Q →
  (∀ v H' F' d ρ' M', Sim N Z F' ρ' M' σ H' → Le F F' → Rep N F' d v → Q d ρ' M' → K v H') → t σ H K
def DT (e : Expr) (wp : WE) : Prop := ∃ t, PT X e t ∧ ∀ (Z : Ety) (σ : St) (H F : Hp) (ρ : Env) (M : Mem) (Q : D → Env → Mem → Prop) (K : Bool → Hp → Prop), Sim N Z F ρ M σ H → wp ρ M (fun d ρ M => ∃ b, d = .bl b ∧ Q (.bl b) ρ M) →
  (∀ b H' F' ρ' M', Sim N Z F' ρ' M' σ H' → Le F F' → Q (.bl b) ρ' M' → K b H') → t σ H K
def DA (es : List Expr) (wp : WA) : Prop := ∃ t, PA X es t ∧ ∀ (Z : Ety) (σ : St) (H F : Hp) (ρ : Env) (M : Mem) (Q : List D → Env → Mem → Prop) (K : List V → Hp → Prop), Sim N Z F ρ M σ H → wp ρ M Q →
  (∀ vs H' F' ds ρ' M', Sim N Z F' ρ' M' σ H' → Le F F' → Reps N F' ds vs → Q ds ρ' M' → K vs H') → t σ H K
/-- a new container comes out -/
def DO (e : Expr) (wp : WE) : Prop := ∃ t, PE X e t ∧ ∀ (Z : Ety) (σ : St) (H F : Hp) (ρ : Env) (M : Mem) (Q : D → Env → Mem → Prop) (K : VK), Sim N Z F ρ M σ H → wp ρ M Q →
  (∀ p H' F' c ρ' M', Sim N Z F' (ρ' ++ [.own c]) M' (σ ++ [some (.ref p)]) H' → ρ'.length = σ.length → Le F F' → Q c.tree ρ' M' → K (.ref p) H') → t σ H K
end

def VRep (N : Nam) (F H : Hp) : D → V → Prop
  | .lst ds, v => ∃ a vs, v = .ref a ∧ H a = some (.lst vs) ∧ vs.length ≤ sizeLine ∧ Reps N F ds vs
  | .dct ks ds, v => ∃ a vs, v = .ref a ∧ H a = some (.dK (ks.zip vs)) ∧ ks.length = vs.length ∧ vs.length ≤ sizeLine ∧ ks.Nodup ∧ Reps N F ds vs
  | d, v => Rep N F d v
section
variable {N : Nam} {Z : Ety} {F F' : Hp} {ρ ρ' : Env} {M M' : Mem} {σ σ' : St} {H H' : Hp}
theorem Rep.vrep (S : Sim N Z F ρ M σ H) : ∀ {d : D} {v : V}, Rep N F d v → VRep N F H d v
  | .non, v, r => r | .bl _, v, r => r | .int _, v, r => r | .str _, v, r => r | .ty _, v, r => r | .loc _, v, r => r | .scr _, v, r => r | .kemp _, v, r => r | .tup _, v, r => r | .obj _ _, v, r => r
  | .lst ds, v, r => by
    unfold Rep at r
    obtain ⟨a, vs, e, f, z, q⟩ := r
    exact ⟨a, vs, e, S.sub _ _ f, z, q⟩
  | .dct ks ds, v, r => by
    unfold Rep at r
    obtain ⟨a, vs, e, f, z, z2, z3, q⟩ := r
    exact ⟨a, vs, e, S.sub _ _ f, z, z2, z3, q⟩
theorem CoOk.vrep {p : Addr} {c : CO} (x : CoOk N F H p c) : VRep N F H c.tree (.ref p) := by
  cases c with
  | L ds => obtain ⟨vs, e, z, r⟩ := x; exact ⟨p, vs, rfl, e, z, r⟩
  | K ks ds => obtain ⟨vs, e, z, z2, z3, r⟩ := x; exact ⟨p, vs, rfl, e, z, z2, z3, r⟩
theorem Rep.view (S : Sim N Z F ρ M σ H) {d : D} {v : V} (r : Rep N F d v) : VRep N F H (view M d) v := by
  cases d with
  | loc p =>
    unfold Rep at r
    subst r
    show VRep N F H (match M p with | some (.co c) => c.tree | _ => .loc p) (.ref p)
    cases e : M p with
    | none => exact (show Rep N F (.loc p) (.ref p) by unfold Rep; rfl)
    | some mo =>
      cases mo with
      | co c => exact CoOk.vrep (S.mem p _ e)
      | obj c fs => exact (show Rep N F (.loc p) (.ref p) by unfold Rep; rfl)
  | _ => exact r.vrep S
theorem rep_int {i : Int} {v : V} : Rep N F (.int i) v ↔ v = .int i := by constructor <;> (intro h; unfold Rep at *; exact h)
theorem rep_bl {i : Bool} {v : V} : Rep N F (.bl i) v ↔ v = .bl i := by constructor <;> (intro h; unfold Rep at *; exact h)
theorem rep_str {i : Str} {v : V} : Rep N F (.str i) v ↔ v = .str i := by constructor <;> (intro h; unfold Rep at *; exact h)
theorem rep_non {v : V} : Rep N F .non v ↔ v = .non := by constructor <;> (intro h; unfold Rep at *; exact h)
theorem rep_loc {a : Addr} {v : V} : Rep N F (.loc a) v ↔ v = .ref a := by constructor <;> (intro h; unfold Rep at *; exact h)
theorem rep_tup {ds : List D} {v : V} : Rep N F (.tup ds) v ↔ ∃ a vs, v = .ref a ∧ F a = some (.tup vs) ∧ vs.length ≤ sizeLine ∧ Reps N F ds vs := by constructor <;> (intro h; unfold Rep at *; exact h)
theorem rep_lst {ds : List D} {v : V} : Rep N F (.lst ds) v ↔ ∃ a vs, v = .ref a ∧ F a = some (.lst vs) ∧ vs.length ≤ sizeLine ∧ Reps N F ds vs := by constructor <;> (intro h; unfold Rep at *; exact h)
theorem rep_obj {c : Nat} {ds : List D} {v : V} : Rep N F (.obj c ds) v ↔ ∃ a dx vs, v = .ref a ∧ F a = some (.ins (N.cad c) dx ((N.nms c).zip vs)) ∧ (N.nms c).length = vs.length ∧ Reps N F ds vs := by constructor <;> (intro h; unfold Rep at *; exact h)
theorem rep_dct {ks : List Key} {ds : List D} {v : V} : Rep N F (.dct ks ds) v ↔ ∃ a vs, v = .ref a ∧ F a = some (.dK (ks.zip vs)) ∧ ks.length = vs.length ∧ vs.length ≤ sizeLine ∧ ks.Nodup ∧ Reps N F ds vs := by constructor <;> (intro h; unfold Rep at *; exact h)
theorem rep_scr {ns : List Int} {v : V} : Rep N F (.scr ns) v ↔ ∃ a, v = .ref a ∧ (Rd F a (.lst (ns.map V.int)) ∨ N.kl a ns) ∧ ns.length ≤ sizeLine := by constructor <;> (intro h; unfold Rep at *; exact h)
theorem sim_rd (S : Sim N Z F ρ M σ H) {a : Addr} {u : HO} (r : Rd F a u) : Rd H a u := by
  rcases r with r | ⟨o, r⟩
  · exact .inl (S.sub _ _ r)
  · exact .inr ⟨o, S.sub _ _ r⟩
theorem scr_sq {K : PySem.W.Frag} (kl : ∀ a ns, N.kl a ns → ∀ H, SqL K H a (ns.map V.int)) (S : Sim N Z F ρ M σ H) {a : Addr} {ns : List Int} (r : Rd F a (.lst (ns.map V.int)) ∨ N.kl a ns) : SqL K H a (ns.map V.int) := by
  rcases r with r | r
  · exact .inl (sim_rd S r)
  · exact kl a ns r H
end

section
variable {X : Cx} {N : Nam} {B : Tab} {pos : Pos}
theorem de_var {i : Nat} {x : Str} (h : PE X (.Name x pos) (tVar i)) : DE X N (.Name x pos) (wpE B (.var i)) := by
  refine ⟨_, h, fun Z σ H F ρ M Q K S hw hk => ?_⟩
  have hw : readP ρ i M Q := hw
  unfold readP at hw
  cases e : ρ[i]? with
  | none => rw [e] at hw; exact hw.elim
  | some l =>
    rw [e] at hw
    cases l with
    | no => exact hw.elim
    | val d =>
      obtain ⟨v, h1, h2⟩ := S.val e
      exact ⟨v, h1, hk v H F d ρ M S (Le.refl _) h2 hw⟩
    | own c =>
      obtain ⟨p, ho, h1, h2, h3, S'⟩ := S.seal e
      exact ⟨_, h1, hk _ H _ _ _ _ S' (Le.new h2) h3 hw⟩
theorem de_const {e : Expr} {d : D} {v : V} (h : PE X e (tC v)) (r : ∀ F, Rep N F d v) : DE X N e (fun ρ M Q => Q d ρ M) :=
  ⟨_, h, fun Z σ H F ρ M Q K S hw hk => hk v H F d ρ M S (Le.refl _) (r F) hw⟩
/-- two, then an operation by values -/
def RB (X : Cx) (N : Nam) (r : R2) (p : D → D → (D → Prop) → Prop) : Prop :=
  ∀ (Z : Ety) (σ : St) (H F : Hp) (ρ : Env) (M : Mem) (x y : V) (a b : D) (Q : D → Prop) (K : VK), Sim N Z F ρ M σ H → Rep N F a x → Rep N F b y → p (view M a) (view M b) Q →
    (∀ v H' F' d, Sim N Z F' ρ M σ H' → Le F F' → Rep N F' d v → Q d → K v H') → r x y H K
theorem RB.or {r r' : R2} {p p' : D → D → (D → Prop) → Prop} {p2 : D → D → (D → Prop) → Prop} (h : RB X N r p) (h' : RB X N r' p') (hp : ∀ a b Q, p2 a b Q → p a b Q ∨ p' a b Q) : RB X N (fun x y H Q => r x y H Q ∨ r' x y H Q) p2 :=
  fun Z σ H F ρ M x y a b Q K S ra rb hq hk => by
    rcases hp _ _ _ hq with z | z
    · exact .inl (h Z σ H F ρ M x y a b Q K S ra rb z hk)
    · exact .inr (h' Z σ H F ρ M x y a b Q K S ra rb z hk)
theorem de_op2 {a b e : Expr} {wa wb : WE} {r : R2} {p : D → D → (D → Prop) → Prop} (pe : ∀ {ta tb}, PE X a ta → PE X b tb → PE X e (tOp r ta tb)) (hr : RB X N r p) (ha : DE X N a wa) (hb : DE X N b wb) :
    DE X N e (fun ρ M Q => wa ρ M fun x ρ M => wb ρ M fun y ρ M => p (view M x) (view M y) fun z => Q z ρ M) := by
  obtain ⟨ta, pa, ka⟩ := ha
  obtain ⟨tb, pb, kb⟩ := hb
  refine ⟨_, pe pa pb, fun Z σ H F ρ M Q K S hw hk => ?_⟩
  refine ka Z σ H F ρ M _ _ S hw fun v1 H1 F1 d1 ρ1 M1 S1 l1 r1 q1 => ?_
  refine kb Z σ H1 F1 ρ1 M1 _ _ S1 q1 fun v2 H2 F2 d2 ρ2 M2 S2 l2 r2 q2 => ?_
  exact hr Z σ H2 F2 ρ2 M2 v1 v2 d1 d2 _ K S2 (r1.mono l2) r2 q2 fun v H' F' d S' l' r' q' => hk v H' F' d ρ2 M2 S' ((l1.trans l2).trans l') r' q'
/-- no containers: what is read is the value -/
theorem rb_scal {r : R2} {p : D → D → (D → Prop) → Prop} (h : ∀ (F H : Hp) (x y : V) (a b : D) (Q : D → Prop) (K : VK), Rep N F a x → Rep N F b y → p a b Q → (∀ v d, (∀ F, Rep N F d v) → Q d → K v H) → r x y H K)
    (hl : ∀ M a b Q, p (view M a) (view M b) Q → p a b Q) : RB X N r p := fun Z σ H F ρ M x y a b Q K S ra rb hq hk =>
  h F H x y a b Q K ra rb (hl M a b Q hq) fun v d r q => hk v H F d S (Le.refl _) (r F) q
end
end DL

set_option Elab.async false
set_option linter.all false
set_option maxRecDepth 100000
namespace DL
open PySem L2
section
variable {X : Cx} {N : Nam} {B : Tab} {pos : Pos}
theorem rb_of {r : R2} {p : D → D → (D → Prop) → Prop} (h : ∀ (Z : Ety) (σ : St) (H F : Hp) (ρ : Env) (M : Mem) (x y : V) (a b : D) (Q : D → Prop) (K : VK), Sim N Z F ρ M σ H → VRep N F H a x → VRep N F H b y → p a b Q →
    (∀ v H' F' d, Sim N Z F' ρ M σ H' → Le F F' → Rep N F' d v → Q d → K v H') → r x y H K) : RB X N r p := fun Z σ H F ρ M x y a b Q K S ra rb hq hk => h Z σ H F ρ M x y _ _ Q K S (ra.view S) (rb.view S) hq hk
theorem v_int {F H : Hp} {i : Int} {v : V} (r : VRep N F H (.int i) v) : v = .int i := rep_int.mp (show Rep N F (.int i) v from r)
theorem v_str {F H : Hp} {i : Str} {v : V} (r : VRep N F H (.str i) v) : v = .str i := rep_str.mp (show Rep N F (.str i) v from r)
theorem v_bl {F H : Hp} {i : Bool} {v : V} (r : VRep N F H (.bl i) v) : v = .bl i := rep_bl.mp (show Rep N F (.bl i) v from r)
theorem v_tup {F H : Hp} {ds : List D} {v : V} (S : ∀ a o, F a = some o → H a = some o) (r : VRep N F H (.tup ds) v) : ∃ a vs, v = .ref a ∧ H a = some (.tup vs) ∧ vs.length ≤ sizeLine ∧ Reps N F ds vs := by
  obtain ⟨a, vs, e, f, z, q⟩ := rep_tup.mp (show Rep N F (.tup ds) v from r)
  exact ⟨a, vs, e, S _ _ f, z, q⟩

/-- int op int -/
theorem rb_I0 {g : Int → Int → V} {g' : Int → Int → D} {p : D → D → (D → Prop) → Prop} (hg : ∀ i j F, Rep N F (g' i j) (g i j)) (hp : ∀ a b Q, p a b Q → ∃ i j, a = .int i ∧ b = .int j ∧ Q (g' i j)) : RB X N (rI0 g) p :=
  rb_of fun Z σ H F ρ M x y a b Q K S ra rb hq hk => by
    obtain ⟨i, j, rfl, rfl, q⟩ := hp a b Q hq
    exact ⟨i, j, v_int ra, v_int rb, hk _ H F _ S (Le.refl _) (hg i j F) q⟩
theorem rb_I {C : Int → Int → Prop} {g : Int → Int → V} {g' : Int → Int → D} {p : D → D → (D → Prop) → Prop} (hg : ∀ i j F, Rep N F (g' i j) (g i j)) (hp : ∀ a b Q, p a b Q → ∃ i j, a = .int i ∧ b = .int j ∧ C i j ∧ Q (g' i j)) : RB X N (rI C g) p :=
  rb_of fun Z σ H F ρ M x y a b Q K S ra rb hq hk => by
    obtain ⟨i, j, rfl, rfl, c, q⟩ := hp a b Q hq
    exact ⟨i, j, v_int ra, v_int rb, c, hk _ H F _ S (Le.refl _) (hg i j F) q⟩
theorem binP_inv {o : BOp} {a b : D} {Q : D → Prop} (h : binP o a b Q) : (∃ i j, a = .int i ∧ b = .int j) ∨ (o = .add ∧ ((∃ i j, a = .str i ∧ b = .str j) ∨ (∃ i j, a = .lst i ∧ b = .lst j) ∨ (∃ i j, a = .tup i ∧ b = .tup j))) := by
  unfold binP at h
  split at h <;> first
    | exact .inl ⟨_, _, rfl, rfl⟩
    | exact .inr ⟨rfl, .inl ⟨_, _, rfl, rfl⟩⟩
    | exact .inr ⟨rfl, .inr (.inl ⟨_, _, rfl, rfl⟩)⟩
    | exact .inr ⟨rfl, .inr (.inr ⟨_, _, rfl, rfl⟩)⟩
    | exact h.elim
def rAddA (K : PySem.W.Frag) : R2 := fun x y H Q => (rI0 fun i j => .int (i + j)) x y H Q ∨ (∃ i j, x = .str i ∧ y = .str j ∧ i.length + j.length ≤ sizeLine ∧ Q (.str (i ++ j)) H) ∨ rCat x y H Q ∨ rCatA K x y H Q
theorem op_addA : OpR X (binaryOp .Add) (rAddA X.K) := op_add.or (op_add_str.or (op_cat.or op_catA))
theorem int_rep {F : Hp} (i : Int) : Rep N F (.int i) (.int i) := rep_int.mpr rfl
theorem rb_add : RB X N (rAddA X.K) (binP .add) := rb_of fun Z σ H F ρ M x y a b Q K S ra rb hq hk => by
  rcases binP_inv hq with ⟨i, j, rfl, rfl⟩ | ⟨_, ⟨i, j, rfl, rfl⟩ | ⟨i, j, rfl, rfl⟩ | ⟨i, j, rfl, rfl⟩⟩
  · exact .inl ⟨i, j, v_int ra, v_int rb, hk _ H F _ S (Le.refl _) (int_rep _) hq⟩
  · exact .inr (.inl ⟨i, j, v_str ra, v_str rb, hq.1, hk _ H F _ S (Le.refl _) (rep_str.mpr rfl) hq.2⟩)
  · obtain ⟨p, vs, e1, h1, z1, r1⟩ := ra
    obtain ⟨q, us, e2, h2, z2, r2⟩ := rb
    have hl : vs.length + us.length ≤ sizeLine := by rw [r1.length, r2.length]; exact hq.1
    refine .inr (.inr (.inl ⟨p, q, vs, us, e1, e2, h1, h2, hl, fun l hl' => ?_⟩))
    have S' := S.alloc (o := .lst (vs ++ us)) hl'
    exact hk _ _ _ _ S' (Le.new (S.fnone hl')) (rep_lst.mpr ⟨l, _, rfl, upd_same, by rw [List.length_append]; exact hl, (r1.append r2).mono (Le.new (S.fnone hl'))⟩) hq.2
  · obtain ⟨p, vs, e1, h1, z1, r1⟩ := rep_tup.mp (show Rep N F (.tup _) x from ra)
    obtain ⟨q, us, e2, h2, z2, r2⟩ := rep_tup.mp (show Rep N F (.tup _) y from rb)
    have hl : vs.length + us.length ≤ sizeLine := by rw [r1.length, r2.length]; exact hq.1
    refine .inr (.inr (.inr ⟨p, q, vs, us, e1, e2, SqT.of (S.sub _ _ h1), SqT.of (S.sub _ _ h2), hl, fun e => ?_, fun _ e => ?_, fun _ _ l hl' => ?_⟩))
    · subst e
      have e : i = [] := List.eq_nil_of_length_eq_zero (by rw [← r1.length]; rfl)
      subst e
      exact hk _ H F _ S (Le.refl _) (rep_tup.mpr ⟨q, us, rfl, h2, z2, r2⟩) hq.2
    · subst e
      have e : j = [] := List.eq_nil_of_length_eq_zero (by rw [← r2.length]; rfl)
      subst e
      have q2 := hq.2
      rw [List.append_nil] at q2
      exact hk _ H F _ S (Le.refl _) (rep_tup.mpr ⟨p, vs, rfl, h1, z1, r1⟩) q2
    · have S' := S.alloc (o := .tup (vs ++ us)) hl'
      exact hk _ _ _ _ S' (Le.new (S.fnone hl')) (rep_tup.mpr ⟨l, _, rfl, upd_same, by rw [List.length_append]; exact hl, (r1.append r2).mono (Le.new (S.fnone hl'))⟩) hq.2
theorem ints_of {o : BOp} (ho : o ≠ .add) {a b : D} {Q : D → Prop} (h : binP o a b Q) : ∃ i j, a = .int i ∧ b = .int j := by
  rcases binP_inv h with z | ⟨z, _⟩
  · exact z
  · exact absurd z ho
theorem rb_sub : RB X N (rI0 fun i j => .int (i - j)) (binP .sub) := rb_I0 (g' := fun i j => .int (i - j)) (fun i j F => int_rep _) fun a b Q h => by
  obtain ⟨i, j, rfl, rfl⟩ := ints_of (by decide) h
  exact ⟨i, j, rfl, rfl, h⟩
theorem rb_mul : RB X N (rI CMul fun i j => .int (i * j)) (binP .mul) := rb_I (g' := fun i j => .int (i * j)) (fun i j F => int_rep _) fun a b Q h => by
  obtain ⟨i, j, rfl, rfl⟩ := ints_of (by decide) h
  exact ⟨i, j, rfl, rfl, h.1, h.2⟩
theorem rb_mod : RB X N (rI (fun _ j => 0 < j) fun i j => .int (i % j)) (binP .mod) := rb_I (g' := fun i j => .int (i % j)) (fun i j F => int_rep _) fun a b Q h => by
  obtain ⟨i, j, rfl, rfl⟩ := ints_of (by decide) h
  exact ⟨i, j, rfl, rfl, h.1, h.2⟩
theorem rb_pow : RB X N (rI CPow fun i j => .int (i ^ j.toNat)) (binP .pow) := rb_I (g' := fun i j => .int (i ^ j.toNat)) (fun i j F => int_rep _) fun a b Q h => by
  obtain ⟨i, j, rfl, rfl⟩ := ints_of (by decide) h
  exact ⟨i, j, rfl, rfl, h.1, h.2⟩
theorem log_lt {n k : Nat} (h : n < 2 ^ k) (hk : 0 < k) : n.log2 < k := by
  by_cases z : n = 0
  · subst z; simpa using hk
  · exact (Nat.log2_lt z).mpr h
theorem rb_fdiv : RB X N (fun x y H Q => (rI CDiv fun i j => .int (i / j)) x y H Q ∨ (rI CDivW fun i j => .int (i / j)) x y H Q) (binP .fdiv) := rb_of fun Z σ H F ρ M x y a b Q K S ra rb hq hk => by
  obtain ⟨i, j, rfl, rfl⟩ := ints_of (by decide) hq
  rcases hq.1.2 with h | ⟨h1, h2⟩
  · exact .inl ⟨i, j, v_int ra, v_int rb, ⟨hq.1.1, h⟩, hk _ H F _ S (Le.refl _) (int_rep _) hq.2⟩
  · refine .inr ⟨i, j, v_int ra, v_int rb, ⟨hq.1.1, ?_⟩, hk _ H F _ S (Le.refl _) (int_rep _) hq.2⟩
    have h3 : j.natAbs < 2 ^ 200 := by
      have e : (2 : Int) ^ 200 = ((2 ^ 200 : Nat) : Int) := by norm_cast
      rw [e] at h2
      have := hq.1.1
      omega
    exact Nat.lt_of_lt_of_le (log_lt h3 (by decide)) (by decide)
def opE : BOp → Operator
  | .add => .Add | .sub => .Sub | .mul => .Mult | .fdiv => .FloorDiv | .mod => .Mod | .pow => .Pow
theorem de_bin {a b : Expr} {wa wb : WE} (o : BOp) (ha : DE X N a wa) (hb : DE X N b wb) : DE X N (.BinOp a (opE o) b pos) (fun ρ M Q => wa ρ M fun x ρ M => wb ρ M fun y ρ M => binP o (view M x) (view M y) fun z => Q z ρ M) := by
  cases o with
  | add => exact de_op2 (pe_op op_addA) rb_add ha hb
  | sub => exact de_op2 (pe_op op_sub) rb_sub ha hb
  | mul => exact de_op2 (pe_op op_mul) rb_mul ha hb
  | fdiv => exact de_op2 (pe_op (op_fdiv.or op_fdivW)) rb_fdiv ha hb
  | mod => exact de_op2 (pe_op op_mod) rb_mod ha hb
  | pow => exact de_op2 (pe_op op_pow) rb_pow ha hb
end
end DL

set_option Elab.async false
set_option linter.all false
set_option maxRecDepth 100000
namespace DL
open PySem L2

/-! ### data as PyData -/
mutual
theorem eqv_py : ∀ {x y : D}, dat x = true → dat y = true → PyData.eqv (py x) (py y) = deq x y
  | .non, y, hx, hy => by cases y <;> first | rfl | (unfold dat at hy; cases hy)
  | .bl b, y, hx, hy => by cases y <;> first | rfl | (unfold dat at hy; cases hy)
  | .int i, y, hx, hy => by
    cases y with
    | int j => simp only [py, PyData.eqv, deq]; rw [Bool.beq_eq_decide_eq]
    | _ => first | rfl | (unfold dat at hy; cases hy)
  | .str s, y, hx, hy => by
    cases y with
    | str j => simp only [py, PyData.eqv, deq]; rw [Bool.beq_eq_decide_eq]
    | _ => first | rfl | (unfold dat at hy; cases hy)
  | .tup ds, y, hx, hy => by
    cases y with
    | tup es => simp only [py, PyData.eqv, deq]; unfold dat at hx hy; exact eqv_pys hx hy
    | _ => first | rfl | (unfold dat at hy; cases hy)
  | .lst ds, y, hx, hy => by
    cases y with
    | lst es => simp only [py, PyData.eqv, deq]; unfold dat at hx hy; exact eqv_pys hx hy
    | _ => first | rfl | (unfold dat at hy; cases hy)
  | .obj c fs, y, hx, hy => by unfold dat at hx; cases hx
  | .dct c fs, y, hx, hy => by unfold dat at hx; cases hx
  | .ty c, y, hx, hy => by unfold dat at hx; cases hx
  | .loc c, y, hx, hy => by unfold dat at hx; cases hx
  | .scr c, y, hx, hy => by unfold dat at hx; cases hx
theorem eqv_pys : ∀ {xs ys : List D}, dats xs = true → dats ys = true → PyData.eqvAll (pys xs) (pys ys) = deqs xs ys
  | [], [], _, _ => rfl
  | [], y :: ys, _, _ => rfl
  | x :: xs, [], _, _ => rfl
  | x :: xs, y :: ys, hx, hy => by
    unfold dats at hx hy
    rw [Bool.and_eq_true] at hx hy
    simp only [pys, PyData.eqvAll, deqs]
    rw [eqv_py hx.1 hy.1, eqv_pys hx.2 hy.2]
end
mutual
theorem lay_py : ∀ {x : D}, dat x = true → PyData.canLay0 (py x) = true ∧ PyData.depth (py x) ≤ dep x
  | .non, _ => ⟨rfl, Nat.zero_le _⟩
  | .bl b, _ => ⟨rfl, Nat.zero_le _⟩
  | .int i, _ => ⟨rfl, Nat.zero_le _⟩
  | .str s, h => ⟨by unfold dat at h; simp only [py, PyData.canLay0]; exact h, by simp [py, PyData.depth]⟩
  | .tup ds, h => by
    unfold dat at h
    have q := lay_pys h
    simp only [py, PyData.canLay0, PyData.depth, dep]
    exact ⟨q.1, by omega⟩
  | .lst ds, h => by
    unfold dat at h
    have q := lay_pys h
    simp only [py, PyData.canLay0, PyData.depth, dep]
    exact ⟨q.1, by omega⟩
  | .obj c fs, hx => by unfold dat at hx; cases hx
  | .dct c fs, hx => by unfold dat at hx; cases hx
  | .ty c, hx => by unfold dat at hx; cases hx
  | .loc c, hx => by unfold dat at hx; cases hx
  | .scr c, hx => by unfold dat at hx; cases hx
theorem lay_pys : ∀ {xs : List D}, dats xs = true → PyData.canLayAll0 (pys xs) = true ∧ PyData.depthAll (pys xs) ≤ deps xs
  | [], _ => ⟨rfl, Nat.zero_le _⟩
  | x :: xs, hx => by
    unfold dats at hx
    rw [Bool.and_eq_true] at hx
    have h1 := lay_py hx.1
    have h2 := lay_pys hx.2
    simp only [pys, PyData.canLayAll0, PyData.depthAll, deps]
    exact ⟨by rw [h1.1, h2.1]; rfl, by omega⟩
end
section
variable {N : Nam} {K : PySem.W.Frag} {F H : Hp}
mutual
theorem Rep.dp (sub : ∀ a o, F a = some o → H a = some o) : ∀ {d : D} {v : V}, dat d = true → Rep N F d v → Dp K H v (py d)
  | .non, v, _, r => by rw [rep_non.mp r]; exact .non
  | .bl b, v, _, r => by rw [rep_bl.mp r]; exact .bl b
  | .int i, v, _, r => by rw [rep_int.mp r]; exact .int i
  | .str s, v, _, r => by rw [rep_str.mp r]; exact .str s
  | .tup ds, v, h, r => by
    obtain ⟨a, vs, rfl, e, z, q⟩ := rep_tup.mp r
    unfold dat at h
    exact .tup (SqT.of (sub _ _ e)) (Reps.dp sub h q)
  | .lst ds, v, h, r => by
    obtain ⟨a, vs, rfl, e, z, q⟩ := rep_lst.mp r
    unfold dat at h
    exact .lst (SqL.of (sub _ _ e)) (Reps.dp sub h q)
  | .obj c fs, v, hx, _ => by unfold dat at hx; cases hx
  | .dct c fs, v, hx, _ => by unfold dat at hx; cases hx
  | .ty c, v, hx, _ => by unfold dat at hx; cases hx
  | .loc c, v, hx, _ => by unfold dat at hx; cases hx
  | .scr c, v, hx, _ => by unfold dat at hx; cases hx
theorem Reps.dp (sub : ∀ a o, F a = some o → H a = some o) : ∀ {ds : List D} {vs : List V}, dats ds = true → Reps N F ds vs → DpAll K H vs (pys ds)
  | [], vs, _, r => by rw [reps_nil.mp r]; exact .nil
  | d :: ds, vs, h, r => by
    obtain ⟨v, t, rfl, q, w⟩ := reps_cons.mp r
    unfold dats at h
    rw [Bool.and_eq_true] at h
    exact .cons (Rep.dp sub h.1 q) (Reps.dp sub h.2 w)
end
theorem VRep.dp (sub : ∀ a o, F a = some o → H a = some o) {d : D} {v : V} (h : dat d = true) (r : VRep N F H d v) : Dp K H v (py d) := by
  cases d with
  | lst ds =>
    obtain ⟨a, vs, rfl, e, z, q⟩ := r
    unfold dat at h
    exact .lst (SqL.of e) (Reps.dp sub h q)
  | dct ks ds => unfold dat at h; cases h
  | _ => exact Rep.dp sub h (show Rep N F _ v from r)
theorem flat_v {d : D} {v : V} (h : flatD d = true) (r : Rep N F d v) : flatV v = true := by
  cases d with
  | non => rw [rep_non.mp r]; rfl
  | bl b => rw [rep_bl.mp r]; rfl
  | int b => rw [rep_int.mp r]; rfl
  | str b => rw [rep_str.mp r]; rfl
  | _ => cases h
theorem flat_vs : ∀ {ds : List D} {vs : List V}, ds.all flatD = true → Reps N F ds vs → vs.all flatV = true
  | [], vs, _, r => by rw [reps_nil.mp r]; rfl
  | d :: ds, vs, h, r => by
    obtain ⟨v, t, rfl, q, w⟩ := reps_cons.mp r
    rw [List.all_cons, Bool.and_eq_true] at h ⊢
    exact ⟨flat_v h.1 q, flat_vs h.2 w⟩
theorem eq_flat {d e : D} {v u : V} (h : flatD d = true) (h' : flatD e = true) (r : Rep N F d v) (r' : Rep N F e u) : eqV v u = deq d e := by
  cases d with
  | non => rw [rep_non.mp r]; cases e with
    | non => rw [rep_non.mp r']; rfl
    | bl b => rw [rep_bl.mp r']; rfl
    | int b => rw [rep_int.mp r']; rfl
    | str b => rw [rep_str.mp r']; rfl
    | _ => cases h'
  | bl b => rw [rep_bl.mp r]; cases e with
    | non => rw [rep_non.mp r']; rfl
    | bl b => rw [rep_bl.mp r']; rfl
    | int b => rw [rep_int.mp r']; rfl
    | str b => rw [rep_str.mp r']; rfl
    | _ => cases h'
  | int b => rw [rep_int.mp r]; cases e with
    | non => rw [rep_non.mp r']; rfl
    | bl b => rw [rep_bl.mp r']; rfl
    | int b => rw [rep_int.mp r']; exact Bool.beq_eq_decide_eq _ _
    | str b => rw [rep_str.mp r']; rfl
    | _ => cases h'
  | str b => rw [rep_str.mp r]; cases e with
    | non => rw [rep_non.mp r']; rfl
    | bl b => rw [rep_bl.mp r']; rfl
    | int b => rw [rep_int.mp r']; rfl
    | str b => rw [rep_str.mp r']; exact Bool.beq_eq_decide_eq _ _
    | _ => cases h'
  | _ => cases h
theorem any_flat {x : D} {v : V} (hx : flatD x = true) (rx : Rep N F x v) : ∀ {ds : List D} {vs : List V}, ds.all flatD = true → Reps N F ds vs → inV v vs = ds.any fun d => deq d x
  | [], vs, _, r => by rw [reps_nil.mp r]; rfl
  | d :: ds, vs, h, r => by
    obtain ⟨u, t, rfl, q, w⟩ := reps_cons.mp r
    rw [List.all_cons, Bool.and_eq_true] at h
    have ih := any_flat hx rx h.2 w
    unfold inV at ih ⊢
    rw [List.any_cons, List.any_cons, ih, eq_flat h.1 hx q rx]
theorem key_v {d : D} {v : V} {k : Key} (h : keyOf d = some k) (r : Rep N F d v) : v = kV k := by
  cases d with
  | int i => rw [rep_int.mp r]; cases h; rfl
  | str i => rw [rep_str.mp r]; cases h; rfl
  | _ => cases h
theorem valV_zip : ∀ {ks : List Key} {ds : List D} {vs : List V} {k : Key}, ks.length = vs.length → Reps N F ds vs → match dget ks ds k with
    | some d => ∃ v, valV (ks.zip vs) k = some v ∧ Rep N F d v
    | none => valV (ks.zip vs) k = none
  | [], ds, vs, k, h, r => by
    cases vs with
    | nil => cases ds <;> exact rfl
    | cons v vs => cases h
  | j :: ks, ds, vs, k, h, r => by
    cases vs with
    | nil => cases h
    | cons v vs =>
      cases ds with
      | nil => rw [reps_nil] at r; cases r
      | cons d ds =>
        obtain ⟨u, t, e, q, w⟩ := reps_cons.mp r
        cases e
        have ih := valV_zip (ks := ks) (ds := ds) (vs := vs) (k := k) (by simpa using h) w
        unfold dget valV at *
        rw [List.zip_cons_cons, List.zip_cons_cons, List.find?_cons, List.find?_cons]
        by_cases e : j = k
        · simp only [e, decide_true]; exact ⟨v, rfl, q⟩
        · simp only [e, decide_false]; exact ih
end
section
variable {X : Cx} {N : Nam} {B : Tab} {pos : Pos}
theorem op_in_dict (hu : X.A.units + 1 < cLine) : OpR X (compareOp .In) (fun y x H Q => ∃ a o, x = .ref a ∧ DGet H a y o ∧ Q (.bl o.isSome) H) := by
  intro pins s σ H y x v u Q I ry rx h
  obtain ⟨a, o, rfl, g, q⟩ := h
  cases rx
  exact d_in hu I g ry fun s3 I3 => ⟨.bl o.isSome, H, I3, rfl, q⟩
theorem op_notin_dict (hu : X.A.units + 1 < cLine) : OpR X (compareOp .NotIn) (fun y x H Q => ∃ a o, x = .ref a ∧ DGet H a y o ∧ Q (.bl (!o.isSome)) H) := by
  intro pins s σ H y x v u Q I ry rx h
  obtain ⟨a, o, rfl, g, q⟩ := h
  cases rx
  exact d_notIn hu I g ry fun s3 I3 => ⟨.bl (!o.isSome), H, I3, rfl, q⟩
def copE : COp → CmpOp
  | .lt => .Lt | .le => .LtE | .gt => .Gt | .ge => .GtE | .eq => .Eq | .ne => .NotEq | .isin => .In | .notin => .NotIn | .isN => .Is | .notN => .IsNot | .isB => .Is
def cmpQ (o : COp) : D → D → (D → Prop) → Prop := fun a b Q => cmpP o a b fun z => Q (.bl z)
theorem bl_rep {F : Hp} (i : Bool) : Rep N F (.bl i) (.bl i) := rep_bl.mpr rfl
/-- for each comparison a rule -/
def CmpOk (X : Cx) (N : Nam) (o : COp) : Prop := ∃ r, OpR X (compareOp (copE o)) r ∧ RB X N r (cmpQ o)
theorem c_lt : CmpOk X N .lt := ⟨_, op_lt, rb_I0 (g' := fun i j => .bl (decide (i < j))) (fun _ _ _ => bl_rep _) fun a b Q h => by
  unfold cmpQ cmpP at h; split at h <;> first | exact ⟨_, _, rfl, rfl, h⟩ | exact h.elim | (cases (by assumption : (COp.lt = _))) | simp_all⟩
theorem c_le : CmpOk X N .le := ⟨_, op_le, rb_I0 (g' := fun i j => .bl (decide (i ≤ j))) (fun _ _ _ => bl_rep _) fun a b Q h => by
  unfold cmpQ cmpP at h; split at h <;> first | exact ⟨_, _, rfl, rfl, h⟩ | exact h.elim | simp_all⟩
theorem c_gt : CmpOk X N .gt := ⟨_, op_gt, rb_I0 (g' := fun i j => .bl (decide (j < i))) (fun _ _ _ => bl_rep _) fun a b Q h => by
  unfold cmpQ cmpP at h; split at h <;> first | exact ⟨_, _, rfl, rfl, h⟩ | exact h.elim | simp_all⟩
theorem c_ge : CmpOk X N .ge := ⟨_, op_ge, rb_I0 (g' := fun i j => .bl (decide (j ≤ i))) (fun _ _ _ => bl_rep _) fun a b Q h => by
  unfold cmpQ cmpP at h; split at h <;> first | exact ⟨_, _, rfl, rfl, h⟩ | exact h.elim | simp_all⟩
theorem eqOk_cases {a b : D} (h : eqOk a b = true) : (∃ x y, a = .str x ∧ b = .str y) ∨ (dat a = true ∧ dat b = true ∧ dep a ≤ 60 ∧ dep b ≤ 60) := by
  unfold eqOk at h
  split at h
  · exact .inl ⟨_, _, rfl, rfl⟩
  · simp only [Bool.and_eq_true, decide_eq_true_eq] at h
    exact .inr ⟨h.1.1.1, h.1.1.2, h.1.2, h.2⟩
theorem shaped_py {d : D} (h : dat d = true) (z : dep d ≤ 60) : SeqAt.shaped (py d) = true := by
  obtain ⟨h1, h2⟩ := lay_py h
  unfold SeqAt.shaped
  rw [h1, decide_eq_true (by omega)]
  rfl
theorem c_eq (hu : X.A.units + 64 < cLine) : CmpOk X N .eq := ⟨_, op_eq.or (op_eqD hu), rb_of fun Z σ H F ρ M x y a b Q K S ra rb hq hk => by
  obtain ⟨h, q⟩ := hq
  rcases eqOk_cases h with ⟨i, j, rfl, rfl⟩ | ⟨h1, h2, h3, h4⟩
  · refine .inl ?_
    rw [v_str ra, v_str rb]
    refine ⟨rfl, hk _ H F _ S (Le.refl _) (bl_rep _) ?_⟩
    have e : decide (V.str i = V.str j) = deq (.str i) (.str j) := by rw [dec_str]; exact Bool.beq_eq_decide_eq _ _
    rw [e]; exact q
  · refine .inr ⟨py a, py b, VRep.dp S.sub h1 ra, VRep.dp S.sub h2 rb, shaped_py h1 h3, shaped_py h2 h4, hk _ H F _ S (Le.refl _) (bl_rep _) ?_⟩
    rw [eqv_py h1 h2]; exact q⟩
theorem c_ne (hu : X.A.units + 64 < cLine) : CmpOk X N .ne := ⟨_, op_ne.or (op_neD hu), rb_of fun Z σ H F ρ M x y a b Q K S ra rb hq hk => by
  obtain ⟨h, q⟩ := hq
  rcases eqOk_cases h with ⟨i, j, rfl, rfl⟩ | ⟨h1, h2, h3, h4⟩
  · refine .inl ?_
    rw [v_str ra, v_str rb]
    refine ⟨rfl, hk _ H F _ S (Le.refl _) (bl_rep _) ?_⟩
    have e : decide (V.str i = V.str j) = deq (.str i) (.str j) := by rw [dec_str]; exact Bool.beq_eq_decide_eq _ _
    rw [e]; exact q
  · refine .inr ⟨py a, py b, VRep.dp S.sub h1 ra, VRep.dp S.sub h2 rb, shaped_py h1 h3, shaped_py h2 h4, hk _ H F _ S (Le.refl _) (bl_rep _) ?_⟩
    rw [eqv_py h1 h2]; exact q⟩
theorem flat_view {F H : Hp} {x : D} {v : V} (h : flatD x = true) (r : VRep N F H x v) : Rep N F x v := by
  cases x with
  | lst _ => cases h
  | dct _ _ => cases h
  | _ => exact r
theorem key_view {F H : Hp} {x : D} {v : V} {k : Key} (h : keyOf x = some k) (r : VRep N F H x v) : Rep N F x v := by
  cases x with
  | lst _ => cases h
  | dct _ _ => cases h
  | _ => exact r
theorem isin_inv {a b : D} {Q : Bool → Prop} (h : cmpP .isin a b Q) : (∃ ds, b = .lst ds ∧ (flatD a && ds.all flatD) = true ∧ Q (ds.any fun d => deq d a)) ∨ (∃ ds, b = .tup ds ∧ (flatD a && ds.all flatD) = true ∧ Q (ds.any fun d => deq d a)) ∨
    (∃ ks ds k, b = .dct ks ds ∧ keyOf a = some k ∧ Q (dget ks ds k).isSome) ∨ ∃ x y, a = .str x ∧ b = .str y ∧ Q (!(Builtin.Str.occurrences y x 0 y.length 1).isEmpty) := by
  cases b with
  | lst ds => exact .inl ⟨ds, rfl, by cases a <;> exact h⟩
  | tup ds => exact .inr (.inl ⟨ds, rfl, by cases a <;> exact h⟩)
  | dct ks ds => exact .inr (.inr (.inl (by have h : ∃ k, keyOf a = some k ∧ Q (dget ks ds k).isSome := by { cases a <;> exact h }; obtain ⟨k, h1, h2⟩ := h; exact ⟨ks, ds, k, rfl, h1, h2⟩)))
  | str y =>
    cases a with
    | str x => exact .inr (.inr (.inr ⟨x, y, rfl, rfl, h⟩))
    | _ => exact (show False from h).elim
  | _ => exact (show False by cases a <;> exact h).elim
theorem notin_inv {a b : D} {Q : Bool → Prop} (h : cmpP .notin a b Q) : (∃ ds, b = .lst ds ∧ (flatD a && ds.all flatD) = true ∧ Q (!ds.any fun d => deq d a)) ∨ (∃ ds, b = .tup ds ∧ (flatD a && ds.all flatD) = true ∧ Q (!ds.any fun d => deq d a)) ∨
    (∃ ks ds k, b = .dct ks ds ∧ keyOf a = some k ∧ Q (!(dget ks ds k).isSome)) ∨ ∃ x y, a = .str x ∧ b = .str y ∧ Q (!(!(Builtin.Str.occurrences y x 0 y.length 1).isEmpty)) := by
  cases b with
  | lst ds => exact .inl ⟨ds, rfl, by cases a <;> exact h⟩
  | tup ds => exact .inr (.inl ⟨ds, rfl, by cases a <;> exact h⟩)
  | dct ks ds => exact .inr (.inr (.inl (by have h : ∃ k, keyOf a = some k ∧ Q (!(dget ks ds k).isSome) := by { cases a <;> exact h }; obtain ⟨k, h1, h2⟩ := h; exact ⟨ks, ds, k, rfl, h1, h2⟩)))
  | str y =>
    cases a with
    | str x => exact .inr (.inr (.inr ⟨x, y, rfl, rfl, h⟩))
    | _ => exact (show False from h).elim
  | _ => exact (show False by cases a <;> exact h).elim
theorem c_in (hu : X.A.units + 64 < cLine) : CmpOk X N .isin := ⟨_, op_in_seq.or ((op_in_dict (by omega)).or op_in_str), rb_of fun Z σ H F ρ M x y a b Q K S ra rb hq hk => by
  rcases isin_inv hq with ⟨ds, rfl, f, q⟩ | ⟨ds, rfl, f, q⟩ | ⟨ks, ds, k, rfl, e, q⟩ | ⟨i, j, rfl, rfl, q⟩
  · rw [Bool.and_eq_true] at f
    obtain ⟨p, vs, rfl, e, z, r⟩ := rb
    have fa := flat_view f.1 ra
    refine .inl ⟨p, vs, rfl, .inl (SqL.of e), flat_v f.1 fa, flat_vs f.2 r, hk _ H F _ S (Le.refl _) (bl_rep _) ?_⟩
    simp only [Bool.false_eq_true, if_false]
    rw [any_flat f.1 fa f.2 r]; exact q
  · rw [Bool.and_eq_true] at f
    obtain ⟨p, vs, rfl, e, z, r⟩ := rep_tup.mp (show Rep N F (.tup ds) y from rb)
    have fa := flat_view f.1 ra
    refine .inl ⟨p, vs, rfl, .inr (SqT.of (S.sub _ _ e)), flat_v f.1 fa, flat_vs f.2 r, hk _ H F _ S (Le.refl _) (bl_rep _) ?_⟩
    simp only [Bool.false_eq_true, if_false]
    rw [any_flat f.1 fa f.2 r]; exact q
  · obtain ⟨p, vs, rfl, h1, z1, z2, z3, r⟩ := rb
    have ea := key_v e (key_view e ra)
    subst ea
    refine .inr (.inl ⟨p, _, rfl, DGet.k h1, hk _ H F _ S (Le.refl _) (bl_rep _) ?_⟩)
    have v := valV_zip (k := k) z1 r
    cases g : dget ks ds k with
    | none => rw [g] at v q; rw [show valV (ks.zip vs) k = none from v]; exact q
    | some d => rw [g] at v q; obtain ⟨u, hu', _⟩ := v; rw [hu']; exact q
  · exact .inr (.inr ⟨i, j, v_str ra, v_str rb, hk _ H F _ S (Le.refl _) (bl_rep _) q⟩)⟩
theorem c_notin (hu : X.A.units + 64 < cLine) : CmpOk X N .notin := ⟨_, op_notIn_seq.or ((op_notin_dict (by omega)).or op_notIn_str), rb_of fun Z σ H F ρ M x y a b Q K S ra rb hq hk => by
  rcases notin_inv hq with ⟨ds, rfl, f, q⟩ | ⟨ds, rfl, f, q⟩ | ⟨ks, ds, k, rfl, e, q⟩ | ⟨i, j, rfl, rfl, q⟩
  · rw [Bool.and_eq_true] at f
    obtain ⟨p, vs, rfl, e, z, r⟩ := rb
    have fa := flat_view f.1 ra
    refine .inl ⟨p, vs, rfl, .inl (SqL.of e), flat_v f.1 fa, flat_vs f.2 r, hk _ H F _ S (Le.refl _) (bl_rep _) ?_⟩
    simp only [if_true]
    rw [any_flat f.1 fa f.2 r]; exact q
  · rw [Bool.and_eq_true] at f
    obtain ⟨p, vs, rfl, e, z, r⟩ := rep_tup.mp (show Rep N F (.tup ds) y from rb)
    have fa := flat_view f.1 ra
    refine .inl ⟨p, vs, rfl, .inr (SqT.of (S.sub _ _ e)), flat_v f.1 fa, flat_vs f.2 r, hk _ H F _ S (Le.refl _) (bl_rep _) ?_⟩
    simp only [if_true]
    rw [any_flat f.1 fa f.2 r]; exact q
  · obtain ⟨p, vs, rfl, h1, z1, z2, z3, r⟩ := rb
    have ea := key_v e (key_view e ra)
    subst ea
    refine .inr (.inl ⟨p, _, rfl, DGet.k h1, hk _ H F _ S (Le.refl _) (bl_rep _) ?_⟩)
    have v := valV_zip (k := k) z1 r
    cases g : dget ks ds k with
    | none => rw [g] at v q; rw [show valV (ks.zip vs) k = none from v]; exact q
    | some d => rw [g] at v q; obtain ⟨u, hu', _⟩ := v; rw [hu']; exact q
  · exact .inr (.inr ⟨i, j, v_str ra, v_str rb, hk _ H F _ S (Le.refl _) (bl_rep _) q⟩)⟩
def RBv (X : Cx) (N : Nam) (r : R2) (p : D → D → (D → Prop) → Prop) : Prop := ∀ (Z : Ety) (σ : St) (H F : Hp) (ρ : Env) (M : Mem) (x y : V) (a b : D) (Q : D → Prop) (K : VK), Sim N Z F ρ M σ H → VRep N F H a x → VRep N F H b y → p a b Q →
    (∀ v H' F' d, Sim N Z F' ρ M σ H' → Le F F' → Rep N F' d v → Q d → K v H') → r x y H K
def CmpOkV (X : Cx) (N : Nam) (o : COp) : Prop := ∃ r, OpR X (compareOp (copE o)) r ∧ RBv X N r (cmpQ o)
theorem c_inV (hu : X.A.units + 64 < cLine) : CmpOkV X N .isin := ⟨_, op_in_seq.or ((op_in_dict (by omega)).or op_in_str), fun Z σ H F ρ M x y a b Q K S ra rb hq hk => by
  rcases isin_inv hq with ⟨ds, rfl, f, q⟩ | ⟨ds, rfl, f, q⟩ | ⟨ks, ds, k, rfl, e, q⟩ | ⟨i, j, rfl, rfl, q⟩
  · rw [Bool.and_eq_true] at f
    obtain ⟨p, vs, rfl, e, z, r⟩ := rb
    have fa := flat_view f.1 ra
    refine .inl ⟨p, vs, rfl, .inl (SqL.of e), flat_v f.1 fa, flat_vs f.2 r, hk _ H F _ S (Le.refl _) (bl_rep _) ?_⟩
    simp only [Bool.false_eq_true, if_false]
    rw [any_flat f.1 fa f.2 r]; exact q
  · rw [Bool.and_eq_true] at f
    obtain ⟨p, vs, rfl, e, z, r⟩ := rep_tup.mp (show Rep N F (.tup ds) y from rb)
    have fa := flat_view f.1 ra
    refine .inl ⟨p, vs, rfl, .inr (SqT.of (S.sub _ _ e)), flat_v f.1 fa, flat_vs f.2 r, hk _ H F _ S (Le.refl _) (bl_rep _) ?_⟩
    simp only [Bool.false_eq_true, if_false]
    rw [any_flat f.1 fa f.2 r]; exact q
  · obtain ⟨p, vs, rfl, h1, z1, z2, z3, r⟩ := rb
    have ea := key_v e (key_view e ra)
    subst ea
    refine .inr (.inl ⟨p, _, rfl, DGet.k h1, hk _ H F _ S (Le.refl _) (bl_rep _) ?_⟩)
    have v := valV_zip (k := k) z1 r
    cases g : dget ks ds k with
    | none => rw [g] at v q; rw [show valV (ks.zip vs) k = none from v]; exact q
    | some d => rw [g] at v q; obtain ⟨u, hu', _⟩ := v; rw [hu']; exact q
  · exact .inr (.inr ⟨i, j, v_str ra, v_str rb, hk _ H F _ S (Le.refl _) (bl_rep _) q⟩)⟩
theorem c_notinV (hu : X.A.units + 64 < cLine) : CmpOkV X N .notin := ⟨_, op_notIn_seq.or ((op_notin_dict (by omega)).or op_notIn_str), fun Z σ H F ρ M x y a b Q K S ra rb hq hk => by
  rcases notin_inv hq with ⟨ds, rfl, f, q⟩ | ⟨ds, rfl, f, q⟩ | ⟨ks, ds, k, rfl, e, q⟩ | ⟨i, j, rfl, rfl, q⟩
  · rw [Bool.and_eq_true] at f
    obtain ⟨p, vs, rfl, e, z, r⟩ := rb
    have fa := flat_view f.1 ra
    refine .inl ⟨p, vs, rfl, .inl (SqL.of e), flat_v f.1 fa, flat_vs f.2 r, hk _ H F _ S (Le.refl _) (bl_rep _) ?_⟩
    simp only [if_true]
    rw [any_flat f.1 fa f.2 r]; exact q
  · rw [Bool.and_eq_true] at f
    obtain ⟨p, vs, rfl, e, z, r⟩ := rep_tup.mp (show Rep N F (.tup ds) y from rb)
    have fa := flat_view f.1 ra
    refine .inl ⟨p, vs, rfl, .inr (SqT.of (S.sub _ _ e)), flat_v f.1 fa, flat_vs f.2 r, hk _ H F _ S (Le.refl _) (bl_rep _) ?_⟩
    simp only [if_true]
    rw [any_flat f.1 fa f.2 r]; exact q
  · obtain ⟨p, vs, rfl, h1, z1, z2, z3, r⟩ := rb
    have ea := key_v e (key_view e ra)
    subst ea
    refine .inr (.inl ⟨p, _, rfl, DGet.k h1, hk _ H F _ S (Le.refl _) (bl_rep _) ?_⟩)
    have v := valV_zip (k := k) z1 r
    cases g : dget ks ds k with
    | none => rw [g] at v q; rw [show valV (ks.zip vs) k = none from v]; exact q
    | some d => rw [g] at v q; obtain ⟨u, hu', _⟩ := v; rw [hu']; exact q
  · exact .inr (.inr ⟨i, j, v_str ra, v_str rb, hk _ H F _ S (Le.refl _) (bl_rep _) q⟩)⟩
theorem non_iff {F H : Hp} {d : D} {v : V} (r : VRep N F H d v) : decide (v = .non) = isNon d := by
  cases d with
  | non => rw [rep_non.mp (show Rep N F .non v from r)]; rfl
  | bl b => rw [v_bl r]; rfl
  | int b => rw [v_int r]; rfl
  | str b => rw [v_str r]; rfl
  | ty n => have z : Rep N F (.ty n) v := r; unfold Rep at z; rw [z]; rfl
  | loc n => rw [rep_loc.mp (show Rep N F (.loc n) v from r)]; rfl
  | tup ds => obtain ⟨a, vs, rfl, _⟩ := rep_tup.mp (show Rep N F (.tup ds) v from r); rfl
  | lst ds => obtain ⟨a, vs, rfl, _⟩ := r; rfl
  | dct ks ds => obtain ⟨a, vs, rfl, _⟩ := r; rfl
  | obj c ds => obtain ⟨a, dx, vs, rfl, _⟩ := rep_obj.mp (show Rep N F (.obj c ds) v from r); rfl
  | scr ns => obtain ⟨a, rfl, _⟩ := rep_scr.mp (show Rep N F (.scr ns) v from r); rfl
  | kemp i => have z : Rep N F (.kemp i) v := r; unfold Rep at z; obtain ⟨a, _, rfl⟩ := z; rfl
theorem c_isN : CmpOk X N .isN := ⟨_, op_isN, rb_of fun Z σ H F ρ M x y a b Q K S ra rb hq hk => by
  have e : b = .non := by cases b <;> first | rfl | (exact (show False by cases a <;> exact hq).elim)
  subst e
  have q : Q (.bl (isNon a)) := by cases a <;> exact hq
  refine ⟨rep_non.mp (show Rep N F .non y from rb), hk _ H F _ S (Le.refl _) (bl_rep _) ?_⟩
  rw [non_iff ra]; exact q⟩
theorem c_notN : CmpOk X N .notN := ⟨_, op_notN, rb_of fun Z σ H F ρ M x y a b Q K S ra rb hq hk => by
  have e : b = .non := by cases b <;> first | rfl | (exact (show False by cases a <;> exact hq).elim)
  subst e
  have q : Q (.bl (!isNon a)) := by cases a <;> exact hq
  refine ⟨rep_non.mp (show Rep N F .non y from rb), hk _ H F _ S (Le.refl _) (bl_rep _) ?_⟩
  rw [non_iff ra]; exact q⟩
theorem c_isB : CmpOk X N .isB := ⟨_, op_isBl, rb_of fun Z σ H F ρ M x y a b Q K S ra rb hq hk => by
  cases a with
  | bl i =>
    cases b with
    | bl j => exact ⟨i, j, v_bl ra, v_bl rb, hk _ H F _ S (Le.refl _) (bl_rep _) hq⟩
    | _ => exact (show False from hq).elim
  | _ => exact (show False by cases b <;> exact hq).elim⟩
theorem cmp_ok (hu : X.A.units + 64 < cLine) (o : COp) : CmpOk X N o := by
  cases o with
  | lt => exact c_lt | le => exact c_le | gt => exact c_gt | ge => exact c_ge | eq => exact c_eq hu | ne => exact c_ne hu | isin => exact c_in hu | notin => exact c_notin hu | isN => exact c_isN | notN => exact c_notN | isB => exact c_isB
end
end DL

set_option Elab.async false
set_option linter.all false
set_option maxRecDepth 100000
namespace DL
open PySem L2

section
variable (N : Nam)
def ER (t : TE) (wp : WE) : Prop := ∀ (Z : Ety) (σ : St) (H F : Hp) (ρ : Env) (M : Mem) (Q : D → Env → Mem → Prop) (K : VK), Sim N Z F ρ M σ H → wp ρ M Q →
  (∀ v H' F' d ρ' M', Sim N Z F' ρ' M' σ H' → Le F F' → Rep N F' d v → Q d ρ' M' → K v H') → t σ H K
def TR (t : TT) (wp : WE) : Prop := ∀ (Z : Ety) (σ : St) (H F : Hp) (ρ : Env) (M : Mem) (Q : Bool → Env → Mem → Prop) (K : Bool → Hp → Prop), Sim N Z F ρ M σ H → wp ρ M (fun d ρ M => ∃ b, d = .bl b ∧ Q b ρ M) →
  (∀ b H' F' ρ' M', Sim N Z F' ρ' M' σ H' → Le F F' → Q b ρ' M' → K b H') → t σ H K
def AR (t : TA) (wp : WA) : Prop := ∀ (Z : Ety) (σ : St) (H F : Hp) (ρ : Env) (M : Mem) (Q : List D → Env → Mem → Prop) (K : List V → Hp → Prop), Sim N Z F ρ M σ H → wp ρ M Q →
  (∀ vs H' F' ds ρ' M', Sim N Z F' ρ' M' σ H' → Le F F' → Reps N F' ds vs → Q ds ρ' M' → K vs H') → t σ H K
/-- a new container comes out -/
def OR' (t : TE) (wp : WE) : Prop := ∀ (Z : Ety) (σ : St) (H F : Hp) (ρ : Env) (M : Mem) (Q : D → Env → Mem → Prop) (K : VK), Sim N Z F ρ M σ H → wp ρ M Q →
  (∀ p H' F' c ρ' M', Sim N Z F' (ρ' ++ [.own c]) M' (σ ++ [some (.ref p)]) H' → ρ'.length = σ.length → Le F F' → Q c.tree ρ' M' → K (.ref p) H') → t σ H K
end
section
variable {X : Cx} {N : Nam} {t u ta tb : TE} {wa wb wp : WE} {Z : Ety} {F F' : Hp} {ρ ρ' : Env} {M M' : Mem} {σ σ' : St} {H H' : Hp}
theorem er_op2 {r : R2} {p : D → D → (D → Prop) → Prop} (hr : RB X N r p) (ka : ER N ta wa) (kb : ER N tb wb) : ER N (tOp r ta tb) (fun ρ M Q => wa ρ M fun x ρ M => wb ρ M fun y ρ M => p (view M x) (view M y) fun z => Q z ρ M) := by
  intro Z σ H F ρ M Q K S hw hk
  refine ka Z σ H F ρ M _ _ S hw fun v1 H1 F1 d1 ρ1 M1 S1 l1 r1 q1 => ?_
  refine kb Z σ H1 F1 ρ1 M1 _ _ S1 q1 fun v2 H2 F2 d2 ρ2 M2 S2 l2 r2 q2 => ?_
  exact hr Z σ H2 F2 ρ2 M2 v1 v2 d1 d2 _ K S2 (r1.mono l2) r2 q2 fun v H' F' d S' l' r' q' => hk v H' F' d ρ2 M2 S' ((l1.trans l2).trans l') r' q'
theorem tr_test (h : ER N t wp) : TR N (tTest t) wp := fun Z σ H F ρ M Q K S hw hk =>
  h Z σ H F ρ M _ _ S hw fun v H' F' d ρ' M' S' l r ⟨b, e, q⟩ => by
    subst e
    exact ⟨b, rep_bl.mp r, hk b H' F' ρ' M' S' l q⟩
theorem tr_B (h : ER N t wp) : TR N (tB t) wp := fun Z σ H F ρ M Q K S hw hk =>
  h Z σ H F ρ M _ _ S hw fun v H' F' d ρ' M' S' l r ⟨b, e, q⟩ => by
    subst e
    exact ⟨b, rep_bl.mp r, hk b H' F' ρ' M' S' l q⟩
theorem Sim.cutv {c : CO} {d : D} {p : Addr} (S : Sim N Z F ((ρ ++ [LV.own c]).set ρ.length (.val d)) M (σ ++ [some (.ref p)]) H) (hl : ρ.length = σ.length) : Sim N Z F ρ M σ H := by
  refine S.drop hl fun i lv e => .inr ?_
  have hi : i < ρ.length := (List.getElem?_eq_some_iff.mp e).1
  refine ⟨?_, ?_⟩
  · rw [List.getElem?_set_ne (by omega), List.getElem?_append_left hi]; exact e
  · rw [List.getElem?_append_left (by omega)]
/-- what a sealing makes of a new container -/
theorem OR'.er (h : OR' N t wp) : ER N t wp := fun Z σ H F ρ M Q K S hw hk =>
  h Z σ H F ρ M Q K S hw fun p H' F' c ρ' M' S' hl l q => by
    have e1 : (ρ' ++ [LV.own c])[ρ'.length]? = some (.own c) := by simp
    obtain ⟨p', ho, h1, h2, h3, S2⟩ := S'.seal e1
    have e2 : p' = p := by
      rw [hl] at h1
      simp at h1
      exact h1.symm
    subst e2
    exact hk _ H' _ _ ρ' M' (S2.cutv hl) (l.trans (Le.new h2)) h3 q

theorem er_var {i : Nat} {B : Tab} : ER N (tVar i) (wpE B (.var i)) := by
  intro Z σ H F ρ M Q K S hw hk
  have hw : readP ρ i M Q := hw
  unfold readP at hw
  cases e : ρ[i]? with
  | none => rw [e] at hw; exact hw.elim
  | some l =>
    rw [e] at hw
    cases l with
    | no => exact hw.elim
    | val d =>
      obtain ⟨v, h1, h2⟩ := S.val e
      exact ⟨v, h1, hk v H F d ρ M S (Le.refl _) h2 hw⟩
    | own c =>
      obtain ⟨p, ho, h1, h2, h3, S'⟩ := S.seal e
      exact ⟨_, h1, hk _ H _ _ _ _ S' (Le.new h2) h3 hw⟩
theorem er_c {d : D} {v : V} (r : ∀ F, Rep N F d v) : ER N (tC v) (fun ρ M Q => Q d ρ M) := fun Z σ H F ρ M Q K S hw hk => hk v H F d ρ M S (Le.refl _) (r F) hw
theorem er_andV (ha : ER N ta wa) (hb : ER N tb wb) : ER N (tAndV ta tb) (fun ρ M Q => wa ρ M fun x ρ M => ∃ c, x = .bl c ∧ iteN (Bool.toNat c) (wb ρ M Q) (Q (.bl false) ρ M)) := fun Z σ H F ρ M Q K S hw hk =>
  ha Z σ H F ρ M _ _ S hw fun v H1 F1 d ρ1 M1 S1 l r ⟨c, e, q⟩ => by
    subst e
    refine ⟨c, rep_bl.mp r, ?_⟩
    cases c with
    | true => exact hb Z σ H1 F1 ρ1 M1 Q K S1 q fun v H' F' d ρ' M' S' l' r' q' => hk v H' F' d ρ' M' S' (l.trans l') r' q'
    | false => exact hk _ H1 F1 _ ρ1 M1 S1 l (bl_rep _) q
theorem er_orV (ha : ER N ta wa) (hb : ER N tb wb) : ER N (tOrV ta tb) (fun ρ M Q => wa ρ M fun x ρ M => ∃ c, x = .bl c ∧ iteN (Bool.toNat c) (Q (.bl true) ρ M) (wb ρ M Q)) := fun Z σ H F ρ M Q K S hw hk =>
  ha Z σ H F ρ M _ _ S hw fun v H1 F1 d ρ1 M1 S1 l r ⟨c, e, q⟩ => by
    subst e
    refine ⟨c, rep_bl.mp r, ?_⟩
    cases c with
    | false => exact hb Z σ H1 F1 ρ1 M1 Q K S1 q fun v H' F' d ρ' M' S' l' r' q' => hk v H' F' d ρ' M' S' (l.trans l') r' q'
    | true => exact hk _ H1 F1 _ ρ1 M1 S1 l (bl_rep _) q
theorem er_notV (ha : ER N ta wa) : ER N (tNotV ta) (fun ρ M Q => wa ρ M fun x ρ M => ∃ c, x = .bl c ∧ Q (.bl (!c)) ρ M) := fun Z σ H F ρ M Q K S hw hk =>
  ha Z σ H F ρ M _ _ S hw fun v H1 F1 d ρ1 M1 S1 l r ⟨c, e, q⟩ => by
    subst e
    exact ⟨c, rep_bl.mp r, hk _ H1 F1 _ ρ1 M1 S1 l (bl_rep _) q⟩
theorem tr_and {ta tb : TT} (ha : TR N ta wa) (hb : TR N tb wb) : TR N (tAnd ta tb) (fun ρ M Q => wa ρ M fun x ρ M => ∃ c, x = .bl c ∧ iteN (Bool.toNat c) (wb ρ M Q) (Q (.bl false) ρ M)) := fun Z σ H F ρ M Q K S hw hk =>
  ha Z σ H F ρ M (fun c ρ M => iteN (Bool.toNat c) (wb ρ M _) (_)) _ S hw fun c H1 F1 ρ1 M1 S1 l q => by
    cases c with
    | true => exact hb Z σ H1 F1 ρ1 M1 Q K S1 q fun v H' F' ρ' M' S' l' q' => hk v H' F' ρ' M' S' (l.trans l') q'
    | false =>
      obtain ⟨b, e, q⟩ := (q : ∃ b, D.bl false = .bl b ∧ Q b ρ1 M1)
      cases e
      exact hk _ H1 F1 ρ1 M1 S1 l q
theorem tr_or {ta tb : TT} (ha : TR N ta wa) (hb : TR N tb wb) : TR N (tOr ta tb) (fun ρ M Q => wa ρ M fun x ρ M => ∃ c, x = .bl c ∧ iteN (Bool.toNat c) (Q (.bl true) ρ M) (wb ρ M Q)) := fun Z σ H F ρ M Q K S hw hk =>
  ha Z σ H F ρ M (fun c ρ M => iteN (Bool.toNat c) (_) (wb ρ M _)) _ S hw fun c H1 F1 ρ1 M1 S1 l q => by
    cases c with
    | false => exact hb Z σ H1 F1 ρ1 M1 Q K S1 q fun v H' F' ρ' M' S' l' q' => hk v H' F' ρ' M' S' (l.trans l') q'
    | true =>
      obtain ⟨b, e, q⟩ := (q : ∃ b, D.bl true = .bl b ∧ Q b ρ1 M1)
      cases e
      exact hk _ H1 F1 ρ1 M1 S1 l q
theorem tr_not {ta : TT} (ha : TR N ta wa) : TR N (tNot ta) (fun ρ M Q => wa ρ M fun x ρ M => ∃ c, x = .bl c ∧ Q (.bl (!c)) ρ M) := fun Z σ H F ρ M Q K S hw hk =>
  ha Z σ H F ρ M (fun c ρ M => ∃ b, D.bl (!c) = .bl b ∧ Q b ρ M) _ S hw fun c H1 F1 ρ1 M1 S1 l ⟨b, e, q⟩ => by
    cases e
    exact hk _ H1 F1 ρ1 M1 S1 l q
theorem er_if {tc : TT} {wc : WE} (hc : TR N tc wc) (ha : ER N ta wa) (hb : ER N tb wb) : ER N (tIf tc ta tb) (fun ρ M Q => wc ρ M fun x ρ M => ∃ k, x = .bl k ∧ iteN (Bool.toNat k) (wa ρ M Q) (wb ρ M Q)) := fun Z σ H F ρ M Q K S hw hk =>
  hc Z σ H F ρ M (fun k ρ M => iteN (Bool.toNat k) (wa ρ M Q) (wb ρ M Q)) _ S hw fun c H1 F1 ρ1 M1 S1 l q => by
    cases c with
    | true => exact ha Z σ H1 F1 ρ1 M1 Q K S1 q fun v H' F' d ρ' M' S' l' r' q' => hk v H' F' d ρ' M' S' (l.trans l') r' q'
    | false => exact hb Z σ H1 F1 ρ1 M1 Q K S1 q fun v H' F' d ρ' M' S' l' r' q' => hk v H' F' d ρ' M' S' (l.trans l') r' q'
theorem cmp_mono {o : COp} {a b : D} {Q Q' : Bool → Prop} (h : ∀ z, Q z → Q' z) (x : cmpP o a b Q) : cmpP o a b Q' := by
  unfold cmpP at x ⊢
  split at x <;> first | exact h _ x | exact ⟨x.1, h _ x.2⟩ | (obtain ⟨k, x1, x2⟩ := x; exact ⟨k, x1, h _ x2⟩) | exact x.elim
theorem er_chain {r r' : R2} {tc : TE} {wc : WE} {o p : COp} (hr : RB X N r (cmpQ o)) (hr' : RB X N r' (cmpQ p)) (ka : ER N ta wa) (kb : ER N tb wb) (kc : ER N tc wc) : ER N (tChain r r' ta tb tc) (fun ρ M Q => wa ρ M fun x ρ M => wb ρ M fun y ρ M => cmpP o (view M x) (view M y) fun z =>
    iteN (Bool.toNat z) (wc ρ M fun u ρ M => cmpP p (view M y) (view M u) fun z' => Q (.bl z') ρ M) (Q (.bl false) ρ M)) := by
  intro Z σ H F ρ M Q K S hw hk
  refine ka Z σ H F ρ M _ _ S hw fun v1 H1 F1 d1 ρ1 M1 S1 l1 r1 q1 => ?_
  refine kb Z σ H1 F1 ρ1 M1 _ _ S1 q1 fun v2 H2 F2 d2 ρ2 M2 S2 l2 r2 q2 => ?_
  refine hr Z σ H2 F2 ρ2 M2 v1 v2 d1 d2 (fun z => ∃ b, z = .bl b ∧ iteN (Bool.toNat b) (wc ρ2 M2 fun u ρ M => cmpP p (view M d2) (view M u) fun z' => Q (.bl z') ρ M) (Q (.bl false) ρ2 M2)) _ S2 (r1.mono l2) r2 ?_ fun v H3 F3 d S3 l3 r3 ⟨b, e, q3⟩ => ?_
  · show cmpP o (view M2 d1) (view M2 d2) _
    refine cmp_mono ?_ q2
    intro z q
    exact ⟨z, rfl, q⟩
  · subst e
    refine ⟨b, rep_bl.mp r3, ?_⟩
    cases b with
    | false => exact hk _ H3 F3 _ ρ2 M2 S3 ((l1.trans l2).trans l3) (bl_rep _) q3
    | true =>
      refine kc Z σ H3 F3 ρ2 M2 _ _ S3 q3 fun v4 H4 F4 d4 ρ4 M4 S4 l4 r4 q4 => ?_
      exact hr' Z σ H4 F4 ρ4 M4 v2 v4 d2 d4 (fun d => Q d ρ4 M4) K S4 (r2.mono (l3.trans l4)) r4 q4 fun v H' F' d S' l' r' q' => hk v H' F' d ρ4 M4 S' (((l1.trans l2).trans (l3.trans l4)).trans l') r' q'
theorem ar_nil : AR N tNil (fun ρ M Q => Q [] ρ M) := fun Z σ H F ρ M Q K S hw hk => hk [] H F [] ρ M S (Le.refl _) (reps_nil.mpr rfl) hw
theorem ar_cons {tr : TA} {wr : WA} (ha : ER N ta wa) (hr : AR N tr wr) : AR N (tCons ta tr) (fun ρ M Q => wa ρ M fun x ρ M => wr ρ M fun xs ρ M => Q (x :: xs) ρ M) := fun Z σ H F ρ M Q K S hw hk =>
  ha Z σ H F ρ M _ _ S hw fun v1 H1 F1 d1 ρ1 M1 S1 l1 r1 q1 =>
    hr Z σ H1 F1 ρ1 M1 _ _ S1 q1 fun vs H2 F2 ds ρ2 M2 S2 l2 r2 q2 => hk _ H2 F2 _ ρ2 M2 S2 (l1.trans l2) (reps_cons.mpr ⟨v1, vs, rfl, r1.mono l2, r2⟩) q2
theorem er_tup {tr : TA} {wr : WA} (h : AR N tr wr) : ER N (tTup tr) (fun ρ M Q => wr ρ M fun ds ρ M => ds.length ≤ sizeLine ∧ Q (.tup ds) ρ M) := fun Z σ H F ρ M Q K S hw hk =>
  h Z σ H F ρ M _ _ S hw fun vs H1 F1 ds ρ1 M1 S1 l r ⟨z, q⟩ => by
    have hz : vs.length ≤ sizeLine := by rw [r.length]; exact z
    refine ⟨hz, fun p hp => ?_⟩
    have le := Le.new (o := .tup vs) (S1.fnone hp)
    exact hk _ _ _ _ ρ1 M1 (S1.alloc hp) (l.trans le) (rep_tup.mpr ⟨p, vs, rfl, upd_same, hz, r.mono le⟩) q
theorem or_lst {tr : TA} {wr : WA} (h : AR N tr wr) : OR' N (tLst tr) (fun ρ M Q => wr ρ M fun ds ρ M => ds.length ≤ sizeLine ∧ Q (.lst ds) ρ M) := fun Z σ H F ρ M Q K S hw hk =>
  h Z σ H F ρ M _ _ S hw fun vs H1 F1 ds ρ1 M1 S1 l r ⟨z, q⟩ => by
    have hz : vs.length ≤ sizeLine := by rw [r.length]; exact z
    exact ⟨hz, fun p hp => hk p _ F1 (.L ds) ρ1 M1 (S1.newO hp ⟨vs, upd_same, hz, r⟩) S1.len l q⟩
theorem or_dnew : OR' N tDNewK (fun ρ M Q => Q (.dct [] []) ρ M) := fun Z σ H F ρ M Q K S hw hk p hp =>
  hk p _ F (.K [] []) ρ M (S.newO hp ⟨[], upd_same, rfl, Nat.zero_le _, List.nodup_nil, reps_nil.mpr rfl⟩) S.len (Le.refl _) hw
end
end DL

set_option Elab.async false
set_option linter.all false
set_option maxRecDepth 100000
namespace DL
open PySem L2

theorem atI_len {α β : Type} {xs : List α} {ys : List β} (h : xs.length = ys.length) {i : Int} {y : β} (e : atI ys i = some y) : ∃ j : Nat, ys[j]? = some y ∧ ∀ x, xs[j]? = some x → atI xs i = some x := by
  unfold atI at *
  rw [← h] at e
  cases q : ixN xs.length i with
  | none => rw [q] at e; cases e
  | some j => rw [q] at e; exact ⟨j, e, fun x z => z⟩
section
variable {X : Cx} {N : Nam} {B : Tab} {pos : Pos}
theorem ix_dict (hu : X.A.units + 1 < cLine) : IxR X (fun x y H Q => ∃ a v, x = .ref a ∧ DGet H a y (some v) ∧ Q v H) := by
  intro value slice pins s σ H x y v u Q I rx ry h hs
  obtain ⟨a, z, rfl, g, q⟩ := h
  cases rx
  exact PyProof.Rows.tail_any (dict_typeIs I g) PySem.F.slot_dict_getitem.lookup (d_getItem hu I g ry fun w' s3 I3 rw' => ⟨z, H, I3, rw', q⟩) hs
theorem rep_key {F H : Hp} {x : D} {v : V} (r : VRep N F H x v) (h : ∃ k, keyOf x = some k) : Rep N F x v := by
  obtain ⟨k, e⟩ := h
  exact key_view e r
theorem rb_idx_v (Z : Ety) (σ : St) (H F : Hp) (ρ : Env) (M : Mem) (x y : V) (a b : D) (Q : D → Prop) (K : VK) (S : Sim N Z F ρ M σ H) (ra : VRep N F H a x) (rb : VRep N F H b y) (hq : idxP a b Q)
    (hk : ∀ v H' F' d, Sim N Z F' ρ M σ H' → Le F F' → Rep N F' d v → Q d → K v H') : rIx X.K x y H K ∨ ∃ a v, x = .ref a ∧ DGet H a y (some v) ∧ K v H := by
  cases a with
  | lst ds =>
    cases b with
    | int i =>
      obtain ⟨d, h1, h2⟩ := hq
      obtain ⟨p, vs, rfl, e, z, r⟩ := ra
      obtain ⟨j, h3, h4⟩ := atI_len r.length h1
      obtain ⟨w, h5, h6⟩ := r.get h3
      exact .inl (.inl ⟨p, vs, i, w, rfl, v_int rb, SqL.of e, h4 w h5, hk _ H F _ S (Le.refl _) h6 h2⟩)
    | _ => exact (show False from hq).elim
  | tup ds =>
    cases b with
    | int i =>
      obtain ⟨d, h1, h2⟩ := hq
      obtain ⟨p, vs, rfl, e, z, r⟩ := rep_tup.mp (show Rep N F (.tup ds) x from ra)
      obtain ⟨j, h3, h4⟩ := atI_len r.length h1
      obtain ⟨w, h5, h6⟩ := r.get h3
      exact .inl (.inr (.inl ⟨p, vs, i, w, rfl, v_int rb, SqT.of (S.sub _ _ e), h4 w h5, hk _ H F _ S (Le.refl _) h6 h2⟩))
    | _ => exact (show False from hq).elim
  | str s =>
    cases b with
    | int i =>
      obtain ⟨c, h0, h1, h2⟩ := hq
      exact .inl (.inr (.inr ⟨s, i, c, v_str ra, v_int rb, h0, h1, hk _ H F _ S (Le.refl _) (rep_str.mpr rfl) h2⟩))
    | _ => exact (show False from hq).elim
  | dct ks ds =>
    have hq : ∃ k d, keyOf b = some k ∧ dget ks ds k = some d ∧ Q d := by cases b <;> exact hq
    obtain ⟨k, d, h1, h2, h3⟩ := hq
    obtain ⟨p, vs, rfl, e, z, z2, z3, r⟩ := ra
    have v := valV_zip (k := k) z r
    rw [h2] at v
    obtain ⟨u, hu', hr⟩ := v
    refine .inr ⟨p, u, rfl, ?_, hk _ H F _ S (Le.refl _) hr h3⟩
    rw [key_v h1 (key_view h1 rb), ← hu']
    exact DGet.k e
  | _ => exact (show False by cases b <;> exact hq).elim
theorem rb_idx : RB X N (fun x y H Q => rIx X.K x y H Q ∨ ∃ a v, x = .ref a ∧ DGet H a y (some v) ∧ Q v H) idxP := rb_of fun Z σ H F ρ M x y a b Q K S ra rb hq hk => rb_idx_v Z σ H F ρ M x y a b Q K S ra rb hq hk
/-- the parts of a slice -/
def PR (N : Nam) (t : TO) (wp : Env → Mem → (Option Int → Env → Mem → Prop) → Prop) : Prop := ∀ (Z : Ety) (σ : St) (H F : Hp) (ρ : Env) (M : Mem) (Q : Option Int → Env → Mem → Prop) (K : Option Int → Hp → Prop), Sim N Z F ρ M σ H → wp ρ M Q →
  (∀ i H' F' ρ' M', Sim N Z F' ρ' M' σ H' → Le F F' → Q i ρ' M' → K i H') → t σ H K
theorem pr_none : PR N tNoPart (fun ρ M Q => Q none ρ M) := fun Z σ H F ρ M Q K S hw hk => hk none H F ρ M S (Le.refl _) hw
theorem pr_some {t : TE} {w : WE} (h : ER N t w) : PR N (tPart t) (fun ρ M Q => w ρ M fun x ρ M => ∃ i, x = .int i ∧ Q (some i) ρ M) := fun Z σ H F ρ M Q K S hw hk =>
  h Z σ H F ρ M _ _ S hw fun v H1 F1 d ρ1 M1 S1 l r ⟨i, e, q⟩ => by
    subst e
    exact ⟨i, rep_int.mp r, hk _ H1 F1 ρ1 M1 S1 l q⟩
def rSlAll (K : PySem.W.Frag) : V → Option Int → Option Int → Hp → VK → Prop := fun x lo hi H Q => rSlL K x lo hi H Q ∨ rSlA K x lo hi H Q ∨ rSlS x lo hi H Q
theorem sl_all : SlR X (rSlAll X.K) := sl_list.or (sl_tupA.or sl_str)
theorem cutD_v {F : Hp} {ds : List D} {vs : List V} (r : Reps N F ds vs) (lo hi : Option Int) : Reps N F (cutD ds lo hi) (cutV vs lo hi) := by
  unfold cutD cutV
  rw [r.length]
  exact (r.drop _).take _
theorem cutV_all {vs : List V} {lo hi : Option Int} (h : HT.sIx vs.length 0 lo = 0 ∧ HT.sIx vs.length vs.length hi = vs.length) : cutV vs lo hi = vs := by
  unfold cutV
  rw [h.1, h.2]
  simp
theorem reps_ints {F : Hp} : ∀ ns : List Int, Reps N F (ns.map D.int) (ns.map V.int)
  | [] => reps_nil.mpr rfl
  | n :: ns => reps_cons.mpr ⟨_, _, rfl, int_rep n, reps_ints ns⟩
theorem er_slice {te : TE} {tl th : TO} {we : WE} {wl wh : Env → Mem → (Option Int → Env → Mem → Prop) → Prop} (kl : ∀ a ns, N.kl a ns → ∀ H, SqL X.K H a (ns.map V.int)) (he : ER N te we) (hl : PR N tl wl) (hh : PR N th wh) : ER N (tSl (rSlAll X.K) te tl th) (fun ρ M Q => we ρ M fun x ρ M => wl ρ M fun i ρ M => wh ρ M fun j ρ M => slP (view M x) i j fun z => Q z ρ M) := by
  intro Z σ H F ρ M Q K S hw hk
  refine he Z σ H F ρ M _ _ S hw fun v1 H1 F1 d1 ρ1 M1 S1 l1 r1 q1 => ?_
  refine hl Z σ H1 F1 ρ1 M1 (fun i ρ M => wh ρ M fun j ρ M => slP (view M d1) i j fun z => Q z ρ M) _ S1 q1 fun i H2 F2 ρ2 M2 S2 l2 q2 => ?_
  refine hh Z σ H2 F2 ρ2 M2 (fun j ρ M => slP (view M d1) i j fun z => Q z ρ M) _ S2 q2 fun j H3 F3 ρ3 M3 S3 l3 q3 => ?_
  have rv := (r1.mono (l2.trans l3)).view S3
  have ll := (l1.trans l2).trans l3
  cases e : view M3 d1 with
  | lst ds =>
    rw [e] at rv q3
    obtain ⟨p, vs, rfl, h1, z, r⟩ := rv
    refine .inl ⟨p, vs, rfl, SqL.of h1, fun a ha => ?_⟩
    have le := Le.new (o := .lst (cutV vs i j)) (S3.fnone ha)
    exact hk _ _ _ _ ρ3 M3 (S3.alloc ha) (ll.trans le) (rep_lst.mpr ⟨a, _, rfl, upd_same, Nat.le_trans (cutV_length _ _ _) z, (cutD_v r i j).mono le⟩) q3
  | scr ns =>
    rw [e] at rv q3
    obtain ⟨p, rfl, h1, z⟩ := rep_scr.mp (show Rep N F3 (.scr ns) _ from rv)
    refine .inl ⟨p, ns.map V.int, rfl, scr_sq kl S3 h1, fun a ha => ?_⟩
    have le := Le.new (o := .lst (cutV (ns.map V.int) i j)) (S3.fnone ha)
    exact hk _ _ _ _ ρ3 M3 (S3.alloc ha) (ll.trans le) (rep_lst.mpr ⟨a, _, rfl, upd_same, Nat.le_trans (cutV_length _ _ _) (by rw [List.length_map]; exact z), (cutD_v (reps_ints ns) i j).mono le⟩) q3
  | tup ds =>
    rw [e] at rv q3
    obtain ⟨p, vs, rfl, h1, z, r⟩ := rep_tup.mp (show Rep N F3 (.tup ds) _ from rv)
    refine .inr (.inl ⟨p, vs, rfl, SqT.of (S3.sub _ _ h1), fun hwh => ?_, fun _ a ha => ?_⟩)
    · refine hk _ H3 F3 _ ρ3 M3 S3 ll (rep_tup.mpr ⟨p, vs, rfl, h1, z, ?_⟩) q3
      have := cutD_v r i j
      rwa [cutV_all hwh] at this
    · have le := Le.new (o := .tup (cutV vs i j)) (S3.fnone ha)
      exact hk _ _ _ _ ρ3 M3 (S3.alloc ha) (ll.trans le) (rep_tup.mpr ⟨a, _, rfl, upd_same, Nat.le_trans (cutV_length _ _ _) z, (cutD_v r i j).mono le⟩) q3
  | str s =>
    rw [e] at rv q3
    exact .inr (.inr ⟨s, v_str rv, q3.1, hk _ H3 F3 _ ρ3 M3 S3 ll (rep_str.mpr rfl) q3.2⟩)
  | _ => rw [e] at q3; exact (show False from q3).elim
theorem or_revL {te : TE} {we : WE} (he : ER N te we) : OR' N (tRevL X.K te) (fun ρ M Q => we ρ M fun x ρ M => ∃ ds, view M x = .lst ds ∧ Q (.lst ds.reverse) ρ M) := fun Z σ H F ρ M Q K S hw hk =>
  he Z σ H F ρ M _ _ S hw fun v H1 F1 d ρ1 M1 S1 l r ⟨ds, e, q⟩ => by
    have rv := r.view S1
    rw [e] at rv
    obtain ⟨p, vs, rfl, h1, z, r'⟩ := rv
    exact ⟨p, vs, rfl, SqL.of h1, fun a ha => hk a _ F1 (.L ds.reverse) ρ1 M1 (S1.newO ha ⟨_, upd_same, by rw [List.length_reverse]; exact z, r'.reverse⟩) S1.len l q⟩

/-! ### attributes -/
/-- names of the attributes -/
structure NmOk (B : Tab) (N : Nam) : Prop where
  nms : ∀ c, N.nms c = (B.cfs c).map fun f => (Str.ofString (B.attr f) : Str)
  inj : ∀ c f g, f ∈ B.cfs c → g ∈ B.cfs c → (Str.ofString (B.attr f) : Str) = Str.ofString (B.attr g) → f = g
  few : ∀ c, (B.cfs c).length < 1000
  nd : ∀ c, (B.cfs c).Nodup
theorem posOf_get : ∀ {gs : List Nat} {f k : Nat}, posOf gs f = some k → gs[k]? = some f
  | [], _, _, e => by cases e
  | g :: gs, f, k, e => by
    unfold posOf at e
    split at e
    · cases e; rename_i h; rw [h]; rfl
    · cases q : posOf gs f with
      | none => rw [q] at e; cases e
      | some j => rw [q] at e; cases e; show gs[j]? = some f; exact posOf_get q
theorem lookup_zip {α : Type} : ∀ {xs : List Str} {vs : List α} {k : Nat} {x : Str} {v : α}, xs.Nodup → xs[k]? = some x → vs[k]? = some v → (xs.zip vs).lookup x = some v
  | [], _, _, _, _, _, e, _ => by simp at e
  | _ :: _, [], _, _, _, _, _, e => by simp at e
  | y :: xs, u :: vs, 0, x, v, nd, h1, h2 => by
    simp at h1 h2; subst h1; subst h2
    rw [List.zip_cons_cons, List.lookup_cons, beq_self_eq_true]
  | y :: xs, u :: vs, k + 1, x, v, nd, h1, h2 => by
    have hne : ¬ x = y := by
      rintro rfl
      exact (List.nodup_cons.mp nd).1 (List.mem_of_getElem? (by simpa using h1))
    rw [List.zip_cons_cons, List.lookup_cons, beq_eq_false_iff_ne.mpr hne]
    exact lookup_zip (List.nodup_cons.mp nd).2 (by simpa using h1) (by simpa using h2)
theorem map_nodup {f : Nat → Str} : ∀ {l : List Nat}, l.Nodup → (∀ a b, a ∈ l → b ∈ l → f a = f b → a = b) → (l.map f).Nodup
  | [], _, _ => List.nodup_nil
  | a :: l, nd, h => by
    rw [List.map_cons, List.nodup_cons]
    refine ⟨fun m => ?_, map_nodup (List.nodup_cons.mp nd).2 fun x y hx hy => h x y (List.mem_cons_of_mem _ hx) (List.mem_cons_of_mem _ hy)⟩
    obtain ⟨b, hb, e⟩ := List.mem_map.mp m
    have := h b a (List.mem_cons_of_mem _ hb) List.mem_cons_self e
    subst this
    exact (List.nodup_cons.mp nd).1 hb
theorem NmOk.ndN (h : NmOk B N) (c : Nat) : (N.nms c).Nodup := by
  rw [h.nms c]
  exact map_nodup (h.nd c) (h.inj c)
theorem NmOk.at (h : NmOk B N) {c f k : Nat} (e : posOf (B.cfs c) f = some k) : (N.nms c)[k]? = some (Str.ofString (B.attr f) : Str) := by
  rw [h.nms c, List.getElem?_map, posOf_get e]
  rfl
theorem NmOk.len (h : NmOk B N) (c : Nat) : (N.nms c).length = (B.cfs c).length := by rw [h.nms c, List.length_map]
/-- the classes' facts -/
def ClsOk (K : PySem.W.Frag) (B : Tab) (N : Nam) : Prop := ∀ c f, f ∈ B.cfs c → Cls K (N.cad c) ∧ NoAttr K (N.cad c) (Str.ofString (B.attr f))
theorem attrP_inv {cfs : Nat → List Nat} {M : Mem} {d : D} {f : Nat} {Q : D → Prop} (h : attrP cfs M d f Q) : ∃ c fs k x, (d = .obj c fs ∨ ∃ a, d = .loc a ∧ M a = some (.obj c fs)) ∧ posOf (cfs c) f = some k ∧ fs[k]? = some x ∧ Q x := by
  cases d with
  | obj c fs => obtain ⟨k, x, h1, h2, h3⟩ := h; exact ⟨c, fs, k, x, .inl rfl, h1, h2, h3⟩
  | loc a =>
    have h : (match M a with | some (.obj c fs) => ∃ k x, posOf (cfs c) f = some k ∧ fs[k]? = some x ∧ Q x | _ => False) := h
    cases e : M a with
    | none => rw [e] at h; exact h.elim
    | some mo =>
      rw [e] at h
      cases mo with
      | co c => exact h.elim
      | obj c fs => obtain ⟨k, x, h1, h2, h3⟩ := h; exact ⟨c, fs, k, x, .inr ⟨a, rfl, e⟩, h1, h2, h3⟩
  | _ => exact h.elim
/-- an object with its attributes as it stands -/
theorem Sim.objAt {Z : Ety} {F H : Hp} {ρ : Env} {M : Mem} {σ : St} (S : Sim N Z F ρ M σ H) (hn : NmOk B N) {d : D} {v : V} (r : Rep N F d v) {c : Nat} {fs : List D} (h : d = .obj c fs ∨ ∃ a, d = .loc a ∧ M a = some (.obj c fs)) :
    ∃ a dx vs, v = .ref a ∧ H a = some (.ins (N.cad c) dx (((N.nms c).take vs.length).zip vs)) ∧ vs.length ≤ (N.nms c).length ∧ Reps N F fs vs := by
  rcases h with rfl | ⟨a, rfl, e⟩
  · obtain ⟨a, dx, vs, rfl, h1, h2, h3⟩ := rep_obj.mp r
    refine ⟨a, dx, vs, rfl, ?_, by omega, h3⟩
    rw [← h2, List.take_length]
    exact S.sub _ _ h1
  · rw [rep_loc.mp r]
    obtain ⟨dx, vs, h1, h2, h3⟩ := S.mem a _ e
    exact ⟨a, dx, vs, rfl, h1, h2, h3⟩
theorem look_fs (hn : NmOk B N) {c f k : Nat} {vs : List V} {v : V} (h : posOf (B.cfs c) f = some k) (hv : vs[k]? = some v) : (((N.nms c).take vs.length).zip vs).lookup (Str.ofString (B.attr f) : Str) = some v := by
  have hk : k < vs.length := (List.getElem?_eq_some_iff.mp hv).1
  exact lookup_zip ((hn.ndN c).sublist (List.take_sublist _ _)) (by rw [List.getElem?_take_of_lt hk]; exact hn.at h) hv
theorem er_attr {te : TE} {we : WE} {f : Nat} (hn : NmOk B N) (hc : ClsOk X.K B N) (he : ER N te we) : ER N (tFld X.K te (Str.ofString (B.attr f))) (fun ρ M Q => we ρ M fun x ρ M => attrP B.cfs M x f fun z => Q z ρ M) := fun Z σ H F ρ M Q K S hw hk =>
  he Z σ H F ρ M _ _ S hw fun v H1 F1 d ρ1 M1 S1 l r q => by
    obtain ⟨c, fs, k, x, h1, h2, h3, h4⟩ := attrP_inv q
    obtain ⟨a, dx, vs, rfl, h5, h6, h7⟩ := S1.objAt hn r h1
    obtain ⟨u, h8, h9⟩ := h7.get h3
    have hm : f ∈ B.cfs c := List.mem_of_getElem? (posOf_get h2)
    exact ⟨a, _, dx, _, u, rfl, h5, (hc c f hm).1, (hc c f hm).2, look_fs hn h2 h8, hk _ H1 F1 _ ρ1 M1 S1 l h9 h4⟩
end
end DL

set_option Elab.async false
set_option linter.all false
set_option maxRecDepth 100000
namespace DL
open PySem L2 PySem.W

section
variable {X : Cx} {N : Nam} {B : Tab} {pos : Pos}
theorem dpInts {K : PySem.W.Frag} {H : Hp} : ∀ ns : List Int, DpAll K H (ns.map V.int) (ns.map PyData.int)
  | [] => .nil
  | n :: ns => .cons (.int n) (dpInts ns)
theorem alikeInts (ns : List Int) : AlikeAll (ns.map PyData.int) := by
  refine ⟨fun x hx y hy => ?_, fun x hx => ?_⟩
  · obtain ⟨i, _, rfl⟩ := List.mem_map.mp hx
    obtain ⟨j, _, rfl⟩ := List.mem_map.mp hy
    rfl
  · obtain ⟨i, _, rfl⟩ := List.mem_map.mp hx
    exact fun z => by cases z
theorem depInts : ∀ ns : List Int, PyData.depthAll (ns.map PyData.int) = 0
  | [] => rfl
  | n :: ns => by simp only [List.map_cons, PyData.depthAll, PyData.depth, depInts ns]; rfl
theorem foldl_max : ∀ (ns : List Int) (a : Int), ns.foldl max a ∈ a :: ns ∧ ∀ y ∈ a :: ns, y ≤ ns.foldl max a
  | [], a => ⟨by simp, by simp⟩
  | n :: ns, a => by
    obtain ⟨h1, h2⟩ := foldl_max ns (max a n)
    rw [List.foldl_cons]
    refine ⟨?_, fun y hy => ?_⟩
    · rcases List.mem_cons.mp h1 with e | e
      · rw [e]
        rcases Int.le_total a n with z | z
        · rw [Int.max_eq_right z]; simp
        · rw [Int.max_eq_left z]; simp
      · exact List.mem_cons_of_mem _ (List.mem_cons_of_mem _ e)
    · have h3 := h2 (max a n) List.mem_cons_self
      rcases List.mem_cons.mp hy with rfl | hy
      · exact Int.le_trans (Int.le_max_left _ _) h3
      · rcases List.mem_cons.mp hy with rfl | hy
        · exact Int.le_trans (Int.le_max_right _ _) h3
        · exact h2 y (List.mem_cons_of_mem _ hy)
theorem foldl_min : ∀ (ns : List Int) (a : Int), ns.foldl min a ∈ a :: ns ∧ ∀ y ∈ a :: ns, ns.foldl min a ≤ y
  | [], a => ⟨by simp, by simp⟩
  | n :: ns, a => by
    obtain ⟨h1, h2⟩ := foldl_min ns (min a n)
    rw [List.foldl_cons]
    refine ⟨?_, fun y hy => ?_⟩
    · rcases List.mem_cons.mp h1 with e | e
      · rw [e]
        rcases Int.le_total a n with z | z
        · rw [Int.min_eq_left z]; simp
        · rw [Int.min_eq_right z]; simp
      · exact List.mem_cons_of_mem _ (List.mem_cons_of_mem _ e)
    · have h3 := h2 (min a n) List.mem_cons_self
      rcases List.mem_cons.mp hy with rfl | hy
      · exact Int.le_trans h3 (Int.min_le_left _ _)
      · rcases List.mem_cons.mp hy with rfl | hy
        · exact Int.le_trans h3 (Int.min_le_right _ _)
        · exact h2 y (List.mem_cons_of_mem _ hy)
theorem reads_int {h : Heap} {v : Value} {k : Int} {as : List Addr} (r : Reads h v (.int k) as) : ∃ t, v = .int k t := by
  cases r
  exact ⟨_, rfl⟩
def rMaxDf (K : PySem.W.Frag) : List V → List V → Hp → VK → Prop := fun vs zs H Q => ∃ (a : Addr) (ns : List Int) (d : V), vs = [V.ref a] ∧ zs = [d] ∧ SqL K H a (ns.map V.int) ∧ (ns = [] → Q d H) ∧ ∀ m, m ∈ ns → (∀ y, y ∈ ns → y ≤ m) → Q (.int m) H
def rMinDf (K : PySem.W.Frag) : List V → List V → Hp → VK → Prop := fun vs zs H Q => ∃ (a : Addr) (ns : List Int) (d : V), vs = [V.ref a] ∧ zs = [d] ∧ SqL K H a (ns.map V.int) ∧ (ns = [] → Q d H) ∧ ∀ m, m ∈ ns → (∀ y, y ∈ ns → m ≤ y) → Q (.int m) H
theorem cr_maxDf (hc : X.calm = true) (hu : X.A.units + 64 < cLine) : CallRK X (.builtin "max") [Str.ofString "default"] (rMaxDf X.K) := by
  intro pins s σ H xs zs us ws Q I r1 r2 h
  obtain ⟨a, ns, d, rfl, rfl, hs, h0, h1⟩ := h
  obtain ⟨its, rv, hl, _⟩ := I.list hs
  rw [Vals.ref1 r1]
  obtain ⟨u, rfl, ru⟩ := vals1 r2
  obtain ⟨as, hr⟩ := Dp.readsAll I (ns.map PyData.int) _ its (dpInts ns) rv
  refine max_list_default (I.ok.hd hc) hl.isList (by simpa using hr) (alikeInts ns) (by rw [depInts]; omega) (fun e h' tk k => ?_) fun y ys i v h' tk bs e hv hR k => ?_
  · exact ⟨d, H, I.kept k, ru, h0 (by simpa using e)⟩
  · cases ns with
    | nil => cases e
    | cons n ns =>
      simp only [List.map_cons, List.cons.injEq] at e
      obtain ⟨rfl, rfl⟩ := e
      rw [maxD_ints] at hR
      obtain ⟨t, rfl⟩ := reads_int hR
      obtain ⟨q1, q2⟩ := foldl_max ns n
      exact ⟨.int _, H, I.kept k, ⟨t, rfl⟩, h1 _ q1 q2⟩
theorem cr_minDf (hc : X.calm = true) (hu : X.A.units + 64 < cLine) : CallRK X (.builtin "min") [Str.ofString "default"] (rMinDf X.K) := by
  intro pins s σ H xs zs us ws Q I r1 r2 h
  obtain ⟨a, ns, d, rfl, rfl, hs, h0, h1⟩ := h
  obtain ⟨its, rv, hl, _⟩ := I.list hs
  rw [Vals.ref1 r1]
  obtain ⟨u, rfl, ru⟩ := vals1 r2
  obtain ⟨as, hr⟩ := Dp.readsAll I (ns.map PyData.int) _ its (dpInts ns) rv
  refine min_list_default (I.ok.hd hc) hl.isList (by simpa using hr) (alikeInts ns) (by rw [depInts]; omega) (fun e h' tk k => ?_) fun y ys i v h' tk bs e hv hR k => ?_
  · exact ⟨d, H, I.kept k, ru, h0 (by simpa using e)⟩
  · cases ns with
    | nil => cases e
    | cons n ns =>
      simp only [List.map_cons, List.cons.injEq] at e
      obtain ⟨rfl, rfl⟩ := e
      rw [minD_ints] at hR
      obtain ⟨t, rfl⟩ := reads_int hR
      obtain ⟨q1, q2⟩ := foldl_min ns n
      exact ⟨.int _, H, I.kept k, ⟨t, rfl⟩, h1 _ q1 q2⟩

/-! ### built-ins by values -/
def CRb (N : Nam) (r : List V → Hp → VK → Prop) (p : Mem → List D → (D → Prop) → Prop) : Prop :=
  ∀ (Z : Ety) (σ : St) (H F : Hp) (ρ : Env) (M : Mem) (vs : List V) (ds : List D) (Q : D → Prop) (K : VK), Sim N Z F ρ M σ H → Reps N F ds vs → p M ds Q →
    (∀ v H' F' d, Sim N Z F' ρ M σ H' → Le F F' → Rep N F' d v → Q d → K v H') → r vs H K
theorem er_cb {r : List V → Hp → VK → Prop} {p : Mem → List D → (D → Prop) → Prop} {ta : TA} {wa : WA} (h : AR N ta wa) (hr : CRb N r p) : ER N (tCB r ta) (fun ρ M Q => wa ρ M fun ds ρ M => p M ds fun z => Q z ρ M) := fun Z σ H F ρ M Q K S hw hk =>
  h Z σ H F ρ M _ _ S hw fun vs H1 F1 ds ρ1 M1 S1 l r1 q => hr Z σ H1 F1 ρ1 M1 vs ds _ K S1 r1 q fun v H' F' d S' l' r' q' => hk v H' F' d ρ1 M1 S' (l.trans l') r' q'
theorem reps1 {F : Hp} {d : D} {vs : List V} (r : Reps N F [d] vs) : ∃ v, vs = [v] ∧ Rep N F d v := by
  obtain ⟨v, t, rfl, q, w⟩ := reps_cons.mp r
  rw [reps_nil.mp w]
  exact ⟨v, rfl, q⟩
theorem reps2 {F : Hp} {d e : D} {vs : List V} (r : Reps N F [d, e] vs) : ∃ v u, vs = [v, u] ∧ Rep N F d v ∧ Rep N F e u := by
  obtain ⟨v, t, rfl, q, w⟩ := reps_cons.mp r
  obtain ⟨u, rfl, q2⟩ := reps1 w
  exact ⟨v, u, rfl, q, q2⟩
def rLen (K : PySem.W.Frag) : List V → Hp → VK → Prop := fun xs H Q => (∃ p ys, xs = [.ref p] ∧ (SqL K H p ys ∨ SqT K H p ys) ∧ Q (.int ys.length) H) ∨ (∃ z, xs = [.str z] ∧ z.length ≤ sizeLine ∧ Q (.int z.length) H) ∨ ∃ a kvs, xs = [V.ref a] ∧ H a = some (.dK kvs) ∧ Q (.int kvs.length) H
theorem cl_len : CallR X (.builtin "len") (rLen X.K) := call_len_seq.or (call_len_str.or call_lenD)
theorem lenP_ok (kl : ∀ a ns, N.kl a ns → ∀ H, SqL X.K H a (ns.map V.int)) {Z : Ety} {F H : Hp} {ρ : Env} {M : Mem} {σ : St} (S : Sim N Z F ρ M σ H) {d : D} {v : V} {Q : Nat → Prop} {K : VK} (r : VRep N F H d v) (h : lenP d Q) (hk : ∀ n, Q n → K (.int n) H) : rLen X.K [v] H K := by
  cases d with
  | lst ds =>
    obtain ⟨a, vs, rfl, e, z, q⟩ := r
    exact .inl ⟨a, vs, rfl, .inl (SqL.of e), by rw [q.length]; exact hk _ h⟩
  | tup ds =>
    obtain ⟨a, vs, rfl, e, z, q⟩ := rep_tup.mp (show Rep N F (.tup ds) v from r)
    exact .inl ⟨a, vs, rfl, .inr (SqT.of (S.sub _ _ e)), by rw [q.length]; exact hk _ h⟩
  | str s => exact .inr (.inl ⟨s, by rw [v_str r], h.1, hk _ h.2⟩)
  | dct ks ds =>
    obtain ⟨a, vs, rfl, e, z, q⟩ := r
    refine .inr (.inr ⟨a, _, rfl, e, ?_⟩)
    rw [List.length_zip, ← z, Nat.min_self]
    exact hk _ h
  | scr ns =>
    obtain ⟨a, rfl, e, z⟩ := rep_scr.mp (show Rep N F (.scr ns) v from r)
    exact .inl ⟨a, _, rfl, .inl (scr_sq kl S e), by rw [List.length_map]; exact hk _ h⟩
  | _ => exact (show False from h).elim
theorem cb_len (kl : ∀ a ns, N.kl a ns → ∀ H, SqL X.K H a (ns.map V.int)) : CRb N (rLen X.K) (fun M => biP M .len) := fun Z σ H F ρ M vs ds Q K S r h hk => by
  obtain ⟨d, rfl, h⟩ := h
  obtain ⟨v, rfl, q⟩ := reps1 r
  exact lenP_ok kl S (q.view S) h fun n z => hk _ H F _ S (Le.refl _) (int_rep _) z
theorem cb_abs : CRb N (fun xs H Q => ∃ i, xs = [.int i] ∧ Q (.int (if i < 0 then -i else i)) H) (fun M => biP M .abs) := fun Z σ H F ρ M vs ds Q K S r h hk => by
  obtain ⟨i, rfl, h⟩ := h
  obtain ⟨v, rfl, q⟩ := reps1 r
  exact ⟨i, by rw [rep_int.mp q], hk _ H F _ S (Le.refl _) (int_rep _) h⟩
theorem cb_max2 : CRb N (fun xs H Q => ∃ i j, xs = [.int i, .int j] ∧ Q (.int (if j > i then j else i)) H) (fun M => biP M .max2) := fun Z σ H F ρ M vs ds Q K S r h hk => by
  obtain ⟨i, j, rfl, h⟩ := h
  obtain ⟨v, u, rfl, q, q2⟩ := reps2 r
  exact ⟨i, j, by rw [rep_int.mp q, rep_int.mp q2], hk _ H F _ S (Le.refl _) (int_rep _) h⟩
theorem cb_min2 : CRb N (fun xs H Q => ∃ i j, xs = [.int i, .int j] ∧ Q (.int (if j < i then j else i)) H) (fun M => biP M .min2) := fun Z σ H F ρ M vs ds Q K S r h hk => by
  obtain ⟨i, j, rfl, h⟩ := h
  obtain ⟨v, u, rfl, q, q2⟩ := reps2 r
  exact ⟨i, j, by rw [rep_int.mp q, rep_int.mp q2], hk _ H F _ S (Le.refl _) (int_rep _) h⟩
theorem reps_intv {F : Hp} : ∀ {ns : List Int} {vs : List V}, Reps N F (ns.map D.int) vs → vs = ns.map V.int
  | [], vs, r => reps_nil.mp r
  | n :: ns, vs, r => by
    obtain ⟨v, t, rfl, q, w⟩ := reps_cons.mp r
    rw [rep_int.mp q, reps_intv w]; rfl
theorem reps_blv {F : Hp} : ∀ {ns : List Bool} {vs : List V}, Reps N F (ns.map D.bl) vs → vs = ns.map V.bl
  | [], vs, r => reps_nil.mp r
  | n :: ns, vs, r => by
    obtain ⟨v, t, rfl, q, w⟩ := reps_cons.mp r
    rw [rep_bl.mp q, reps_blv w]; rfl
theorem len_pos {ns : List Int} (h : ns ≠ []) : 0 < ns.length := List.length_pos_iff.mpr h
theorem cb_maxL : CRb N (rMax X.K) (fun M => biP M .maxL) := fun Z σ H F ρ M vs ds Q K S r h hk => by
  obtain ⟨es, ns, rfl, rfl, hne, h⟩ := h
  obtain ⟨v, rfl, q⟩ := reps1 r
  obtain ⟨a, us, rfl, e, z, w⟩ := rep_lst.mp q
  exact ⟨a, ns, rfl, by rw [← reps_intv w]; exact SqL.of (S.sub _ _ e), len_pos hne, fun m h1 h2 => hk _ H F _ S (Le.refl _) (int_rep _) (h m h1 h2)⟩
theorem cb_minL : CRb N (rMin X.K) (fun M => biP M .minL) := fun Z σ H F ρ M vs ds Q K S r h hk => by
  obtain ⟨es, ns, rfl, rfl, hne, h⟩ := h
  obtain ⟨v, rfl, q⟩ := reps1 r
  obtain ⟨a, us, rfl, e, z, w⟩ := rep_lst.mp q
  exact ⟨a, ns, rfl, by rw [← reps_intv w]; exact SqL.of (S.sub _ _ e), len_pos hne, fun m h1 h2 => hk _ H F _ S (Le.refl _) (int_rep _) (h m h1 h2)⟩
theorem cb_sum : CRb N (rSum X.K) (fun M => biP M .sum) := fun Z σ H F ρ M vs ds Q K S r h hk => by
  obtain ⟨es, ns, rfl, rfl, h⟩ := h
  obtain ⟨v, rfl, q⟩ := reps1 r
  obtain ⟨a, us, rfl, e, z, w⟩ := rep_lst.mp q
  exact ⟨a, ns, rfl, by rw [← reps_intv w]; exact SqL.of (S.sub _ _ e), hk _ H F _ S (Le.refl _) (int_rep _) h⟩
theorem cb_all : CRb N (rAll X.K) (fun M => biP M .all) := fun Z σ H F ρ M vs ds Q K S r h hk => by
  obtain ⟨es, ns, rfl, rfl, h⟩ := h
  obtain ⟨v, rfl, q⟩ := reps1 r
  obtain ⟨a, us, rfl, e, z, w⟩ := rep_lst.mp q
  exact ⟨a, ns, rfl, by rw [← reps_blv w]; exact SqL.of (S.sub _ _ e), hk _ H F _ S (Le.refl _) (bl_rep _) h⟩
theorem cb_any : CRb N (rAny X.K) (fun M => biP M .any) := fun Z σ H F ρ M vs ds Q K S r h hk => by
  obtain ⟨es, ns, rfl, rfl, h⟩ := h
  obtain ⟨v, rfl, q⟩ := reps1 r
  obtain ⟨a, us, rfl, e, z, w⟩ := rep_lst.mp q
  exact ⟨a, ns, rfl, by rw [← reps_blv w]; exact SqL.of (S.sub _ _ e), hk _ H F _ S (Le.refl _) (bl_rep _) h⟩
/-- default= -/
theorem er_dflt {r : List V → List V → Hp → VK → Prop} {p : Mem → List D → (D → Prop) → Prop} {ta tk : TA} {te td : TE} {we wd : WE} (h1 : ER N te we) (h2 : ER N td wd)
    (hr : ∀ (Z : Ety) (σ : St) (H F : Hp) (ρ : Env) (M : Mem) (v u : V) (d e : D) (Q : D → Prop) (K : VK), Sim N Z F ρ M σ H → Rep N F d v → Rep N F e u → p M [d, e] Q → (∀ v H' F' d, Sim N Z F' ρ M σ H' → Le F F' → Rep N F' d v → Q d → K v H') → r [v] [u] H K) :
    ER N (tCKw r (tCons te tNil) (tCons td tNil)) (fun ρ M Q => we ρ M fun x ρ M => wd ρ M fun y ρ M => p M [x, y] fun z => Q z ρ M) := fun Z σ H F ρ M Q K S hw hk =>
  h1 Z σ H F ρ M _ _ S hw fun v1 H1 F1 d1 ρ1 M1 S1 l1 r1 q1 => h2 Z σ H1 F1 ρ1 M1 _ _ S1 q1 fun v2 H2 F2 d2 ρ2 M2 S2 l2 r2 q2 =>
    hr Z σ H2 F2 ρ2 M2 v1 v2 d1 d2 _ K S2 (r1.mono l2) r2 q2 fun v H' F' d S' l' r' q' => hk v H' F' d ρ2 M2 S' ((l1.trans l2).trans l') r' q'
theorem kb_maxD (Z : Ety) (σ : St) (H F : Hp) (ρ : Env) (M : Mem) (v u : V) (d e : D) (Q : D → Prop) (K : VK) (S : Sim N Z F ρ M σ H) (r1 : Rep N F d v) (r2 : Rep N F e u) (h : biP M .maxD [d, e] Q) (hk : ∀ v H' F' d, Sim N Z F' ρ M σ H' → Le F F' → Rep N F' d v → Q d → K v H') : rMaxDf X.K [v] [u] H K := by
  obtain ⟨es, x, ns, e1, rfl, h0, h1⟩ := h
  cases e1
  obtain ⟨a, us, rfl, e, z, w⟩ := rep_lst.mp r1
  exact ⟨a, ns, u, rfl, rfl, by rw [← reps_intv w]; exact SqL.of (S.sub _ _ e), fun e => hk _ H F _ S (Le.refl _) r2 (h0 e), fun m q1 q2 => hk _ H F _ S (Le.refl _) (int_rep _) (h1 m q1 q2)⟩
theorem kb_minD (Z : Ety) (σ : St) (H F : Hp) (ρ : Env) (M : Mem) (v u : V) (d e : D) (Q : D → Prop) (K : VK) (S : Sim N Z F ρ M σ H) (r1 : Rep N F d v) (r2 : Rep N F e u) (h : biP M .minD [d, e] Q) (hk : ∀ v H' F' d, Sim N Z F' ρ M σ H' → Le F F' → Rep N F' d v → Q d → K v H') : rMinDf X.K [v] [u] H K := by
  obtain ⟨es, x, ns, e1, rfl, h0, h1⟩ := h
  cases e1
  obtain ⟨a, us, rfl, e, z, w⟩ := rep_lst.mp r1
  exact ⟨a, ns, u, rfl, rfl, by rw [← reps_intv w]; exact SqL.of (S.sub _ _ e), fun e => hk _ H F _ S (Le.refl _) r2 (h0 e), fun m q1 q2 => hk _ H F _ S (Le.refl _) (int_rep _) (h1 m q1 q2)⟩
theorem seq_v {Z : Ety} {F H : Hp} {ρ : Env} {M : Mem} {σ : St} (S : Sim N Z F ρ M σ H) {d : D} {v : V} {es : List D} (r : VRep N F H d v) (h : seqOf d = some es) : ∃ p vs, v = .ref p ∧ (H p = some (.lst vs) ∨ (H p = some (.tup vs) ∧ F p = some (.tup vs))) ∧ vs.length ≤ sizeLine ∧ Reps N F es vs := by
  cases d with
  | lst ds => cases h; obtain ⟨a, vs, rfl, e, z, q⟩ := r; exact ⟨a, vs, rfl, .inl e, z, q⟩
  | tup ds => cases h; obtain ⟨a, vs, rfl, e, z, q⟩ := rep_tup.mp (show Rep N F (.tup _) v from r); exact ⟨a, vs, rfl, .inr ⟨S.sub _ _ e, e⟩, z, q⟩
  | _ => cases h
/-- built-ins whose answer is a new list -/
theorem or_list {ta : TA} {wa : WA} (h : AR N ta wa) : OR' N (tCB (fun xs H Q => ∃ p ys, xs = [.ref p] ∧ (SqL X.K H p ys ∨ SqT X.K H p ys) ∧ ∀ l, H l = none → Q (.ref l) (upd H l (.lst ys))) ta) (fun ρ M Q => wa ρ M fun ds ρ M => biP M .list ds fun z => Q z ρ M) := fun Z σ H F ρ M Q K S hw hk =>
  h Z σ H F ρ M _ _ S hw fun vs H1 F1 ds ρ1 M1 S1 l r q => by
    obtain ⟨d, es, rfl, h1, h2⟩ := q
    obtain ⟨v, rfl, r1⟩ := reps1 r
    obtain ⟨p, us, rfl, hp, z, w⟩ := seq_v S1 (r1.view S1) h1
    exact ⟨p, us, rfl, hp.elim (fun e => .inl (SqL.of e)) fun e => .inr (SqT.of e.1), fun a ha => hk a _ F1 (.L es) ρ1 M1 (S1.newO ha ⟨us, upd_same, z, w⟩) S1.len l h2⟩
theorem cb_tuple : CRb N (fun xs H Q => ∃ p ys, xs = [.ref p] ∧ ((SqL X.K H p ys ∧ ∀ l, H l = none → Q (.ref l) (upd H l (.tup ys))) ∨ (SqT X.K H p ys ∧ Q (.ref p) H))) (fun M => biP M .tuple) := fun Z σ H F ρ M vs ds Q K S r h hk => by
  obtain ⟨d, es, rfl, h1, h2⟩ := h
  obtain ⟨v, rfl, r1⟩ := reps1 r
  obtain ⟨p, us, rfl, hp, z, w⟩ := seq_v S (r1.view S) h1
  rcases hp with e | ⟨e, e'⟩
  · refine ⟨p, us, rfl, .inl ⟨SqL.of e, fun a ha => ?_⟩⟩
    have le := Le.new (o := .tup us) (S.fnone ha)
    exact hk _ _ _ _ (S.alloc ha) le (rep_tup.mpr ⟨a, us, rfl, upd_same, z, w.mono le⟩) h2
  · exact ⟨p, us, rfl, .inr ⟨SqT.of e, hk _ H F _ S (Le.refl _) (rep_tup.mpr ⟨p, us, rfl, e', z, w⟩) h2⟩⟩
theorem reps_strs {F : Hp} : ∀ ns : List Str, Reps N F (ns.map D.str) (ns.map V.str)
  | [] => reps_nil.mpr rfl
  | n :: ns => reps_cons.mpr ⟨_, _, rfl, rep_str.mpr rfl, reps_strs ns⟩
theorem reps_strv {F : Hp} : ∀ {ns : List Str} {vs : List V}, Reps N F (ns.map D.str) vs → vs = ns.map V.str
  | [], vs, r => reps_nil.mp r
  | n :: ns, vs, r => by
    obtain ⟨v, t, rfl, q, w⟩ := reps_cons.mp r
    rw [rep_str.mp q, reps_strv w]; rfl
theorem perm_line {α : Type} {a b : List α} (h : a.Perm b) (z : b.length < 64) {β : Type} (f : α → β) : (a.map f).length ≤ sizeLine := by
  rw [List.length_map, h.length_eq]; exact small64 z
theorem or_sorted {ta : TA} {wa : WA} (h : AR N ta wa) : OR' N (tCB (rSorted X.K) ta) (fun ρ M Q => wa ρ M fun ds ρ M => biP M .sorted ds fun z => Q z ρ M) := fun Z σ H F ρ M Q K S hw hk =>
  h Z σ H F ρ M _ _ S hw fun vs H1 F1 ds ρ1 M1 S1 l r q => by
    obtain ⟨es, ns, rfl, rfl, hl, h2⟩ := q
    obtain ⟨v, rfl, r1⟩ := reps1 r
    obtain ⟨a, us, rfl, e, z, w⟩ := rep_lst.mp r1
    refine ⟨a, ns, rfl, by rw [← reps_intv w]; exact SqL.of (S1.sub _ _ e), hl, fun ms p hp hs ha => ?_⟩
    exact hk p _ F1 (.L (ms.map .int)) ρ1 M1 (S1.newO ha ⟨_, upd_same, perm_line hp hl _, reps_ints ms⟩) S1.len l (h2 ms hp hs)
theorem or_sortedS {ta : TA} {wa : WA} (h : AR N ta wa) : OR' N (tCB (rSortedS X.K) ta) (fun ρ M Q => wa ρ M fun ds ρ M => biP M .sortedS ds fun z => Q z ρ M) := fun Z σ H F ρ M Q K S hw hk =>
  h Z σ H F ρ M _ _ S hw fun vs H1 F1 ds ρ1 M1 S1 l r q => by
    obtain ⟨es, ns, rfl, rfl, hl, h2⟩ := q
    obtain ⟨v, rfl, r1⟩ := reps1 r
    obtain ⟨a, us, rfl, e, z, w⟩ := rep_lst.mp r1
    refine ⟨a, ns, rfl, by rw [← reps_strv w]; exact SqL.of (S1.sub _ _ e), hl, fun ms p hp hs ha => ?_⟩
    exact hk p _ F1 (.L (ms.map .str)) ρ1 M1 (S1.newO ha ⟨_, upd_same, perm_line hp hl _, reps_strs ms⟩) S1.len l (h2 ms hp hs)
def rSDI : List V → Hp → VK → Prop := fun xs H Q => ∃ (a : Addr) (kvs : List (Key × V)) (ks : List Int), xs = [.ref a] ∧ Rd H a (.dK kvs) ∧ kvs.map (·.1) = ks.map Sum.inl ∧ ks.length < 64 ∧
    ∀ (ys : List Int) (p : Addr), ys.Perm ks → ys.Pairwise (· ≤ ·) → H p = none → Q (.ref p) (upd H p (.lst (ys.map V.int)))
def rSDS : List V → Hp → VK → Prop := fun xs H Q => ∃ (a : Addr) (kvs : List (Key × V)) (ks : List Str), xs = [.ref a] ∧ Rd H a (.dK kvs) ∧ kvs.map (·.1) = ks.map Sum.inr ∧ ks.length < 64 ∧
    ∀ ys p, ys.Perm ks → PyProof.Rows.sortedS ys = true → H p = none → Q (.ref p) (upd H p (.lst (ys.map V.str)))
theorem zip_fst {α β : Type} : ∀ {xs : List α} {ys : List β}, xs.length = ys.length → (xs.zip ys).map (·.1) = xs
  | [], _, _ => rfl
  | x :: xs, [], h => by cases h
  | x :: xs, y :: ys, h => by rw [List.zip_cons_cons, List.map_cons, zip_fst (by simpa using h)]
theorem or_sDI {ta : TA} {wa : WA} (h : AR N ta wa) : OR' N (tCB rSDI ta) (fun ρ M Q => wa ρ M fun ds ρ M => biP M .sortedDI ds fun z => Q z ρ M) := fun Z σ H F ρ M Q K S hw hk =>
  h Z σ H F ρ M _ _ S hw fun vs H1 F1 ds ρ1 M1 S1 l r q => by
    obtain ⟨d, ks, es, ns, rfl, hv, rfl, hl, h2⟩ := q
    obtain ⟨v, rfl, r1⟩ := reps1 r
    have rv := r1.view S1
    rw [hv] at rv
    obtain ⟨a, us, rfl, e, z, z2, z3, w⟩ := rv
    refine ⟨a, _, ns, rfl, .inl e, zip_fst z, hl, fun ms p hp hs ha => ?_⟩
    exact hk p _ F1 (.L (ms.map .int)) ρ1 M1 (S1.newO ha ⟨_, upd_same, perm_line hp hl _, reps_ints ms⟩) S1.len l (h2 ms hp hs)
theorem or_sDS {ta : TA} {wa : WA} (h : AR N ta wa) : OR' N (tCB rSDS ta) (fun ρ M Q => wa ρ M fun ds ρ M => biP M .sortedDS ds fun z => Q z ρ M) := fun Z σ H F ρ M Q K S hw hk =>
  h Z σ H F ρ M _ _ S hw fun vs H1 F1 ds ρ1 M1 S1 l r q => by
    obtain ⟨d, ks, es, ns, rfl, hv, rfl, hl, h2⟩ := q
    obtain ⟨v, rfl, r1⟩ := reps1 r
    have rv := r1.view S1
    rw [hv] at rv
    obtain ⟨a, us, rfl, e, z, z2, z3, w⟩ := rv
    refine ⟨a, _, ns, rfl, .inl e, zip_fst z, hl, fun ms p hp hs ha => ?_⟩
    exact hk p _ F1 (.L (ms.map .str)) ρ1 M1 (S1.newO ha ⟨_, upd_same, perm_line hp hl _, reps_strs ms⟩) S1.len l (h2 ms hp hs)

/-! ### isinstance with built-in classes -/
def tyN : D → Option String
  | .int _ => some "int" | .bl _ => some "bool" | .str _ => some "str" | .non => some "NoneType" | .tup _ => some "tuple" | .lst _ => some "list" | .dct _ _ => some "dict"
  | _ => none
theorem ty_of {K : PySem.W.Frag} {F H : Hp} (sub : ∀ a o, F a = some o → H a = some o) {d : D} {v : V} {n : String} (r : VRep N F H d v) (h : tyN d = some n) : TyX K H v (.type n) := by
  cases d with
  | int i => cases h; rw [v_int r]; exact .base (.int i)
  | bl i => cases h; rw [v_bl r]; exact .base (.bl i)
  | str i => cases h; rw [v_str r]; exact .base (.str i)
  | non => cases h; rw [rep_non.mp (show Rep N F .non v from r)]; exact .base .non
  | tup ds => cases h; obtain ⟨a, vs, rfl, e, z, q⟩ := rep_tup.mp (show Rep N F (.tup _) v from r); exact .base (.tup (sub _ _ e))
  | lst ds => cases h; obtain ⟨a, vs, rfl, e, z, q⟩ := r; exact .base (.lst e)
  | dct ks ds => cases h; obtain ⟨a, vs, rfl, e, z, q⟩ := r; exact .base (.dK e)
  | _ => cases h
theorem isiB_of {d : D} {t : Ty} {b : Bool} (h : isiB d t = some b) : ∃ n x, tyN d = some n ∧ t = .b x ∧ kitB n x = some b := by
  cases t with
  | c k => cases d <;> cases h
  | b x => cases d <;> first | exact ⟨_, x, rfl, rfl, h⟩ | cases h
/-- one class -/
theorem er_isi1 {te : TE} {we : WE} {x : String} (he : ER N te we) : ER N (tCB (rIsi X.K) (tCons te (tCons (tC (.ty x)) tNil))) (fun ρ M Q => we ρ M fun y ρ M => ∃ b, isiP (view M y) [.b x] = some b ∧ Q (.bl b) ρ M) := fun Z σ H F ρ M Q K S hw hk =>
  he Z σ H F ρ M _ _ S hw fun v H1 F1 d ρ1 M1 S1 l r ⟨b, e, q⟩ => by
    have e2 : isiB (view M1 d) (.b x) = some b := by
      unfold isiP at e
      cases g : isiB (view M1 d) (.b x) with
      | none => rw [g] at e; cases e
      | some c => rw [g] at e; cases c <;> exact e
    obtain ⟨n, x', h1, h2, h3⟩ := isiB_of e2
    cases h2
    exact ⟨v, .ty x, .type n, .type x, b, rfl, .ty x, ty_of S1.sub (r.view S1) h1, kit_ty h3, hk _ H1 F1 _ ρ1 M1 S1 l (bl_rep _) q⟩
/-- two classes in a tuple -/
theorem kitAny2 {K : PySem.W.Frag} {d : D} {n x y : String} {b : Bool} (hn : tyN d = some n) (h : isiP d [.b x, .b y] = some b) : PySem.W.kitAny K (.type n) [.type x, .type y] = some b := by
  unfold isiP at h
  cases g : isiB d (.b x) with
  | none => rw [g] at h; cases h
  | some c =>
    rw [g] at h
    obtain ⟨n', x', h1, h2, h3⟩ := isiB_of g
    cases h2
    rw [hn] at h1; cases h1
    cases c with
    | true => cases h; exact kitAny_cons (kit_ty h3) (fun z => by cases z) fun _ => rfl
    | false =>
      have h : isiP d [.b y] = some b := h
      unfold isiP at h
      cases g2 : isiB d (.b y) with
      | none => rw [g2] at h; cases h
      | some c2 =>
        rw [g2] at h
        obtain ⟨n'', x'', k1, k2, k3⟩ := isiB_of g2
        cases k2
        rw [hn] at k1; cases k1
        refine kitAny_cons (kit_ty h3) (fun _ => ?_) fun z => by cases z
        cases c2 with
        | true => cases h; exact kitAny_cons (kit_ty k3) (fun z => by cases z) fun _ => rfl
        | false => cases h; exact kitAny_cons (kit_ty k3) (fun _ => kitAny_nil) fun z => by cases z
theorem isiP_ty {d : D} {x : String} {ts : List Ty} {b : Bool} (h : isiP d (.b x :: ts) = some b) : ∃ n, tyN d = some n := by
  unfold isiP at h
  cases g : isiB d (.b x) with
  | none => rw [g] at h; cases h
  | some c => obtain ⟨n, _, h1, _⟩ := isiB_of g; exact ⟨n, h1⟩
theorem er_isi2 {te : TE} {we : WE} {x y : String} (he : ER N te we) : ER N (tCB (rIsiT X.K) (tCons te (tCons (tTup (tCons (tC (.ty x)) (tCons (tC (.ty y)) tNil))) tNil))) (fun ρ M Q => we ρ M fun z ρ M => ∃ b, isiP (view M z) [.b x, .b y] = some b ∧ Q (.bl b) ρ M) := fun Z σ H F ρ M Q K S hw hk =>
  he Z σ H F ρ M _ _ S hw fun v H1 F1 d ρ1 M1 S1 l r ⟨b, e, q⟩ => by
    obtain ⟨n, hn⟩ := isiP_ty e
    refine ⟨by show 2 ≤ sizeLine; decide, fun p hp => ?_⟩
    have S2 := S1.more (o := .tup [V.ty x, V.ty y]) hp
    have rv : VRep N F1 (upd H1 p (.tup [V.ty x, V.ty y])) (view M1 d) v := r.view S2
    exact ⟨v, p, [.ty x, .ty y], .type n, [.type x, .type y], b, rfl, upd_same, .cons (.ty x) (.cons (.ty y) .nil), ty_of S2.sub rv hn, kitAny2 hn e, hk _ _ F1 _ ρ1 M1 S2 l (bl_rep _) q⟩
end
end DL

set_option Elab.async false
set_option linter.all false
set_option maxRecDepth 100000
namespace DL
open PySem L2 PySem.W

theorem upd_id {H : Hp} {p : Addr} {o : HO} (h : H p = some o) : upd H p o = H := by
  funext b
  by_cases z : b = p
  · subst z; rw [upd_same, h]
  · rw [upd_ne z]
section
variable {X : Cx} {N : Nam} {B : Tab} {pos : Pos}
def rSetd : V → List V → Hp → VK → Prop := fun x vs H Q => ∃ (a : Addr) (kvs : List (Key × V)) (k : Key) (d : V), x = .ref a ∧ vs = [kV k, d] ∧ H a = some (.dK kvs) ∧ kvs.length < sizeLine ∧
  (∀ v, valV kvs k = some v → Q v H) ∧ (valV kvs k = none → Q d (upd H a (.dK (putK kvs k d))))
theorem mt_setd : MtR X "dict.setdefault" rSetd := by
  intro pins s σ H x vs v us Q I rx rv h
  obtain ⟨a, kvs, k, d, rfl, rfl, hH, hz, h1, h2⟩ := h
  cases rx
  obtain ⟨u, w', rfl, ru, rw'⟩ := rv.two
  exact d_setd I hH ru rw' hz (fun v hv w' s' I' r => ⟨v, H, I', r, h1 v hv⟩) fun hn w' s' I' r => ⟨d, _, I', r, h2 hn⟩
/-- a method that changes a container, by values -/
def PMok (N : Nam) (m : PM) (r : V → List V → Hp → VK → Prop) : Prop :=
  ∀ (F H : Hp) (p : Addr) (c : CO) (ds : List D) (vs : List V) (Q : D → CO → Prop) (K : VK), (∀ a o, F a = some o → H a = some o) → CoOk N F H p c → Reps N F ds vs → pmP m c ds Q →
    (∀ v d c' ho, Rep N F d v → CoOk N F (upd H p ho) p c' → Q d c' → K v (upd H p ho)) → r (.ref p) vs H K
theorem pm_append : PMok N .append rAppend := fun F H p c ds vs Q K sub x r h hk => by
  cases c with
  | K ks es => exact (show False by cases ds <;> exact h).elim
  | L es =>
    match ds, r, h with
    | [d], r, h =>
      obtain ⟨v, rfl, q⟩ := reps1 r
      obtain ⟨us, e, z, w⟩ := x
      have hl := w.length
      refine ⟨p, us, v, rfl, rfl, e, by rw [hl]; exact h.1, hk _ .non (.L (es ++ [d])) _ (rep_non.mpr rfl) ⟨_, upd_same, ?_, w.append (.one q)⟩ h.2⟩
      rw [List.length_append, hl]; exact h.1
    | [], r, h => exact (show False from h).elim
    | _ :: _ :: _, r, h => exact (show False from h).elim
theorem pm_extend : PMok N .extend rExtend := fun F H p c ds vs Q K sub x r h hk => by
  cases c with
  | K ks es => exact (show False by cases ds <;> exact h).elim
  | L es =>
    match ds, r, h with
    | [d], r, h =>
      cases d with
      | lst fs =>
        obtain ⟨v, rfl, q⟩ := reps1 r
        obtain ⟨us, e, z, w⟩ := x
        obtain ⟨b, zs, rfl, e2, z2, w2⟩ := rep_lst.mp q
        have hl : us.length + zs.length ≤ sizeLine := by rw [w.length, w2.length]; exact h.1
        exact ⟨p, b, us, zs, rfl, rfl, e, sub _ _ e2, hl, hk _ .non (.L (es ++ fs)) _ (rep_non.mpr rfl) ⟨_, upd_same, by rw [List.length_append]; exact hl, w.append w2⟩ h.2⟩
      | _ => exact (show False from h).elim
    | [], r, h => exact (show False from h).elim
    | a :: _ :: _, r, h => exact (show False by cases a <;> exact h).elim
theorem pm_popAt : PMok N .popAt rPopAt := fun F H p c ds vs Q K sub x r h hk => by
  cases c with
  | K ks es => exact (show False by cases ds <;> exact h).elim
  | L es =>
    match ds, r, h with
    | [d], r, h =>
      cases d with
      | int i =>
        obtain ⟨v, rfl, q⟩ := reps1 r
        obtain ⟨us, e, z, w⟩ := x
        obtain ⟨k, d, h0, rfl, h2, h3⟩ := h
        obtain ⟨y, h4, h5⟩ := w.get h2
        have hk2 : k < us.length := (List.getElem?_eq_some_iff.mp h4).1
        have hz := z
        rw [sizeLine_eq] at hz
        refine ⟨p, us, (k : Nat), k, y, rfl, by rw [rep_int.mp q], e, by omega, by omega, ?_, h4, hk _ d (.L (es.eraseIdx k)) _ h5 ⟨_, upd_same, Nat.le_trans (len_erase _ _) z, w.eraseIdx k⟩ h3⟩
        unfold seqIndex?
        have n0 : ¬ ((k : Int) < 0) := by omega
        simp [n0, hk2]
      | _ => exact (show False from h).elim
    | [], r, h => exact (show False from h).elim
    | a :: _ :: _, r, h => exact (show False by cases a <;> exact h).elim
theorem pm_clear : PMok N .clear rClear := fun F H p c ds vs Q K sub x r h hk => by
  cases c with
  | K ks es => exact (show False by cases ds <;> exact h).elim
  | L es =>
    match ds, r, h with
    | [], r, h =>
      rw [reps_nil.mp r]
      obtain ⟨us, e, z, w⟩ := x
      exact ⟨p, us, rfl, rfl, e, hk _ .non (.L []) _ (rep_non.mpr rfl) ⟨[], upd_same, Nat.zero_le _, reps_nil.mpr rfl⟩ h⟩
    | _ :: _, r, h => exact (show False from h).elim
theorem dget_none : ∀ {ks : List Key} {ds : List D} {j : Key}, ks.length = ds.length → dget ks ds j = none → j ∉ ks
  | [], _, _, _, _ => by simp
  | k :: ks, [], _, h, _ => by cases h
  | k :: ks, d :: ds, j, h, e => by
    unfold dget at e
    rw [List.zip_cons_cons, List.find?_cons] at e
    by_cases z : k = j
    · simp [z] at e
    · simp only [z, decide_false] at e
      have := dget_none (ks := ks) (ds := ds) (j := j) (by simpa using h) e
      simp only [List.mem_cons, not_or]
      exact ⟨fun q => z q.symm, this⟩
theorem nodup_snoc {ks : List Key} {j : Key} (h : ks.Nodup) (hj : j ∉ ks) : (ks ++ [j]).Nodup := by
  rw [List.nodup_append]
  exact ⟨h, by simp, fun a ha b hb => by
    rw [List.mem_singleton] at hb
    rintro rfl
    exact hj (hb ▸ ha)⟩
theorem pm_setd : PMok N .setdefault rSetd := fun F H p c ds vs Q K sub x r h hk => by
  cases c with
  | L es => exact (show False by cases ds <;> exact h).elim
  | K ks es =>
    match ds, r, h with
    | [k, d], r, h =>
      obtain ⟨v, u, rfl, q, q2⟩ := reps2 r
      obtain ⟨us, e, z1, z2, nd, w⟩ := x
      obtain ⟨j, h1, h2, h3⟩ := h
      have hl := w.length
      have hv := valV_zip (k := j) z1 w
      have ez : (ks.zip us).length = us.length := by rw [List.length_zip, z1, Nat.min_self]
      refine ⟨p, _, j, u, rfl, by rw [key_v h1 q], e, by rw [ez, hl]; exact h2, fun y hy => ?_, fun hn => ?_⟩
      · cases g : dget ks es j with
        | none => rw [g] at hv; rw [hv] at hy; cases hy
        | some t =>
          rw [g] at hv h3
          obtain ⟨y', h4, h5⟩ := hv
          rw [h4] at hy; cases hy
          have := hk y t (.K ks es) (.dK (ks.zip us)) h5 ⟨us, by rw [upd_id e]; exact e, z1, z2, nd, w⟩ h3
          rw [upd_id e] at this
          exact this
      · cases g : dget ks es j with
        | some t => rw [g] at hv; obtain ⟨y', h4, h5⟩ := hv; rw [h4] at hn; cases hn
        | none =>
          rw [g] at h3
          have hj := dget_none (by omega) g
          refine hk u d (.K (ks ++ [j]) (es ++ [d])) _ q2 ⟨us ++ [u], ?_, by simp [z1], by rw [List.length_append, hl]; exact h2, nodup_snoc nd hj, w.append (.one q2)⟩ h3
          rw [upd_same, putK_new _ hn, List.zip_append z1]
          rfl
    | [], r, h => exact (show False from h).elim
    | [a], r, h => exact (show False from h).elim
    | _ :: _ :: _ :: _, r, h => exact (show False from h).elim
def pmT : PM → String
  | .setdefault => "dict" | _ => "list"
theorem kind_ty {K : PySem.W.Frag} {F H : Hp} {p : Addr} {c : CO} {m : PM} (x : CoOk N F H p c) (h : kindP m c) : tyV K (pmT m) (.ref p) H := by
  cases c with
  | L es =>
    obtain ⟨us, e, _⟩ := x
    cases m <;> first | exact .inl ⟨rfl, us, SqL.of e⟩ | exact h.elim
  | K ks es =>
    obtain ⟨us, e, _⟩ := x
    cases m <;> first | exact .inr (.inr (.inl ⟨rfl, .inl ⟨_, e⟩⟩)) | exact h.elim
theorem er_pmO {m : PM} {i : Nat} {r : V → List V → Hp → VK → Prop} {ta : TA} {wa : WA} (hm : PMok N m r) (h : AR N ta wa) : ER N (tBM X.K (pmT m) r (tVar i) ta) (fun ρ M Q => (∃ c, ρ[i]? = some (.own c) ∧ kindP m c) ∧ wa ρ M fun ds ρ M => ∃ c, ρ[i]? = some (.own c) ∧ pmP m c ds fun z c' => Q z (ρ.set i (.own c')) M) := fun Z σ H F ρ M Q K S ⟨⟨c0, e0, k0⟩, hw⟩ hk => by
  obtain ⟨p, hp, x0, _⟩ := S.ownAt e0
  refine ⟨_, hp, kind_ty x0 k0, ?_⟩
  refine h Z σ H F ρ M _ _ S hw fun vs H1 F1 ds ρ1 M1 S1 l r1 ⟨c, e, q⟩ => ?_
  obtain ⟨p', hp', x, _⟩ := S1.ownAt e
  rw [hp] at hp'; cases hp'
  exact hm F1 H1 p c ds vs _ K S1.sub x r1 q fun v d c' ho rv x' q' => hk v _ F1 d _ M1 (S1.putO e hp x') l rv q'
theorem er_pmO0 {m : PM} {i : Nat} {r : V → List V → Hp → VK → Prop} (hm : PMok N m r) : ER N (tBM0 X.K (pmT m) r (tVar i)) (fun ρ M Q => (∃ c, ρ[i]? = some (.own c) ∧ kindP m c) ∧ ∃ c, ρ[i]? = some (.own c) ∧ pmP m c [] fun z c' => Q z (ρ.set i (.own c')) M) := fun Z σ H F ρ M Q K S ⟨⟨c0, e0, k0⟩, c, e, q⟩ hk => by
  obtain ⟨p, hp, x0, _⟩ := S.ownAt e0
  refine ⟨_, hp, kind_ty x0 k0, ?_⟩
  obtain ⟨p', hp', x, _⟩ := S.ownAt e
  rw [hp] at hp'; cases hp'
  exact hm F H p c [] [] _ K S.sub x (reps_nil.mpr rfl) q fun v d c' ho rv x' q' => hk v _ F d _ M (S.putO e hp x') (Le.refl _) rv q'
theorem er_pm {m : PM} {r : V → List V → Hp → VK → Prop} {te : TE} {we : WE} {ta : TA} {wa : WA} (hm : PMok N m r) (he : ER N te we) (h : AR N ta wa) : ER N (tBM X.K (pmT m) r te ta) (fun ρ M Q => we ρ M fun x ρ M => ∃ a, x = .loc a ∧ (∃ c, M a = some (.co c) ∧ kindP m c) ∧ wa ρ M fun ds ρ M => ∃ c, M a = some (.co c) ∧ pmP m c ds fun z c' => Q z ρ (updM M a (.co c'))) := fun Z σ H F ρ M Q K S hw hk => by
  refine he Z σ H F ρ M _ _ S hw fun v H0 F0 d ρ0 M0 S0 l0 r0 ⟨a, e, ⟨c0, e0, k0⟩, hw⟩ => ?_
  subst e
  rw [rep_loc.mp r0]
  refine ⟨kind_ty (S0.mem a _ e0) k0, ?_⟩
  refine h Z σ H0 F0 ρ0 M0 _ _ S0 hw fun vs H1 F1 ds ρ1 M1 S1 l r1 ⟨c, e, q⟩ => ?_
  exact hm F1 H1 a c ds vs _ K S1.sub (S1.mem a _ e) r1 q fun v d c' ho rv x' q' => hk v _ F1 d _ _ (S1.putM (mo' := .co c') e x') (l0.trans l) rv q'
theorem er_pm0 {m : PM} {r : V → List V → Hp → VK → Prop} {te : TE} {we : WE} (hm : PMok N m r) (he : ER N te we) : ER N (tBM0 X.K (pmT m) r te) (fun ρ M Q => we ρ M fun x ρ M => ∃ a, x = .loc a ∧ (∃ c, M a = some (.co c) ∧ kindP m c) ∧ ∃ c, M a = some (.co c) ∧ pmP m c [] fun z c' => Q z ρ (updM M a (.co c'))) := fun Z σ H F ρ M Q K S hw hk => by
  refine he Z σ H F ρ M _ _ S hw fun v H0 F0 d ρ0 M0 S0 l0 r0 ⟨a, e, ⟨c0, e0, k0⟩, c, e1, q⟩ => ?_
  subst e
  rw [rep_loc.mp r0]
  refine ⟨kind_ty (S0.mem a _ e0) k0, ?_⟩
  exact hm F0 H0 a c [] [] _ K S0.sub (S0.mem a _ e1) (reps_nil.mpr rfl) q fun v d c' ho rv x' q' => hk v _ F0 d _ _ (S0.putM (mo' := .co c') e1 x') l0 rv q'

/-! ### own containers read -/
theorem er_idxO {i : Nat} {tb : TE} {wb : WE} (hb : ER N tb wb) : ER N (tOp (fun x y H Q => rIx X.K x y H Q ∨ ∃ a v, x = .ref a ∧ DGet H a y (some v) ∧ Q v H) (tVar i) tb) (fun ρ M Q => (∃ c, ρ[i]? = some (.own c)) ∧ wb ρ M fun y ρ M => ∃ c, ρ[i]? = some (.own c) ∧ idxP c.tree (view M y) fun z => Q z ρ M) := fun Z σ H F ρ M Q K S ⟨⟨c0, e0⟩, hw⟩ hk => by
  obtain ⟨p, hp, x0, _⟩ := S.ownAt e0
  refine ⟨_, hp, ?_⟩
  refine hb Z σ H F ρ M _ _ S hw fun v H1 F1 d ρ1 M1 S1 l r ⟨c, e, q⟩ => ?_
  obtain ⟨p', hp', x, _⟩ := S1.ownAt e
  rw [hp] at hp'; cases hp'
  exact rb_idx_v Z σ H1 F1 ρ1 M1 _ _ _ _ _ K S1 x.vrep (r.view S1) q fun v H' F' d' S' l' r' q' => hk v H' F' d' ρ1 M1 S' (l.trans l') r' q'
theorem er_lenO (kl : ∀ a ns, N.kl a ns → ∀ H, SqL X.K H a (ns.map V.int)) {i : Nat} : ER N (tCB (rLen X.K) (tCons (tVar i) tNil)) (fun ρ M Q => ∃ c, ρ[i]? = some (.own c) ∧ lenP c.tree fun n => Q (.int n) ρ M) := fun Z σ H F ρ M Q K S ⟨c, e, q⟩ hk => by
  obtain ⟨p, hp, x, _⟩ := S.ownAt e
  refine ⟨_, hp, ?_⟩
  exact lenP_ok kl S x.vrep q fun n z => hk _ H F _ ρ M S (Le.refl _) (int_rep _) z
end
end DL

set_option Elab.async false
set_option linter.all false
set_option maxRecDepth 100000
namespace DL
open PySem L2 PySem.W

section
variable {X : Cx} {N : Nam} {B : Tab} {pos : Pos}
/-- what is walked: the items are ds -/
def IterOk (N : Nam) (J : It) (F : Hp) (ds : List D) : Prop := ds.length ≤ sizeLine ∧ ∃ G Y, Walk J ds.length G Y ∧
  (∀ (Z : Ety) (F' H' : Hp) (ρ : Env) (M : Mem) (σ : St), Sim N Z F' ρ M σ H' → Le F F' → G H') ∧
  ∀ (Z : Ety) (F' H' : Hp) (ρ : Env) (M : Mem) (σ : St) (i : Nat) (x : V) (H'' : Hp), Sim N Z F' ρ M σ H' → Le F F' → i < ds.length → Y i H' x H'' → ∃ F'' d, ds[i]? = some d ∧ Sim N Z F'' ρ M σ H'' ∧ Le F' F'' ∧ Rep N F'' d x
def IR (N : Nam) (wi : TI) (wp : WA) : Prop := ∀ (Z : Ety) (σ : St) (H F : Hp) (ρ : Env) (M : Mem) (Q : List D → Env → Mem → Prop) (R : It → Hp → Prop), Sim N Z F ρ M σ H → wp ρ M Q →
  (∀ J H' F' ds ρ' M', Sim N Z F' ρ' M' σ H' → Le F F' → IterOk N J F' ds → Q ds ρ' M' → R J H') → wi σ H R
/-- a list, a tuple, a text -/
def iSeq (K : PySem.W.Frag) (tl : TE) : TI := fun σ H R => tl σ H fun x H1 => (∃ a, x = .ref a ∧ (∃ xs, SqL K H1 a xs) ∧ R (Itl K a) H1) ∨ (∃ a, x = .ref a ∧ (∃ xs, SqT K H1 a xs) ∧ R (Itt K a) H1) ∨ ∃ z, x = .str z ∧ R (Its z) H1
theorem pi_seq {tg l : Expr} {tl : TE} (hl : PE X l tl) : PI X tg l (iSeq X.K tl) := by
  -- each of the three by its own rule, over a reading that has been run already
  refine ⟨fun pins s σ H R I h => ?_⟩
  refine thn (hl.run pins s σ H _ I h) fun v s1 ⟨x, H1, I1, r1, q1⟩ => ?_
  rcases q1 with ⟨a, e, ⟨xs, hq⟩, q⟩ | ⟨a, e, ⟨xs, hq⟩, q⟩ | ⟨z, e, q⟩
  · subst e
    cases r1
    obtain ⟨its, rv, p, hz⟩ := I1.list hq
    refine PySem.wpAny_pyIter_list p.isList ?_
    refine ⟨s1.heap.objs.size, [s1.heap.objs.size], _, _, H1, rfl, I1.kept (t' := s1.toks) fun b o e => Heap.get?_push_of_some _ e, turn_list a _, ⟨_, Heap.get?_push_size _ rfl, rfl, rfl⟩, fun b hb => ?_, q⟩
    have e : b = s1.heap.objs.size := by simpa using hb
    subst e
    exact I1.fpOk (Nat.le_refl _) (I1.hok.fresh (Nat.le_refl _))
  · subst e
    cases r1
    obtain ⟨its, rv, p, hz⟩ := I1.tuple hq
    refine PySem.wpAny_pyIter_tuple (show s1.heap.IsTuple a its.toArray from p) ?_
    refine ⟨s1.heap.objs.size, [s1.heap.objs.size], _, _, H1, rfl, I1.kept (t' := s1.toks) fun b o e => Heap.get?_push_of_some _ e, turn_tuple a _, ⟨_, Heap.get?_push_size _ rfl, rfl, rfl⟩, fun b hb => ?_, q⟩
    have e : b = s1.heap.objs.size := by simpa using hb
    subst e
    exact I1.fpOk (Nat.le_refl _) (I1.hok.fresh (Nat.le_refl _))
  · subst e
    obtain ⟨t, rfl⟩ := r1
    cases ha : z.cps.all (· < 128)
    · exact PySem.wpAny_pyIter_wide ha (pi_one (tk := s1.toks) I1 _ (turn_str _ z t "str_iterator" (.inr rfl)) ⟨_, Heap.get?_push_size _ rfl, rfl, rfl⟩ q)
    · exact PySem.wpAny_pyIter_ascii ha (pi_one (tk := s1.toks) I1 _ (turn_str _ z t "str_ascii_iterator" (.inl rfl)) ⟨_, Heap.get?_push_size _ rfl, rfl, rfl⟩ q)
theorem it_vs {J : It} {G : Hp → Prop} {F : Hp} {ds : List D} {vs : List V} (w : Walk J vs.length G (YAt vs)) (hG : ∀ (Z : Ety) (F' H' : Hp) (ρ : Env) (M : Mem) (σ : St), Sim N Z F' ρ M σ H' → Le F F' → G H') (r : Reps N F ds vs) (z : vs.length ≤ sizeLine) : IterOk N J F ds := by
  refine ⟨by rw [← r.length]; exact z, G, YAt vs, r.length ▸ w, hG, fun Z F' H' ρ M σ i x H'' S l hi y => ?_⟩
  obtain ⟨rfl, e⟩ := y
  obtain ⟨d, h1, h2⟩ := r.get' e
  exact ⟨F', d, h1, S, Le.refl _, h2.mono l⟩
theorem iter_lst {K : PySem.W.Frag} {F : Hp} {a : Addr} {ds : List D} {vs : List V} (h : F a = some (.lst vs)) (r : Reps N F ds vs) (z : vs.length ≤ sizeLine) : IterOk N (Itl K a) F ds :=
  it_vs (walk_list (K := K) (a := a) (xs := vs)) (fun Z F' H' ρ M σ S l => SqL.of (S.sub _ _ (l _ _ h))) r z
theorem iter_scr {K : PySem.W.Frag} (kl : ∀ a ns, N.kl a ns → ∀ H, SqL K H a (ns.map V.int)) {F : Hp} {a : Addr} {ns : List Int} (h : Rd F a (.lst (ns.map V.int)) ∨ N.kl a ns) (z : ns.length ≤ sizeLine) : IterOk N (Itl K a) F (ns.map D.int) :=
  it_vs (walk_list (K := K) (a := a) (xs := ns.map V.int)) (fun Z F' H' ρ M σ S l => scr_sq kl S (h.imp (fun h => h.imp (fun z => l _ _ z) fun ⟨o, z⟩ => ⟨o, l _ _ z⟩) id)) (reps_ints ns) (by rw [List.length_map]; exact z)
theorem iter_tup {K : PySem.W.Frag} {F : Hp} {a : Addr} {ds : List D} {vs : List V} (h : F a = some (.tup vs)) (r : Reps N F ds vs) (z : vs.length ≤ sizeLine) : IterOk N (Itt K a) F ds :=
  it_vs (walk_tup (K := K) (a := a) (xs := vs)) (fun Z F' H' ρ M σ S l => SqT.of (S.sub _ _ (l _ _ h))) r z
theorem iter_str {F : Hp} (s : Str) (z : s.length ≤ sizeLine) : IterOk N (Its s) F (s.cps.toList.map fun c => .str ⟨#[c]⟩) := by
  refine ⟨by rw [List.length_map, Array.length_toList]; exact z, fun _ => True, fun i H v H' => H' = H ∧ ∃ c, s.cps[i]? = some c ∧ v = .str ⟨#[c]⟩, ?_, fun _ _ _ _ _ _ _ _ => trivial, fun Z F' H' ρ M σ i x H'' S l hi y => ?_⟩
  · have e : (s.cps.toList.map fun c => D.str ⟨#[c]⟩).length = s.cps.size := by simp
    rw [e]
    exact walk_str
  · obtain ⟨rfl, c, h, rfl⟩ := y
    refine ⟨F', .str ⟨#[c]⟩, ?_, S, Le.refl _, rep_str.mpr rfl⟩
    rw [List.getElem?_map, Array.getElem?_toList, h]
    rfl
theorem iter_rng {F : Hp} (lo : Int) (n : Nat) (z : n ≤ sizeLine) : IterOk N (Itr lo n) F ((List.range n).map fun k => .int (lo + (k : Nat))) := by
  refine ⟨by simpa using z, fun _ => True, YFn fun i => .int (lo + i), ?_, fun _ _ _ _ _ _ _ _ => trivial, fun Z F' H' ρ M σ i x H'' S l hi y => ?_⟩
  · have e : ((List.range n).map fun k => D.int (lo + (k : Nat))).length = n := by simp
    rw [e]
    exact walk_range
  · obtain ⟨rfl, rfl⟩ := y
    have hi : i < n := by simpa using hi
    refine ⟨F', .int (lo + i), ?_, S, Le.refl _, int_rep _⟩
    rw [List.getElem?_map, List.getElem?_range hi]
    rfl
theorem pair_new {Z : Ety} {F H : Hp} {ρ : Env} {M : Mem} {σ : St} (S : Sim N Z F ρ M σ H) {T : Addr} {x y : V} {a b : D} (h : H T = none) (ra : Rep N F a x) (rb : Rep N F b y) : Sim N Z (upd F T (.tup [x, y])) ρ M σ (upd H T (.tup [x, y])) ∧ Le F (upd F T (.tup [x, y])) ∧ Rep N (upd F T (.tup [x, y])) (.tup [a, b]) (.ref T) := by
  have le := Le.new (o := .tup [x, y]) (S.fnone h)
  exact ⟨S.alloc h, le, rep_tup.mpr ⟨T, _, rfl, upd_same, by show 2 ≤ sizeLine; decide, reps_cons.mpr ⟨x, [y], rfl, ra.mono le, .one (rb.mono le)⟩⟩⟩
theorem iter_enum {K : PySem.W.Frag} {F : Hp} {a : Addr} {ds : List D} {vs : List V} (h : F a = some (.lst vs)) (r : Reps N F ds vs) (z : vs.length ≤ sizeLine) : IterOk N (Ite K a) F (ds.zipIdx.map fun p => .tup [.int (p.2 : Nat), p.1]) := by
  refine ⟨by simpa [← r.length] using z, fun H => SqL K H a vs, YPair (fun i => some (.int (i : Nat))) (fun i => vs[i]?), ?_, fun Z F' H' ρ M σ S l => SqL.of (S.sub _ _ (l _ _ h)), fun Z F' H' ρ M σ i x H'' S l hi y => ?_⟩
  · have e : (ds.zipIdx.map fun p => D.tup [.int (p.2 : Nat), p.1]).length = vs.length := by simp [r.length]
    rw [e]
    exact walk_enum
  · obtain ⟨T, u, v, rfl, hT, rfl, h1, h2⟩ := y
    cases h1
    obtain ⟨d, h3, h4⟩ := r.get' h2
    obtain ⟨q1, q2, q3⟩ := pair_new S hT (int_rep (i : Nat)) (h4.mono l)
    refine ⟨_, .tup [.int (i : Nat), d], ?_, q1, q2, q3⟩
    rw [List.getElem?_map, List.getElem?_zipIdx, h3]
    simp
theorem iter_zip {K : PySem.W.Frag} {F : Hp} {a b : Addr} {ds es : List D} {vs us : List V} (h : F a = some (.lst vs)) (h' : F b = some (.lst us)) (r : Reps N F ds vs) (r' : Reps N F es us) (z : vs.length ≤ sizeLine) : IterOk N (Itz K a b) F ((ds.zip es).map fun p => .tup [p.1, p.2]) := by
  refine ⟨by rw [List.length_map, List.length_zip, ← r.length]; exact Nat.le_trans (Nat.min_le_left _ _) z, fun H => SqL K H a vs ∧ SqL K H b us, YPair (fun i => vs[i]?) (fun i => us[i]?), walk_zip (by simp [r.length, r'.length]), fun Z F' H' ρ M σ S l => ⟨SqL.of (S.sub _ _ (l _ _ h)), SqL.of (S.sub _ _ (l _ _ h'))⟩, fun Z F' H' ρ M σ i x H'' S l hi y => ?_⟩
  obtain ⟨T, u, v, rfl, hT, rfl, h1, h2⟩ := y
  obtain ⟨d, h3, h4⟩ := r.get' h1
  obtain ⟨e, h5, h6⟩ := r'.get' h2
  obtain ⟨q1, q2, q3⟩ := pair_new S hT (h4.mono l) (h6.mono l)
  refine ⟨_, .tup [d, e], ?_, q1, q2, q3⟩
  rw [List.getElem?_map, List.getElem?_zip_eq_some (z := (d, e)) |>.mpr ⟨h3, h5⟩]
  rfl
theorem ir_seq {te : TE} {we : WE} (em : ∀ i a, N.emp i = some a → ∀ H, SqT X.K H a []) (kl : ∀ a ns, N.kl a ns → ∀ H, SqL X.K H a (ns.map V.int)) (he : ER N te we) : IR N (iSeq X.K te) (fun ρ M Q => we ρ M fun x ρ M => ∃ ds, itemsOf x = some ds ∧ strSz x ∧ (ds.length ≤ sizeLine → Q ds ρ M)) := fun Z σ H F ρ M Q R S hw hk =>
  he Z σ H F ρ M _ _ S hw fun v H1 F1 d ρ1 M1 S1 l r ⟨ds, e, sz, q⟩ => by
    cases d with
    | lst es =>
      cases e
      obtain ⟨a, vs, rfl, h, z, w⟩ := rep_lst.mp r
      exact .inl ⟨a, rfl, ⟨vs, SqL.of (S1.sub _ _ h)⟩, hk _ H1 F1 _ ρ1 M1 S1 l (iter_lst h w z) (q (by rw [← w.length]; exact z))⟩
    | tup es =>
      cases e
      obtain ⟨a, vs, rfl, h, z, w⟩ := rep_tup.mp r
      exact .inr (.inl ⟨a, rfl, ⟨vs, SqT.of (S1.sub _ _ h)⟩, hk _ H1 F1 _ ρ1 M1 S1 l (iter_tup h w z) (q (by rw [← w.length]; exact z))⟩)
    | str s =>
      cases e
      exact .inr (.inr ⟨s, rep_str.mp r, hk _ H1 F1 _ ρ1 M1 S1 l (iter_str s sz) (q (by rw [List.length_map, Array.length_toList]; exact sz))⟩)
    | scr ns =>
      cases e
      obtain ⟨a, rfl, h, z⟩ := rep_scr.mp r
      exact .inl ⟨a, rfl, ⟨_, scr_sq kl S1 h⟩, hk _ H1 F1 _ ρ1 M1 S1 l (iter_scr kl h z) (q (by rw [List.length_map]; exact z))⟩
    | kemp i =>
      cases e
      have z : Rep N F1 (.kemp i) v := r
      unfold Rep at z
      obtain ⟨a, ha, rfl⟩ := z
      exact .inr (.inl ⟨a, rfl, ⟨[], em i a ha H1⟩, hk _ H1 F1 _ ρ1 M1 S1 l (it_vs (walk_tup (K := X.K) (a := a) (xs := [])) (fun Z F' H' ρ M σ S l => em i a ha H') (reps_nil.mpr rfl) (Nat.zero_le _)) (q (Nat.zero_le _))⟩)
    | _ => cases e
theorem ir_rng1 {te : TE} {we : WE} (he : ER N te we) : IR N (iRng1 (tCons te tNil)) (fun ρ M Q => we ρ M fun x ρ M => ∃ j : Int, x = .int j ∧ (-(2 ^ 62) ≤ j ∧ j ≤ 16777216) ∧ Q ((List.range j.toNat).map fun k => .int (k : Nat)) ρ M) := fun Z σ H F ρ M Q R S hw hk =>
  he Z σ H F ρ M _ _ S hw fun v H1 F1 d ρ1 M1 S1 l r ⟨j, e, ⟨h1, h2⟩, q⟩ => by
    subst e
    refine ⟨j, by rw [rep_int.mp r], h1, by omega, hk _ H1 F1 _ ρ1 M1 S1 l (iter_rng 0 j.toNat (by rw [sizeLine_eq]; omega)) ?_⟩
    have e : ((List.range j.toNat).map fun k => D.int (0 + (k : Nat))) = (List.range j.toNat).map fun k => D.int (k : Nat) := List.map_congr_left fun k _ => by rw [Int.zero_add]
    rw [e]
    exact q
theorem ir_rng2 {ta tb : TE} {wa wb : WE} (ha : ER N ta wa) (hb : ER N tb wb) : IR N (iRng2 (tCons ta (tCons tb tNil))) (fun ρ M Q => wa ρ M fun x ρ M => wb ρ M fun y ρ M => ∃ i j : Int, x = .int i ∧ y = .int j ∧ (-(2 ^ 62) ≤ i ∧ i < 2 ^ 62 ∧ -(2 ^ 62) ≤ j ∧ j < 2 ^ 62 ∧ j - i ≤ 16777216) ∧ Q ((List.range (j - i).toNat).map fun k => .int (i + (k : Nat))) ρ M) := fun Z σ H F ρ M Q R S hw hk =>
  ha Z σ H F ρ M _ _ S hw fun v H1 F1 d ρ1 M1 S1 l r q1 => hb Z σ H1 F1 ρ1 M1 _ _ S1 q1 fun v2 H2 F2 d2 ρ2 M2 S2 l2 r2 ⟨i, j, e1, e2, h, q⟩ => by
    subst e1; subst e2
    exact ⟨i, j, by rw [rep_int.mp r, rep_int.mp r2], ⟨h.1, h.2.1, h.2.2.1, h.2.2.2.1⟩, hk _ H2 F2 _ ρ2 M2 S2 (l.trans l2) (iter_rng i (j - i).toNat (by rw [sizeLine_eq]; omega)) q⟩
theorem ir_enum {te : TE} {we : WE} (he : ER N te we) : IR N (iEnum X.K (tCons te tNil)) (fun ρ M Q => we ρ M fun x ρ M => ∃ ds, x = .lst ds ∧ (ds.length ≤ sizeLine → Q (ds.zipIdx.map fun p => .tup [.int (p.2 : Nat), p.1]) ρ M)) := fun Z σ H F ρ M Q R S hw hk =>
  he Z σ H F ρ M _ _ S hw fun v H1 F1 d ρ1 M1 S1 l r ⟨ds, e, q⟩ => by
    subst e
    obtain ⟨a, vs, rfl, h, z, w⟩ := rep_lst.mp r
    exact ⟨a, vs, rfl, SqL.of (S1.sub _ _ h), hk _ H1 F1 _ ρ1 M1 S1 l (iter_enum h w z) (q (by rw [← w.length]; exact z))⟩
theorem ir_zip {ta tb : TE} {wa wb : WE} (ha : ER N ta wa) (hb : ER N tb wb) : IR N (iZip X.K (tCons ta (tCons tb tNil))) (fun ρ M Q => wa ρ M fun x ρ M => wb ρ M fun y ρ M => ∃ ds es, x = .lst ds ∧ y = .lst es ∧ (ds.length ≤ sizeLine → es.length ≤ sizeLine → Q ((ds.zip es).map fun p => .tup [p.1, p.2]) ρ M)) := fun Z σ H F ρ M Q R S hw hk =>
  ha Z σ H F ρ M _ _ S hw fun v H1 F1 d ρ1 M1 S1 l r q1 => hb Z σ H1 F1 ρ1 M1 _ _ S1 q1 fun v2 H2 F2 d2 ρ2 M2 S2 l2 r2 ⟨ds, es, e1, e2, q⟩ => by
    subst e1; subst e2
    obtain ⟨a, vs, rfl, h, z, w⟩ := rep_lst.mp (r.mono l2)
    obtain ⟨b, us, rfl, h', z', w'⟩ := rep_lst.mp r2
    exact ⟨a, b, vs, us, rfl, SqL.of (S2.sub _ _ h), SqL.of (S2.sub _ _ h'), hk _ H2 F2 _ ρ2 M2 S2 (l.trans l2) (iter_zip h h' w w' z) (q (by rw [← w.length]; exact z) (by rw [← w'.length]; exact z'))⟩

/-! ### targets -/
def slotsT : T → List Nat
  | .tname i => [i]
  | .ttup r => slotsT r
  | .cons a r => slotsT a ++ slotsT r
  | _ => []
def GR (N : Nam) (K : PySem.W.Frag) (g : TG) (tg : T) : Prop := ∀ (Z : Ety) (σ : St) (H F : Hp) (ρ : Env) (M : Mem) (d : D) (v : V) (P : Env → Prop) (KK : St → Hp → Prop), Sim N Z F ρ M σ H → Rep N F d v → bindP tg d ρ P →
  (∀ σ' ρ', Sim N Z F ρ' M σ' H → (∀ vs : List Nat, (∀ i ∈ slotsT tg, i ∈ vs) → wipe σ' vs = wipe σ vs) → P ρ' → KK σ' H) → g v σ H KK
def GsR (N : Nam) (K : PySem.W.Frag) (g : TGs) (r : T) : Prop := ∀ (Z : Ety) (σ : St) (H F : Hp) (ρ : Env) (M : Mem) (ds : List D) (vs : List V) (P : Env → Prop) (KK : St → Hp → Prop), Sim N Z F ρ M σ H → Reps N F ds vs → bindP.binds r ds ρ P →
  (∀ σ' ρ', Sim N Z F ρ' M σ' H → (∀ vs : List Nat, (∀ i ∈ slotsT r, i ∈ vs) → wipe σ' vs = wipe σ vs) → P ρ' → KK σ' H) → g vs σ H KK
theorem wipe_set {σ : St} {i : Nat} {o : Option V} : ∀ {vs : List Nat}, i ∈ vs → wipe (σ.set i o) vs = wipe σ vs
  | [], h => by cases h
  | v :: vs, h => by
    unfold wipe
    by_cases z : i ∈ vs
    · rw [wipe_set z]
    · have e : i = v := by
        rcases List.mem_cons.mp h with e | e
        · exact e
        · exact absurd e z
      subst e
      have : ∀ us : List Nat, i ∉ us → wipe (σ.set i o) us = (wipe σ us).set i o := by
        intro us
        induction us with
        | nil => intro _; rfl
        | cons u us ih =>
          intro hu
          simp only [List.mem_cons, not_or] at hu
          unfold wipe
          rw [ih hu.2, List.set_comm _ _ hu.1]
      rw [this vs z, List.set_set]
theorem gr_name {K : PySem.W.Frag} (i : Nat) : GR N K (gName i) (.tname i) := fun Z σ H F ρ M d v P KK S r hb hk =>
  hk _ _ (S.set i r) (fun vs h => wipe_set (h i (by simp [slotsT]))) hb
theorem gr_tup {K : PySem.W.Frag} {g : TGs} {r : T} (h : GsR N K g r) : GR N K (gTup K (lenT r) g) (.ttup r) := fun Z σ H F ρ M d v P KK S rr hb hk => by
  cases d with
  | tup ds =>
    obtain ⟨a, vs, rfl, e, z, w⟩ := rep_tup.mp rr
    have hb : ds.length = lenT r ∧ bindP.binds r ds ρ P := hb
    exact ⟨a, vs, rfl, SqT.of (S.sub _ _ e), by rw [w.length]; exact hb.1, h Z σ H F ρ M ds vs P KK S w hb.2 hk⟩
  | _ => exact (show False from hb).elim
theorem gs_nil {K : PySem.W.Frag} : GsR N K gNil .nil := fun Z σ H F ρ M ds vs P KK S r hb hk => by
  cases ds with
  | nil =>
    rw [reps_nil.mp r]
    exact ⟨rfl, hk σ ρ S (fun _ _ => rfl) (by unfold bindP.binds at hb; exact hb)⟩
  | cons d ds => exact (show False by unfold bindP.binds at hb; exact hb).elim
theorem binds_cons {a r : T} {ds : List D} {ρ : Env} {P : Env → Prop} (h : bindP.binds (.cons a r) ds ρ P) : ∃ d es, ds = d :: es ∧ bindP a d ρ fun ρ' => bindP.binds r es ρ' P := by
  cases ds with
  | nil => exact (show False by unfold bindP.binds at h; cases a <;> exact h).elim
  | cons d es =>
    refine ⟨d, es, rfl, ?_⟩
    cases a with
    | tname i => unfold bindP.binds at h; unfold bindP; exact h
    | ttup q =>
      cases d with
      | tup fs => unfold bindP.binds at h; unfold bindP; exact h
      | _ => exact (show False by unfold bindP.binds at h; exact h).elim
    | _ => exact (show False by unfold bindP.binds at h; exact h).elim
theorem gs_cons {K : PySem.W.Frag} {g : TG} {gs : TGs} {a r : T} (ha : GR N K g a) (hr : GsR N K gs r) : GsR N K (gCons g gs) (.cons a r) := fun Z σ H F ρ M ds vs P KK S rr hb hk => by
  obtain ⟨d, es, rfl, h1⟩ := binds_cons hb
  obtain ⟨v, t, rfl, q, w⟩ := reps_cons.mp rr
  refine ⟨v, t, rfl, ha Z σ H F ρ M d v _ _ S q h1 fun σ1 ρ1 S1 k1 h2 => ?_⟩
  refine hr Z σ1 H F ρ1 M es t P KK S1 w h2 fun σ2 ρ2 S2 k2 h3 => hk σ2 ρ2 S2 (fun vs hv => ?_) h3
  rw [k2 vs fun i hi => hv i (by simp [slotsT, hi]), k1 vs fun i hi => hv i (by simp [slotsT, hi])]
end
end DL

set_option Elab.async false
set_option linter.all false
set_option maxRecDepth 100000
namespace DL
open PySem L2 PySem.W

section
variable {X : Cx} {N : Nam} {B : Tab} {pos : Pos}
/-- a clause's tests -/
def CR' (N : Nam) (tt : TT) (wc : Env → Mem → (Bool → Env → Mem → Prop) → Prop) : Prop := ∀ (Z : Ety) (σ : St) (H F : Hp) (ρ : Env) (M : Mem) (Q : Bool → Env → Mem → Prop) (K : Bool → Hp → Prop), Sim N Z F ρ M σ H → wc ρ M Q →
  (∀ b H' F' ρ' M', Sim N Z F' ρ' M' σ H' → Le F F' → Q b ρ' M' → K b H') → tt σ H K
theorem cr_nil : CR' N tYes (fun ρ M Q => Q true ρ M) := fun Z σ H F ρ M Q K S hw hk => hk true H F ρ M S (Le.refl _) hw
theorem cr_one {tt : TT} {w : WE} (h : TR N tt w) : CR' N tt (fun ρ M Q => w ρ M fun x ρ M => ∃ b, x = .bl b ∧ Q b ρ M) := fun Z σ H F ρ M Q K S hw hk => h Z σ H F ρ M Q K S hw hk
theorem wipe_get_at {σ : St} {i : Nat} : ∀ {vs : List Nat}, i ∈ vs → (wipe σ vs)[i]? = none ∨ (wipe σ vs)[i]? = some none
  | [], h => by cases h
  | v :: vs, h => by
    unfold wipe
    by_cases z : v = i
    · subst z
      by_cases y : v < (wipe σ vs).length
      · rw [List.getElem?_set_self y]; exact .inr rfl
      · exact .inl (List.getElem?_eq_none (by simpa using y))
    · rw [List.getElem?_set_ne z]
      exact wipe_get_at ((List.mem_cons.mp h).resolve_left fun e => z e.symm)
theorem wipe_wipe (σ : St) (vs : List Nat) : wipe (wipe σ vs) vs = wipe σ vs := by
  apply List.ext_getElem?
  intro i
  by_cases h : i ∈ vs
  · have hl : (wipe (wipe σ vs) vs).length = (wipe σ vs).length := by rw [wipe_length]
    rcases wipe_get_at (σ := wipe σ vs) h with e | e
    · rw [e]
      rw [List.getElem?_eq_none_iff] at e
      rw [hl] at e
      exact (List.getElem?_eq_none e).symm
    · rw [e]
      rcases wipe_get_at (σ := σ) h with e2 | e2
      · have := (List.getElem?_eq_some_iff.mp e).1
        rw [hl] at this
        rw [List.getElem?_eq_none_iff] at e2
        omega
      · exact e2.symm
  · exact wipe_get' h
theorem Sim.block {Z : Ety} {F H : Hp} {ρ : Env} {M : Mem} {σ : St} {c : CO} {p : Addr} (S : Sim N Z F (ρ ++ [LV.own c]) M (σ ++ [some (.ref p)]) H) (hl : ρ.length = σ.length) (vs : List Nat) : Sim N ⟨H, M, F⟩ F (hideD (wipeD ρ vs)) M (L2.wipe σ vs) H := by
  refine S.start.drop ?_ fun i lv e => ?_
  · unfold hideD; rw [List.length_map, wipeD_length, wipe_length]; exact hl
  · unfold hideD at e
    rw [List.getElem?_map] at e
    cases q : (wipeD ρ vs)[i]? with
    | none => rw [q] at e; cases e
    | some l =>
      rw [q] at e
      cases e
      rcases wipeD_get q with rfl | ⟨q1, q2⟩
      · exact .inl rfl
      · refine .inr ⟨?_, ?_⟩
        · unfold hideD
          have hi : i < ρ.length := (List.getElem?_eq_some_iff.mp q1).1
          rw [List.getElem?_map, List.getElem?_append_left hi, q1]
          rfl
        · have hi : i < ρ.length := (List.getElem?_eq_some_iff.mp q1).1
          rw [wipe_get' q2, List.getElem?_append_left (by omega)]
theorem or_comp {wi : TI} {wI : WA} {g : TG} {tg : T} {tt : TT} {wc : Env → Mem → (Bool → Env → Mem → Prop) → Prop} {te : TE} {we : WE} {own : List Nat} {K : PySem.W.Frag} (hi : IR N wi wI) (hg : GR N K g tg) (hc : CR' N tt wc) (he : ER N te we) (hs : ∀ i ∈ slotsT tg, i ∈ own) :
    OR' N (tLc wi g tt te own) (fun ρ M Q => wI ρ M fun ds ρ M => compL (fun d M K => bindP tg d (hideD (wipeD ρ own)) fun ρ1 => wc ρ1 M fun b ρ2 M1 => ρ2 = ρ1 ∧
      iteN (Bool.toNat b) (we ρ1 M1 fun x ρ3 M2 => ρ3 = ρ1 ∧ K (some x) M2) (K none M1)) ds [] M fun es M => Q (.lst es) ρ M) := by
  intro Z σ H F ρ M Q KK S hw hk
  refine hi Z σ H F ρ M _ _ S hw fun J H1 F1 ds ρ0 M1 S1 l1 ⟨hz, G, Y, w, hG, hY⟩ q1 D hD => ?_
  refine lc_it w (fun i H' => ∃ F' M' acc, Sim N Z F' (ρ0 ++ [.own (.L acc)]) M' (σ ++ [some (.ref D)]) H' ∧ Le F1 F' ∧ acc.length ≤ i ∧ compL (fun d M K => bindP tg d (hideD (wipeD ρ0 own)) fun ρ1 => wc ρ1 M fun b ρ2 M1 => ρ2 = ρ1 ∧
      iteN (Bool.toNat b) (we ρ1 M1 fun x ρ3 M2 => ρ3 = ρ1 ∧ K (some x) M2) (K none M1)) (ds.drop i) acc M' fun es M => Q (.lst es) ρ0 M) ?_ ?_ ?_ ?_
  · exact ⟨F1, M1, [], S1.newO hD ⟨[], upd_same, Nat.zero_le _, reps_nil.mpr rfl⟩, Le.refl _, Nat.le_refl _, q1⟩
  · rintro i H' _ ⟨F', M', acc, S', l', _, _⟩
    exact hG Z F' H' _ M' _ S' l'
  · rintro i x H2 H3 hlt ⟨F2, M2, acc, S2, l2, ha, q2⟩ y
    obtain ⟨F3, d, hd, S3, l3, r3⟩ := hY Z F2 H2 _ M2 _ i x H3 S2 l2 hlt y
    have ed : ds.drop i = d :: ds.drop (i + 1) := by
      obtain ⟨h1, h2⟩ := List.getElem?_eq_some_iff.mp hd
      rw [List.drop_eq_getElem_cons h1, h2]
    rw [ed, compL_consE] at q2
    have q2 : bindP tg d (hideD (wipeD ρ0 own)) _ := q2
    have S4 := S3.block S1.len own
    refine hg _ _ H3 F3 _ M2 d x _ _ S4 r3 q2 fun σ5 ρ5 S5 k5 q5 => ⟨?_, ?_⟩
    · rw [k5 own hs, wipe_wipe]
    · refine hc _ σ5 H3 F3 ρ5 M2 _ _ S5 q5 fun b H6 F6 ρ6 M6 S6 l6 ⟨e6, q6⟩ => ?_
      subst e6
      cases b with
      | false =>
        have S7 := S3.back S6
        exact ⟨F6, M6, acc, S7, (l2.trans l3).trans l6, by omega, q6⟩
      | true =>
        refine he _ σ5 H6 F6 ρ6 M6 _ _ S6 q6 fun v H7 F7 d7 ρ7 M7 S7 l7 r7 ⟨e7, q7⟩ => ?_
        have S8 := S3.back S7
        have e8 : (ρ0 ++ [LV.own (.L acc)])[ρ0.length]? = some (.own (.L acc)) := by simp
        obtain ⟨p', hp', ⟨vs, h1, h2, h3⟩, _⟩ := S8.ownAt e8
        have ep : p' = D := by
          rw [S1.len] at hp'
          simp at hp'
          exact hp'.symm
        subst ep
        have hl : vs.length < sizeLine := by rw [h3.length]; omega
        refine ⟨vs, h1, hl, F7, M7, acc ++ [d7], ?_, ((l2.trans l3).trans l6).trans l7, by rw [List.length_append, List.length_singleton]; omega, q7⟩
        have S9 := S8.putO (c' := .L (acc ++ [d7])) (ho := .lst (vs ++ [v])) e8 hp' ⟨_, upd_same, by rw [List.length_append]; exact hl, h3.append (.one r7)⟩
        have e9 : (ρ0 ++ [LV.own (.L acc)]).set ρ0.length (.own (.L (acc ++ [d7]))) = ρ0 ++ [.own (.L (acc ++ [d7]))] := by
          rw [List.set_append_right _ _ (Nat.le_refl _)]
          simp
        rw [e9] at S9
        exact S9
  · rintro H' ⟨F', M', acc, S', l', _, q'⟩
    rw [List.drop_length, compL_nilE] at q'
    exact hk D H' F' (.L acc) ρ0 M' S' S1.len (l1.trans l') q'
end
end DL

set_option Elab.async false
set_option linter.all false
set_option maxRecDepth 100000
namespace DL
open PySem L2 PySem.W

/-! ### syntax facts -/
def plainE : Expr → Bool
  | .Starred _ _ => false
  | _ => true
def plainEs (es : List Expr) : Bool := es.all plainE
theorem star_cons {e : Expr} {es : List Expr} (env : PySem.Env) (h : plainE e = true) : starEach (e :: es) env = (false, eval e env) :: starEach es env := by
  cases e <;> first | rfl | cases h
theorem star_any {pos : Pos} (env : PySem.Env) : ∀ {es : List Expr}, plainEs es = true → (backTo pos (starEach es env)).any (·.1) = false
  | [], _ => rfl
  | e :: es, h => by
    unfold plainEs at h
    rw [List.all_cons, Bool.and_eq_true] at h
    rw [star_cons env h.1]
    exact star_any env (es := es) h.2
def kwOf : List Keyword → Option (List Str)
  | [] => some []
  | ⟨some x, _, _⟩ :: r => (kwOf r).map (x :: ·)
  | _ => none
theorem kw_facts {pos : Pos} (env : PySem.Env) : ∀ {kws : List Keyword} {ks : List Str}, kwOf kws = some ks → (backToKw pos (keywordEach kws env)).all (·.1.isSome) = true ∧ (backToKw pos (keywordEach kws env)).any (·.1.isNone) = false ∧ (backToKw pos (keywordEach kws env)).filterMap (·.1) = ks
  | [], ks, h => by cases h; exact ⟨rfl, rfl, rfl⟩
  | ⟨some x, v, p⟩ :: r, ks, h => by
    unfold kwOf at h
    cases q : kwOf r with
    | none => rw [q] at h; cases h
    | some l =>
      rw [q] at h
      cases h
      obtain ⟨h1, h2, h3⟩ := kw_facts (pos := pos) env q
      refine ⟨?_, ?_, ?_⟩
      · show (true && _) = true
        rw [Bool.true_and]; exact h1
      · show (false || _) = false
        rw [Bool.false_or]; exact h2
      · show x :: _ = x :: l
        rw [← h3]
        rfl
  | ⟨none, v, p⟩ :: r, ks, h => by cases h

/-! ### calls -/
structure MSim (N : Nam) (F : Hp) (M : Mem) (H : Hp) : Prop where
  sub : ∀ a o, F a = some o → H a = some o
  mf : ∀ a mo, M a = some mo → F a = none
  mem : ∀ a mo, M a = some mo → MoOk N F H a mo
  tb : TbOk N H F M H
def lift (N : Nam) (sp : DSp) : List V → Hp → VK → Prop := fun vs H Q => ∃ F M ds Qd, MSim N F M H ∧ Reps N F ds vs ∧ sp ds M Qd ∧ ∀ d M' v H' F', Qd d M' → Sim N ⟨H, M, F⟩ F' [] M' [] H' → Rep N F' d v → Q v H'
theorem Sim.ms {N : Nam} {Z : Ety} {F H : Hp} {ρ : Env} {M : Mem} {σ : St} (S : Sim N Z F ρ M σ H) : MSim N F M H := ⟨S.sub, S.mf, S.mem, ⟨S.tb.tab, S.tb.fn, S.tb.mn, fun p m => TabS.there (S.tb.tab p m)⟩⟩
theorem MSim.start {N : Nam} {F M H} (S : MSim N F M H) : Sim N ⟨H, M, F⟩ F [] M [] H :=
  ⟨S.sub, Le.refl _, S.mf, S.mem, fun a mo e h => (by have h : M a = none := h; rw [h] at e; cases e), fun a o e h => (by have h : F a = none := h; rw [h] at e; cases e), fun a o e _ _ => e, fun a o e => ⟨o, e⟩, ⟨fun _ => none, fun _ _ e => (nomatch e), fun i lv e => by simp at e⟩, rfl, S.tb⟩
section
variable {P : Program} {w : World} {K : PySem.W.Frag} {mg : Str → Option Value} {base : Heap} {A : Around} {N : Nam} {x : Str} {sp : DSp} {B : Tab}
abbrev liftS (N : Nam) (sp : DSp) : Sp := fun vs H Q _ => lift N sp vs H Q
/-- more arguments that stand for the defaults -/
theorem lift_dflt {dd : List D} {dvs : List V} (hd : ∀ F, Reps N F dd dvs) {vs : List V} {H : Hp} {Q : VK} (h : lift N (fun ds => sp (ds ++ dd)) vs H Q) : lift N sp (vs ++ dvs) H Q := by
  obtain ⟨F, M, ds, Qd, S, r, q, k⟩ := h
  exact ⟨F, M, ds ++ dd, Qd, S, r.append (hd F), q, k⟩
/-- the callee's promise is what is wanted -/
theorem lift_run {Z : Ety} {F H : Hp} {ρ : Env} {M : Mem} {σ : St} {vs : List V} {ds : List D} {Q : D → Env → Mem → Prop} {KK : VK} (S : Sim N Z F ρ M σ H) (r : Reps N F ds vs) (h : sp ds M fun d M' => Q d ρ M')
    (hk : ∀ v H' F' d ρ' M', Sim N Z F' ρ' M' σ H' → Le F F' → Rep N F' d v → Q d ρ' M' → KK v H') : lift N sp vs H KK :=
  ⟨F, M, ds, _, S.ms, r, h, fun d M' v H' F' q S' r' => hk v H' F' d ρ M' (S.back S') S'.le0 r' q⟩
theorem lookup_none {α : Type} {m : Str} : ∀ {xs : List Str} {vs : List α}, m ∉ xs → (xs.zip vs).lookup m = none
  | [], _, _ => rfl
  | x :: xs, [], _ => rfl
  | x :: xs, v :: vs, h => by
    simp only [List.mem_cons, not_or] at h
    rw [List.zip_cons_cons, List.lookup_cons, beq_eq_false_iff_ne.mpr h.1]
    exact lookup_none h.2
end
end DL

set_option Elab.async false
set_option linter.all false
set_option maxRecDepth 100000
namespace DL
open PySem L2 PySem.W

section
variable {X : Cx} {N : Nam} {B : Tab} {pos : Pos}
/-- the ends of the heaps' side for those of the trees' -/
structure LE (N : Nam) (Z : Ety) (E : En) (D : Ends) : Prop where
  nx : ∀ σ H F ρ M, Sim N Z F ρ M σ H → E.nx ρ M → D.nx σ H
  bk : ∀ σ H F ρ M, Sim N Z F ρ M σ H → E.bk ρ M → D.bk σ H
  ct : ∀ σ H F ρ M, Sim N Z F ρ M σ H → E.ct ρ M → D.ct σ H
  rt : ∀ σ H F ρ M d v, Sim N Z F ρ M σ H → Rep N F d v → E.rt d M → D.rt v H
def SR (N : Nam) (t : TS) (ws : WS) : Prop := ∀ (Z : Ety) (σ : St) (H F : Hp) (ρ : Env) (M : Mem) (E : En) (D : Ends), Sim N Z F ρ M σ H → ws ρ M E → LE N Z E D → t D σ H
theorem sr_skip : SR N tNext (fun ρ M E => E.nx ρ M) := fun Z σ H F ρ M E D S h le => le.nx σ H F ρ M S h
theorem sr_seq {t u : TS} {a b : WS} (ha : SR N t a) (hb : SR N u b) : SR N (tSeq t u) (fun ρ M E => a ρ M { E with nx := fun ρ M => b ρ M E }) := fun Z σ H F ρ M E D S h le =>
  ha Z σ H F ρ M _ { D with nx := u D } S h ⟨fun σ H F ρ M S q => hb Z σ H F ρ M E D S q le, le.bk, le.ct, le.rt⟩
theorem sr_seal {t : TS} {i : Nat} {a : WS} (ha : SR N t a) : SR N t (fun ρ M E => readP ρ i M fun _ ρ M => a ρ M E) := fun Z σ H F ρ M E D S h le => by
  have h : readP ρ i M (fun _ ρ M => a ρ M E) := h
  unfold readP at h
  cases e : ρ[i]? with
  | none => rw [e] at h; exact h.elim
  | some l =>
    rw [e] at h
    cases l with
    | no => exact h.elim
    | val d => exact ha Z σ H F ρ M E D S h le
    | own c =>
      obtain ⟨p, ho, _, _, _, S'⟩ := S.seal e
      exact ha Z σ H _ _ M E D S' h le
theorem sr_set {te : TE} {we : WE} {i : Nat} (he : ER N te we) : SR N (tAsg te (gName i)) (fun ρ M E => we ρ M fun x ρ M => E.nx (ρ.set i (.val x)) M) := fun Z σ H F ρ M E D S h le =>
  he Z σ H F ρ M _ _ S h fun v H' F' d ρ' M' S' _ r q => le.nx _ _ _ _ _ (S'.set i r) q
/-- the slot behind all others moves to i -/
theorem Sim.take {Z : Ety} {F H : Hp} {ρ : Env} {M : Mem} {σ : St} {c : CO} {p : Addr} (S : Sim N Z F (ρ ++ [LV.own c]) M (σ ++ [some (.ref p)]) H) (hl : ρ.length = σ.length) (i : Nat) : Sim N Z F (ρ.set i (.own c)) M (σ.set i (some (.ref p))) H := by
  obtain ⟨ow, o1, o2⟩ := S.own
  obtain ⟨p', h1, h2, h3⟩ := o2 ρ.length (.own c) (by simp)
  have ep : p' = p := by rw [hl] at h1; simp at h1; exact h1.symm
  subst ep
  refine ⟨S.sub, S.le0, S.mf, S.mem, S.mnew, S.fnew, S.keep, S.there, ⟨fun b => if b = p' then some i else ow b, fun b j q => ?_, fun j lv e => ?_⟩, by rw [List.length_set, List.length_set]; exact hl, S.tb⟩
  · have q : (if b = p' then some i else ow b) = some j := q
    by_cases z : b = p'
    · subst z; exact o1 b _ h2
    · rw [if_neg z] at q; exact o1 b j q
  · by_cases z : i = j
    · subst z
      have hi : i < ρ.length := by
        have := (List.getElem?_eq_some_iff.mp e).1
        rwa [List.length_set] at this
      rw [List.getElem?_set_self hi] at e
      cases e
      rw [List.getElem?_set_self (by omega)]
      exact ⟨p', rfl, by show (if p' = p' then some i else ow p') = some i; rw [if_pos rfl], h3⟩
    · rw [List.getElem?_set_ne z] at e ⊢
      have hj : j < ρ.length := (List.getElem?_eq_some_iff.mp e).1
      have y := o2 j lv (by rw [List.getElem?_append_left hj]; exact e)
      rw [List.getElem?_append_left (by omega)] at y
      cases lv with
      | no => trivial
      | val d => exact y
      | own c' =>
        obtain ⟨q, k1, k2, k3⟩ := y
        refine ⟨q, k1, ?_, k3⟩
        show (if q = p' then some i else ow q) = some j
        rw [if_neg (fun r => by subst r; rw [h2] at k2; cases k2; omega)]
        exact k2
theorem sr_setO {te : TE} {we : WE} {i : Nat} (he : OR' N te we) : SR N (tAsg te (gName i)) (fun ρ M E => we ρ M fun x ρ M => ∃ c, freshLst x = some c ∧ E.nx (ρ.set i (.own c)) M) := fun Z σ H F ρ M E D S h le =>
  he Z σ H F ρ M _ _ S h fun p H' F' c ρ' M' S' hl _ ⟨c', e, q⟩ => by
    have e2 : c' = c := by cases c <;> exact (Option.some.inj e).symm
    subst e2
    exact le.nx _ _ _ _ _ (S'.take hl i) q
theorem sr_asgT {te : TE} {we : WE} {g : TG} {tg : T} {K : PySem.W.Frag} (he : ER N te we) (hg : GR N K g tg) : SR N (tAsg te g) (fun ρ M E => we ρ M fun x ρ M => bindP tg x ρ fun ρ => E.nx ρ M) := fun Z σ H F ρ M E D S h le =>
  he Z σ H F ρ M _ _ S h fun v H' F' d ρ' M' S' _ r q => hg Z σ H' F' ρ' M' d v _ _ S' r q fun σ2 ρ2 S2 _ q2 => le.nx _ _ _ _ _ S2 q2
/-! ### stores into containers -/
theorem set_dict (hu : X.A.units + 1 < cLine) : PSet X (fun o i v H Q => ∃ a H', o = .ref a ∧ DPut H a i v H' ∧ Q H') := by
  intro pins s σ H o i v ov iv u Q I r1 r2 r3 h
  obtain ⟨a, H', rfl, g, q⟩ := h
  cases r1
  exact d_setItem hu I g r2 r3 fun s' I' => ⟨H', I', q⟩
def rSetA : TSet := fun o i v H Q => rSetL o i v H Q ∨ ∃ a H', o = .ref a ∧ DPut H a i v H' ∧ Q H'
theorem set_any (hu : X.A.units + 1 < cLine) : PSet X rSetA := fun pins s σ H o i v ov iv u Q I r1 r2 r3 h => by
  rcases h with h | h
  · exact set_list pins s σ H o i v ov iv u Q I r1 r2 r3 h
  · exact set_dict hu pins s σ H o i v ov iv u Q I r1 r2 r3 h
theorem dput_len : ∀ {ks : List Key} {ds : List D} (j : Key) (x : D), ks.length = ds.length → (dput ks ds j x).1.length = (dput ks ds j x).2.length
  | [], [], j, x, _ => rfl
  | [], _ :: _, j, x, h => by cases h
  | _ :: _, [], j, x, h => by cases h
  | k :: ks, d :: ds, j, x, h => by
    unfold dput
    by_cases z : k = j
    · rw [if_pos z]; exact h
    · rw [if_neg z]
      simp only [List.length_cons]
      rw [dput_len j x (by simpa using h)]
theorem dput_mem : ∀ {ks : List Key} {ds : List D} {j : Key} {x : D} {k : Key}, k ∈ (dput ks ds j x).1 → k ∈ ks ∨ k = j
  | [], ds, j, x, k, h => by unfold dput at h; simp at h; exact .inr h
  | a :: ks, [], j, x, k, h => by unfold dput at h; simp at h; exact .inr h
  | a :: ks, d :: ds, j, x, k, h => by
    unfold dput at h
    by_cases z : a = j
    · rw [if_pos z] at h; exact .inl h
    · rw [if_neg z] at h
      rcases List.mem_cons.mp h with e | e
      · exact .inl (by rw [e]; exact List.mem_cons_self)
      · rcases dput_mem e with e | e
        · exact .inl (List.mem_cons_of_mem _ e)
        · exact .inr e
theorem dput_nodup : ∀ {ks : List Key} {ds : List D} {j : Key} {x : D}, ks.Nodup → (dput ks ds j x).1.Nodup
  | [], ds, j, x, _ => by unfold dput; simp
  | a :: ks, [], j, x, _ => by unfold dput; simp
  | a :: ks, d :: ds, j, x, h => by
    obtain ⟨h1, h2⟩ := List.nodup_cons.mp h
    unfold dput
    by_cases z : a = j
    · rw [if_pos z]; exact h
    · rw [if_neg z]
      refine List.nodup_cons.mpr ⟨fun m => ?_, dput_nodup h2⟩
      rcases dput_mem m with e | e
      · exact h1 e
      · exact z e
theorem notIn_val : ∀ {ks : List Key} {vs : List V} {j : Key}, j ∉ ks → valV (ks.zip vs) j = none
  | [], _, _, _ => rfl
  | k :: ks, [], _, _ => rfl
  | k :: ks, v :: vs, j, h => by
    simp only [List.mem_cons, not_or] at h
    rw [List.zip_cons_cons, valV_neg (fun e => h.1 e.symm)]
    exact notIn_val h.2
theorem putK_cons_eq {k : Key} {v y : V} {r : List (Key × V)} (h : ∀ p ∈ r, p.1 ≠ k) : putK ((k, v) :: r) k y = (k, y) :: r := by
  unfold putK
  have e1 : ((k, v) :: r).any (fun kv => decide (kv.1 = k)) = true := by simp
  have e2 : r.map (fun kv => if kv.1 = k then (kv.1, y) else kv) = r := by
    conv => rhs; rw [← List.map_id r]
    exact List.map_congr_left fun p hp => by rw [if_neg (h p hp)]; rfl
  simp only [e1, if_true, List.map_cons, e2]
theorem putK_cons_ne {k j : Key} {v y : V} {r : List (Key × V)} (h : k ≠ j) : putK ((k, v) :: r) j y = (k, v) :: putK r j y := by
  unfold putK
  have e1 : ((k, v) :: r).any (fun kv => decide (kv.1 = j)) = r.any (fun kv => decide (kv.1 = j)) := by simp [h]
  rw [e1]
  by_cases z : r.any (fun kv => decide (kv.1 = j)) = true
  · simp [z, h]
  · simp [z]
theorem dput_v {F : Hp} {j : Key} {x : D} {u : V} (rx : Rep N F x u) : ∀ {ks : List Key} {ds : List D} {vs : List V}, ks.Nodup → ks.length = vs.length → Reps N F ds vs → ∃ us, putK (ks.zip vs) j u = (dput ks ds j x).1.zip us ∧ (dput ks ds j x).1.length = us.length ∧ Reps N F (dput ks ds j x).2 us
  | [], ds, vs, _, h, r => by
    have e : vs = [] := List.eq_nil_of_length_eq_zero (by rw [← h]; rfl)
    subst e
    have e : ds = [] := List.eq_nil_of_length_eq_zero (by rw [← r.length]; rfl)
    subst e
    exact ⟨[u], rfl, rfl, .one rx⟩
  | k :: ks, ds, [], _, h, r => by cases h
  | k :: ks, [], v :: vs, _, h, r => by rw [reps_nil] at r; cases r
  | k :: ks, d :: ds, v :: vs, nd, h, r => by
    obtain ⟨v', t, e, q, w⟩ := reps_cons.mp r
    cases e
    obtain ⟨n1, n2⟩ := List.nodup_cons.mp nd
    unfold dput
    by_cases z : k = j
    · subst z
      rw [if_pos rfl]
      refine ⟨u :: vs, ?_, by simpa using h, reps_cons.mpr ⟨u, vs, rfl, rx, w⟩⟩
      rw [List.zip_cons_cons, List.zip_cons_cons]
      exact putK_cons_eq fun p hp e => n1 (e ▸ (List.of_mem_zip hp).1)
    · rw [if_neg z]
      obtain ⟨us, h1, h2, h3⟩ := dput_v rx (ks := ks) (ds := ds) (vs := vs) n2 (by simpa using h) w
      refine ⟨v :: us, ?_, by simpa using h2, reps_cons.mpr ⟨v, us, rfl, q, h3⟩⟩
      rw [List.zip_cons_cons, putK_cons_ne z, h1]
      rfl
theorem setIx_ok {F H : Hp} {p : Addr} {c : CO} {iv xv : V} {i x : D} {P : CO → Prop} {KK : Hp → Prop} (hc : CoOk N F H p c) (ri : VRep N F H i iv) (rx : Rep N F x xv) (h : setIxP c i x P)
    (hk : ∀ c' ho, CoOk N F (upd H p ho) p c' → P c' → KK (upd H p ho)) : rSetA (.ref p) iv xv H KK := by
  cases c with
  | L ds =>
    cases i with
    | int k =>
      obtain ⟨vs, e, z, r⟩ := hc
      obtain ⟨j, h1, h2⟩ := h
      refine .inl ⟨p, vs, k, j, rfl, v_int ri, e, by rw [r.length]; exact h1, hk (.L (ds.set j x)) _ ⟨_, upd_same, by rw [List.length_set]; exact z, r.set j rx⟩ h2⟩
    | _ => exact (show False from h).elim
  | K ks ds =>
    have h : ∃ j, keyOf i = some j ∧ ds.length < sizeLine ∧ P (.K (dput ks ds j x).1 (dput ks ds j x).2) := by cases i <;> exact h
    obtain ⟨j, h1, h2, h3⟩ := h
    obtain ⟨vs, e, z1, z2, nd, r⟩ := hc
    have ez : (ks.zip vs).length = vs.length := by rw [List.length_zip, z1, Nat.min_self]
    obtain ⟨us, k1, k2, k3⟩ := dput_v (j := j) rx nd z1 r
    have hlen : us.length ≤ sizeLine := by
      have := length_putK (ks.zip vs) j xv
      rw [k1, List.length_zip, k2, Nat.min_self, ez, r.length] at this
      omega
    refine .inr ⟨p, _, rfl, ?_, hk (.K (dput ks ds j x).1 (dput ks ds j x).2) (.dK ((dput ks ds j x).1.zip us)) ⟨us, upd_same, k2, hlen, dput_nodup nd, k3⟩ h3⟩
    rw [key_v h1 (key_view h1 ri), ← k1]
    exact DPut.k e (by rw [ez, r.length]; exact h2)
theorem sr_setIxO {te ti : TE} {we wi : WE} {i : Nat} (he : ER N te we) (hi : ER N ti wi) : SR N (tAsg te (gSub (tVar i) ti rSetA)) (fun ρ M E => we ρ M fun x ρ M => (∃ c, ρ[i]? = some (.own c)) ∧ wi ρ M fun y ρ M => ∃ c, ρ[i]? = some (.own c) ∧ setIxP c (view M y) x fun c' => E.nx (ρ.set i (.own c')) M) := fun Z σ H F ρ M E D S h le =>
  he Z σ H F ρ M _ _ S h fun v H1 F1 d ρ1 M1 S1 _ r1 ⟨⟨c0, e0⟩, h1⟩ => by
    obtain ⟨p, hp, _, _⟩ := S1.ownAt e0
    refine ⟨_, hp, ?_⟩
    refine hi Z σ H1 F1 ρ1 M1 _ _ S1 h1 fun u H2 F2 y ρ2 M2 S2 l2 r2 ⟨c, e, q⟩ => ?_
    obtain ⟨p', hp', x, _⟩ := S2.ownAt e
    rw [hp] at hp'; cases hp'
    exact setIx_ok x (r2.view S2) (r1.mono l2) q fun c' ho x' q' => le.nx _ _ _ _ _ (S2.putO e hp x') q'
theorem sr_setIx {te tp ti : TE} {we wp wi : WE} (he : ER N te we) (hp : ER N tp wp) (hi : ER N ti wi) : SR N (tAsg te (gSub tp ti rSetA)) (fun ρ M E => we ρ M fun x ρ M => wp ρ M fun q ρ M => wi ρ M fun y ρ M => ∃ a c, q = .loc a ∧ M a = some (.co c) ∧ setIxP c (view M y) x fun c' => E.nx ρ (updM M a (.co c'))) := fun Z σ H F ρ M E D S h le =>
  he Z σ H F ρ M _ _ S h fun v H1 F1 d ρ1 M1 S1 _ r1 h1 => hp Z σ H1 F1 ρ1 M1 _ _ S1 h1 fun w H2 F2 q ρ2 M2 S2 l2 r2 h2 => hi Z σ H2 F2 ρ2 M2 _ _ S2 h2 fun u H3 F3 y ρ3 M3 S3 l3 r3 ⟨a, c, e1, e2, h3⟩ => by
    subst e1
    rw [rep_loc.mp r2]
    exact setIx_ok (S3.mem a _ e2) (r3.view S3) (r1.mono (l2.trans l3)) h3 fun c' ho x' q' => le.nx _ _ _ _ _ (S3.putM (mo' := .co c') e2 x') q'
end
end DL

set_option Elab.async false
set_option linter.all false
set_option maxRecDepth 100000
namespace DL
open PySem L2 PySem.W

section
variable {X : Cx} {N : Nam} {B : Tab} {pos : Pos}
/-! ### stores into objects -/
theorem putF_zip : ∀ {xs : List Str} {vs : List V} {k : Nat} {x : Str} {v : V}, xs.Nodup → xs[k]? = some x → k < vs.length → putF x v ((xs.take vs.length).zip vs) = (xs.take vs.length).zip (vs.set k v)
  | [], _, _, _, _, _, e, _ => by simp at e
  | _ :: _, [], _, _, _, _, _, h => by simp at h
  | y :: xs, u :: vs, 0, x, v, nd, h1, _ => by
    simp at h1; subst h1
    show putF y v ((y, u) :: _) = (y, v) :: _
    unfold putF
    rw [if_pos rfl]
  | y :: xs, u :: vs, k + 1, x, v, nd, h1, h2 => by
    have h1 : xs[k]? = some x := by simpa using h1
    have hne : ¬ y = x := by
      rintro rfl
      exact (List.nodup_cons.mp nd).1 (List.mem_of_getElem? h1)
    show putF x v ((y, u) :: (xs.take vs.length).zip vs) = (y, u) :: (xs.take vs.length).zip (vs.set k v)
    unfold putF
    rw [if_neg hne, putF_zip (List.nodup_cons.mp nd).2 h1 (by simpa using h2)]
theorem putF_new : ∀ {xs : List Str} {vs : List V} {x : Str} {v : V}, xs.Nodup → xs[vs.length]? = some x → putF x v ((xs.take vs.length).zip vs) = (xs.take (vs ++ [v]).length).zip (vs ++ [v])
  | [], _, _, _, _, e => by simp at e
  | y :: xs, [], x, v, nd, h1 => by
    simp at h1; subst h1
    rfl
  | y :: xs, u :: vs, x, v, nd, h1 => by
    have h1 : xs[vs.length]? = some x := by simpa using h1
    have hne : ¬ y = x := by
      rintro rfl
      exact (List.nodup_cons.mp nd).1 (List.mem_of_getElem? h1)
    show putF x v ((y, u) :: (xs.take vs.length).zip vs) = (y, u) :: (xs.take (vs ++ [v]).length).zip (vs ++ [v])
    unfold putF
    rw [if_neg hne, putF_new (List.nodup_cons.mp nd).2 h1]
theorem putAt_ok {Z : Ety} {F H : Hp} {ρ : Env} {M : Mem} {σ : St} (hn : NmOk B N) (hc : ClsOk X.K B N) (S : Sim N Z F ρ M σ H) {a : Addr} {f : Nat} {x : D} {v : V} {P : Mem → Prop} {KK : Hp → Prop} (r : Rep N F x v) (h : putAt B.cfs M a f x P) (hk : ∀ H' M', Sim N Z F ρ M' σ H' → P M' → KK H') :
    ∃ c dx fs, (∃ fs0, M a = some (.obj c fs0)) ∧ H a = some (.ins (N.cad c) dx fs) ∧ Cls X.K (N.cad c) ∧ NoAttr X.K (N.cad c) (Str.ofString (B.attr f)) ∧ fs.length < 1000 ∧ KK (upd H a (.ins (N.cad c) dx (putF (Str.ofString (B.attr f)) v fs))) := by
  have h : (match M a with | some (.obj c fs) => ∃ k, posOf (B.cfs c) f = some k ∧ ((k < fs.length ∧ P (updM M a (.obj c (fs.set k x)))) ∨ (k = fs.length ∧ P (updM M a (.obj c (fs ++ [x]))))) | _ => False) := h
  cases e : M a with
  | none => rw [e] at h; exact h.elim
  | some mo =>
    rw [e] at h
    cases mo with
    | co c => exact h.elim
    | obj c fs =>
      obtain ⟨k, h1, h2⟩ := h
      obtain ⟨dx, vs, h3, h4, h5⟩ := S.mem a _ e
      have hm : f ∈ B.cfs c := List.mem_of_getElem? (posOf_get h1)
      have hx := hn.at h1
      have hkl : k < (N.nms c).length := (List.getElem?_eq_some_iff.mp hx).1
      have hl := h5.length
      have hsmall : ((N.nms c).take vs.length |>.zip vs).length < 1000 := by
        rw [List.length_zip, List.length_take]
        have := hn.few c
        rw [← hn.len c] at this
        omega
      refine ⟨c, dx, _, ⟨fs, rfl⟩, h3, (hc c f hm).1, (hc c f hm).2, hsmall, ?_⟩
      rcases h2 with ⟨h6, h7⟩ | ⟨h6, h7⟩
      · refine hk _ _ (S.putM (mo' := .obj c (fs.set k x)) e ⟨dx, vs.set k v, ?_, by rw [List.length_set]; exact h4, h5.set k r⟩) h7
        rw [upd_same, putF_zip (hn.ndN c) hx (by omega), List.length_set]
      · have e2 : vs.length = k := by omega
        refine hk _ _ (S.putM (mo' := .obj c (fs ++ [x])) e ⟨dx, vs ++ [v], ?_, by rw [List.length_append, List.length_singleton]; omega, h5.append (.one r)⟩) h7
        rw [upd_same, putF_new (hn.ndN c) (by rw [e2]; exact hx)]
theorem sr_setAt {te to : TE} {we wo : WE} {f : Nat} (hn : NmOk B N) (hc : ClsOk X.K B N) (he : ER N te we) (ho : ER N to wo) : SR N (sFld X.K to te (Str.ofString (B.attr f))) (fun ρ M E => we ρ M fun x ρ M => wo ρ M fun q ρ M => ∃ a, q = .loc a ∧ putAt B.cfs M a f x fun M => E.nx ρ M) := fun Z σ H F ρ M E D S h le =>
  he Z σ H F ρ M _ _ S h fun v H1 F1 d ρ1 M1 S1 _ r1 h1 => ho Z σ H1 F1 ρ1 M1 _ _ S1 h1 fun u H2 F2 q ρ2 M2 S2 l2 r2 ⟨a, e, h2⟩ => by
    subst e
    obtain ⟨c, dx, fs, _, k1, k2, k3, k4, k5⟩ := putAt_ok (X := X) hn hc S2 (r1.mono l2) h2 (KK := fun H => D.nx σ H) fun H' M' S' q' => le.nx _ _ _ _ _ S' q'
    exact ⟨a, _, dx, fs, rep_loc.mp r2, k1, k2, k3, k4, k5⟩
/-- the slot behind all others becomes an object of the memory -/
theorem Sim.toM {Z : Ety} {F H : Hp} {ρ : Env} {M : Mem} {σ : St} {c : CO} {p : Addr} (S : Sim N Z F (ρ ++ [LV.own c]) M (σ ++ [some (.ref p)]) H) (hl : ρ.length = σ.length) : M p = none ∧ Sim N Z F ρ (updM M p (.co c)) σ H := by
  obtain ⟨ow, o1, o2⟩ := S.own
  obtain ⟨p', h1, h2, h3⟩ := o2 ρ.length (.own c) (by simp)
  have ep : p' = p := by rw [hl] at h1; simp at h1; exact h1.symm
  subst ep
  obtain ⟨k1, k2, k3, k4⟩ := o1 p' _ h2
  refine ⟨k2, S.sub, S.le0, fun b m q => ?_, fun b m q => ?_, fun b m q z => ?_, S.fnew, S.keep, S.there, ⟨fun b => if b = p' then none else ow b, fun b j q => ?_, fun j lv e => ?_⟩, hl, S.tb.putM (S.tb.neH k3)⟩
  · unfold updM at q
    by_cases z : b = p'
    · subst z; exact k1
    · rw [if_neg z] at q; exact S.mf b m q
  · unfold updM at q
    by_cases z : b = p'
    · subst z; rw [if_pos rfl] at q; cases q; exact h3
    · rw [if_neg z] at q; exact S.mem b m q
  · unfold updM at q
    by_cases y : b = p'
    · subst y; exact k3
    · rw [if_neg y] at q; exact S.mnew b m q z
  · have q : (if b = p' then none else ow b) = some j := q
    by_cases z : b = p'
    · rw [if_pos z] at q; cases q
    · rw [if_neg z] at q
      obtain ⟨g1, g2, g3, g4⟩ := o1 b j q
      exact ⟨g1, by unfold updM; rw [if_neg z]; exact g2, g3, g4⟩
  · have hj : j < ρ.length := (List.getElem?_eq_some_iff.mp e).1
    have y := o2 j lv (by rw [List.getElem?_append_left hj]; exact e)
    rw [List.getElem?_append_left (by omega)] at y
    cases lv with
    | no => trivial
    | val d => exact y
    | own c' =>
      obtain ⟨q, g1, g2, g3⟩ := y
      refine ⟨q, g1, ?_, g3⟩
      show (if q = p' then none else ow q) = some j
      rw [if_neg (fun r => by subst r; rw [h2] at g2; cases g2; omega)]
      exact g2
theorem sr_setAtO {te to : TE} {we wo : WE} {f : Nat} (hn : NmOk B N) (hc : ClsOk X.K B N) (he : OR' N te we) (ho : ER N to wo) : SR N (sFld X.K to te (Str.ofString (B.attr f))) (fun ρ M E => we ρ M fun x ρ M => ∃ c, freshLst x = some c ∧ ∀ p, M p = none → wo ρ (updM M p (.co c)) fun q ρ M => ∃ a, q = .loc a ∧ putAt B.cfs M a f (.loc p) fun M => E.nx ρ M) := fun Z σ H F ρ M E D S h le =>
  he Z σ H F ρ M _ _ S h fun p H1 F1 c ρ1 M1 S1 hl _ ⟨c', e, h1⟩ => by
    have e2 : c' = c := by cases c <;> exact (Option.some.inj e).symm
    subst e2
    obtain ⟨g1, S2⟩ := S1.toM hl
    refine ho Z σ H1 F1 ρ1 _ _ _ S2 (h1 p g1) fun u H3 F3 q ρ3 M3 S3 l3 r3 ⟨a, e, h3⟩ => ?_
    subst e
    obtain ⟨c, dx, fs, _, k1, k2, k3, k4, k5⟩ := putAt_ok (X := X) hn hc S3 (v := .ref p) (rep_loc.mpr rfl) h3 (KK := fun H => D.nx σ H) fun H' M' S' q' => le.nx _ _ _ _ _ S' q'
    exact ⟨a, _, dx, fs, rep_loc.mp r3, k1, k2, k3, k4, k5⟩
/-! ### op= -/
def iopOk (o : BOp) : Bool := match o with | .add => true | .sub => true | .mul => true | _ => false
def rIop (o : BOp) : R2 := match o with
  | .add => rI0 fun i j => .int (i + j)
  | .sub => rI0 fun i j => .int (i - j)
  | .mul => rI CMul fun i j => .int (i * j)
  | _ => fun _ _ _ _ => False
theorem iop_ok (o : BOp) (h : iopOk o = true) : OpR X (inplaceOp (opE o)) (rIop o) := by
  cases o <;> first | exact iop_add | exact iop_sub | exact iop_mul | cases h
theorem iop_run {o : BOp} {F H : Hp} {x y : V} {a b : D} {Q : D → Prop} {KK : VK} (h : iopOk o = true) (ra : Rep N F a x) (rb : Rep N F b y) (q : binI o a b Q) (hk : ∀ v d, Rep N F d v → Q d → KK v H) : rIop o x y H KK := by
  obtain ⟨⟨i, j, rfl, rfl⟩, q⟩ := q
  cases o with
  | add => exact ⟨i, j, rep_int.mp ra, rep_int.mp rb, hk _ _ (int_rep _) q⟩
  | sub => exact ⟨i, j, rep_int.mp ra, rep_int.mp rb, hk _ _ (int_rep _) q⟩
  | mul => exact ⟨i, j, rep_int.mp ra, rep_int.mp rb, q.1, hk _ _ (int_rep _) q.2⟩
  | _ => cases h
theorem sr_aug {o : BOp} {i : Nat} {te : TE} {we : WE} (h : iopOk o = true) (he : ER N te we) : SR N (tAug i te (rIop o)) (fun ρ M E => ∃ x, ρ[i]? = some (.val x) ∧ we ρ M fun y ρ M => binI o x y fun z => E.nx (ρ.set i (.val z)) M) := fun Z σ H F ρ M E D S ⟨x, e, hw⟩ le => by
  obtain ⟨v, h1, h2⟩ := S.val e
  refine ⟨v, h1, ?_⟩
  refine he Z σ H F ρ M _ _ S hw fun u H1 F1 d ρ1 M1 S1 l r q => ?_
  exact iop_run h (h2.mono l) r q fun w z rw' q' => le.nx _ _ _ _ _ (S1.set i rw') q'
theorem sr_augAt {o : BOp} {f : Nat} {te ta : TE} {we wa : WE} (h : iopOk o = true) (hn : NmOk B N) (hc : ClsOk X.K B N) (ha : ER N ta wa) (he : ER N te we) : SR N (sFldAug X.K ta te (rIop o) (Str.ofString (B.attr f))) (fun ρ M E => wa ρ M fun q ρ M => ∃ l c, q = .loc l ∧ (∃ fs, M l = some (.obj c fs)) ∧ attrP B.cfs M q f fun x => we ρ M fun y ρ M => (∃ fs, M l = some (.obj c fs)) ∧ binI o x y fun z => putAt B.cfs M l f z fun M => E.nx ρ M) := fun Z σ H F ρ M E D S hw le =>
  ha Z σ H F ρ M _ _ S hw fun v H1 F1 d ρ1 M1 S1 l1 r1 ⟨a, c0, e, ⟨g0, eg⟩, q1⟩ => by
    subst e
    obtain ⟨c, fs, k, x, h1, h2, h3, h4⟩ := attrP_inv q1
    obtain ⟨a', dx, vs, e, h5, h6, h7⟩ := S1.objAt hn r1 h1
    rw [rep_loc.mp r1] at e
    cases e
    have ec : c = c0 := by
      rcases h1 with z | ⟨a2, z1, z2⟩
      · cases z
      · cases z1; rw [eg] at z2; cases z2; rfl
    subst ec
    obtain ⟨u, h8, h9⟩ := h7.get h3
    have hm : f ∈ B.cfs c := List.mem_of_getElem? (posOf_get h2)
    refine ⟨a, _, dx, _, u, rep_loc.mp r1, h5, (hc c f hm).1, (hc c f hm).2, look_fs hn h2 h8, ?_⟩
    refine he Z σ H1 F1 ρ1 M1 _ _ S1 h4 fun y H2 F2 d2 ρ2 M2 S2 l2 r2 ⟨⟨g2, eg2⟩, q2⟩ => ?_
    refine iop_run h (h9.mono l2) r2 q2 fun w z rz q3 => ?_
    obtain ⟨c2, dx', fs', ⟨g3, eg3⟩, k1, k2, k3, k4, k5⟩ := putAt_ok (X := X) hn hc S2 rz q3 (KK := fun H => D.nx σ H) fun H' M' S' q' => le.nx _ _ _ _ _ S' q'
    rw [eg2] at eg3
    cases eg3
    exact ⟨dx', fs', k1, k4, k5⟩
theorem sr_cond {tc : TT} {wc : WE} {t u : TS} {a b : WS} (hc : TR N tc wc) (ha : SR N t a) (hb : SR N u b) : SR N (tIfS tc t u) (fun ρ M E => wc ρ M fun x ρ M => ∃ k, x = .bl k ∧ iteN (Bool.toNat k) (a ρ M E) (b ρ M E)) := fun Z σ H F ρ M E D S h le =>
  hc Z σ H F ρ M (fun k ρ M => iteN (Bool.toNat k) (a ρ M E) (b ρ M E)) _ S h fun k H' F' ρ' M' S' _ q => by
    cases k with
    | true => exact ha Z σ H' F' ρ' M' E D S' q le
    | false => exact hb Z σ H' F' ρ' M' E D S' q le
theorem Sim.rebase {Z : Ety} {F H : Hp} {ρ : Env} {M : Mem} {σ : St} (S : Sim N Z F ρ M σ H) : Sim N ⟨Z.H_0, Z.M_0, F⟩ F ρ M σ H :=
  ⟨S.sub, Le.refl _, S.mf, S.mem, S.mnew, fun a o e h => (by have h : F a = none := h; rw [h] at e; cases e), S.keep, S.there, S.own, S.len, S.tb⟩
theorem Sim.unbase {Z : Ety} {F F' H H' : Hp} {ρ ρ' : Env} {M M' : Mem} {σ σ' : St} (S : Sim N Z F ρ M σ H) (S' : Sim N ⟨Z.H_0, Z.M_0, F⟩ F' ρ' M' σ' H') : Sim N Z F' ρ' M' σ' H' := by
  refine ⟨S'.sub, S.le0.trans S'.le0, S'.mf, S'.mem, S'.mnew, fun a o e h1 h2 => ?_, S'.keep, S'.there, S'.own, S'.len, S'.tb⟩
  cases q : F a with
  | some u => exact S.fnew a u q h1 h2
  | none => exact S'.fnew a o e q h2
theorem sr_for {wi : TI} {wI : WA} {g : TG} {tg : T} {tb : TS} {b : WS} {K : PySem.W.Frag} (hi : IR N wi wI) (hg : GR N K g tg) (hb : SR N tb b) : SR N (tFor wi g tb) (fun ρ M E => wI ρ M fun ds ρ M => forL (fun d ρ M E => bindP tg d ρ fun ρ => b ρ M E) ds ρ M E) := fun Z σ H F ρ M E D S h le =>
  hi Z σ H F ρ M _ _ S h fun J H1 F1 ds ρ1 M1 S1 _ ⟨hz, G, Y, w, hG, hY⟩ q1 => by
    refine for_it w (fun i σ' H' => ∃ F' ρ' M', Sim N Z F' ρ' M' σ' H' ∧ Le F1 F' ∧ forL (fun d ρ M E => bindP tg d ρ fun ρ => b ρ M E) (ds.drop i) ρ' M' E) ⟨F1, ρ1, M1, S1, Le.refl _, q1⟩ ?_ ?_ ?_
    · rintro i σ' H' _ ⟨F', ρ', M', S', l', _⟩
      exact hG Z F' H' ρ' M' σ' S' l'
    · rintro i x σ2 H2 H3 hlt ⟨F2, ρ2, M2, S2, l2, q2⟩ y
      obtain ⟨F3, d, hd, S3, l3, r3⟩ := hY Z F2 H2 ρ2 M2 σ2 i x H3 S2 l2 hlt y
      have ed : ds.drop i = d :: ds.drop (i + 1) := by
        obtain ⟨h1, h2⟩ := List.getElem?_eq_some_iff.mp hd
        rw [List.drop_eq_getElem_cons h1, h2]
      rw [ed, forL_consE] at q2
      have q2 : bindP tg d ρ2 (fun ρ => b ρ M2 _) := q2
      refine hg Z σ2 H3 F3 ρ2 M2 d x _ _ S3 r3 q2 fun σ5 ρ5 S5 _ q5 => ?_
      refine hb _ σ5 H3 F3 ρ5 M2 _ _ S5.rebase q5 ⟨fun σ6 H6 F6 ρ6 M6 S6 q6 => ?_, fun σ6 H6 F6 ρ6 M6 S6 q6 => ?_, fun σ6 H6 F6 ρ6 M6 S6 q6 => ?_, fun σ6 H6 F6 ρ6 M6 d6 v6 S6 r6 q6 => ?_⟩
      · exact ⟨F6, ρ6, M6, S5.unbase S6, (l2.trans l3).trans S6.le0, q6⟩
      · exact le.nx _ _ _ _ _ (S5.unbase S6) q6
      · exact ⟨F6, ρ6, M6, S5.unbase S6, (l2.trans l3).trans S6.le0, q6⟩
      · exact le.rt _ _ _ _ _ _ _ (S5.unbase S6) r6 q6
    · rintro σ' H' ⟨F', ρ', M', S', _, q'⟩
      rw [List.drop_length, forL_nilE] at q'
      exact le.nx _ _ _ _ _ S' q'
theorem sr_while {tc : TT} {wc : WE} {tb : TS} {b : WS} (hc : TR N tc wc) (hb : SR N tb b) : SR N (tWhile tc tb) (fun ρ M E => ∃ n, whileN wc b n ρ M E) := fun Z σ H F ρ M E D S ⟨n, h⟩ le => by
  refine ⟨fun m σ H => ∃ F ρ M, Sim N Z F ρ M σ H ∧ whileN wc b m ρ M E, ⟨n, F, ρ, M, S, h⟩, ?_⟩
  rintro m σ H ⟨F, ρ, M, S, h⟩
  cases m with
  | zero => rw [whileN_zeroE] at h; exact h.elim
  | succ m =>
    rw [whileN_succE] at h
    refine hc Z σ H F ρ M (fun k ρ M => iteN (Bool.toNat k) (b ρ M _) (E.nx ρ M)) _ S h fun k H' F' ρ' M' S' _ q => ?_
    cases k with
    | false => exact le.nx _ _ _ _ _ S' q
    | true =>
      refine ⟨fun σ H => ∃ F ρ M, Sim N Z F ρ M σ H ∧ whileN wc b m ρ M E, fun σ' H' z => ⟨m, Nat.lt_succ_self m, z⟩, ?_⟩
      exact hb Z σ H' F' ρ' M' _ _ S' q ⟨fun σ6 H6 F6 ρ6 M6 S6 q6 => ⟨F6, ρ6, M6, S6, q6⟩, fun σ6 H6 F6 ρ6 M6 S6 q6 => le.nx _ _ _ _ _ S6 q6, fun σ6 H6 F6 ρ6 M6 S6 q6 => ⟨F6, ρ6, M6, S6, q6⟩, le.rt⟩
theorem sr_ret {te : TE} {we : WE} (he : ER N te we) : SR N (tRet te) (fun ρ M E => we ρ M fun x _ M => E.rt x M) := fun Z σ H F ρ M E D S h le =>
  he Z σ H F ρ M _ _ S h fun v H' F' d ρ' M' S' _ r q => le.rt _ _ _ _ _ _ _ S' r q
theorem sr_retN : SR N tRetN (fun _ M E => E.rt .non M) := fun Z σ H F ρ M E D S h le => le.rt _ _ _ _ _ _ _ S (rep_non.mpr rfl) h
theorem sr_expr {te : TE} {we : WE} (he : ER N te we) : SR N (tDrop te) (fun ρ M E => we ρ M fun _ ρ M => E.nx ρ M) := fun Z σ H F ρ M E D S h le =>
  he Z σ H F ρ M _ _ S h fun v H' F' d ρ' M' S' _ r q => le.nx _ _ _ _ _ S' q
theorem sr_brk : SR N tBreak (fun ρ M E => E.bk ρ M) := fun Z σ H F ρ M E D S h le => le.bk σ H F ρ M S h
theorem sr_cnt : SR N tCont (fun ρ M E => E.ct ρ M) := fun Z σ H F ρ M E D S h le => le.ct σ H F ρ M S h
theorem sr_never : SR N tNever (fun _ _ _ => False) := fun Z σ H F ρ M E D S h le => h.elim
end
end DL

set_option Elab.async false
set_option linter.all false
set_option maxRecDepth 100000
namespace DL
open PySem L2 PySem.W

/-- what stays in the whole program -/
structure Bz where
  P : Program
  w : World
  K : PySem.W.Frag
  mg : Str → Option Value
  base : Heap
  B : Tab
  N : Nam
structure Bz.Good (b : Bz) : Prop where
  nm : NmOk b.B b.N
  cl : ClsOk b.K b.B b.N
  em : ∀ i a, b.N.emp i = some a → ∀ H, SqT b.K H a []
  kl : ∀ a ns, b.N.kl a ns → ∀ H, SqL b.K H a (ns.map V.int)
/-- a block: its slots' names, its scope, which cells are its own -/
structure Kt where
  ns : List Str
  sc : Scope
  fn : Str → Bool
  lam : Bool
/-- a def that makes lambdas: its code object, the table of those that it made -/
def LamOk (b : Bz) (X : Cx) : Prop := ∃ c P, X.env.code = .ref c ∧ LamX.TabB X.base X.mg c P ∧ (P, X.env.qual ++ "<lambda>") ∈ b.N.tbs ∧ ∀ p ∈ b.N.tbs, p.1 = P → p.2 = X.env.qual ++ "<lambda>"
structure Cok (b : Bz) (A : Around) (κ : Kt) (X : Cx) : Prop where
  g : b.Good
  lm : κ.lam = true → LamOk b X
  p : X.prog = b.P
  w : X.w = b.w
  k : X.K = b.K
  m : X.mg = b.mg
  b : X.base = b.base
  a : X.A = A
  c : X.calm = true
  n : X.N = κ.ns
  s : X.env.scope = κ.sc
  f : X.fn = κ.fn
  nd : X.N.Nodup
  xe : X.xe = fun _ _ => False
  hu : X.A.units + 64 < cLine
  st : (∀ x, κ.fn x = true) → X.stack = X.env :: X.outer ∧ X.env.frame = some X.env.locals
def relS (scope sc : Scope) : Scope := { scope with names := scope.names.map fun (n, k) => if (k == .free && sc.kind == .function && sc.names.lookup n == some .cell) then (n, .cell) else (n, k) }
def Kt.sub (κ : Kt) (scope : Scope) : Kt := ⟨κ.ns, relS scope κ.sc, fun x => scope.names.lookup x == some .cell, κ.lam⟩
theorem look_none {α : Type} {x : Str} : ∀ {l : List (Str × α)}, (∀ p ∈ l, p.1.cps.size < x.cps.size) → l.lookup x = none
  | [], _ => rfl
  | (y, a) :: l, h => by
    have h1 : y.cps.size < x.cps.size := h (y, a) List.mem_cons_self
    have e : (x == y) = false := beq_eq_false_iff_ne.mpr fun z => by rw [z] at h1; exact Nat.lt_irrefl _ h1
    rw [List.lookup_cons, e]
    exact look_none fun p m => h p (List.mem_cons_of_mem _ m)
theorem size_bound {α : Type} : ∀ (l : List (Str × α)), ∃ n, ∀ p ∈ l, p.1.cps.size < n
  | [] => ⟨0, fun p m => by cases m⟩
  | (y, a) :: l => by
    obtain ⟨n, h⟩ := size_bound l
    refine ⟨n + y.cps.size + 1, fun p m => ?_⟩
    rcases List.mem_cons.mp m with rfl | m
    · show y.cps.size < n + y.cps.size + 1; omega
    · have := h p m; omega
theorem not_top {α : Type} (l : List (Str × α)) : ∃ x : Str, l.lookup x = none := by
  obtain ⟨n, h⟩ := size_bound l
  exact ⟨⟨Array.replicate n 0⟩, look_none fun p m => by rw [Array.size_replicate]; exact h p m⟩
theorem Cok.blk {b : Bz} {A : Around} {κ : Kt} {X : Cx} (c : Cok b A κ X) (scope : Scope) (s : Shared) (H : Hp) (C : Addr) (cl : List (Str × Addr)) (fp : List Addr) : Cok b A (κ.sub scope) (X.blk s H scope (compEnvC scope cl C X.env) fp) := by
  refine ⟨c.g, c.lm, c.p, c.w, c.k, c.m, c.b, c.a, c.c, c.n, ?_, rfl, c.nd, rfl, c.hu, fun h => ?_⟩
  case refine_2 =>
    obtain ⟨x, e⟩ := not_top scope.names
    have z := h x
    have z : (scope.names.lookup x == some .cell) = true := z
    rw [e] at z
    cases z
  show relS scope X.env.scope = _
  rw [c.s]
  rfl
def visB (κ : Kt) (x : Str) : Bool := match κ.sc.names.lookup x with | some .local => true | some .cell => true | some .free => true | _ => false
def locB (κ : Kt) (x : Str) : Bool := match κ.sc.names.lookup x with | some .local => true | some .cell => κ.fn x | _ => false
def lclB (κ : Kt) (x : Str) : Bool := match κ.sc.names.lookup x with | some .local => true | _ => false
def glB (κ : Kt) (x : Str) : Bool := match κ.sc.names.lookup x with | some .globalImplicit => true | _ => false
section
variable {b : Bz} {A : Around} {κ : Kt} {X : Cx}
theorem Cok.vis (c : Cok b A κ X) {x : Str} (h : visB κ x = true) : Vis X.env.scope x := by
  unfold visB at h
  rw [c.s]
  split at h
  · exact .inl (by assumption)
  · exact .inr (.inl (by assumption))
  · exact .inr (.inr (by assumption))
  · cases h
theorem Cok.loc (c : Cok b A κ X) {x : Str} (h : locB κ x = true) : Loc X.env.scope x ∧ (X.fn x = true ∨ X.env.scope.names.lookup x = some .local) := by
  unfold locB at h
  rw [c.s, c.f]
  split at h
  · rename_i e; exact ⟨.inl e, .inr e⟩
  · rename_i e; exact ⟨.inr e, .inl h⟩
  · cases h
theorem Cok.lcl (c : Cok b A κ X) {x : Str} (h : lclB κ x = true) : X.env.scope.names.lookup x = some .local := by
  unfold lclB at h
  rw [c.s]
  split at h
  · assumption
  · cases h
theorem Cok.gl (c : Cok b A κ X) {x : Str} (h : glB κ x = true) : Gl X x := by
  unfold glB at h
  show X.env.scope.names.lookup x = _
  rw [c.s]
  split at h
  · assumption
  · cases h
end
section
variable (b : Bz) (A : Around) (κ : Kt)
def HE (e : Expr) (T : T) : Prop := ∀ X, Cok b A κ X → ∃ t, PE X e t ∧ ER b.N t (wpE b.B T)
def HO (e : Expr) (T : T) : Prop := ∀ X, Cok b A κ X → ∃ t, PE X e t ∧ OR' b.N t (wpE b.B T)
def HT (e : Expr) (T : T) : Prop := ∀ X, Cok b A κ X → ∃ t, PT X e t ∧ TR b.N t (wpE b.B T)
def HW (e : Expr) (T : T) : Prop := ∀ X, Cok b A κ X → ∃ t, PW X e t ∧ TR b.N t (wpE b.B T)
def HA (es : List Expr) (T : T) : Prop := ∀ X, Cok b A κ X → ∃ t, PA X es t ∧ AR b.N t (wpA b.B T)
def HK (es : List Keyword) (T : T) : Prop := ∀ X, Cok b A κ X → ∃ t, PK X es t ∧ AR b.N t (wpA b.B T)
def HP (o : Option Expr) (T : T) : Prop := ∀ X, Cok b A κ X → ∃ t, PO X o t ∧ PR b.N t (wpP b.B T)
def HC (es : List Expr) (T : T) : Prop := ∀ X, Cok b A κ X → ∃ t, PTs X es t ∧ CR' b.N t (wpC b.B T)
def HI (tg e : Expr) (T : T) : Prop := ∀ X, Cok b A κ X → ∃ t, PI X tg e t ∧ IR b.N t (wpI b.B T)
def HG (e : Expr) (T : T) : Prop := ∀ X, Cok b A κ X → ∃ t, PG X e t ∧ GR b.N X.K t T
def HGs (es : List Expr) (T : T) : Prop := ∀ X, Cok b A κ X → ∃ t, PGs X es t ∧ GsR b.N X.K t T
def HS (s : Stmt) (T : T) : Prop := ∀ X, Cok b A κ X → ∃ t, PS X s t ∧ SR b.N t (wpS b.B T)
def HSs (s : List Stmt) (T : T) : Prop := ∀ X, Cok b A κ X → ∃ t, PSs X s t ∧ SR b.N t (wpS b.B T)
end
section
variable {b : Bz} {A : Around} {κ : Kt} {pos pos' p p2 p3 apos : Pos} {e e1 e2 e3 c o : Expr} {es rest : List Expr} {T0 T1 T2 T3 Tr Tg Ti Tc To : DL.T}
/-! ### expressions -/
theorem HO.he (h : HO b A κ e T0) : HE b A κ e T0 := fun X g => let ⟨t, p, r⟩ := h X g; ⟨t, p, r.er⟩
theorem h_var (i : Nat) {x : Str} (h1 : κ.ns[i]? = some x) (h2 : visB κ x = true) (hd : (x == ("__debug__" : Str)) = false) (hcd : (x == ("__classdict__" : Str)) = false) : HE b A κ (.Name x pos) (.var i) := fun X c => ⟨_, pe_var (by rw [c.n]; exact h1) (c.vis h2) hd hcd, er_var⟩
theorem h_int {i : Int} {j} : HE b A κ (.Constant (.int i) j pos) (.int i) := fun X c => ⟨_, pe_int, er_c fun F => int_rep i⟩
theorem h_str {x : Str} {j} : HE b A κ (.Constant (.str x) j pos) (.str x) := fun X c => ⟨_, pe_str, er_c fun F => rep_str.mpr rfl⟩
theorem h_bl {x : Bool} {j} : HE b A κ (.Constant (.bool x) j pos) (.bl x) := fun X c => ⟨_, pe_bl, er_c fun F => bl_rep x⟩
theorem h_non {j} : HE b A κ (.Constant .none j pos) .non := fun X c => ⟨_, pe_non, er_c fun F => rep_non.mpr rfl⟩
/-- a global that holds a value that never changes -/
theorem h_glob (k : Nat) {x : Str} {v : V} {u : Value} (h2 : glB κ x = true) (hm : b.mg x = some u) (r : RelV v u) (hr : ∀ F, Rep b.N F (b.B.glb k).2 v) (hd : (x == ("__debug__" : Str)) = false) : HE b A κ (.Name x pos) (.glob k) := fun X c =>
  ⟨_, pe_glob (c.gl h2) (by rw [c.m]; exact hm) r hd, er_c hr⟩
theorem bin_ok {X : Cx} {N : Nam} (o : BOp) : ∃ r, OpR X (binaryOp (opE o)) r ∧ RB X N r (binP o) := by
  cases o with
  | add => exact ⟨_, op_addA, rb_add⟩
  | sub => exact ⟨_, op_sub, rb_sub⟩
  | mul => exact ⟨_, op_mul, rb_mul⟩
  | fdiv => exact ⟨_, op_fdiv.or op_fdivW, rb_fdiv⟩
  | mod => exact ⟨_, op_mod, rb_mod⟩
  | pow => exact ⟨_, op_pow, rb_pow⟩
theorem h_bin {op : Operator} (q : BOp) (ho : op = opE q) (h1 : HE b A κ e1 T1) (h2 : HE b A κ e2 T2) : HE b A κ (.BinOp e1 op e2 pos) (.bin q T1 T2) := fun X c => by
  obtain ⟨t1, p1, r1⟩ := h1 X c
  obtain ⟨t2, p2, r2⟩ := h2 X c
  obtain ⟨r, k1, k2⟩ := bin_ok (X := X) (N := b.N) q
  subst ho
  exact ⟨_, pe_op k1 p1 p2, er_op2 k2 r1 r2⟩
theorem h_neg (h1 : HE b A κ e1 T1) : HE b A κ (.UnaryOp .USub e1 pos) (.neg T1) := fun X c => by
  obtain ⟨t1, p1, r1⟩ := h1 X c
  refine ⟨_, pe_un un_neg p1, fun Z σ H F ρ M Q K S hw hk => r1 Z σ H F ρ M _ _ S hw fun v H1 F1 d ρ1 M1 S1 l r ⟨i, e, q⟩ => ?_⟩
  subst e
  exact ⟨i, rep_int.mp r, hk _ H1 F1 _ ρ1 M1 S1 l (int_rep _) q⟩
theorem cmp_er {X : Cx} {q : COp} (c : Cok b A κ X) {t1 t2 : TE} (r1 : ER b.N t1 (wpE b.B T1)) (r2 : ER b.N t2 (wpE b.B T2)) : ∃ r, OpR X (compareOp (copE q)) r ∧ ER b.N (tOp r t1 t2) (wpE b.B (.cmp q T1 T2)) := by
  obtain ⟨r, k1, k2⟩ := cmp_ok (X := X) (N := b.N) c.hu q
  exact ⟨r, k1, er_op2 k2 r1 r2⟩
theorem h_cmp {op : CmpOp} (q : COp) (ho : op = copE q) (hm : behindInMarks op e2 = false) (h1 : HE b A κ e1 T1) (h2 : HE b A κ e2 T2) : HE b A κ (.Compare e1 [op] [e2] pos) (.cmp q T1 T2) := fun X c => by
  obtain ⟨t1, p1, r1⟩ := h1 X c
  obtain ⟨t2, p2, r2⟩ := h2 X c
  obtain ⟨r, k1, k2⟩ := cmp_er (q := q) c r1 r2
  subst ho
  exact ⟨_, pe_cmpR k1 p1 p2 hm, k2⟩
theorem t_cmp {op : CmpOp} (q : COp) (ho : op = copE q) (hm : behindInMarks op e2 = false) (h1 : HE b A κ e1 T1) (h2 : HE b A κ e2 T2) : HT b A κ (.Compare e1 [op] [e2] pos) (.cmp q T1 T2) := fun X c => by
  obtain ⟨t1, p1, r1⟩ := h1 X c
  obtain ⟨t2, p2, r2⟩ := h2 X c
  obtain ⟨r, k1, k2⟩ := cmp_er (q := q) c r1 r2
  subst ho
  exact ⟨_, pt_cmpR k1 p1 p2 hm, tr_test k2⟩
theorem chain_er {X : Cx} {q q' : COp} (c : Cok b A κ X) {t1 t2 t3 : TE} (r1 : ER b.N t1 (wpE b.B T1)) (r2 : ER b.N t2 (wpE b.B T2)) (r3 : ER b.N t3 (wpE b.B T3)) : ∃ r r', OpR X (compareOp (copE q)) r ∧ OpR X (compareOp (copE q')) r' ∧ ER b.N (tChain r r' t1 t2 t3) (wpE b.B (.chain q q' T1 T2 T3)) := by
  obtain ⟨r, k1, k2⟩ := cmp_ok (X := X) (N := b.N) c.hu q
  obtain ⟨r', k1', k2'⟩ := cmp_ok (X := X) (N := b.N) c.hu q'
  exact ⟨r, r', k1, k1', er_chain k2 k2' r1 r2 r3⟩
theorem h_chain {op op' : CmpOp} (q q' : COp) (ho : op = copE q) (ho' : op' = copE q') (hm : lastMarks [op, op'] [e2, e3] = false) (h1 : HE b A κ e1 T1) (h2 : HE b A κ e2 T2) (h3 : HE b A κ e3 T3) : HE b A κ (.Compare e1 [op, op'] [e2, e3] pos) (.chain q q' T1 T2 T3) := fun X c => by
  obtain ⟨t1, p1, r1⟩ := h1 X c
  obtain ⟨t2, p2, r2⟩ := h2 X c
  obtain ⟨t3, p3, r3⟩ := h3 X c
  obtain ⟨r, r', k1, k1', k2⟩ := chain_er (q := q) (q' := q') c r1 r2 r3
  subst ho ho'
  exact ⟨_, pe_chain k1 k1' p1 p2 p3 hm, k2⟩
theorem t_chain {op op' : CmpOp} (q q' : COp) (ho : op = copE q) (ho' : op' = copE q') (hm : lastMarks [op, op'] [e2, e3] = false) (h1 : HE b A κ e1 T1) (h2 : HE b A κ e2 T2) (h3 : HE b A κ e3 T3) : HT b A κ (.Compare e1 [op, op'] [e2, e3] pos) (.chain q q' T1 T2 T3) := fun X c => by
  obtain ⟨t1, p1, r1⟩ := h1 X c
  obtain ⟨t2, p2, r2⟩ := h2 X c
  obtain ⟨t3, p3, r3⟩ := h3 X c
  obtain ⟨r, r', k1, k1', k2⟩ := chain_er (q := q) (q' := q') c r1 r2 r3
  subst ho ho'
  exact ⟨_, pt_chain k1 k1' p1 p2 p3 hm, tr_test k2⟩
theorem h_and (h1 : HE b A κ e1 T1) (h2 : HE b A κ (.BoolOp .And (e2 :: rest) pos) T2) : HE b A κ (.BoolOp .And (e1 :: e2 :: rest) pos) (.and T1 T2) := fun X c => by
  obtain ⟨t1, p1, r1⟩ := h1 X c
  obtain ⟨t2, p2, r2⟩ := h2 X c
  exact ⟨_, pe_and p1 p2, er_andV r1 r2⟩
theorem h_or (h1 : HE b A κ e1 T1) (h2 : HE b A κ (.BoolOp .Or (e2 :: rest) pos) T2) : HE b A κ (.BoolOp .Or (e1 :: e2 :: rest) pos) (.or T1 T2) := fun X c => by
  obtain ⟨t1, p1, r1⟩ := h1 X c
  obtain ⟨t2, p2, r2⟩ := h2 X c
  exact ⟨_, pe_or p1 p2, er_orV r1 r2⟩
theorem h_one {op} (h1 : HE b A κ e1 T1) : HE b A κ (.BoolOp op [e1] pos) T1 := fun X c => by
  obtain ⟨t1, p1, r1⟩ := h1 X c
  exact ⟨_, pe_one p1, r1⟩
theorem h_not (h1 : HE b A κ e1 T1) : HE b A κ (.UnaryOp .Not e1 pos) (.not T1) := fun X c => by
  obtain ⟨t1, p1, r1⟩ := h1 X c
  exact ⟨_, pe_not p1, er_notV r1⟩
theorem w_and (h1 : HT b A κ e1 T1) (h2 : HW b A κ (.BoolOp .And (e2 :: rest) pos) T2) : HW b A κ (.BoolOp .And (e1 :: e2 :: rest) pos) (.and T1 T2) := fun X c => by
  obtain ⟨t1, p1, r1⟩ := h1 X c
  obtain ⟨t2, p2, r2⟩ := h2 X c
  exact ⟨_, pw_and p1 p2, tr_and r1 r2⟩
theorem w_or (h1 : HT b A κ e1 T1) (h2 : HW b A κ (.BoolOp .Or (e2 :: rest) pos) T2) : HW b A κ (.BoolOp .Or (e1 :: e2 :: rest) pos) (.or T1 T2) := fun X c => by
  obtain ⟨t1, p1, r1⟩ := h1 X c
  obtain ⟨t2, p2, r2⟩ := h2 X c
  exact ⟨_, pw_or p1 p2, tr_or r1 r2⟩
theorem w_and1 (h1 : HT b A κ e1 T1) : HW b A κ (.BoolOp .And [e1] pos) T1 := fun X c => by
  obtain ⟨t1, p1, r1⟩ := h1 X c
  exact ⟨_, pw_and1 p1, r1⟩
theorem w_or1 (h1 : HT b A κ e1 T1) : HW b A κ (.BoolOp .Or [e1] pos) T1 := fun X c => by
  obtain ⟨t1, p1, r1⟩ := h1 X c
  exact ⟨_, pw_or1 p1, r1⟩
theorem HW.ht (h1 : HW b A κ e1 T1) : HT b A κ e1 T1 := fun X c => by
  obtain ⟨t1, p1, r1⟩ := h1 X c
  exact ⟨_, p1.pt, r1⟩
theorem t_not (h1 : HT b A κ e1 T1) : HT b A κ (.UnaryOp .Not e1 pos) (.not T1) := fun X c => by
  obtain ⟨t1, p1, r1⟩ := h1 X c
  exact ⟨_, pt_not p1, tr_not r1⟩
theorem t_val (he : ∀ (env : PySem.Env) (whole : Sem Value), isTrue e1 env whole = (do let v ← whole; standAt e1.pos; holding [v] (truthy v))) (h1 : HE b A κ e1 T1) : HT b A κ e1 T1 := fun X c => by
  obtain ⟨t1, p1, r1⟩ := h1 X c
  exact ⟨_, pt_val p1 (he X.env), tr_B r1⟩
theorem h_if (h3 : HT b A κ e3 T3) (h1 : HE b A κ e1 T1) (h2 : HE b A κ e2 T2) : HE b A κ (.IfExp e3 e1 e2 pos) (.ife T3 T1 T2) := fun X c => by
  obtain ⟨t1, p1, r1⟩ := h1 X c
  obtain ⟨t2, p2, r2⟩ := h2 X c
  obtain ⟨t3, p3, r3⟩ := h3 X c
  exact ⟨_, pe_ifExp p3 p1 p2, er_if r3 r1 r2⟩
theorem a_nil : HA b A κ [] .nil := fun X c => ⟨_, pa_nil, ar_nil⟩
theorem a_cons (hp : plainE e1 = true) (h1 : HE b A κ e1 T1) (h2 : HA b A κ es T2) : HA b A κ (e1 :: es) (.cons T1 T2) := fun X c => by
  obtain ⟨t1, p1, r1⟩ := h1 X c
  obtain ⟨t2, p2, r2⟩ := h2 X c
  exact ⟨_, pa_cons p1 p2 (star_cons _ hp), ar_cons r1 r2⟩
theorem k_nil : HK b A κ [] .nil := fun X c => ⟨_, pk_nil, ar_nil⟩
theorem k_cons {nm : Option Str} {kws : List Keyword} (h1 : HE b A κ e1 T1) (h2 : HK b A κ kws T2) : HK b A κ (⟨nm, e1, p⟩ :: kws) (.cons T1 T2) := fun X c => by
  obtain ⟨t1, p1, r1⟩ := h1 X c
  obtain ⟨t2, p2, r2⟩ := h2 X c
  exact ⟨_, pk_cons p1 p2, ar_cons r1 r2⟩
theorem h_tup {x1} (h1 : HA b A κ es T1) : HE b A κ (.Tuple es x1 pos) (.tup T1) := fun X c => by
  obtain ⟨t1, p1, r1⟩ := h1 X c
  exact ⟨_, pe_tup p1, er_tup r1⟩
theorem o_lst (h1 : HA b A κ es T1) : HO b A κ (.List es pos) (.lst T1) := fun X c => by
  obtain ⟨t1, p1, r1⟩ := h1 X c
  exact ⟨_, pe_lst p1, or_lst r1⟩
theorem o_dnew : HO b A κ (.Dict [] [] pos) .dnew := fun X c => ⟨_, pe_dnewK, or_dnew⟩
theorem ix_any {X : Cx} (hu : X.A.units + 64 < cLine) : IxR X (fun x y H Q => rIx X.K x y H Q ∨ ∃ a v, x = .ref a ∧ DGet H a y (some v) ∧ Q v H) := ix_seq.or (ix_dict (by omega))
end
end DL

set_option Elab.async false
set_option linter.all false
set_option maxRecDepth 100000
namespace DL
open PySem L2 PySem.W
section
variable {b : Bz} {A : Around} {κ : Kt} {pos pos' p p1 p2 p3 apos cpos tpos : Pos} {e e1 e2 e3 c o : Expr} {es rest : List Expr} {T0 T1 T2 T3 Tr Tg Ti Tc To : DL.T}
theorem h_idx (hs : PlainIx e2) (h1 : HE b A κ e1 T1) (h2 : HE b A κ e2 T2) : HE b A κ (.Subscript e1 e2 pos) (.idx T1 T2) := fun X c => by
  obtain ⟨t1, p1, r1⟩ := h1 X c
  obtain ⟨t2, p2, r2⟩ := h2 X c
  exact ⟨_, pe_ix (ix_any c.hu) p1 p2 hs, er_op2 (X := X) rb_idx r1 r2⟩
theorem p_none : HP b A κ none .non := fun X c => ⟨_, po_none, pr_none⟩
theorem p_some (h1 : HE b A κ e1 T1) : HP b A κ (some e1) (.prt T1) := fun X c => by
  obtain ⟨t1, p1, r1⟩ := h1 X c
  exact ⟨_, po_some p1, pr_some r1⟩
theorem h_sl {lo hi : Option Expr} (h1 : HE b A κ e1 T1) (h2 : HP b A κ lo T2) (h3 : HP b A κ hi T3) : HE b A κ (.Subscript e1 (.Slice lo hi none p2) pos) (.sl T1 T2 T3) := fun X c => by
  obtain ⟨t1, p1, r1⟩ := h1 X c
  obtain ⟨t2, p2, r2⟩ := h2 X c
  obtain ⟨t3, p3, r3⟩ := h3 X c
  exact ⟨_, pe_slice sl_all p1 p2 p3, er_slice (by rw [c.k]; exact c.g.kl) r1 r2 r3⟩
theorem o_rev {k} (h1 : HE b A κ e1 T1) : HO b A κ (.Subscript e1 (.Slice none none (some (.UnaryOp .USub (.Constant (.int 1) k p1) p2)) p3) pos) (.rev T1) := fun X c => by
  obtain ⟨t1, p1, r1⟩ := h1 X c
  exact ⟨_, pe_revL p1, or_revL r1⟩
theorem h_attr (f : Nat) {x : Str} (hx : x = Str.ofString (b.B.attr f)) (hb : ∀ env : PySem.Env, attributeBase e1 x env (eval e1 env) = eval e1 env) (h1 : HE b A κ e1 T1) : HE b A κ (.Attribute e1 x pos) (.attr T1 f) := fun X c => by
  obtain ⟨t1, p1, r1⟩ := h1 X c
  subst hx
  exact ⟨_, pe_fld p1 (hb _), er_attr c.g.nm (by rw [c.k]; exact c.g.cl) r1⟩
/-! ### built-in functions -/
def BiOk (X : Cx) (N : Nam) (B : BI) (id : String) : Prop := ∃ r, CallR X (.builtin id) r ∧ CRb N r (fun M => biP M B)
section
variable {X : Cx} {N : Nam}
theorem bi_len (kl : ∀ a ns, N.kl a ns → ∀ H, SqL X.K H a (ns.map V.int)) : BiOk X N .len "len" := ⟨_, cl_len, cb_len kl⟩
theorem bi_abs : BiOk X N .abs "abs" := ⟨_, call_abs, cb_abs⟩
theorem bi_max2 (hc : X.calm = true) : BiOk X N .max2 "max" := ⟨_, call_max2 hc, cb_max2⟩
theorem bi_min2 (hc : X.calm = true) : BiOk X N .min2 "min" := ⟨_, call_min2 hc, cb_min2⟩
theorem bi_maxL (hc : X.calm = true) : BiOk X N .maxL "max" := ⟨_, cr_max hc, cb_maxL⟩
theorem bi_minL (hc : X.calm = true) : BiOk X N .minL "min" := ⟨_, cr_min hc, cb_minL⟩
theorem bi_sum (hc : X.calm = true) : BiOk X N .sum "sum" := ⟨_, cr_sum hc, cb_sum⟩
theorem bi_all (hc : X.calm = true) : BiOk X N .all "all" := ⟨_, cr_all hc, cb_all⟩
theorem bi_any (hc : X.calm = true) : BiOk X N .any "any" := ⟨_, cr_any hc, cb_any⟩
end
theorem h_biG {x : Str} {id : String} {B : BI} (hk : ∀ X : Cx, X.K = b.K → b.Good → X.calm = true → X.A.units + 64 < cLine → BiOk X b.N B id) (hg : glB κ x = true) (hm : b.mg x = none) (hv : bootBuiltins x = some (.builtin id)) (hn : x ≠ "__name__") (hdb : (x == ("__debug__" : Str)) = false) (hp : plainEs (e1 :: es) = true)
    (h1 : HA b A κ (e1 :: es) T1) : HE b A κ (.Call (.Name x p) (e1 :: es) [] pos) (.bi B T1) := fun X c => by
  obtain ⟨t1, p1, r1⟩ := h1 X c
  obtain ⟨r, k1, k2⟩ := hk X c.k c.g c.c c.hu
  have hp' := hp
  unfold plainEs at hp
  rw [List.all_cons, Bool.and_eq_true] at hp
  exact ⟨_, pe_callB k1 (c.gl hg) (by rw [c.m]; exact hm) hv p1 hn hdb (star_cons _ hp.1) (star_any _ hp.2), er_cb r1 k2⟩

theorem h_len (hm : b.mg "len" = none) (hg : glB κ "len" = true) (hp : plainE e1 = true) (h1 : HE b A κ e1 T1) : HE b A κ (.Call (.Name "len" p) [e1] [] pos) (.bi .len (.cons T1 .nil)) :=
  h_biG (fun X k g _ _ => bi_len (by rw [k]; exact g.kl)) hg hm PySem.boot_len (by decide) (by decide) (by unfold plainEs; simp [hp]) (a_cons hp h1 a_nil)
theorem h_abs (hm : b.mg "abs" = none) (hg : glB κ "abs" = true) (hp : plainE e1 = true) (h1 : HE b A κ e1 T1) : HE b A κ (.Call (.Name "abs" p) [e1] [] pos) (.bi .abs (.cons T1 .nil)) :=
  h_biG (fun X _ _ _ _ => bi_abs) hg hm (by decide +kernel) (by decide) (by decide) (by unfold plainEs; simp [hp]) (a_cons hp h1 a_nil)
theorem boot_max' : bootBuiltins "max" = some (.builtin "max") := by decide +kernel
theorem boot_min' : bootBuiltins "min" = some (.builtin "min") := by decide +kernel
theorem boot_sum' : bootBuiltins "sum" = some (.builtin "sum") := by decide +kernel
theorem boot_all' : bootBuiltins "all" = some (.builtin "all") := by decide +kernel
theorem boot_any' : bootBuiltins "any" = some (.builtin "any") := by decide +kernel
theorem boot_sorted' : bootBuiltins "sorted" = some (.builtin "sorted") := by decide +kernel
theorem boot_list' : bootBuiltins "list" = some (.type "list") := by decide +kernel
theorem boot_tuple' : bootBuiltins "tuple" = some (.type "tuple") := by decide +kernel
theorem boot_isi' : bootBuiltins "isinstance" = some (.builtin "isinstance") := by decide +kernel
theorem pl2 (h : plainE e1 = true) (h' : plainE e2 = true) : plainEs [e1, e2] = true := by unfold plainEs; simp [h, h']
theorem pl1 (h : plainE e1 = true) : plainEs [e1] = true := by unfold plainEs; simp [h]
theorem h_max2 (hm : b.mg "max" = none) (hg : glB κ "max" = true) (hp : plainE e1 = true) (hq : plainE e2 = true) (h1 : HE b A κ e1 T1) (h2 : HE b A κ e2 T2) : HE b A κ (.Call (.Name "max" p) [e1, e2] [] pos) (.bi .max2 (.cons T1 (.cons T2 .nil))) :=
  h_biG (fun X _ _ c _ => bi_max2 c) hg hm boot_max' (by decide) (by decide) (pl2 hp hq) (a_cons hp h1 (a_cons hq h2 a_nil))
theorem h_min2 (hm : b.mg "min" = none) (hg : glB κ "min" = true) (hp : plainE e1 = true) (hq : plainE e2 = true) (h1 : HE b A κ e1 T1) (h2 : HE b A κ e2 T2) : HE b A κ (.Call (.Name "min" p) [e1, e2] [] pos) (.bi .min2 (.cons T1 (.cons T2 .nil))) :=
  h_biG (fun X _ _ c _ => bi_min2 c) hg hm boot_min' (by decide) (by decide) (pl2 hp hq) (a_cons hp h1 (a_cons hq h2 a_nil))
theorem h_maxL (hm : b.mg "max" = none) (hg : glB κ "max" = true) (hp : plainE e1 = true) (h1 : HE b A κ e1 T1) : HE b A κ (.Call (.Name "max" p) [e1] [] pos) (.bi .maxL (.cons T1 .nil)) :=
  h_biG (fun X _ _ c _ => bi_maxL c) hg hm boot_max' (by decide) (by decide) (pl1 hp) (a_cons hp h1 a_nil)
theorem h_minL (hm : b.mg "min" = none) (hg : glB κ "min" = true) (hp : plainE e1 = true) (h1 : HE b A κ e1 T1) : HE b A κ (.Call (.Name "min" p) [e1] [] pos) (.bi .minL (.cons T1 .nil)) :=
  h_biG (fun X _ _ c _ => bi_minL c) hg hm boot_min' (by decide) (by decide) (pl1 hp) (a_cons hp h1 a_nil)
theorem h_sum (hm : b.mg "sum" = none) (hg : glB κ "sum" = true) (hp : plainE e1 = true) (h1 : HE b A κ e1 T1) : HE b A κ (.Call (.Name "sum" p) [e1] [] pos) (.bi .sum (.cons T1 .nil)) :=
  h_biG (fun X _ _ c _ => bi_sum c) hg hm boot_sum' (by decide) (by decide) (pl1 hp) (a_cons hp h1 a_nil)
theorem h_all (hm : b.mg "all" = none) (hg : glB κ "all" = true) (hp : plainE e1 = true) (h1 : HE b A κ e1 T1) : HE b A κ (.Call (.Name "all" p) [e1] [] pos) (.bi .all (.cons T1 .nil)) :=
  h_biG (fun X _ _ c _ => bi_all c) hg hm boot_all' (by decide) (by decide) (pl1 hp) (a_cons hp h1 a_nil)
theorem h_any (hm : b.mg "any" = none) (hg : glB κ "any" = true) (hp : plainE e1 = true) (h1 : HE b A κ e1 T1) : HE b A κ (.Call (.Name "any" p) [e1] [] pos) (.bi .any (.cons T1 .nil)) :=
  h_biG (fun X _ _ c _ => bi_any c) hg hm boot_any' (by decide) (by decide) (pl1 hp) (a_cons hp h1 a_nil)
/-- max(l, default=d), min(l, default=d) -/
theorem h_maxD {kp : Pos} (hm : b.mg "max" = none) (hg : glB κ "max" = true) (hp : plainE e1 = true) (h1 : HE b A κ e1 T1) (h2 : HE b A κ e2 T2) : HE b A κ (.Call (.Name "max" p) [e1] [⟨some "default", e2, kp⟩] pos) (.bi .maxD (.cons T1 (.cons T2 .nil))) := fun X c => by
  obtain ⟨t1, p1, r1⟩ := h1 X c
  obtain ⟨t2, p2, r2⟩ := h2 X c
  exact ⟨_, pe_callBK (cr_maxDf c.c c.hu) (c.gl hg) (by rw [c.m]; exact hm) boot_max' (pa_cons p1 pa_nil (star_cons _ hp)) (pk_cons p2 pk_nil) (he := by rw [star_cons (es := []) X.env hp]; rfl) (hpl := by rw [star_cons (es := []) X.env hp]; rfl), er_dflt (ta := tNil) (tk := tNil) (p := fun M => biP M .maxD) r1 r2 fun Z σ H F ρ M => kb_maxD Z σ H F ρ M⟩
theorem h_minD {kp : Pos} (hm : b.mg "min" = none) (hg : glB κ "min" = true) (hp : plainE e1 = true) (h1 : HE b A κ e1 T1) (h2 : HE b A κ e2 T2) : HE b A κ (.Call (.Name "min" p) [e1] [⟨some "default", e2, kp⟩] pos) (.bi .minD (.cons T1 (.cons T2 .nil))) := fun X c => by
  obtain ⟨t1, p1, r1⟩ := h1 X c
  obtain ⟨t2, p2, r2⟩ := h2 X c
  exact ⟨_, pe_callBK (cr_minDf c.c c.hu) (c.gl hg) (by rw [c.m]; exact hm) boot_min' (pa_cons p1 pa_nil (star_cons _ hp)) (pk_cons p2 pk_nil) (he := by rw [star_cons (es := []) X.env hp]; rfl) (hpl := by rw [star_cons (es := []) X.env hp]; rfl), er_dflt (ta := tNil) (tk := tNil) (p := fun M => biP M .minD) r1 r2 fun Z σ H F ρ M => kb_minD Z σ H F ρ M⟩
theorem o_list (hm : b.mg "list" = none) (hg : glB κ "list" = true) (hp : plainE e1 = true) (h1 : HE b A κ e1 T1) : HO b A κ (.Call (.Name "list" p) [e1] [] pos) (.bi .list (.cons T1 .nil)) := fun X c => by
  obtain ⟨t1, p1, r1⟩ := a_cons hp h1 a_nil X c
  exact ⟨_, pe_callTy call_list_of (c.gl hg) (by rw [c.m]; exact hm) boot_list' p1 (he := star_cons _ hp), or_list r1⟩
theorem h_tuple (hm : b.mg "tuple" = none) (hg : glB κ "tuple" = true) (hp : plainE e1 = true) (h1 : HE b A κ e1 T1) : HE b A κ (.Call (.Name "tuple" p) [e1] [] pos) (.bi .tuple (.cons T1 .nil)) := fun X c => by
  obtain ⟨t1, p1, r1⟩ := a_cons hp h1 a_nil X c
  exact ⟨_, pe_callTy call_tuple_of (c.gl hg) (by rw [c.m]; exact hm) boot_tuple' p1 (he := star_cons _ hp), er_cb (p := fun M => biP M .tuple) r1 cb_tuple⟩
theorem o_sortedG {B : BI} {r : PySem.W.Frag → List V → Hp → VK → Prop} (hr : ∀ X : Cx, X.calm = true → CallR X (.builtin "sorted") (r X.K)) (hm : b.mg "sorted" = none) (hg : glB κ "sorted" = true) (hp : plainE e1 = true) (h1 : HE b A κ e1 T1)
    (ho : ∀ (X : Cx) (ta : TA) (wa : WA), AR b.N ta wa → OR' b.N (tCB (r X.K) ta) (fun ρ M Q => wa ρ M fun ds ρ M => biP M B ds fun z => Q z ρ M)) : HO b A κ (.Call (.Name "sorted" p) [e1] [] pos) (.bi B (.cons T1 .nil)) := fun X c => by
  obtain ⟨t1, p1, r1⟩ := a_cons hp h1 a_nil X c
  exact ⟨_, pe_callB (hr X c.c) (c.gl hg) (by rw [c.m]; exact hm) boot_sorted' p1 (he := star_cons _ hp), ho X _ _ r1⟩
end
end DL

set_option Elab.async false
set_option linter.all false
set_option maxRecDepth 100000
namespace DL
open PySem L2 PySem.W
section
variable {b : Bz} {A : Around} {κ : Kt} {pos pos' p p1 p2 p3 apos cpos tpos spos : Pos} {e e1 e2 e3 c o tg : Expr} {es rest : List Expr} {T0 T1 T2 T3 Tr Tg Ti Tc To : DL.T}
theorem o_sorted (hm : b.mg "sorted" = none) (hg : glB κ "sorted" = true) (hp : plainE e1 = true) (h1 : HE b A κ e1 T1) : HO b A κ (.Call (.Name "sorted" p) [e1] [] pos) (.bi .sorted (.cons T1 .nil)) :=
  o_sortedG (B := .sorted) (r := rSorted) (fun X _ => cr_sorted) hm hg hp h1 fun X ta wa h => or_sorted (X := X) h
theorem o_sortedS (hm : b.mg "sorted" = none) (hg : glB κ "sorted" = true) (hp : plainE e1 = true) (h1 : HE b A κ e1 T1) : HO b A κ (.Call (.Name "sorted" p) [e1] [] pos) (.bi .sortedS (.cons T1 .nil)) :=
  o_sortedG (B := .sortedS) (r := rSortedS) (fun X _ => cr_sortedS) hm hg hp h1 fun X ta wa h => or_sortedS (X := X) h
theorem o_sortedDI (hm : b.mg "sorted" = none) (hg : glB κ "sorted" = true) (hp : plainE e1 = true) (h1 : HE b A κ e1 T1) : HO b A κ (.Call (.Name "sorted" p) [e1] [] pos) (.bi .sortedDI (.cons T1 .nil)) :=
  o_sortedG (B := .sortedDI) (r := fun _ => rSDI) (fun X c => call_sortedDI c) hm hg hp h1 fun X ta wa h => or_sDI h
theorem o_sortedDS (hm : b.mg "sorted" = none) (hg : glB κ "sorted" = true) (hp : plainE e1 = true) (h1 : HE b A κ e1 T1) : HO b A κ (.Call (.Name "sorted" p) [e1] [] pos) (.bi .sortedDS (.cons T1 .nil)) :=
  o_sortedG (B := .sortedDS) (r := fun _ => rSDS) (fun X c => call_sortedD c) hm hg hp h1 fun X ta wa h => or_sDS h
/-! ### isinstance of built-in types -/
theorem pe_ty {X : Cx} {x : Str} {n : String} (hg : Gl X x) (hm : X.mg x = none) (hv : bootBuiltins x = some (.type n)) (hn : x ≠ "__name__") (hdb : (x == ("__debug__" : Str)) = false) : PE X (.Name x pos) (tC (.ty n)) := pe_bltn hg hm hv rfl hn hdb
theorem h_isi1 {x : Str} {n : String} (hm : b.mg "isinstance" = none) (hg : glB κ "isinstance" = true) (hmx : b.mg x = none) (hgx : glB κ x = true) (hv : bootBuiltins x = some (.type n)) (hn : x ≠ "__name__") (hdb : (x == ("__debug__" : Str)) = false) (hp : plainE e1 = true) (h1 : HE b A κ e1 T1) :
    HE b A κ (.Call (.Name "isinstance" p) [e1, .Name x p2] [] pos) (.isi T1 [.b n]) := fun X c => by
  obtain ⟨t1, p1, r1⟩ := h1 X c
  exact ⟨_, pe_callB call_isi (c.gl hg) (by rw [c.m]; exact hm) boot_isi' (pa_cons p1 (pa_cons (pe_ty (c.gl hgx) (by rw [c.m]; exact hmx) hv hn hdb) pa_nil) (star_cons _ hp)) (he := star_cons _ hp), er_isi1 (X := X) r1⟩

theorem h_isi2 {x y : Str} {n m : String} {k : Nat} (hm : b.mg "isinstance" = none) (hg : glB κ "isinstance" = true) (hmx : b.mg x = none) (hgx : glB κ x = true) (hv : bootBuiltins x = some (.type n)) (hn : x ≠ "__name__") (hdb : (x == ("__debug__" : Str)) = false)
    (hmy : b.mg y = none) (hgy : glB κ y = true) (hvy : bootBuiltins y = some (.type m)) (hny : y ≠ "__name__") (hdby : (y == ("__debug__" : Str)) = false) (hp : plainE e1 = true) (h1 : HE b A κ e1 T1) :
    HE b A κ (.Call (.Name "isinstance" p) [e1, .Tuple [.Name x p2, .Name y p3] k tpos] [] pos) (.isi T1 [.b n, .b m]) := fun X c => by
  obtain ⟨t1, p1, r1⟩ := h1 X c
  exact ⟨_, pe_callB call_isiT (c.gl hg) (by rw [c.m]; exact hm) boot_isi' (pa_cons p1 (pa_cons (pe_tup (pa_cons (pe_ty (c.gl hgx) (by rw [c.m]; exact hmx) hv hn hdb) (pa_cons (pe_ty (c.gl hgy) (by rw [c.m]; exact hmy) hvy hny hdby) pa_nil))) pa_nil) (star_cons _ hp)) (he := star_cons _ hp), er_isi2 (X := X) r1⟩
/-! ### what this def alone holds -/
theorem h_idxO (i : Nat) {x : Str} (hs : PlainIx e2) (h1 : κ.ns[i]? = some x) (h2 : visB κ x = true) (hd : (x == ("__debug__" : Str)) = false) (hcd : (x == ("__classdict__" : Str)) = false) (h3 : HE b A κ e2 T2) : HE b A κ (.Subscript (.Name x p) e2 pos) (.idxO i T2) := fun X c => by
  obtain ⟨t2, p2, r2⟩ := h3 X c
  exact ⟨_, pe_ix (ix_any c.hu) (pe_var (by rw [c.n]; exact h1) (c.vis h2) hd hcd) p2 hs, er_idxO (X := X) r2⟩
theorem h_lenO (i : Nat) {x : Str} (hm : b.mg "len" = none) (hg : glB κ "len" = true) (h1 : κ.ns[i]? = some x) (h2 : visB κ x = true) (hd : (x == ("__debug__" : Str)) = false) (hcd : (x == ("__classdict__" : Str)) = false) : HE b A κ (.Call (.Name "len" p) [.Name x p2] [] pos) (.lenO i) := fun X c =>
  ⟨_, pe_callB cl_len (c.gl hg) (by rw [c.m]; exact hm) PySem.boot_len (pa_cons (pe_var (by rw [c.n]; exact h1) (c.vis h2) hd hcd) pa_nil), er_lenO (X := X) (by rw [c.k]; exact c.g.kl)⟩
theorem inO_er {X : Cx} {q : COp} {r : R2} {t1 : TE} {w1 : WE} {i : Nat} (hr : RBv X b.N r (cmpQ q)) (r1 : ER b.N t1 w1) : ER b.N (tOp r t1 (tVar i)) (fun ρ M Q => w1 ρ M fun x ρ M => ∃ c, ρ[i]? = some (.own c) ∧ cmpP q (view M x) c.tree fun z => Q (.bl z) ρ M) := fun Z σ H F ρ M Q K S hw hk =>
  r1 Z σ H F ρ M _ _ S hw fun v H1 F1 d ρ1 M1 S1 l r' ⟨c, e, q1⟩ => by
    obtain ⟨p, hp, x, _⟩ := S1.ownAt e
    refine ⟨_, hp, ?_⟩
    exact hr Z σ H1 F1 ρ1 M1 v (.ref p) _ _ (fun z => Q z ρ1 M1) K S1 (r'.view S1) x.vrep q1 fun v' H' F' d' S' l' r2 q2 => hk v' H' F' d' ρ1 M1 S' (l.trans l') r2 q2
theorem h_inO (i : Nat) {x : Str} (h1 : κ.ns[i]? = some x) (h2 : visB κ x = true) (hd : (x == ("__debug__" : Str)) = false) (hcd : (x == ("__classdict__" : Str)) = false) (h3 : HE b A κ e1 T1) : HE b A κ (.Compare e1 [.In] [.Name x p] pos) (.inO false T1 i) := fun X c => by
  obtain ⟨t1, p1, r1⟩ := h3 X c
  obtain ⟨r, k1, k2⟩ := c_inV (X := X) (N := b.N) c.hu
  exact ⟨_, pe_cmpR k1 p1 (pe_var (by rw [c.n]; exact h1) (c.vis h2) hd hcd) rfl, inO_er (q := .isin) k2 r1⟩
theorem h_notinO (i : Nat) {x : Str} (h1 : κ.ns[i]? = some x) (h2 : visB κ x = true) (hd : (x == ("__debug__" : Str)) = false) (hcd : (x == ("__classdict__" : Str)) = false) (h3 : HE b A κ e1 T1) : HE b A κ (.Compare e1 [.NotIn] [.Name x p] pos) (.inO true T1 i) := fun X c => by
  obtain ⟨t1, p1, r1⟩ := h3 X c
  obtain ⟨r, k1, k2⟩ := c_notinV (X := X) (N := b.N) c.hu
  exact ⟨_, pe_cmpR k1 p1 (pe_var (by rw [c.n]; exact h1) (c.vis h2) hd hcd) rfl, inO_er (q := .notin) k2 r1⟩
theorem t_inO (i : Nat) {x : Str} (h1 : κ.ns[i]? = some x) (h2 : visB κ x = true) (hd : (x == ("__debug__" : Str)) = false) (hcd : (x == ("__classdict__" : Str)) = false) (h3 : HE b A κ e1 T1) : HT b A κ (.Compare e1 [.In] [.Name x p] pos) (.inO false T1 i) := fun X c => by
  obtain ⟨t1, p1, r1⟩ := h3 X c
  obtain ⟨r, k1, k2⟩ := c_inV (X := X) (N := b.N) c.hu
  exact ⟨_, pt_cmpR k1 p1 (pe_var (by rw [c.n]; exact h1) (c.vis h2) hd hcd) rfl, tr_test (inO_er (q := .isin) k2 r1)⟩
theorem t_notinO (i : Nat) {x : Str} (h1 : κ.ns[i]? = some x) (h2 : visB κ x = true) (hd : (x == ("__debug__" : Str)) = false) (hcd : (x == ("__classdict__" : Str)) = false) (h3 : HE b A κ e1 T1) : HT b A κ (.Compare e1 [.NotIn] [.Name x p] pos) (.inO true T1 i) := fun X c => by
  obtain ⟨t1, p1, r1⟩ := h3 X c
  obtain ⟨r, k1, k2⟩ := c_notinV (X := X) (N := b.N) c.hu
  exact ⟨_, pt_cmpR k1 p1 (pe_var (by rw [c.n]; exact h1) (c.vis h2) hd hcd) rfl, tr_test (inO_er (q := .notin) k2 r1)⟩
/-- methods that change a container: the name, the method's rule -/
structure PmRow (m : PM) (name : Str) (id : String) where
  pa : PlainAttrs (pmT m)
  slot : Slot (pmT m) name id
  hty : typeOf (.builtin id) = pure (.type "method_descriptor")
  r : V → List V → Hp → VK → Prop
  hm : ∀ X : Cx, MtR X id r
  ok : ∀ N, PMok N m r
def row_append : PmRow .append "append" "list.append" := ⟨PySem.F.plainAttrs_list, PySem.F.slot_list_append, PySem.F.type_list_append, rAppend, fun X => mt_append, fun N => pm_append⟩
def row_extend : PmRow .extend "extend" "list.extend" := ⟨PySem.F.plainAttrs_list, PySem.F.slot_list_extend, PySem.F.type_list_extend, rExtend, fun X => mt_extend, fun N => pm_extend⟩
def row_popAt : PmRow .popAt "pop" "list.pop" := ⟨PySem.F.plainAttrs_list, PySem.F.slot_list_pop, PySem.F.type_list_pop, rPopAt, fun X => mt_popAt, fun N => pm_popAt⟩
def row_clear : PmRow .clear "clear" "list.clear" := ⟨PySem.F.plainAttrs_list, PySem.F.slot_list_clear, PySem.F.type_list_clear, rClear, fun X => mt_clear, fun N => pm_clear⟩
def row_setd : PmRow .setdefault "setdefault" "dict.setdefault" := ⟨PySem.F.plainAttrs_dict, PySem.F.slot_dict_setdefault, PySem.F.type_dict_setdefault, rSetd, fun X => mt_setd, fun N => pm_setd⟩

def FewOk (e : Expr) (es : List Expr) (cpos : Pos) : Prop := ∀ env : PySem.Env, ((backTo cpos (starEach (e :: es) env)).all (fun x => !x.1) && (backToKw cpos (keywordEach [] env)).all (fun x => x.1.isSome)
      && decide ((e :: es).length + ([] : List Keyword).length + (if ([] : List Keyword).isEmpty then 0 else 1) < 30)) = true
theorem few1 (h : plainE e1 = true) : FewOk e1 [] cpos := fun env => by rw [star_cons env h]; rfl
theorem few2 (h : plainE e1 = true) (h' : plainE e2 = true) : FewOk e1 [e2] cpos := fun env => by rw [star_cons env h, star_cons env h']; rfl
theorem h_pmO (i : Nat) {x : Str} {m : PM} {name : Str} {id : String} (R : PmRow m name id) (hf : FewOk e1 es cpos) (hl : (apos.endLine == cpos.line) = true) (hp : plainEs (e1 :: es) = true) (h1 : κ.ns[i]? = some x) (h2 : visB κ x = true) (hd : (x == ("__debug__" : Str)) = false) (hcd : (x == ("__classdict__" : Str)) = false) (h3 : HA b A κ (e1 :: es) T1) :
    HE b A κ (.Call (.Attribute (.Name x p) name apos) (e1 :: es) [] cpos) (.pmO m i T1) := fun X c => by
  obtain ⟨t1, p1, r1⟩ := h3 X c
  have hp' := hp
  unfold plainEs at hp
  rw [List.all_cons, Bool.and_eq_true] at hp
  exact ⟨_, pe_bm R.pa R.slot R.hty (R.hm X) (pe_var (by rw [c.n]; exact h1) (c.vis h2) hd hcd) p1 (hfew := hf _) (hline := hl) (hs := star_cons _ hp.1) (hplain := star_any _ hp.2), er_pmO (X := X) (R.ok b.N) r1⟩
theorem h_pm {m : PM} {name : Str} {id : String} (R : PmRow m name id) (hb : ∀ env : PySem.Env, attributeBase o name env (eval o env) = eval o env) (hf : FewOk e1 es cpos) (hl : (apos.endLine == cpos.line) = true) (hp : plainEs (e1 :: es) = true) (h1 : HE b A κ o To) (h3 : HA b A κ (e1 :: es) T1) :
    HE b A κ (.Call (.Attribute o name apos) (e1 :: es) [] cpos) (.pm m To T1) := fun X c => by
  obtain ⟨t1, p1, r1⟩ := h3 X c
  obtain ⟨t2, p2, r2⟩ := h1 X c
  have hp' := hp
  unfold plainEs at hp
  rw [List.all_cons, Bool.and_eq_true] at hp
  exact ⟨_, pe_bm R.pa R.slot R.hty (R.hm X) p2 p1 (hbase := hb _) (hfew := hf _) (hline := hl) (hs := star_cons _ hp.1) (hplain := star_any _ hp.2), er_pm (X := X) (R.ok b.N) r2 r1⟩
theorem h_pmO0 (i : Nat) {x : Str} {m : PM} {name : Str} {id : String} (R : PmRow m name id) (hl : (apos.endLine == cpos.line) = true) (h1 : κ.ns[i]? = some x) (h2 : visB κ x = true) (hd : (x == ("__debug__" : Str)) = false) (hcd : (x == ("__classdict__" : Str)) = false) :
    HE b A κ (.Call (.Attribute (.Name x p) name apos) [] [] cpos) (.pmO m i .nil) := fun X c =>
  ⟨_, pe_bm0 R.pa R.slot R.hty (R.hm X) (pe_var (by rw [c.n]; exact h1) (c.vis h2) hd hcd) (hline := hl), er_pmO0 (X := X) (R.ok b.N)⟩
theorem h_pm0 {m : PM} {name : Str} {id : String} (R : PmRow m name id) (hb : ∀ env : PySem.Env, attributeBase o name env (eval o env) = eval o env) (hl : (apos.endLine == cpos.line) = true) (h1 : HE b A κ o To) :
    HE b A κ (.Call (.Attribute o name apos) [] [] cpos) (.pm m To .nil) := fun X c => by
  obtain ⟨t2, p2, r2⟩ := h1 X c
  exact ⟨_, pe_bm0 R.pa R.slot R.hty (R.hm X) p2 (hbase := hb _) (hline := hl), er_pm0 (X := X) (R.ok b.N) r2⟩
/-! ### what is walked -/
theorem i_seq (h1 : HE b A κ e1 T1) : HI b A κ tg e1 (.it T1) := fun X c => by
  obtain ⟨t1, p1, r1⟩ := h1 X c
  exact ⟨_, pi_seq p1, ir_seq (by rw [c.k]; exact c.g.em) (by rw [c.k]; exact c.g.kl) r1⟩
theorem i_rng1 (hm : b.mg "range" = none) (hg : glB κ "range" = true) (hp : plainE e1 = true) (h1 : HE b A κ e1 T1) : HI b A κ tg (.Call (.Name "range" p) [e1] [] pos) (.rng1 T1) := fun X c => by
  obtain ⟨t1, p1, r1⟩ := h1 X c
  exact ⟨_, pi_range1 (c.gl hg) (by rw [c.m]; exact hm) (pa_cons p1 pa_nil (star_cons _ hp)) (star_cons _ hp), ir_rng1 r1⟩
theorem i_rng2 (hm : b.mg "range" = none) (hg : glB κ "range" = true) (hp : plainE e1 = true) (hq : plainE e2 = true) (h1 : HE b A κ e1 T1) (h2 : HE b A κ e2 T2) : HI b A κ tg (.Call (.Name "range" p) [e1, e2] [] pos) (.rng2 T1 T2) := fun X c => by
  obtain ⟨t1, p1, r1⟩ := h1 X c
  obtain ⟨t2, p2, r2⟩ := h2 X c
  exact ⟨_, pi_range2 (c.gl hg) (by rw [c.m]; exact hm) (pa_cons p1 (pa_cons p2 pa_nil (star_cons _ hq)) (star_cons _ hp)) (by rw [star_cons _ hp, star_cons _ hq]; rfl) (hs2 := star_cons _ hq), ir_rng2 r1 r2⟩
theorem i_enum {elts : List Expr} {kk : Nat} (hm : b.mg "enumerate" = none) (hg : glB κ "enumerate" = true) (hp : plainE e1 = true) (h1 : HE b A κ e1 T1) : HI b A κ (.Tuple elts kk tpos) (.Call (.Name "enumerate" p) [e1] [] pos) (.enum T1) := fun X c => by
  obtain ⟨t1, p1, r1⟩ := h1 X c
  exact ⟨_, pi_enum (c.gl hg) (by rw [c.m]; exact hm) (pa_cons p1 pa_nil (star_cons _ hp)) (star_cons _ hp), ir_enum (X := X) r1⟩
theorem i_zip {elts : List Expr} {kk : Nat} (hm : b.mg "zip" = none) (hg : glB κ "zip" = true) (hp : plainE e1 = true) (hq : plainE e2 = true) (h1 : HE b A κ e1 T1) (h2 : HE b A κ e2 T2) : HI b A κ (.Tuple elts kk tpos) (.Call (.Name "zip" p) [e1, e2] [] pos) (.zip T1 T2) := fun X c => by
  obtain ⟨t1, p1, r1⟩ := h1 X c
  obtain ⟨t2, p2, r2⟩ := h2 X c
  exact ⟨_, pi_zip (c.gl hg) (by rw [c.m]; exact hm) (pa_cons p1 (pa_cons p2 pa_nil (star_cons _ hq)) (star_cons _ hp)) (star_cons _ hp) (by rw [star_cons _ hq]; rfl), ir_zip (X := X) r1 r2⟩
/-! ### targets -/
theorem g_name (i : Nat) {x : Str} (h1 : κ.ns[i]? = some x) (h2 : locB κ x = true) : HG b A κ (.Name x pos) (.tname i) := fun X c =>
  ⟨_, pg_name c.nd (by rw [c.n]; exact h1) (c.loc h2).1 (c.loc h2).2, gr_name i⟩
theorem gs_nil' : HGs b A κ [] .nil := fun X c => ⟨_, pgs_nil, gs_nil⟩
theorem gs_cons' (hs : ∀ env : PySem.Env, (assignEach (e1 :: es) env).map (·.2) = assign e1 env :: (assignEach es env).map (·.2)) (h1 : HG b A κ e1 T1) (h2 : HGs b A κ es T2) : HGs b A κ (e1 :: es) (.cons T1 T2) := fun X c => by
  obtain ⟨t1, p1, r1⟩ := h1 X c
  obtain ⟨t2, p2, r2⟩ := h2 X c
  exact ⟨_, pgs_cons p1 p2 (hs _), gs_cons r1 r2⟩
theorem g_tup {k : Nat} (hn : ∀ env : PySem.Env, (assignEach es env).length = lenT T1) (hst : ∀ env : PySem.Env, (assignEach es env).findIdx? (·.1) = none) (h1 : HGs b A κ es T1) : HG b A κ (.Tuple es k pos) (.ttup T1) := fun X c => by
  obtain ⟨t1, p1, r1⟩ := h1 X c
  exact ⟨_, pg_tup c.c p1 (hn _) (hst _), gr_tup r1⟩
end
end DL

set_option Elab.async false
set_option linter.all false
set_option maxRecDepth 100000
namespace DL
open PySem L2 PySem.W
section
variable {b : Bz} {A : Around} {κ : Kt} {pos pos' p p1 p2 p3 apos cpos tpos spos py : Pos} {e e1 e2 e3 c o tg iter elt value : Expr} {es rest ifs : List Expr} {T0 T1 T2 T3 Tr Tg Ti Tc To Te : DL.T}
theorem HE.uni (h : HE b A κ e T0) : ∃ te, (∀ X, Cok b A κ X → PE X e te) ∧ ER b.N te (wpE b.B T0) :=
  ⟨fun σ H Q => ∀ X, Cok b A κ X → ∀ t, PE X e t → ER b.N t (wpE b.B T0) → t σ H Q, fun X c => ⟨fun pins s σ H Q I q => by
    obtain ⟨t, p, r⟩ := h X c
    exact p.run pins s σ H Q I (q X c t p r)⟩, fun Z σ H F ρ M Q K S hw hk X c t p r => r Z σ H F ρ M Q K S hw hk⟩
theorem HC.uni (h : HC b A κ es T0) : ∃ te, (∀ X, Cok b A κ X → PTs X es te) ∧ CR' b.N te (wpC b.B T0) :=
  ⟨fun σ H Q => ∀ X, Cok b A κ X → ∀ t, PTs X es t → CR' b.N t (wpC b.B T0) → t σ H Q, fun X c => ⟨fun pins s σ H Q I q => by
    obtain ⟨t, p, r⟩ := h X c
    exact p.run pins s σ H Q I (q X c t p r)⟩, fun Z σ H F ρ M Q K S hw hk X c t p r => r Z σ H F ρ M Q K S hw hk⟩
theorem HG.uni (h : HG b A κ e T0) : ∃ te, (∀ X, Cok b A κ X → PG X e te) ∧ GR b.N b.K te T0 :=
  ⟨fun v σ H Q => ∀ X, Cok b A κ X → ∀ t, PG X e t → GR b.N X.K t T0 → t v σ H Q, fun X c => ⟨fun pins s σ H v u Q I r q => by
    obtain ⟨t, p, r'⟩ := h X c
    exact p.run pins s σ H v u Q I r (q X c t p r')⟩, fun Z σ H F ρ M d v P KK S rr hb hk X c t p r => r Z σ H F ρ M d v P KK S rr hb hk⟩
theorem c_nil : HC b A κ [] .nil := fun X c => ⟨_, pts_nil, cr_nil⟩
theorem c_one (h1 : HT b A κ e1 T1) : HC b A κ [e1] (.cons T1 .nil) := fun X c => by
  obtain ⟨t1, p1, r1⟩ := h1 X c
  exact ⟨_, pts_one p1, cr_one r1⟩
structure CompOk (κ : Kt) (scope : Scope) (own : List (Str × Nat)) (Tg : DL.T) : Prop where
  blk : blkC κ.ns κ.sc scope own = true
  slots : ∀ i ∈ slotsT Tg, i ∈ own.map (·.2)
theorem comp_er {X : Cx} {scope : Scope} {own : List (Str × Nat)} (c : Cok b A κ X) (ok : CompOk κ scope own Tg) (hi : HI b A κ tg iter Ti) (hg : HG b A (κ.sub scope) tg Tg) (hc : HC b A (κ.sub scope) ifs Tc) (he : HE b A (κ.sub scope) elt Te) :
    ∃ wi g tt te, PI X tg iter wi ∧ BlkOk X.N X.env.scope scope own ∧ (∀ (s : Shared) (H : Hp) (C : Addr) (cl : List (Str × Addr)) (fp : List Addr), PG (X.blk s H scope (compEnvC scope cl C X.env) fp) tg g) ∧ (∀ (s : Shared) (H : Hp) (C : Addr) (cl : List (Str × Addr)) (fp : List Addr), PTs (X.blk s H scope (compEnvC scope cl C X.env) fp) ifs tt) ∧
      (∀ (s : Shared) (H : Hp) (C : Addr) (cl : List (Str × Addr)) (fp : List Addr), PE (X.blk s H scope (compEnvC scope cl C X.env) fp) elt te) ∧ OR' b.N (tLc wi g tt te (own.map (·.2))) (wpE b.B (.comp (own.map (·.2)) Tg Ti Tc Te)) := by
  obtain ⟨wi, p1, r1⟩ := hi X c
  obtain ⟨g, p2, r2⟩ := hg.uni
  obtain ⟨tt, p3, r3⟩ := hc.uni
  obtain ⟨te, p4, r4⟩ := he.uni
  exact ⟨wi, g, tt, te, p1, by rw [c.n, c.s]; exact blkOk_by ok.blk, fun s H C cl fp => p2 _ (c.blk scope s H C cl fp), fun s H C cl fp => p3 _ (c.blk scope s H C cl fp), fun s H C cl fp => p4 _ (c.blk scope s H C cl fp), or_comp r1 r2 r3 r4 ok.slots⟩
theorem o_comp {scope : Scope} (own : List (Str × Nat)) (ok : CompOk κ scope own Tg) (hf : ∀ (env : PySem.Env) x, foldedSetIterable iter env x = pure x) (hi : HI b A κ tg iter Ti) (hg : HG b A (κ.sub scope) tg Tg) (hc : HC b A (κ.sub scope) ifs Tc) (he : HE b A (κ.sub scope) elt Te) :
    HO b A κ (.ListComp elt [⟨tg, iter, ifs, 0⟩] scope pos) (.comp (own.map (·.2)) Tg Ti Tc Te) := fun X c => by
  obtain ⟨wi, g, tt, te, q1, q2, q3, q4, q5, q6⟩ := comp_er c ok hi hg hc he
  exact ⟨_, pe_lc c.c c.nd q1 q2 q3 q4 q5 (hf X.env), q6⟩
/-! ### statements -/
theorem ss_nil : HSs b A κ [] .skip := fun X c => ⟨_, pss_nil, sr_skip⟩
theorem ss_one {s : Stmt} (h1 : HS b A κ s T1) : HSs b A κ [s] T1 := fun X c => by
  obtain ⟨t1, p1, r1⟩ := h1 X c
  exact ⟨_, pss_one p1, r1⟩
theorem ss_cons {s : Stmt} {ss : List Stmt} (h1 : HS b A κ s T1) (h2 : HSs b A κ ss T2) : HSs b A κ (s :: ss) (.seq T1 T2) := fun X c => by
  obtain ⟨t1, p1, r1⟩ := h1 X c
  obtain ⟨t2, p2, r2⟩ := h2 X c
  exact ⟨_, pss_cons p1 p2, sr_seq (a := wpS b.B T1) (b := wpS b.B T2) r1 r2⟩
theorem ss_seal {ss : List Stmt} (i : Nat) (h2 : HSs b A κ ss T2) : HSs b A κ ss (.sealS i T2) := fun X c => by
  obtain ⟨t2, p2, r2⟩ := h2 X c
  exact ⟨_, p2, sr_seal r2⟩
theorem s_doc {x : Str} {j} : HS b A κ (.Expr (.Constant (.str x) j pos) pos') .skip := fun X c => ⟨_, ps_doc, sr_skip⟩
theorem s_pass : HS b A κ (.Pass pos) .skip := fun X c => ⟨_, ps_pass, sr_skip⟩
theorem s_set (i : Nat) {x : Str} (h1 : κ.ns[i]? = some x) (h2 : locB κ x = true) (hs : ∀ (env : PySem.Env), swapsWith e1 (some (.Name x pos')) pos.line env = pure false) (h : HE b A κ e1 T1) : HS b A κ (.Assign [.Name x pos'] e1 pos) (.set i T1) := fun X c => by
  obtain ⟨t1, p1, r1⟩ := h X c
  exact ⟨_, ps_set c.nd (by rw [c.n]; exact h1) (c.loc h2).1 p1 (hs _) (c.loc h2).2, sr_set r1⟩
theorem s_setO (i : Nat) {x : Str} (h1 : κ.ns[i]? = some x) (h2 : locB κ x = true) (hs : ∀ (env : PySem.Env), swapsWith e1 (some (.Name x pos')) pos.line env = pure false) (h : HO b A κ e1 T1) : HS b A κ (.Assign [.Name x pos'] e1 pos) (.setO i T1) := fun X c => by
  obtain ⟨t1, p1, r1⟩ := h X c
  exact ⟨_, ps_set c.nd (by rw [c.n]; exact h1) (c.loc h2).1 p1 (hs _) (c.loc h2).2, sr_setO r1⟩
theorem setLc {X : Cx} {scope : Scope} (i : Nat) {x : Str} (own : List (Str × Nat)) (c : Cok b A κ X) (h1 : κ.ns[i]? = some x) (h2 : lclB κ x = true) (hk : κ.sc.kind = .function) (hl : (py.line == pos.line) = true) (ha : (scope.names.any fun (n, k) => n == x && (k == .local || k == .cell)) = false)
    (ok : CompOk κ scope own Tg) (hf : ∀ (env : PySem.Env) x, foldedSetIterable iter env x = pure x) (hi : HI b A κ tg iter Ti) (hg : HG b A (κ.sub scope) tg Tg) (hc : HC b A (κ.sub scope) ifs Tc) (he : HE b A (κ.sub scope) elt Te) :
    ∃ t, PS X (.Assign [.Name x py] (.ListComp elt [⟨tg, iter, ifs, 0⟩] scope pos) spos) (tAsg t (gName i)) ∧ OR' b.N t (wpE b.B (.comp (own.map (·.2)) Tg Ti Tc Te)) := by
  obtain ⟨wi, g, tt, te, q1, q2, q3, q4, q5, q6⟩ := comp_er c ok hi hg hc he
  exact ⟨_, ps_setLc c.c c.nd (by rw [c.n]; exact h1) (c.lcl h2) (sw_true (by rw [c.s]; exact hk) (c.lcl h2) hl ha) q1 q2 q3 q4 q5 (hf X.env), q6⟩
theorem s_setC {scope : Scope} (i : Nat) {x : Str} (own : List (Str × Nat)) (h1 : κ.ns[i]? = some x) (h2 : lclB κ x = true) (hk : κ.sc.kind = .function) (hl : (py.line == pos.line) = true) (ha : (scope.names.any fun (n, k) => n == x && (k == .local || k == .cell)) = false)
    (ok : CompOk κ scope own Tg) (hf : ∀ (env : PySem.Env) x, foldedSetIterable iter env x = pure x) (hi : HI b A κ tg iter Ti) (hg : HG b A (κ.sub scope) tg Tg) (hc : HC b A (κ.sub scope) ifs Tc) (he : HE b A (κ.sub scope) elt Te) :
    HS b A κ (.Assign [.Name x py] (.ListComp elt [⟨tg, iter, ifs, 0⟩] scope pos) spos) (.set i (.comp (own.map (·.2)) Tg Ti Tc Te)) := fun X c => by
  obtain ⟨t, q1, q2⟩ := setLc (spos := spos) i own c h1 h2 hk hl ha ok hf hi hg hc he
  exact ⟨_, q1, sr_set q2.er⟩
theorem s_setCO {scope : Scope} (i : Nat) {x : Str} (own : List (Str × Nat)) (h1 : κ.ns[i]? = some x) (h2 : lclB κ x = true) (hk : κ.sc.kind = .function) (hl : (py.line == pos.line) = true) (ha : (scope.names.any fun (n, k) => n == x && (k == .local || k == .cell)) = false)
    (ok : CompOk κ scope own Tg) (hf : ∀ (env : PySem.Env) x, foldedSetIterable iter env x = pure x) (hi : HI b A κ tg iter Ti) (hg : HG b A (κ.sub scope) tg Tg) (hc : HC b A (κ.sub scope) ifs Tc) (he : HE b A (κ.sub scope) elt Te) :
    HS b A κ (.Assign [.Name x py] (.ListComp elt [⟨tg, iter, ifs, 0⟩] scope pos) spos) (.setO i (.comp (own.map (·.2)) Tg Ti Tc Te)) := fun X c => by
  obtain ⟨t, q1, q2⟩ := setLc (spos := spos) i own c h1 h2 hk hl ha ok hf hi hg hc he
  exact ⟨_, q1, sr_setO q2⟩
theorem s_asgT {elts : List Expr} {kk : Nat} (hs : ∀ (env : PySem.Env), swapsWithSole [.Tuple elts kk tpos] e1 pos.line env = pure false) (hw : ∀ (env : PySem.Env), swappedStores [.Tuple elts kk tpos] e1 env = pure none) (h1 : HE b A κ e1 T1) (h2 : HG b A κ (.Tuple elts kk tpos) Tg) : HS b A κ (.Assign [.Tuple elts kk tpos] e1 pos) (.asgT Tg T1) := fun X c => by
  obtain ⟨t1, p1, r1⟩ := h1 X c
  obtain ⟨t2, p2, r2⟩ := h2 X c
  exact ⟨_, ps_asg p1 p2 (hs _) (hw _), sr_asgT r1 r2⟩
theorem set_frame {X : Cx} {to ti : TE} (hu : X.A.units + 64 < cLine) (ho : PE X o to) (hi : PE X e1 ti) (ha : ∀ (env : PySem.Env) v, assign (.Subscript o e1 pos) env v = (do
      let ov ← holding [v] (eval o env)
      let iv ← holding [v, ov] (eval e1 env)
      standAt pos
      holding [v, ov, iv] (setItem ov iv v)
      release [v, ov, iv] [])) : PG X (.Subscript o e1 pos) (gSub to ti rSetA) := pg_sub ho hi (set_any (by omega)) (ha X.env)
theorem s_setIxO (i : Nat) {x : Str} (ha : ∀ (env : PySem.Env) v, assign (.Subscript (.Name x p) e1 tpos) env v = (do
      let ov ← holding [v] (eval (.Name x p) env)
      let iv ← holding [v, ov] (eval e1 env)
      standAt tpos
      holding [v, ov, iv] (setItem ov iv v)
      release [v, ov, iv] [])) (hs : ∀ (env : PySem.Env), swapsWithSole [.Subscript (.Name x p) e1 tpos] e2 pos.line env = pure false) (hw : ∀ (env : PySem.Env), swappedStores [.Subscript (.Name x p) e1 tpos] e2 env = pure none)
    (hq : ∀ (env : PySem.Env), (assignEach [.Subscript (.Name x p) e1 tpos] env).map (·.2) = [assign (.Subscript (.Name x p) e1 tpos) env]) (h1 : κ.ns[i]? = some x) (h2 : visB κ x = true) (hd : (x == ("__debug__" : Str)) = false) (hcd : (x == ("__classdict__" : Str)) = false) (h3 : HE b A κ e1 T1) (h4 : HE b A κ e2 T2) :
    HS b A κ (.Assign [.Subscript (.Name x p) e1 tpos] e2 pos) (.setIxO i T1 T2) := fun X c => by
  obtain ⟨t1, p1, r1⟩ := h3 X c
  obtain ⟨t2, p2, r2⟩ := h4 X c
  exact ⟨_, ps_asg p2 (set_frame c.hu (pe_var (by rw [c.n]; exact h1) (c.vis h2) hd hcd) p1 ha) (hs _) (hw _) (hq _), sr_setIxO r2 r1⟩
theorem s_setIx (ha : ∀ (env : PySem.Env) v, assign (.Subscript o e1 tpos) env v = (do
      let ov ← holding [v] (eval o env)
      let iv ← holding [v, ov] (eval e1 env)
      standAt tpos
      holding [v, ov, iv] (setItem ov iv v)
      release [v, ov, iv] [])) (hs : ∀ (env : PySem.Env), swapsWithSole [.Subscript o e1 tpos] e2 pos.line env = pure false) (hw : ∀ (env : PySem.Env), swappedStores [.Subscript o e1 tpos] e2 env = pure none)
    (hq : ∀ (env : PySem.Env), (assignEach [.Subscript o e1 tpos] env).map (·.2) = [assign (.Subscript o e1 tpos) env]) (h0 : HE b A κ o To) (h3 : HE b A κ e1 T1) (h4 : HE b A κ e2 T2) :
    HS b A κ (.Assign [.Subscript o e1 tpos] e2 pos) (.setIx To T1 T2) := fun X c => by
  obtain ⟨t1, p1, r1⟩ := h3 X c
  obtain ⟨t2, p2, r2⟩ := h4 X c
  obtain ⟨t0, p0, r0⟩ := h0 X c
  exact ⟨_, ps_asg p2 (set_frame c.hu p0 p1 ha) (hs _) (hw _) (hq _), sr_setIx r2 r0 r1⟩
theorem s_setAt (f : Nat) {x : Str} (hx : x = Str.ofString (b.B.attr f)) (hs : ∀ (env : PySem.Env), swapsWith e1 (some (.Attribute o x tpos)) pos.line env = pure false) (h0 : HE b A κ o To) (h1 : HE b A κ e1 T1) : HS b A κ (.Assign [.Attribute o x tpos] e1 pos) (.setAt To f T1) := fun X c => by
  obtain ⟨t1, p1, r1⟩ := h1 X c
  obtain ⟨t0, p0, r0⟩ := h0 X c
  subst hx
  exact ⟨_, ps_fld p0 p1 (hs _), sr_setAt (X := X) c.g.nm (by rw [c.k]; exact c.g.cl) r1 r0⟩
theorem s_setAtO (f : Nat) {x : Str} (hx : x = Str.ofString (b.B.attr f)) (hs : ∀ (env : PySem.Env), swapsWith e1 (some (.Attribute o x tpos)) pos.line env = pure false) (h0 : HE b A κ o To) (h1 : HO b A κ e1 T1) : HS b A κ (.Assign [.Attribute o x tpos] e1 pos) (.setAtO To f T1) := fun X c => by
  obtain ⟨t1, p1, r1⟩ := h1 X c
  obtain ⟨t0, p0, r0⟩ := h0 X c
  subst hx
  exact ⟨_, ps_fld p0 p1 (hs _), sr_setAtO (X := X) c.g.nm (by rw [c.k]; exact c.g.cl) r1 r0⟩
theorem s_augAt (f : Nat) {x : Str} {op : Operator} (q : BOp) (ho : op = opE q) (hk : iopOk q = true) (hx : x = Str.ofString (b.B.attr f)) (h0 : HE b A κ o To) (h1 : HE b A κ e1 T1) : HS b A κ (.AugAssign (.Attribute o x tpos) op e1 pos) (.augAt To f q T1) := fun X c => by
  obtain ⟨t1, p1, r1⟩ := h1 X c
  obtain ⟨t0, p0, r0⟩ := h0 X c
  subst hx ho
  exact ⟨_, ps_fldaug p0 p1 (iop_ok q hk), sr_augAt (X := X) hk c.g.nm (by rw [c.k]; exact c.g.cl) r0 r1⟩
theorem s_aug (i : Nat) {x : Str} {op : Operator} (q : BOp) (ho : op = opE q) (hk : iopOk q = true) (h1 : κ.ns[i]? = some x) (h2 : locB κ x = true) (h : HE b A κ e1 T1) : HS b A κ (.AugAssign (.Name x pos') op e1 pos) (.aug i q T1) := fun X c => by
  obtain ⟨t1, p1, r1⟩ := h X c
  subst ho
  exact ⟨_, ps_aug c.nd (by rw [c.n]; exact h1) (c.loc h2).1 p1 (iop_ok q hk) (c.loc h2).2, sr_aug hk r1⟩
theorem s_if {s1 s2 : List Stmt} (h0 : HT b A κ e1 T0) (h1 : HSs b A κ s1 T1) (h2 : HSs b A κ s2 T2) : HS b A κ (.If e1 s1 s2 pos) (.cond T0 T1 T2) := fun X c => by
  obtain ⟨t0, p0, r0⟩ := h0 X c
  obtain ⟨t1, p1, r1⟩ := h1 X c
  obtain ⟨t2, p2, r2⟩ := h2 X c
  exact ⟨_, ps_if p0 p1 p2, sr_cond r0 r1 r2⟩
theorem s_for {body : List Stmt} (hf : ∀ (env : PySem.Env) x, foldedSetIterable iter env x = pure x) (hi : HI b A κ tg iter Ti) (hg : HG b A κ tg Tg) (h1 : HSs b A κ body T1) : HS b A κ (.For tg iter body [] pos) (.for Tg Ti T1) := fun X c => by
  obtain ⟨t0, p0, r0⟩ := hi X c
  obtain ⟨t2, p2, r2⟩ := hg X c
  obtain ⟨t1, p1, r1⟩ := h1 X c
  exact ⟨_, ps_for (by rw [c.xe]; exact PassesOwn.never) c.c p0 p2 p1 (hf _), sr_for r0 r2 r1⟩
theorem s_while {body : List Stmt} (h0 : HT b A κ e1 T0) (h1 : HSs b A κ body T1) : HS b A κ (.While e1 body [] pos) (.while T0 T1) := fun X c => by
  obtain ⟨t0, p0, r0⟩ := h0 X c
  obtain ⟨t1, p1, r1⟩ := h1 X c
  exact ⟨_, ps_while (by rw [c.xe]; exact PassesOwn.never) p0 p1, sr_while r0 r1⟩
theorem s_ret (h : HE b A κ e1 T1) : HS b A κ (.Return (some e1) pos) (.ret T1) := fun X c => by
  obtain ⟨t1, p1, r1⟩ := h X c
  exact ⟨_, ps_ret p1, sr_ret r1⟩
theorem s_retN : HS b A κ (.Return none pos) .retN := fun X c => ⟨_, ps_retN, sr_retN⟩
theorem s_expr (hs : ∀ (env : PySem.Env), swapsWith e1 none pos.line env = pure false) (h : HE b A κ e1 T1) : HS b A κ (.Expr e1 pos) (.expr T1) := fun X c => by
  obtain ⟨t1, p1, r1⟩ := h X c
  exact ⟨_, ps_expr p1 (hs _), sr_expr r1⟩
theorem s_brk : HS b A κ (.Break pos) .brk := fun X c => ⟨_, ps_break, sr_brk⟩
theorem s_cnt : HS b A κ (.Continue pos) .cnt := fun X c => ⟨_, ps_continue, sr_cnt⟩
theorem s_never {s : Stmt} : HS b A κ s .never := fun X c => ⟨_, ps_never, sr_never⟩
end
end DL

set_option Elab.async false
set_option linter.all false
set_option maxRecDepth 100000
namespace DL
open PySem L2 PySem.W PySem.Spec PyProof.Rows

/-! ### a def keeps its promise -/
def startD (n : Nat) (ds : List D) : Env := ds.map .val ++ List.replicate (n - ds.length) .no
theorem Reps.args {N : Nam} {F : Hp} {n : Nat} : ∀ {ds : List D} {vs : List V} {i : Nat} {lv : LV}, Reps N F ds vs → (ds.map LV.val ++ List.replicate n .no)[i]? = some lv → lv = .no ∨ ∃ d v, lv = .val d ∧ (vs.map some ++ List.replicate n none)[i]? = some (some v) ∧ Rep N F d v
  | [], vs, i, lv, r, e => by
    rw [reps_nil] at r; subst r
    have e : (List.replicate n LV.no)[i]? = some lv := by simpa using e
    rw [List.getElem?_replicate] at e
    split at e
    · exact .inl (Option.some.inj e).symm
    · cases e
  | d :: ds, vs, 0, lv, r, e => by
    rw [reps_cons] at r
    obtain ⟨v, t, rfl, q, _⟩ := r
    simp at e
    exact .inr ⟨d, v, e.symm, rfl, q⟩
  | d :: ds, vs, i + 1, lv, r, e => by
    rw [reps_cons] at r
    obtain ⟨v, t, rfl, q, w⟩ := r
    exact Reps.args (i := i) w (by simpa using e)
theorem MSim.env {N : Nam} {F : Hp} {M : Mem} {H : Hp} (S : MSim N F M H) {n : Nat} {ds : List D} {vs : List V} (r : Reps N F ds vs) : Sim N ⟨H, M, F⟩ F (startD n ds) M (vs.map some ++ List.replicate (n - vs.length) none) H := by
  have S0 := S.start
  refine ⟨S0.sub, S0.le0, S0.mf, S0.mem, S0.mnew, S0.fnew, S0.keep, S0.there, ⟨fun _ => none, fun _ _ e => (nomatch e), fun i lv e => ?_⟩, by simp [startD, r.length], S0.tb⟩
  have e' : (ds.map LV.val ++ List.replicate (n - ds.length) .no)[i]? = some lv := e
  rw [← r.length] at e'
  rcases r.args e' with rfl | ⟨d, v, rfl, h1, h2⟩
  · trivial
  · exact ⟨v, by rw [h1]; rfl, h2⟩
abbrev enOf (Q : D → Mem → Prop) : En := { nx := fun _ M => Q .non M, rt := Q, bk := fun _ _ => False, ct := fun _ _ => False }
def Fits (B : Tab) (n : Nat) (T : DL.T) (sp : DSp) : Prop := ∀ ds M Q, sp ds M Q → wpS B T (startD n ds) M (enOf Q)
section
variable {b : Bz} {x qual : Str} {st : Stmt} {f : Addr} {fd : FuncData} {ns ps : List Str} {k : Nat} {sp : DSp} {T : DL.T}
theorem fit_run {A : Around} {κ : Kt} {X : Cx} {body : List Stmt} {n : Nat} (c : Cok b A κ X) (h : HSs b A κ body T) (hw : Fits b.B n T sp) {vs : List V} {H : Hp} {Q : VK} (hl : lift b.N sp vs H Q) : ∃ t, PSs X body t ∧ t { nx := fun _ H' => Q .non H', rt := Q } (vs.map some ++ List.replicate (n - vs.length) none) H := by
  obtain ⟨F, M, ds, Qd, S, r, q, kk⟩ := hl
  obtain ⟨t, p, rt⟩ := h X c
  refine ⟨t, p, rt _ _ _ _ _ _ _ _ (S.env r) (hw ds M Qd q) ⟨fun σ H' F' ρ M' S' q' => ?_, fun _ _ _ _ _ _ z => z, fun _ _ _ _ _ _ z => z, fun σ H' F' ρ M' d v S' r' q' => ?_⟩⟩
  · exact kk .non M' .non H' F' q' (S'.drop rfl fun i lv e => by simp at e) (rep_non.mpr rfl)
  · exact kk d M' v H' F' q' (S'.drop rfl fun i lv e => by simp at e) r'
theorem lift_len {N : Nam} (len : ∀ ds M Q, sp ds M Q → ds.length = ps.length) : ∀ vs H Q (E : XK), liftS N sp vs H Q E → vs.length = ps.length := by
  rintro vs H Q E ⟨F, M, ds, Qd, S, r, q, kk⟩
  rw [r.length]; exact len _ _ _ q
theorem cok_def {P w K mg base} {A : Around} {scope : Scope} {cdv : Value} {outer : List PySem.Env} {s : Shared} {H : Hp} {E : XK} {B : Tab} {N : Nam} {k : Nat} (g : Bz.Good ⟨P, w, K, mg, base, B, N⟩) (nd : ns.Nodup) (hr : Room k (A.deeper (envOfC qual scope s.heap.objs.size f cdv))) :
    Cok ⟨P, w, K, mg, base, B, N⟩ (A.deeper (envOfC qual scope s.heap.objs.size f cdv)) ⟨ns, scope, fun _ => true, false⟩ (cxOf CX0 P w K mg base ns qual scope f cdv A outer s H E).nox :=
  ⟨g, fun z => (nomatch z), rfl, rfl, rfl, rfl, rfl, rfl, rfl, rfl, rfl, rfl, nd, rfl, hr.units, fun _ => ⟨rfl, rfl⟩⟩
/-- THE RULE for a def without defaults -/
theorem fn_ok (F : Fun b.K x qual st f fd) (S : FnScope ns ps (defScope st)) (g : b.Good) (len : ∀ ds M Q, sp ds M Q → ds.length = ps.length) (h : ∀ A, Room k A → HSs b A ⟨ns, defScope st, fun _ => true, false⟩ (defBody st) T) (hw : Fits b.B ns.length T sp) :
    FnOk b.P b.w b.K b.mg b.base CX0 (k + 1) f fd ps (liftS b.N sp) :=
  F.ok S (lift_len len) fun cdv A outer s H vs Q E hr hl => fit_run (cok_def g S.nd hr) (h _ hr) hw hl
/-- with defaults -/
theorem fn_okD {params : Arguments} {body : List Stmt} {scope : Scope} {dvs : List V} {kws : List (Str × V)} (F : FunD b.K x qual params body scope dvs kws f fd) (S : FnScope ns ps scope) (g : b.Good) (len : ∀ ds M Q, sp ds M Q → ds.length = ps.length) (h : ∀ A, Room k A → HSs b A ⟨ns, scope, fun _ => true, false⟩ body T) (hw : Fits b.B ns.length T sp) :
    FnOk b.P b.w b.K b.mg b.base CX0 (k + 1) f fd ps (liftS b.N sp) :=
  F.ok S (lift_len len) fun cdv A outer s H vs Q E hr hl => by
    obtain ⟨t, p, q⟩ := fit_run (cok_def (E := E) (outer := outer) g S.nd hr) (h _ hr) hw hl
    exact ⟨t, p.nox, q⟩
end

/-! ### what can be called -/
def callForm (X : Cx) (o : Expr) (m : Str) (es : List Expr) (apos pos : Pos) : Prop := ∃ pl, eval (.Call (.Attribute o m apos) es [] pos) X.env = (do
      let ov ← eval o X.env
      standAt apos.atName
      let (f, first) ← holding [ov] (getMethod ov m pl)
      callWith pos f first (backTo pos (starEach es X.env)) (backToKw pos (keywordEach [] X.env)))
def FnI (b : Bz) (k : Nat) (x : Str) (n : Nat) (sp : DSp) : Prop := ∀ (A : Around) (κ : Kt) (es : List Expr) (p pos : Pos) (Tr : DL.T) (kk : Nat), Room k A → es.length = n → plainEs es = true → glB κ x = true → (es = [] → Tr = .nil) → b.B.sp kk = sp → HA b A κ es Tr → HE b A κ (.Call (.Name x p) es [] pos) (.call kk Tr)
def FnKI (b : Bz) (k : Nat) (x : Str) (n : Nat) (ks : List Str) (sp : DSp) : Prop := ∀ (A : Around) (κ : Kt) (es : List Expr) (kws : List Keyword) (p pos : Pos) (Tr Tk : DL.T) (kk : Nat), Room k A → es.length = n → plainEs es = true → kwOf kws = some ks → glB κ x = true → (b.B.ent kk).npos = n → (b.B.ent kk).nkw = ks.length → b.B.sp kk = sp →
  HA b A κ es Tr → HK b A κ kws Tk → HE b A κ (.Call (.Name x p) es kws pos) (.callK kk Tr Tk)
def MtI (b : Bz) (k : Nat) (c : Nat) (m : Str) (n : Nat) (sp : DSp) : Prop := ∀ (A : Around) (κ : Kt) (o : Expr) (es : List Expr) (apos pos : Pos) (To Tr : DL.T) (kk : Nat), Room k A → es.length = n → plainEs es = true → (es = [] → Tr = .nil) → (∀ X : Cx, callForm X o m es apos pos) → (b.B.ent kk).cls = c → b.B.sp kk = sp →
  HE b A κ o To → HA b A κ es Tr → HE b A κ (.Call (.Attribute o m apos) es [] pos) (.meth kk To Tr)
section
variable {b : Bz} {x : Str} {sp : DSp} {k : Nat} {f : Addr} {fd : FuncData} {ps : List Str} {ds : List Value} {dvs : List V} {dd : List D} {n : Nat}
theorem fnI_of (F : FnOk b.P b.w b.K b.mg b.base CX0 k f fd ps (liftS b.N sp)) (hm : b.mg x = some (.ref f)) (hk : PySem.W.keepIn b.K (.ref f) = true) (hb : Binds b.K fd ps ds)
    (hd : Vals dvs ds) (hdd : ∀ F, Reps b.N F dd dvs) (hdb : (x == ("__debug__" : Str)) = false) : FnI b k x n (fun ds => sp (ds ++ dd)) := by
  intro A κ es p pos Tr kk hr hl hp hg h0 hs ha X c
  obtain ⟨t, pa, ka⟩ := ha X c
  obtain ⟨hc1, hc2, hc3, hc4, hc5, hc6⟩ : X.prog = b.P ∧ X.w = b.w ∧ X.K = b.K ∧ X.mg = b.mg ∧ X.base = b.base ∧ X.A = A := ⟨c.p, c.w, c.k, c.m, c.b, c.a⟩
  rw [← hc1, ← hc2, ← hc3, ← hc4, ← hc5] at F
  rw [← hc3] at hk hb
  rw [← hc4] at hm
  rw [← hc6] at hr
  cases es with
  | nil =>
    refine ⟨_, pe_call0 F hr (c.gl hg) hm hk hb hd pass0 hdb, fun Z σ H F ρ M Q KK S hw hk => ?_⟩
    cases h0 rfl
    have hw : b.B.sp kk [] M fun d M' => Q d ρ M' := hw
    rw [hs] at hw
    exact lift_dflt hdd (lift_run S (reps_nil.mpr rfl) hw hk)
  | cons e es =>
    have hp' := hp
    unfold plainEs at hp
    rw [List.all_cons, Bool.and_eq_true] at hp
    refine ⟨_, pe_call F hr (c.gl hg) hm hk hb hd pass0 pa hdb (star_cons _ hp.1) (star_any _ hp.2), fun Z σ H F ρ M Q KK S hw hk =>
      ka Z σ H F ρ M _ _ S hw fun vs H1 F1 ds ρ1 M1 S1 l r q => ?_⟩
    rw [hs] at q
    exact lift_dflt hdd (lift_run S1 r q fun v H' F' d ρ' M' S' l' r' q' => hk v H' F' d ρ' M' S' (l.trans l') r' q')
end
end DL

set_option Elab.async false
set_option linter.all false
set_option maxRecDepth 100000
namespace DL
open PySem L2 PySem.W PySem.Spec PyProof.Rows
section
variable {b : Bz} {x : Str} {sp : DSp} {k : Nat} {f : Addr} {fd : FuncData} {ps ks : List Str} {ds : List Value} {dvs : List V} {dd : List D} {n : Nat}
theorem fnKI_of {g : List Value → List Value → List Value} {gV : List V → List V → List V} {gD : List D → List D → List D} {sp' : DSp} (F : FnOk b.P b.w b.K b.mg b.base CX0 k f fd ps (liftS b.N sp)) (hm : b.mg x = some (.ref f)) (hk : PySem.W.keepIn b.K (.ref f) = true)
    (hb : KBn b.K fd ps (n + 1) ks g gV) (hdb : (x == ("__debug__" : Str)) = false) (hg : ∀ F as bs vs us, as.length = n + 1 → bs.length = ks.length → Reps b.N F as vs → Reps b.N F bs us → Reps b.N F (gD as bs) (gV vs us)) (hsp : ∀ as bs M Q, as.length = n + 1 → bs.length = ks.length → sp' (as ++ bs) M Q → sp (gD as bs) M Q) : FnKI b k x (n + 1) ks sp' := by
  intro A κ es kws p pos Tr Tk kk hr hl hp hks hgl h1 h2 hs ha hkw X c
  obtain ⟨t, pa, ka⟩ := ha X c
  obtain ⟨tk, pk, kk'⟩ := hkw X c
  obtain ⟨hc1, hc2, hc3, hc4, hc5, hc6⟩ : X.prog = b.P ∧ X.w = b.w ∧ X.K = b.K ∧ X.mg = b.mg ∧ X.base = b.base ∧ X.A = A := ⟨c.p, c.w, c.k, c.m, c.b, c.a⟩
  rw [← hc1, ← hc2, ← hc3, ← hc4, ← hc5] at F
  rw [← hc3] at hk hb
  rw [← hc4] at hm
  rw [← hc6] at hr
  cases es with
  | nil => cases hl
  | cons e es =>
    obtain ⟨k1, k2, k3⟩ := kw_facts (pos := pos) X.env hks
    have hp' := hp
    unfold plainEs at hp
    rw [List.all_cons, Bool.and_eq_true] at hp
    refine ⟨_, pe_callN F hr (c.gl hgl) hm hk hb pass0 pa pk k1 k3 hdb (star_cons _ hp.1) (by rw [star_any _ hp', k2]; rfl), fun Z σ H F ρ M Q KK S hw hk => ?_⟩
    refine ka Z σ H F ρ M _ _ S hw fun vs H1 F1 ds ρ1 M1 S1 l1 r1 q1 => kk' Z σ H1 F1 ρ1 M1 _ _ S1 q1 fun us H2 F2 es2 ρ2 M2 S2 l2 r2 ⟨⟨z1, z2⟩, q2⟩ => ?_
    rw [hs] at q2
    rw [h1] at z1
    rw [h2] at z2
    have q3 := hsp ds es2 M2 _ z1 z2 q2
    exact ⟨by rw [r1.length]; exact z1, by rw [r2.length]; exact z2, lift_run S2 (hg F2 ds es2 vs us z1 z2 (r1.mono l2) r2) q3 fun v H' F' d ρ' M' S' l' r' q' => hk v H' F' d ρ' M' S' ((l1.trans l2).trans l') r' q'⟩
theorem mtI_of {c : Nat} {m : Str} (F : FnOk b.P b.w b.K b.mg b.base CX0 k f fd ps (liftS b.N sp)) (g : b.Good) (cl : Cls b.K (b.N.cad c)) (hm : Meth b.K (b.N.cad c) m f) (hb : Binds b.K fd ps ds)
    (hd : Vals dvs ds) (hdd : ∀ F, Reps b.N F dd dvs) (hno : m ∉ b.N.nms c) : MtI b k c m n (fun ds => sp (ds ++ dd)) := by
  intro A κ o es apos pos To Tr kk hr hl hp h0 hf hcl hs ho ha X cx
  obtain ⟨to, po, ko⟩ := ho X cx
  obtain ⟨t, pa, ka⟩ := ha X cx
  obtain ⟨pl, ht⟩ := hf X
  obtain ⟨hc1, hc2, hc3, hc4, hc5, hc6⟩ : X.prog = b.P ∧ X.w = b.w ∧ X.K = b.K ∧ X.mg = b.mg ∧ X.base = b.base ∧ X.A = A := ⟨cx.p, cx.w, cx.k, cx.m, cx.b, cx.a⟩
  rw [← hc1, ← hc2, ← hc3, ← hc4, ← hc5] at F
  rw [← hc3] at hb cl hm
  rw [← hc6] at hr
  have obj : ∀ {Z : Ety} {F H : Hp} {ρ : Env} {M : Mem} {σ : L2.St} {d : D} {v : V}, Sim b.N Z F ρ M σ H → Rep b.N F d v → insD c M d → ∃ a dx fs, v = .ref a ∧ H a = some (.ins (b.N.cad c) dx fs) ∧ fs.lookup m = none := by
    intro Z F H ρ M σ d v S r h
    have h : ∃ fs, d = .obj c fs ∨ ∃ a, d = .loc a ∧ M a = some (.obj c fs) := by
      rcases h with ⟨fs, h⟩ | ⟨a, fs, h1, h2⟩
      · exact ⟨fs, .inl h⟩
      · exact ⟨fs, .inr ⟨a, h1, h2⟩⟩
    obtain ⟨fs, h⟩ := h
    obtain ⟨a, dx, vs, e, h1, _, _⟩ := S.objAt g.nm r h
    exact ⟨a, dx, _, e, h1, lookup_none fun z => hno (List.mem_of_mem_take z)⟩
  cases es with
  | nil =>
    refine ⟨_, pe_meth0 (pl := pl) po cl hm F hr hb hd pass0 ht, fun Z σ H F ρ M Q KK S hw hk => ?_⟩
    cases h0 rfl
    refine ko Z σ H F ρ M _ _ S hw fun v H1 F1 d ρ1 M1 S1 l1 r1 ⟨hi, hw1⟩ => ?_
    rw [hcl] at hi
    obtain ⟨a, dx, fs, rfl, h1, h2⟩ := obj S1 r1 hi
    have hw1 : b.B.sp kk [d] M1 fun d M' => Q d ρ1 M' := hw1
    rw [hs] at hw1
    exact ⟨a, dx, fs, rfl, h1, h2, lift_dflt (vs := [.ref a]) hdd (lift_run S1 (.one r1) hw1 fun v H' F' d ρ' M' S' l' r' q' => hk v H' F' d ρ' M' S' (l1.trans l') r' q')⟩
  | cons e es =>
    unfold plainEs at hp
    rw [List.all_cons, Bool.and_eq_true] at hp
    refine ⟨_, pe_meth (pl := pl) po cl hm F hr hb hd pass0 pa (star_cons _ hp.1) (star_any _ hp.2) ht, fun Z σ H F ρ M Q KK S hw hk => ?_⟩
    refine ko Z σ H F ρ M _ _ S hw fun v H1 F1 d ρ1 M1 S1 l1 r1 ⟨hi, hw1⟩ => ?_
    rw [hcl] at hi
    obtain ⟨a, dx, fs, rfl, h1, h2⟩ := obj S1 r1 hi
    refine ⟨a, dx, fs, rfl, h1, h2, ?_⟩
    refine ka Z σ H1 F1 ρ1 M1 _ _ S1 hw1 fun vs H2 F2 ds2 ρ2 M2 S2 l2 r2 q2 => ?_
    rw [hs] at q2
    exact lift_dflt (vs := .ref a :: vs) hdd (lift_run S2 (reps_cons.mpr ⟨_, _, rfl, r1.mono l2, r2⟩) q2 fun v H' F' d ρ' M' S' l' r' q' => hk v H' F' d ρ' M' S' ((l1.trans l2).trans l') r' q')
/-! ### new objects -/
/-- a new object, as __init__ leaves it: it may change on -/
def mkSp (c : Nat) (spI : DSp) : DSp := fun ds M Q => ∀ a, M a = none → spI (.loc a :: ds) (updM M a (.obj c [])) fun d M' => d = .non ∧ Q (.loc a) M'
/-- a new object that never changes behind __init__ -/
def mkSpF (c : Nat) (n : Nat) (spI : DSp) : DSp := fun ds M Q => ∀ a, M a = none → spI (.loc a :: ds) (updM M a (.obj c [])) fun d M' => d = .non ∧ ∃ fs, M' a = some (.obj c fs) ∧ fs.length = n ∧ Q (.obj c fs) (rmM M' a)
theorem Sim.freeze {N : Nam} {Z : Ety} {F H : Hp} {ρ : Env} {M : Mem} {σ : L2.St} (S : Sim N Z F ρ M σ H) {a : Addr} {c : Nat} {fs : List D} (e : M a = some (.obj c fs)) (hl : fs.length = (N.nms c).length) :
    ∃ F', Sim N Z F' ρ (rmM M a) σ H ∧ Le F F' ∧ Rep N F' (.obj c fs) (.ref a) := by
  obtain ⟨dx, vs, h1, h2, h3⟩ := S.mem a _ e
  have fa : F a = none := S.mf a _ e
  have lf : Le F (upd F a (.ins (N.cad c) dx (((N.nms c).take vs.length).zip vs))) := Le.new fa
  have hv : vs.length = (N.nms c).length := by rw [h3.length]; exact hl
  refine ⟨upd F a (.ins (N.cad c) dx (((N.nms c).take vs.length).zip vs)), ⟨fun b o q => ?_, S.le0.trans lf, fun b m q => ?_, fun b m q => ?_, fun b m q => ?_, fun b o q z1 z2 => ?_, S.keep, S.there, ?_, S.len, (S.tb.putF (S.tb.neM e)).rmM a⟩, lf, ?_⟩
  · by_cases hb : b = a
    · subst hb; rw [upd_same] at q; cases q; exact h1
    · rw [upd_ne hb] at q; exact S.sub b o q
  · by_cases hb : b = a
    · subst hb; simp [rmM] at q
    · simp [rmM, hb] at q; rw [upd_ne hb]; exact S.mf b m q
  · by_cases hb : b = a
    · subst hb; simp [rmM] at q
    · simp [rmM, hb] at q; exact (S.mem b m q).mono lf fun o h => h
  · by_cases hb : b = a
    · subst hb; simp [rmM] at q
    · simp [rmM, hb] at q; exact S.mnew b m q
  · by_cases hb : b = a
    · subst hb; exact S.mnew b _ e z2
    · rw [upd_ne hb] at q; exact S.fnew b o q z1 z2
  · obtain ⟨ow, w1, w2⟩ := S.own
    refine ⟨ow, fun p i q => ?_, fun i lv q => (w2 i lv q).mono lf fun _ _ _ h => h⟩
    obtain ⟨y1, y2, y3, y4⟩ := w1 p i q
    have hp : p ≠ a := fun z => by subst z; rw [e] at y2; cases y2
    exact ⟨by rw [upd_ne hp]; exact y1, by simp [rmM, hp]; exact y2, y3, y4⟩
  · refine rep_obj.mpr ⟨a, dx, vs, rfl, ?_, hv.symm, h3.mono lf⟩
    rw [upd_same, hv, List.take_length]
theorem mk_lift {N : Nam} {c : Nat} {spI : DSp} {Z : Ety} {F H : Hp} {ρ : Env} {M : Mem} {σ : L2.St} {vs : List V} {ds : List D} {Q : D → Env → Mem → Prop} {KK : VK} (S : Sim N Z F ρ M σ H) (r : Reps N F ds vs) (h : mkSp c spI ds M fun d M' => Q d ρ M')
    (hk : ∀ v H' F' d ρ' M', Sim N Z F' ρ' M' σ H' → Le F F' → Rep N F' d v → Q d ρ' M' → KK v H') (y dx : Addr) (h1 : H y = none) (h2 : H dx = none) (h3 : dx ≠ y) :
    lift N spI (.ref y :: vs) (upd (upd H dx (.own y)) y (.ins (N.cad c) dx [])) (fun v H2 => v = .non ∧ KK (.ref y) H2) := by
  have S1 := S.more (p := dx) (o := .own y) h2
  have S2 := S1.newM (p := y) (o := .ins (N.cad c) dx []) (mo := .obj c []) (by rw [upd_ne h3.symm]; exact h1) ⟨dx, [], by rw [upd_same]; simp, Nat.zero_le _, reps_nil.mpr rfl⟩
  refine lift_run (Q := fun d ρ M' => d = .non ∧ Q (.loc y) ρ M') S2 (reps_cons.mpr ⟨_, _, rfl, rep_loc.mpr rfl, r⟩) (h y (S.mnone h1)) fun v H' F' d ρ' M' S' l' r' ⟨e, q'⟩ => ?_
  subst e
  exact ⟨rep_non.mp r', hk _ H' F' _ ρ' M' S' l' (rep_loc.mpr rfl) q'⟩
theorem mk_liftF {N : Nam} {c : Nat} {spI : DSp} {Z : Ety} {F H : Hp} {ρ : Env} {M : Mem} {σ : L2.St} {vs : List V} {ds : List D} {Q : D → Env → Mem → Prop} {KK : VK} (S : Sim N Z F ρ M σ H) (r : Reps N F ds vs) (h : mkSpF c (N.nms c).length spI ds M fun d M' => Q d ρ M')
    (hk : ∀ v H' F' d ρ' M', Sim N Z F' ρ' M' σ H' → Le F F' → Rep N F' d v → Q d ρ' M' → KK v H') (y dx : Addr) (h1 : H y = none) (h2 : H dx = none) (h3 : dx ≠ y) :
    lift N spI (.ref y :: vs) (upd (upd H dx (.own y)) y (.ins (N.cad c) dx [])) (fun v H2 => v = .non ∧ KK (.ref y) H2) := by
  have S1 := S.more (p := dx) (o := .own y) h2
  have S2 := S1.newM (p := y) (o := .ins (N.cad c) dx []) (mo := .obj c []) (by rw [upd_ne h3.symm]; exact h1) ⟨dx, [], by rw [upd_same]; simp, Nat.zero_le _, reps_nil.mpr rfl⟩
  refine lift_run (Q := fun d ρ M' => d = .non ∧ ∃ fs, M' y = some (.obj c fs) ∧ fs.length = (N.nms c).length ∧ Q (.obj c fs) ρ (rmM M' y)) S2 (reps_cons.mpr ⟨_, _, rfl, rep_loc.mpr rfl, r⟩) (h y (S.mnone h1)) fun v H' F' d ρ' M' S' l' r' ⟨e, fs, e1, e2, q'⟩ => ?_
  subst e
  obtain ⟨F2, S3, l3, r3⟩ := S'.freeze e1 e2
  exact ⟨rep_non.mp r', hk _ H' F2 _ ρ' _ S3 (l'.trans l3) r3 q'⟩
end
end DL

set_option Elab.async false
set_option linter.all false
set_option maxRecDepth 100000
namespace DL
open PySem L2 PySem.W PySem.Spec PyProof.Rows
/-- what a call of a class promises, by what its __init__ does -/
def MkP (N : Nam) (c : Nat) (spI spC : DSp) : Prop := ∀ {Z : Ety} {F H : Hp} {ρ : Env} {M : Mem} {σ : L2.St} {vs : List V} {ds : List D} {Q : D → Env → Mem → Prop} {KK : VK}, Sim N Z F ρ M σ H → Reps N F ds vs → spC ds M (fun d M' => Q d ρ M') →
    (∀ v H' F' d ρ' M', Sim N Z F' ρ' M' σ H' → Le F F' → Rep N F' d v → Q d ρ' M' → KK v H') → ∀ (y dx : Addr), H y = none → H dx = none → dx ≠ y →
    lift N spI (.ref y :: vs) (upd (upd H dx (.own y)) y (.ins (N.cad c) dx [])) (fun v H2 => v = .non ∧ KK (.ref y) H2)
theorem mkP_live {N : Nam} {c : Nat} {spI : DSp} : MkP N c spI (mkSp c spI) := fun S r h hk => mk_lift S r h hk
theorem mkP_frozen {N : Nam} {c n : Nat} {spI : DSp} (hn : n = (N.nms c).length) : MkP N c spI (mkSpF c n spI) := by subst hn; exact fun S r h hk => mk_liftF S r h hk
section
variable {b : Bz} {x : Str} {spI spC : DSp} {k c : Nat} {f : Addr} {fd : FuncData} {ps ks : List Str} {ds : List Value} {dvs : List V} {dd : List D} {n : Nat}
theorem mkI_of (mk : Mk b.K (b.N.cad c) f) (hp : MkP b.N c (fun ds => spI (ds ++ dd)) spC) (F : FnOk b.P b.w b.K b.mg b.base CX0 k f fd ps (liftS b.N spI)) (hm : b.mg x = some (.ref (b.N.cad c))) (hb : Binds b.K fd ps ds)
    (hd : Vals dvs ds) (hdd : ∀ F, Reps b.N F dd dvs) (hdb : (x == ("__debug__" : Str)) = false) : FnI b (k + 1) x n spC := by
  intro A κ es p pos Tr kk hr hl hpl hg h0 hs ha X cx
  obtain ⟨t, pa, ka⟩ := ha X cx
  obtain ⟨hc1, hc2, hc3, hc4, hc5, hc6⟩ : X.prog = b.P ∧ X.w = b.w ∧ X.K = b.K ∧ X.mg = b.mg ∧ X.base = b.base ∧ X.A = A := ⟨cx.p, cx.w, cx.k, cx.m, cx.b, cx.a⟩
  rw [← hc1, ← hc2, ← hc3, ← hc4, ← hc5] at F
  rw [← hc3] at mk hb
  rw [← hc4] at hm
  rw [← hc6] at hr
  cases es with
  | nil =>
    refine ⟨_, pe_make0 mk F hr (cx.gl hg) hm hb hd pass0 hdb, fun Z σ H F ρ M Q KK S hw hk y dx h1 h2 h3 => ?_⟩
    cases h0 rfl
    have hw : b.B.sp kk [] M fun d M' => Q d ρ M' := hw
    rw [hs] at hw
    exact lift_dflt (vs := [.ref y]) hdd (hp S (reps_nil.mpr rfl) hw hk y dx h1 h2 h3)
  | cons e es =>
    have hp' := hpl
    unfold plainEs at hpl
    rw [List.all_cons, Bool.and_eq_true] at hpl
    refine ⟨_, pe_make mk F hr (cx.gl hg) hm hb hd pass0 pa hdb (star_cons _ hpl.1) (star_any _ hpl.2), fun Z σ H F ρ M Q KK S hw hk =>
      ka Z σ H F ρ M _ _ S hw fun vs H1 F1 ds ρ1 M1 S1 l r q y dx h1 h2 h3 => ?_⟩
    rw [hs] at q
    exact lift_dflt (vs := .ref y :: vs) hdd (hp S1 r q (fun v H' F' d ρ' M' S' l' r' q' => hk v H' F' d ρ' M' S' (l.trans l') r' q') y dx h1 h2 h3)
/-- with keywords -/
theorem mkKI_of {g : List Value → List Value → List Value} {gV : List V → List V → List V} {gD : List D → List D → List D} {spC' : DSp} (mk : Mk b.K (b.N.cad c) f) (hp : MkP b.N c spI spC) (F : FnOk b.P b.w b.K b.mg b.base CX0 k f fd ps (liftS b.N spI)) (hm : b.mg x = some (.ref (b.N.cad c)))
    (hb : KBn b.K fd ps (n + 2) ks g gV) (hdb : (x == ("__debug__" : Str)) = false) (hgv : ∀ y vs us, gV (V.ref y :: vs) us = V.ref y :: (gV (V.ref y :: vs) us).tail) (hg : ∀ F y as bs vs us, as.length = n + 1 → bs.length = ks.length → Reps b.N F as vs → Reps b.N F bs us → Reps b.N F (gD as bs) (gV (V.ref y :: vs) us).tail) (hsp : ∀ as bs M Q, as.length = n + 1 → bs.length = ks.length → spC' (as ++ bs) M Q → spC (gD as bs) M Q) : FnKI b (k + 1) x (n + 1) ks spC' := by
  intro A κ es kws p pos Tr Tk kk hr hl hpl hks hgl h1 h2 hs ha hkw X cx
  obtain ⟨t, pa, ka⟩ := ha X cx
  obtain ⟨tk, pk, kk'⟩ := hkw X cx
  obtain ⟨hc1, hc2, hc3, hc4, hc5, hc6⟩ : X.prog = b.P ∧ X.w = b.w ∧ X.K = b.K ∧ X.mg = b.mg ∧ X.base = b.base ∧ X.A = A := ⟨cx.p, cx.w, cx.k, cx.m, cx.b, cx.a⟩
  rw [← hc1, ← hc2, ← hc3, ← hc4, ← hc5] at F
  rw [← hc3] at mk hb
  rw [← hc4] at hm
  rw [← hc6] at hr
  cases es with
  | nil => cases hl
  | cons e es =>
    obtain ⟨k1, k2, k3⟩ := kw_facts (pos := pos) X.env hks
    have hp' := hpl
    unfold plainEs at hpl
    rw [List.all_cons, Bool.and_eq_true] at hpl
    refine ⟨_, pe_makeK (n := n + 1) mk F hr (cx.gl hgl) hm hb pass0 pa pk k1 k3 hdb (star_cons _ hpl.1) (by rw [star_any _ hp', k2]; rfl), fun Z σ H F ρ M Q KK S hw hk => ?_⟩
    refine ka Z σ H F ρ M _ _ S hw fun vs H1 F1 ds ρ1 M1 S1 l1 r1 q1 => kk' Z σ H1 F1 ρ1 M1 _ _ S1 q1 fun us H2 F2 es2 ρ2 M2 S2 l2 r2 ⟨⟨z1, z2⟩, q2⟩ => ?_
    rw [hs] at q2
    rw [h1] at z1
    rw [h2] at z2
    have q3 := hsp ds es2 M2 _ z1 z2 q2
    refine ⟨by rw [r1.length]; exact z1, by rw [r2.length]; exact z2, fun y dx w1 w2 w3 => ?_⟩
    rw [hgv]
    exact hp S2 (hg F2 y ds es2 vs us z1 z2 (r1.mono l2) r2) q3 (fun v H' F' d ρ' M' S' l' r' q' => hk v H' F' d ρ' M' S' ((l1.trans l2).trans l') r' q') y dx w1 w2 w3
end
end DL

set_option Elab.async false
set_option linter.all false
set_option maxRecDepth 100000
namespace DL
open PySem L2 PySem.W PySem.Spec PyProof.Rows
section
variable {X : Cx} {N : Nam} {B : Tab}
/-! ### a new container for others' hands -/
theorem sr_setM {te : TE} {we : WE} {i : Nat} (he : OR' N te we) : SR N (tAsg te (gName i)) (fun ρ M E => we ρ M fun x ρ M => ∃ c, freshLst x = some c ∧ ∀ p, M p = none → E.nx (ρ.set i (.val (.loc p))) (updM M p (.co c))) := fun Z σ H F ρ M E D S h le =>
  he Z σ H F ρ M _ _ S h fun p H1 F1 c ρ1 M1 S1 hl _ ⟨c', e, h1⟩ => by
    have e2 : c' = c := by cases c <;> exact (Option.some.inj e).symm
    subst e2
    obtain ⟨g1, S2⟩ := S1.toM hl
    exact le.nx _ _ _ _ _ (S2.set i (rep_loc.mpr rfl)) (h1 p g1)
theorem sr_retM {te : TE} {we : WE} (he : OR' N te we) : SR N (tRet te) (fun ρ M E => we ρ M fun x _ M => ∃ c, freshLst x = some c ∧ ∀ p, M p = none → E.rt (.loc p) (updM M p (.co c))) := fun Z σ H F ρ M E D S h le =>
  he Z σ H F ρ M _ _ S h fun p H1 F1 c ρ1 M1 S1 hl _ ⟨c', e, h1⟩ => by
    have e2 : c' = c := by cases c <;> exact (Option.some.inj e).symm
    subst e2
    obtain ⟨g1, S2⟩ := S1.toM hl
    exact le.rt _ _ _ _ _ _ _ S2 (rep_loc.mpr rfl) (h1 p g1)
/-! ### xs[::s], s 1 or -1 -/
theorem range_all (items : Array Value) : slicePick items none none (some 1) = items := by
  have e : slicePick items none none (some 1) = slicePick items none none none := rfl
  rw [e, slicePick_all]
def tStpL (K : PySem.W.Frag) (te ts : TE) : TE := fun σ H Q => te σ H fun x H1 => ts σ H1 fun y H2 => ∃ a xs, x = .ref a ∧ SqL K H2 a xs ∧ ((y = .int 1 ∧ ∀ p, H2 p = none → Q (.ref p) (upd H2 p (.lst xs))) ∨ (y = .int (-1) ∧ ∀ p, H2 p = none → Q (.ref p) (upd H2 p (.lst xs.reverse))))
theorem pe_stpL {e st : Expr} {te ts : TE} {p3 pos : Pos} (he : PE X e te) (hst : PE X st ts) (hp : ∀ env : PySem.Env, subscriptTail e (.Slice none none (some st) p3) = subscriptTail e (.Slice none none (some st) p3)) (ht : ∀ o r, letTemporaryGo e o r = pure () := by intro _ _; rfl) : PE X (.Subscript e (.Slice none none (some st) p3) pos) (tStpL X.K te ts) := by
  refine ⟨fun pins s σ H Q I h => ?_⟩
  refine Subscript_ (thn (he.run pins s σ H _ I h) fun v s1 ⟨x, H1, I1, r1, q1⟩ => ?_)
  refine wpAny_Slice (thn (po_none.run pins s1 σ H1 (fun o H2 => o = none ∧ H2 = H1) I1 ⟨rfl, rfl⟩) fun vl s2 ⟨l, H2, I2, pl, el, e2⟩ => ?_)
  subst el e2
  refine thn (po_none.run pins s2 σ H2 (fun o H3 => o = none ∧ H3 = H2) I2 ⟨rfl, rfl⟩) fun vu s3 ⟨u, H3, I3, pu, eu, e3⟩ => ?_
  subst eu e3
  rw [evalPart_some]
  refine thn (hst.run pins s3 σ H3 _ I3 q1) fun vs s4 ⟨y, H4, I4, r4, a, xs, ex, hx, q⟩ => ?_
  subst ex
  cases r1
  have I5 : Inv X pins σ H4 { s4 with heap := s4.heap.push { cls := .type "slice", data := .fields #[vl, vu, vs] } } := I4.kept (t' := s4.toks) fun b ob q => Heap.get?_push_of_some _ q
  obtain ⟨its, r, ht', hz⟩ := I5.list hx
  have hlen := r.length
  show wpAny (model X.prog X.w) X.A (subscriptTail e (.Slice none none (some st) p3) (.ref a) (.ref s4.heap.objs.size)) (EP X pins σ Q) X.xe { s4 with heap := s4.heap.push { cls := .type "slice", data := .fields #[vl, vu, vs] } }
  refine tail_any (ops := [.ref a, .ref s4.heap.objs.size]) ht'.isList.typeIs (PySem.slot_list_getitem.lookup) ?_ (by with_unfolding_all rfl)
  rcases q with ⟨ey, q⟩ | ⟨ey, q⟩
  · subst ey
    obtain ⟨t, rfl⟩ := r4
    refine wpAny_getItem_list_slice ht'.isList (Heap.IsSliceOf.new _ vl vu _) pl pu (.int 1 t) (by decide) ?_ (by rw [List.size_toArray]; omega)
    rw [range_all]
    refine ⟨.ref _, _, I5.laid (t' := s4.toks) (o := .lst xs) (fun b ob q => Heap.get?_push_of_some _ q) (Nat.le_refl _) ?_, rfl, q _ (I5.hok.fresh (Nat.le_refl _))⟩
    exact ⟨hz, _, 0, r, Heap.get?_push_size _ rfl⟩
  · subst ey
    obtain ⟨t, rfl⟩ := r4
    refine wpAny_getItem_list_slice ht'.isList (Heap.IsSliceOf.new _ vl vu _) pl pu (.int (-1) t) (by decide) ?_ (by rw [List.size_toArray]; omega)
    rw [PySem.W.krv_pick]
    refine ⟨.ref _, _, I5.laid (t' := s4.toks) (o := .lst xs.reverse) (fun b ob q => Heap.get?_push_of_some _ q) (Nat.le_refl _) ?_, rfl, q _ (I5.hok.fresh (Nat.le_refl _))⟩
    exact ⟨by rw [List.length_reverse]; exact hz, _, 0, r.reverse, Heap.get?_push_size _ rfl⟩
theorem or_stpL {te ts : TE} {we ws : WE} (he : ER N te we) (hs : ER N ts ws) : OR' N (tStpL X.K te ts) (fun ρ M Q => we ρ M fun x ρ M => ws ρ M fun y ρ M => ∃ ds, view M x = .lst ds ∧ ((y = .int 1 ∧ Q (.lst ds) ρ M) ∨ (y = .int (-1) ∧ Q (.lst ds.reverse) ρ M))) := fun Z σ H F ρ M Q K S hw hk =>
  he Z σ H F ρ M _ _ S hw fun v H1 F1 d ρ1 M1 S1 l r q1 => hs Z σ H1 F1 ρ1 M1 _ _ S1 q1 fun u H2 F2 y ρ2 M2 S2 l2 r2 ⟨ds, e, q⟩ => by
    have rv := (r.mono l2).view S2
    rw [e] at rv
    obtain ⟨p, vs, rfl, h1, z, r'⟩ := rv
    refine ⟨p, vs, rfl, SqL.of h1, ?_⟩
    rcases q with ⟨rfl, q⟩ | ⟨rfl, q⟩
    · exact .inl ⟨rep_int.mp r2, fun a ha => hk a _ F2 (.L ds) ρ2 M2 (S2.newO ha ⟨_, upd_same, z, r'⟩) S2.len (l.trans l2) q⟩
    · exact .inr ⟨rep_int.mp r2, fun a ha => hk a _ F2 (.L ds.reverse) ρ2 M2 (S2.newO ha ⟨_, upd_same, by rw [List.length_reverse]; exact z, r'.reverse⟩) S2.len (l.trans l2) q⟩
/-! ### len(set(xs)), whole numbers -/
def tLenSetG (K : PySem.W.Frag) (ta : TE) : TE := fun σ H Q => ta σ H fun x H1 => ∃ (l : Addr) (ns : List Int), x = V.ref l ∧ SqL K H1 l (ns.map V.int) ∧ ns.length < 64 ∧ Q (.int ((ns.foldl step_dedup []).length : Nat)) H1
theorem firstMet_all (ns : List Int) : firstMet (fun i => ns.getD i 0) ns.length = ns.foldl step_dedup [] := by
  unfold firstMet
  congr 1
  apply List.ext_getElem (by simp)
  intro i h1 h2
  simp at h1
  simp [List.getD_eq_getElem?_getD, List.getElem?_eq_getElem h1]
theorem intsAre_v : ∀ {ns : List Int} {us : List Value}, Vals (ns.map V.int) us → IntsAre us ns
  | [], _, .nil => .nil
  | n :: ns, _, .cons r t => by
    obtain ⟨k, rfl⟩ := r
    exact .cons n k (intsAre_v t)
theorem pe_lenSetG {a : Expr} {ta : TE} {p p2 q pos : Pos} (hc : X.calm = true) (hg : Gl X "len") (hm : X.mg "len" = none) (hg2 : Gl X "set") (hm2 : X.mg "set" = none) (ha : PE X a ta)
    (na : starEach [a] X.env = (false, eval a X.env) :: starEach [] X.env) : PE X (.Call (.Name "len" p) [.Call (.Name "set" p2) [a] [] q] [] pos) (tLenSetG X.K ta) := by
  refine ⟨fun pins s σ H Q I h => ?_⟩
  refine Call_ (ld_blt I hg hm PySem.boot_len ?_)
  refine PyProof.Rows.callWith_builtin1 (PyProof.Rows.args_cons ?_ rfl) rfl rfl
  refine Call_ (ld_blt I hg2 hm2 PyProof.Rows.boot_set ?_)
  refine PyProof.Rows.callWith_type1 (PyProof.Rows.args_cons (thn (ha.run pins s σ H _ I h) fun v s1 ⟨x, H1, I1, r1, q1⟩ => PyProof.Rows.args_nil ?_) na) na rfl
  obtain ⟨l, ns, rfl, hq, h1, q1⟩ := q1
  cases r1
  obtain ⟨its, r, pl, hz⟩ := I1.list hq
  have hl : its.toArray.size = ns.length := by rw [List.size_toArray, ← r.length, List.length_map]
  refine call_set_list (I1.ok.hd hc) pl.isList (ns := ns) (by simpa using intsAre_v r) (by unfold scanBound; omega) fun h' tk hS hk => ?_
  rw [hl, firstMet_all] at hS
  have hlt : (ns.foldl step_dedup []).length ≤ ns.length := by
    have := firstMet_length_le (fun i => ns.getD i 0) ns.length
    rwa [firstMet_all] at this
  refine PyProof.Rows.args_nil ?_
  obtain ⟨o, es, ep, t, ho, hex, hd, _, _, _, hf, hn⟩ := hS
  have I2 : Inv X pins σ H1 { s1 with heap := h', toks := tk } := I1.kept fun b o e => hk b o (Heap.lt_size e) e
  exact call_len_set ho hex hd hf (by rw [hn] <;> omega) ⟨.int ((ns.foldl step_dedup []).length : Nat), H1, I2.tok _, ⟨_, by rw [hn]⟩, q1⟩
theorem er_lenSetG {ta : TE} {wa : WE} (ha : ER N ta wa) : ER N (tLenSetG X.K ta) (fun ρ M Q => wa ρ M fun x ρ M => ∃ ns : List Int, view M x = .lst (ns.map .int) ∧ ns.length < 64 ∧ Q (.int ((ns.foldl step_dedup []).length : Nat)) ρ M) := fun Z σ H F ρ M Q K S hw hk =>
  ha Z σ H F ρ M _ _ S hw fun v H1 F1 d ρ1 M1 S1 l r ⟨ns, e, z, q⟩ => by
    have rv := r.view S1
    rw [e] at rv
    obtain ⟨p, vs, rfl, h1, _, r'⟩ := rv
    exact ⟨p, ns, rfl, SqL.of (by rw [h1, reps_intv r']), z, hk _ H1 F1 _ ρ1 M1 S1 l (int_rep _) q⟩

/-! ### sep.join(xs) -/
def rJoin (K : PySem.W.Frag) : V → List V → Hp → VK → Prop := fun x xs H Q => ∃ a p, ∃ ys : List Str, x = .str a ∧ xs = [.ref p] ∧ (SqL K H p (ys.map V.str) ∨ SqT K H p (ys.map V.str)) ∧ (ys.map (·.length)).sum + ys.length * a.length ≤ 16777216 ∧ Q (.str (Txt.join a ys)) H
theorem er_join {to te : TE} {wo : WE} {ta : TA} {we : WE} (ho : ER N to wo) (he : ER N te we) : ER N (tM1 (rJoin X.K) to te) (fun ρ M Q => wo ρ M fun y ρ M => bmK .join (view M y) ∧ we ρ M fun z ρ M => bmP .join (view M y) [z] fun z => Q z ρ M) := fun Z σ H F ρ M Q K S hw hk =>
  ho Z σ H F ρ M _ _ S hw fun v H1 F1 d ρ1 M1 S1 l r ⟨hk1, q1⟩ => by
    obtain ⟨a, rfl⟩ : ∃ a, d = .str a := by
      cases d with
      | str a => exact ⟨a, rfl⟩
      | loc p =>
        exfalso
        have e2 : view M1 (.loc p) = match M1 p with | some (.co c) => c.tree | _ => .loc p := rfl
        rw [e2] at hk1
        cases e : M1 p with
        | none => rw [e] at hk1; exact hk1
        | some mo =>
          rw [e] at hk1
          cases mo with
          | co c => cases c <;> exact hk1
          | obj c fs => exact hk1
      | _ => exact (show False from hk1).elim
    refine ⟨⟨a, rep_str.mp r⟩, ?_⟩
    refine he Z σ H1 F1 ρ1 M1 _ _ S1 q1 fun u H2 F2 z ρ2 M2 S2 l2 r2 q2 => ?_
    cases z with
    | lst es =>
      obtain ⟨ys, rfl, hz, q⟩ := q2
      obtain ⟨p, vs, rfl, h1, _, r'⟩ := rep_lst.mp r2
      exact ⟨a, p, ys, rep_str.mp r, rfl, .inl (SqL.of (by rw [← reps_strv r']; exact S2.sub _ _ h1)), hz, hk _ H2 F2 _ ρ2 M2 S2 (l.trans l2) (rep_str.mpr rfl) q⟩
    | _ => exact (show False from q2).elim
/-! ### {k: v, ..}, the keys written texts -/
def DR (N : Nam) (trs : List (TE × TE)) (ks : List Key) (wr : WA) : Prop := ∀ (Z : Ety) (σ : L2.St) (H F : Hp) (ρ : Env) (M : Mem) (Q : List D → Env → Mem → Prop) (K : List (V × V) → Hp → Prop), Sim N Z F ρ M σ H → wr ρ M Q →
  (∀ vs H' F' ds ρ' M', Sim N Z F' ρ' M' σ H' → Le F F' → Reps N F' ds vs → ks.length = vs.length → Q ds ρ' M' → K ((ks.zip vs).map fun kv => (kV kv.1, kv.2)) H') → tPairs trs σ H K
theorem dr_nil : DR N [] [] (fun ρ M Q => Q [] ρ M) := fun Z σ H F ρ M Q K S hw hk => hk [] H F [] ρ M S (Le.refl _) (reps_nil.mpr rfl) rfl hw
theorem dr_cons {x : Str} {te : TE} {we : WE} {trs : List (TE × TE)} {ks : List Key} {wr : WA} (he : ER N te we) (hr : DR N trs ks wr) : DR N ((tC (.str x), te) :: trs) (.inr x :: ks) (fun ρ M Q => we ρ M fun y ρ M => wr ρ M fun ys ρ M => Q (y :: ys) ρ M) := fun Z σ H F ρ M Q K S hw hk =>
  he Z σ H F ρ M _ _ S hw fun v H1 F1 d ρ1 M1 S1 l1 r1 q1 => hr Z σ H1 F1 ρ1 M1 _ _ S1 q1 fun vs H2 F2 ds ρ2 M2 S2 l2 r2 z q2 =>
    hk (v :: vs) H2 F2 (d :: ds) ρ2 M2 S2 (l1.trans l2) (reps_cons.mpr ⟨v, vs, rfl, r1.mono l2, r2⟩) (by simp [z]) q2
theorem mergeK_new : ∀ {ks : List Key} {vs : List V} {acc : List (Key × V)}, ks.Nodup → (∀ k ∈ ks, k ∉ acc.map (·.1)) → mergeK acc (ks.zip vs) = acc ++ ks.zip vs
  | [], vs, acc, _, _ => by simp [mergeK]
  | k :: ks, [], acc, _, _ => by simp [mergeK]
  | k :: ks, v :: vs, acc, nd, h => by
    have e1 : valV acc k = none := by
      cases q : valV acc k with
      | none => rfl
      | some u => exact absurd (valV_in q) (h k (List.mem_cons_self ..))
    show mergeK (putK acc k v) (ks.zip vs) = _
    rw [putK_new _ e1, mergeK_new (List.nodup_cons.mp nd).2 fun j hj => ?_]
    · simp
    · rw [List.map_append, List.mem_append]
      rintro (z | z)
      · exact h j (List.mem_cons_of_mem _ hj) z
      · simp at z
        exact (List.nodup_cons.mp nd).1 (z ▸ hj)
theorem or_disp {trs : List (TE × TE)} {ks : List Key} {wr : WA} (h : DR N trs ks wr) : OR' N (tDisp trs) (fun ρ M Q => wr (hideD ρ) M fun ds ρ' M' => ρ' = hideD ρ ∧ (ks.length = ds.length ∧ ks.Nodup ∧ ks.length ≤ 15) ∧ Q (.dct ks ds) ρ M') := fun Z σ H F ρ M Q K S hw hk p hp => by
  have S1 := S.newO (c := .K [] []) (o := .dK []) hp ⟨[], upd_same, rfl, Nat.zero_le _, List.nodup_nil, reps_nil.mpr rfl⟩
  have S2 := S1.block S.len []
  refine h _ σ _ F _ M _ _ S2 hw fun vs H' F' ds ρ' M' S' l' r z ⟨e, ⟨z1, z2, z3⟩, q⟩ => ?_
  have S3 := S1.back S'
  have e8 : (ρ ++ [LV.own (.K [] [])])[ρ.length]? = some (.own (.K [] [])) := by simp
  obtain ⟨p', hp', ⟨us, h1, h2, h3⟩, _⟩ := S3.ownAt e8
  have ep : p' = p := by
    rw [S.len] at hp'
    simp at hp'
    exact hp'.symm
  subst ep
  have hz : (ks.zip vs).length ≤ sizeLine := by
    rw [List.length_zip, z, Nat.min_self, ← z, sizeLine_eq]
    omega
  refine ⟨by rw [h1]; rfl, ks.zip vs, rfl, by rw [List.length_zip, z, Nat.min_self, ← z]; exact z3, ?_⟩
  rw [mergeK_new z2 fun _ _ => by simp, List.nil_append]
  have S9 := S3.putO (c' := .K ks ds) (ho := .dK (ks.zip vs)) e8 hp' ⟨vs, upd_same, z, by rw [← z, sizeLine_eq]; omega, z2, r⟩
  have e9 : (ρ ++ [LV.own (.K [] [])]).set ρ.length (.own (.K ks ds)) = ρ ++ [.own (.K ks ds)] := by
    rw [List.set_append_right _ _ (Nat.le_refl _)]
    simp
  rw [e9] at S9
  exact hk p' _ F' (.K ks ds) ρ M' S9 S.len l' q
end
end DL

set_option Elab.async false
set_option linter.all false
set_option maxRecDepth 100000
namespace DL
open PySem L2 PySem.W PySem.Spec PyProof.Rows
section
variable {N : Nam}
theorem Sim.graft {Z Z' : Ety} {F F' H H' : Hp} {ρ ρ' : Env} {M M' : Mem} {σ σ' : L2.St} (S : Sim N Z F ρ M σ H) (S' : Sim N Z' F' ρ' M' σ' H') (l : Le F F') (vs : List Nat) : Sim N ⟨H', M', F'⟩ F' (hideD (wipeD ρ vs)) M' (L2.wipe σ vs) H' := by
  have S0 := S'.start
  refine ⟨S0.sub, S0.le0, S0.mf, S0.mem, S0.mnew, S0.fnew, S0.keep, S0.there, ⟨fun _ => none, fun _ _ e => (nomatch e), fun i lv e => ?_⟩, ?_, S0.tb⟩
  · unfold hideD at e
    rw [List.getElem?_map] at e
    cases q : (wipeD ρ vs)[i]? with
    | none => rw [q] at e; cases e
    | some lv' =>
      rw [q] at e
      have e : hideL lv' = lv := Option.some.inj e
      subst e
      rcases wipeD_get q with rfl | ⟨q1, q2⟩
      · trivial
      · cases lv' with
        | no => trivial
        | own c => trivial
        | val d =>
          obtain ⟨u, h1, h2⟩ := S.val q1
          refine ⟨u, ?_, h2.mono l⟩
          rw [wipe_get' q2, h1]
          rfl
  · unfold hideD
    rw [List.length_map]
    exact (S.wipe vs).len
theorem or_comp2 {wi wi1 : TI} {wI wI1 : WA} {g g1 : TG} {tg tg1 : T} {tt tt1 : TT} {wc wc1 : Env → Mem → (Bool → Env → Mem → Prop) → Prop} {te : TE} {we : WE} {own vs1 : List Nat} {K K1 : PySem.W.Frag} (hi : IR N wi wI) (hg : GR N K g tg) (hc : CR' N tt wc) (hi1 : IR N wi1 wI1) (hg1 : GR N K1 g1 tg1) (hc1 : CR' N tt1 wc1) (he : ER N te we) (hs : ∀ i ∈ slotsT tg, i ∈ own) (hs1 : ∀ i ∈ slotsT tg1, i ∈ vs1) :
    OR' N (tLc2 wi g tt wi1 g1 tt1 te own vs1) (fun ρ M Q => wI ρ M fun ds ρ M => compM (fun d acc M K => bindP tg d (hideD (wipeD ρ own)) fun ρ1 => wc ρ1 M fun b ρ2 M1 => ρ2 = ρ1 ∧
      iteN (Bool.toNat b) (wI1 ρ1 M1 fun es ρ3 M2 => ρ3 = ρ1 ∧ acc.length + es.length ≤ sizeLine ∧ compL (fun e M K' => bindP tg1 e (hideD (wipeD ρ1 vs1)) fun ρ4 => wc1 ρ4 M fun b ρ5 M3 => ρ5 = ρ4 ∧
        iteN (Bool.toNat b) (we ρ4 M3 fun x ρ6 M4 => ρ6 = ρ4 ∧ K' (some x) M4) (K' none M3)) es acc M2 K) (K acc M1)) ds [] M fun es M => Q (.lst es) ρ M) := by
  intro Z σ H F ρ M Q KK S hw hk
  refine hi Z σ H F ρ M _ _ S hw fun J H1 F1 ds ρ0 M1 S1 l1 ⟨hz, G, Y, w, hG, hY⟩ q1 D hD => ?_
  generalize hbd : (fun (d : DL.D) (acc : List DL.D) (M : Mem) (K : List DL.D → Mem → Prop) => bindP tg d (hideD (wipeD ρ0 own)) fun ρ1 => wc ρ1 M fun b ρ2 M1 => ρ2 = ρ1 ∧
      iteN (Bool.toNat b) (wI1 ρ1 M1 fun es ρ3 M2 => ρ3 = ρ1 ∧ acc.length + es.length ≤ sizeLine ∧ compL (fun e M K' => bindP tg1 e (hideD (wipeD ρ1 vs1)) fun ρ4 => wc1 ρ4 M fun b ρ5 M3 => ρ5 = ρ4 ∧
        iteN (Bool.toNat b) (we ρ4 M3 fun x ρ6 M4 => ρ6 = ρ4 ∧ K' (some x) M4) (K' none M3)) es acc M2 K) (K acc M1)) = bd at q1
  refine ⟨fun i m H => m = ds.length - i ∧ i ≤ ds.length ∧ ∃ F' M' acc, Sim N Z F' (ρ0 ++ [.own (.L acc)]) M' (σ ++ [some (.ref D)]) H ∧ Le F1 F' ∧ compM bd (ds.drop i) acc M' fun es M => Q (.lst es) ρ0 M,
    ⟨ds.length, by simp, Nat.zero_le _, F1, M1, [], S1.newO (c := .L []) (o := .lst []) hD ⟨[], upd_same, Nat.zero_le _, reps_nil.mpr rfl⟩, Le.refl _, q1⟩, ?_⟩
  rintro i m H2 ⟨rfl, hi', F2, M2, acc, S2, l2, q2⟩
  have hG2 := hG Z F2 H2 _ M2 _ S2 l2
  by_cases hlt : i < ds.length
  · refine .inr ⟨w.goes i H2 hlt hG2, fun H => ∃ F' M' acc, Sim N Z F' (ρ0 ++ [.own (.L acc)]) M' (σ ++ [some (.ref D)]) H ∧ Le F1 F' ∧ compM bd (ds.drop (i + 1)) acc M' fun es M => Q (.lst es) ρ0 M, fun H' p' => ⟨ds.length - (i + 1), by omega, rfl, hlt, p'⟩, fun x H3 y => ?_⟩
    obtain ⟨F3, d, hd, S3, l3, r3⟩ := hY Z F2 H2 _ M2 _ i x H3 S2 l2 hlt (w.yields i H2 x H3 hlt hG2 y)
    have ed : ds.drop i = d :: ds.drop (i + 1) := by
      obtain ⟨h1, h2⟩ := List.getElem?_eq_some_iff.mp hd
      rw [List.drop_eq_getElem_cons h1, h2]
    rw [ed, compM_consE] at q2
    have q2 : bd d acc M2 fun acc' M' => compM bd (ds.drop (i + 1)) acc' M' fun es M => Q (.lst es) ρ0 M := q2
    generalize hKd : (fun acc' M' => compM bd (ds.drop (i + 1)) acc' M' fun es M => Q (.lst es) ρ0 M) = Kd at q2
    have hKd' : ∀ a m, Kd a m → compM bd (ds.drop (i + 1)) a m fun es M => Q (.lst es) ρ0 M := fun a m z => by rw [← hKd] at z; exact z
    rw [← hbd] at q2
    have q2 : bindP tg d (hideD (wipeD ρ0 own)) _ := q2
    have S4 := S3.block S1.len own
    refine hg _ _ H3 F3 _ M2 d x _ _ S4 r3 q2 fun σ5 ρ5 S5 k5 q5 => ⟨?_, ?_⟩
    · rw [k5 own hs, wipe_wipe]
    · refine hc _ σ5 H3 F3 ρ5 M2 _ _ S5 q5 fun b H6 F6 ρ6 M6 S6 l6 ⟨e6, q6⟩ => ?_
      subst e6
      cases b with
      | false => exact ⟨F6, M6, acc, S3.back S6, (l2.trans l3).trans l6, hKd' _ _ q6⟩
      | true =>
        refine hi1 _ σ5 H6 F6 ρ6 M6 _ _ S6 q6 fun J1 H7 F7 es ρ7 M7 S7 l7 ⟨hz7, G7, Y7, w7, hG7, hY7⟩ ⟨e7, b7, q7⟩ => ?_
        subst e7
        generalize hbe : (fun (e : DL.D) (M : Mem) (K' : Option DL.D → Mem → Prop) => bindP tg1 e (hideD (wipeD ρ7 vs1)) fun ρ4 => wc1 ρ4 M fun b ρ5 M3 => ρ5 = ρ4 ∧
          iteN (Bool.toNat b) (we ρ4 M3 fun x ρ6 M4 => ρ6 = ρ4 ∧ K' (some x) M4) (K' none M3)) = be at q7
        have Sf := S3.back S7
        refine ⟨fun j k H => k = es.length - j ∧ j ≤ es.length ∧ ∃ F' M' acc', Sim N Z F' (ρ0 ++ [.own (.L acc')]) M' (σ ++ [some (.ref D)]) H ∧ Le F7 F' ∧ acc'.length ≤ acc.length + j ∧ compL be (es.drop j) acc' M' Kd,
          ⟨es.length, by simp, Nat.zero_le _, F7, M7, acc, Sf, Le.refl _, Nat.le_refl _, q7⟩, ?_⟩
        rintro j k H8 ⟨rfl, hj, F8, M8, acc8, S8, l8, z8, q8⟩
        have hG8 := hG7 Z F8 H8 _ M8 _ S8 l8
        have ll : Le F1 F8 := (((l2.trans l3).trans l6).trans l7).trans l8
        by_cases hlj : j < es.length
        · refine .inr ⟨w7.goes j H8 hlj hG8, fun H => ∃ F' M' acc', Sim N Z F' (ρ0 ++ [.own (.L acc')]) M' (σ ++ [some (.ref D)]) H ∧ Le F7 F' ∧ acc'.length ≤ acc.length + (j + 1) ∧ compL be (es.drop (j + 1)) acc' M' Kd, fun H' p' => ⟨es.length - (j + 1), by omega, rfl, hlj, p'⟩, fun x9 H9 y9 => ?_⟩
          obtain ⟨F9, e9, he9, S9, l9, r9⟩ := hY7 Z F8 H8 _ M8 _ j x9 H9 S8 l8 hlj (w7.yields j H8 x9 H9 hlj hG8 y9)
          have ee : es.drop j = e9 :: es.drop (j + 1) := by
            obtain ⟨h1, h2⟩ := List.getElem?_eq_some_iff.mp he9
            rw [List.drop_eq_getElem_cons h1, h2]
          rw [ee, compL_consE] at q8
          have q8 : be e9 M8 fun r M' => compL be (es.drop (j + 1)) (match r with | some x => acc8 ++ [x] | none => acc8) M' Kd := q8
          generalize hKe : (fun r M' => compL be (es.drop (j + 1)) (match r with | some x => acc8 ++ [x] | none => acc8) M' Kd) = Ke at q8
          rw [← hbe] at q8
          have q8 : bindP tg1 e9 (hideD (wipeD ρ7 vs1)) _ := q8
          have SA := S7.graft S9 (l8.trans l9) vs1
          refine hg1 _ _ H9 F9 _ M8 e9 x9 _ _ SA r9 q8 fun σA ρA SB kA qA => ⟨?_, ?_⟩
          · rw [kA vs1 hs1, wipe_wipe]
          · refine hc1 _ σA H9 F9 ρA M8 _ _ SB qA fun b HB FB ρB MB SC lB ⟨eB, qB⟩ => ?_
            subst eB
            cases b with
            | false =>
              have qB : Ke none MB := qB
              rw [← hKe] at qB
              exact ⟨FB, MB, acc8, S9.back SC, (l8.trans l9).trans lB, by omega, qB⟩
            | true =>
              refine he _ σA HB FB ρB MB _ _ SC qB fun v HC FC dC ρC MC SD lC rC ⟨eC, qC⟩ => ?_
              have qC : Ke (some dC) MC := qC
              rw [← hKe] at qC
              have SE := S9.back SD
              have e8 : (ρ0 ++ [LV.own (.L acc8)])[ρ0.length]? = some (.own (.L acc8)) := by simp
              obtain ⟨p', hp', ⟨vs, h1, h2, h3⟩, _⟩ := SE.ownAt e8
              have ep : p' = D := by
                rw [S1.len] at hp'
                simp at hp'
                exact hp'.symm
              subst ep
              have hl : vs.length < sizeLine := by rw [h3.length]; omega
              refine ⟨vs, h1, hl, FC, MC, acc8 ++ [dC], ?_, ((l8.trans l9).trans lB).trans lC, by rw [List.length_append, List.length_singleton]; omega, qC⟩
              have SG := SE.putO (c' := .L (acc8 ++ [dC])) (ho := .lst (vs ++ [v])) e8 hp' ⟨_, upd_same, by rw [List.length_append]; exact hl, h3.append (.one rC)⟩
              have e9' : (ρ0 ++ [LV.own (.L acc8)]).set ρ0.length (.own (.L (acc8 ++ [dC]))) = ρ0 ++ [.own (.L (acc8 ++ [dC]))] := by
                rw [List.set_append_right _ _ (Nat.le_refl _)]
                simp
              rw [e9'] at SG
              exact SG
        · have e : j = es.length := by omega
          subst e
          rw [List.drop_length, compL_nilE] at q8
          exact .inl ⟨w7.stops H8 hG8, F8, M8, acc8, S8, ll, hKd' _ _ q8⟩
  · have e : i = ds.length := by omega
    subst e
    rw [List.drop_length, compM_nilE] at q2
    exact .inl ⟨w.stops H2 hG2, hk D H2 F2 (.L acc) ρ0 M2 S2 S1.len (l1.trans l2) q2⟩
end
end DL

set_option Elab.async false
set_option linter.all false
set_option maxRecDepth 100000
namespace DL
open PySem L2 PySem.W
section
variable {b : Bz} {A : Around} {κ : Kt} {pos pos' p p1 p2 p3 apos cpos tpos spos py : Pos} {e e1 e2 e3 c o tg iter elt value tg1 iter1 : Expr} {es rest ifs ifs1 : List Expr} {T0 T1 T2 T3 Tr Tg Ti Tc To Te Tg1 Ti1 Tc1 : DL.T}
theorem s_setM (i : Nat) {x : Str} (h1 : κ.ns[i]? = some x) (h2 : locB κ x = true) (hs : ∀ (env : PySem.Env), swapsWith e1 (some (.Name x pos')) pos.line env = pure false) (h : HO b A κ e1 T1) : HS b A κ (.Assign [.Name x pos'] e1 pos) (.setM i T1) := fun X c => by
  obtain ⟨t1, p1, r1⟩ := h X c
  exact ⟨_, ps_set c.nd (by rw [c.n]; exact h1) (c.loc h2).1 p1 (hs _) (c.loc h2).2, sr_setM r1⟩
theorem s_retM (h : HO b A κ e1 T1) : HS b A κ (.Return (some e1) pos) (.retM T1) := fun X c => by
  obtain ⟨t1, p1, r1⟩ := h X c
  exact ⟨_, ps_ret p1, sr_retM r1⟩
theorem o_stp (ht : ∀ (o r : Value), letTemporaryGo e1 o r = pure ()) (h1 : HE b A κ e1 T1) (h2 : HE b A κ e2 T2) : HO b A κ (.Subscript e1 (.Slice none none (some e2) p3) pos) (.stp T1 T2) := fun X c => by
  obtain ⟨t1, p1, r1⟩ := h1 X c
  obtain ⟨t2, p2, r2⟩ := h2 X c
  exact ⟨_, pe_stpL p1 p2 (fun _ => rfl) ht, or_stpL r1 r2⟩
theorem h_lenSet (hm : b.mg "len" = none) (hg : glB κ "len" = true) (hm2 : b.mg "set" = none) (hg2 : glB κ "set" = true) (hp : plainE e1 = true) (h1 : HE b A κ e1 T1) : HE b A κ (.Call (.Name "len" p) [.Call (.Name "set" p2) [e1] [] p3] [] pos) (.lenSet T1) := fun X c => by
  obtain ⟨t1, p1, r1⟩ := h1 X c
  exact ⟨_, pe_lenSetG c.c (c.gl hg) (by rw [c.m]; exact hm) (c.gl hg2) (by rw [c.m]; exact hm2) p1 (star_cons _ hp), er_lenSetG r1⟩
theorem h_join (hb : ∀ env : PySem.Env, attributeBase o "join" env (eval o env) = eval o env) (hl : (apos.endLine == pos.line) = true) (hp : plainE e1 = true) (h1 : HE b A κ o To) (h2 : HE b A κ e1 T1) : HE b A κ (.Call (.Attribute o "join" apos) [e1] [] pos) (.bm .join To (.cons T1 .nil)) := fun X c => by
  obtain ⟨t1, p1, r1⟩ := h1 X c
  obtain ⟨t2, p2, r2⟩ := h2 X c
  exact ⟨_, pe_join p1 p2 (star_cons _ hp) (hb _) hl, er_join (ta := tNil) r1 r2⟩
/-- the pairs of a display -/
def HD (b : Bz) (A : Around) (κ : Kt) (pos : Pos) (keys : List (Option Expr)) (values : List Expr) (ks : List Key) (T0 : DL.T) : Prop := ∀ X, Cok b A κ X → ∃ trs, PPs X pos keys values trs ∧ DR b.N trs ks (wpA b.B T0)
theorem d_nil : HD b A κ pos [] [] [] .nil := fun X c => ⟨_, pps_nil, dr_nil⟩
theorem d_cons {x : Str} {j} {keys : List (Option Expr)} {values : List Expr} {ks : List Key} (h1 : HE b A κ e1 T1) (h2 : HD b A κ pos keys values ks T2) : HD b A κ pos (some (.Constant (.str x) j p) :: keys) (e1 :: values) (.inr x :: ks) (.cons T1 T2) := fun X c => by
  obtain ⟨t1, p1, r1⟩ := h1 X c
  obtain ⟨t2, p2, r2⟩ := h2 X c
  exact ⟨_, pps_cons pe_str p1 p2, dr_cons r1 r2⟩
theorem o_disp {keys : List (Option Expr)} {values : List Expr} {ks : List Key} (h1 : HD b A κ pos keys values ks T1) (hall : keys.all (·.isSome) = true) (hl : keys.length = values.length) (h0 : keys ≠ []) (h15 : keys.length ≤ 15) : HO b A κ (.Dict keys values pos) (.disp ks T1) := fun X c => by
  obtain ⟨t1, p1, r1⟩ := h1 X c
  exact ⟨_, pe_disp p1 hall hl h0 h15, or_disp r1⟩
theorem HI.uni (h : HI b A κ tg e T0) : ∃ te, (∀ X, Cok b A κ X → PI X tg e te) ∧ IR b.N te (wpI b.B T0) :=
  ⟨fun σ H Q => ∀ X, Cok b A κ X → ∀ t, PI X tg e t → IR b.N t (wpI b.B T0) → t σ H Q, fun X c => ⟨fun pins s σ H Q I q => by
    obtain ⟨t, p, r⟩ := h X c
    exact p.run pins s σ H Q I (q X c t p r)⟩, fun Z σ H F ρ M Q K S hw hk X c t p r => r Z σ H F ρ M Q K S hw hk⟩
structure CompOk2 (κ : Kt) (scope : Scope) (own : List (Str × Nat)) (vs1 : List Nat) (Tg Tg1 : DL.T) : Prop where
  blk : blkC κ.ns κ.sc scope own = true
  slots : ∀ i ∈ slotsT Tg, i ∈ own.map (·.2)
  slots1 : ∀ i ∈ slotsT Tg1, i ∈ vs1
  sub : ∀ i ∈ vs1, i ∈ own.map (·.2)
theorem o_comp2 {scope : Scope} (own : List (Str × Nat)) (vs1 : List Nat) (ok : CompOk2 κ scope own vs1 Tg Tg1) (hf : ∀ (env : PySem.Env) x, foldedSetIterable iter env x = pure x) (hf1 : ∀ (env : PySem.Env) x, foldedSetIterable iter1 env x = pure x) (hi : HI b A κ tg iter Ti) (hg : HG b A (κ.sub scope) tg Tg) (hc : HC b A (κ.sub scope) ifs Tc)
    (hi1 : HI b A (κ.sub scope) tg1 iter1 Ti1) (hg1 : HG b A (κ.sub scope) tg1 Tg1) (hc1 : HC b A (κ.sub scope) ifs1 Tc1) (he : HE b A (κ.sub scope) elt Te) :
    HO b A κ (.ListComp elt [⟨tg, iter, ifs, 0⟩, ⟨tg1, iter1, ifs1, 0⟩] scope pos) (.comp2 (own.map (·.2)) vs1 Tg Ti Tc Tg1 Ti1 Tc1 Te) := fun X c => by
  obtain ⟨wi, p1, r1⟩ := hi X c
  obtain ⟨g, p2, r2⟩ := hg.uni
  obtain ⟨tt, p3, r3⟩ := hc.uni
  obtain ⟨te, p4, r4⟩ := he.uni
  obtain ⟨wi1, p5, r5⟩ := hi1.uni
  obtain ⟨g1, p6, r6⟩ := hg1.uni
  obtain ⟨tt1, p7, r7⟩ := hc1.uni
  exact ⟨_, pe_lc2 c.c c.nd p1 (by rw [c.n, c.s]; exact blkOk_by ok.blk) ok.sub (fun s H C cl fp => p2 _ (c.blk scope s H C cl fp)) (fun s H C cl fp => p3 _ (c.blk scope s H C cl fp)) (fun s H C cl fp => p5 _ (c.blk scope s H C cl fp)) (fun s H C cl fp => p6 _ (c.blk scope s H C cl fp)) (fun s H C cl fp => p7 _ (c.blk scope s H C cl fp)) (fun s H C cl fp => p4 _ (c.blk scope s H C cl fp)) (hf X.env) hf1,
    or_comp2 r1 r2 r3 r5 r6 r7 r4 ok.slots ok.slots1⟩
theorem set2 {X : Cx} {scope : Scope} (i : Nat) {x : Str} (own : List (Str × Nat)) (vs1 : List Nat) (c : Cok b A κ X) (h1 : κ.ns[i]? = some x) (h2 : lclB κ x = true) (hk : κ.sc.kind = .function) (hl : (py.line == pos.line) = true) (ha : (scope.names.any fun (n, k) => n == x && (k == .local || k == .cell)) = false)
    (ok : CompOk2 κ scope own vs1 Tg Tg1) (hf : ∀ (env : PySem.Env) x, foldedSetIterable iter env x = pure x) (hf1 : ∀ (env : PySem.Env) x, foldedSetIterable iter1 env x = pure x) (hi : HI b A κ tg iter Ti) (hg : HG b A (κ.sub scope) tg Tg) (hc : HC b A (κ.sub scope) ifs Tc)
    (hi1 : HI b A (κ.sub scope) tg1 iter1 Ti1) (hg1 : HG b A (κ.sub scope) tg1 Tg1) (hc1 : HC b A (κ.sub scope) ifs1 Tc1) (he : HE b A (κ.sub scope) elt Te) :
    ∃ t, PS X (.Assign [.Name x py] (.ListComp elt [⟨tg, iter, ifs, 0⟩, ⟨tg1, iter1, ifs1, 0⟩] scope pos) spos) (tAsg t (gName i)) ∧ OR' b.N t (wpE b.B (.comp2 (own.map (·.2)) vs1 Tg Ti Tc Tg1 Ti1 Tc1 Te)) := by
  obtain ⟨wi, p1, r1⟩ := hi X c
  obtain ⟨g, p2, r2⟩ := hg.uni
  obtain ⟨tt, p3, r3⟩ := hc.uni
  obtain ⟨te, p4, r4⟩ := he.uni
  obtain ⟨wi1, p5, r5⟩ := hi1.uni
  obtain ⟨g1, p6, r6⟩ := hg1.uni
  obtain ⟨tt1, p7, r7⟩ := hc1.uni
  exact ⟨_, ps_setLc2 c.c c.nd (by rw [c.n]; exact h1) (c.lcl h2) (sw_true (by rw [c.s]; exact hk) (c.lcl h2) hl ha) p1 (by rw [c.n, c.s]; exact blkOk_by ok.blk) ok.sub (fun s H C cl fp => p2 _ (c.blk scope s H C cl fp)) (fun s H C cl fp => p3 _ (c.blk scope s H C cl fp)) (fun s H C cl fp => p5 _ (c.blk scope s H C cl fp)) (fun s H C cl fp => p6 _ (c.blk scope s H C cl fp)) (fun s H C cl fp => p7 _ (c.blk scope s H C cl fp)) (fun s H C cl fp => p4 _ (c.blk scope s H C cl fp)) (hf X.env) hf1,
    or_comp2 r1 r2 r3 r5 r6 r7 r4 ok.slots ok.slots1⟩
theorem s_setC2 {scope : Scope} (i : Nat) {x : Str} (own : List (Str × Nat)) (vs1 : List Nat) (h1 : κ.ns[i]? = some x) (h2 : lclB κ x = true) (hk : κ.sc.kind = .function) (hl : (py.line == pos.line) = true) (ha : (scope.names.any fun (n, k) => n == x && (k == .local || k == .cell)) = false)
    (ok : CompOk2 κ scope own vs1 Tg Tg1) (hf : ∀ (env : PySem.Env) x, foldedSetIterable iter env x = pure x) (hf1 : ∀ (env : PySem.Env) x, foldedSetIterable iter1 env x = pure x) (hi : HI b A κ tg iter Ti) (hg : HG b A (κ.sub scope) tg Tg) (hc : HC b A (κ.sub scope) ifs Tc)
    (hi1 : HI b A (κ.sub scope) tg1 iter1 Ti1) (hg1 : HG b A (κ.sub scope) tg1 Tg1) (hc1 : HC b A (κ.sub scope) ifs1 Tc1) (he : HE b A (κ.sub scope) elt Te) :
    HS b A κ (.Assign [.Name x py] (.ListComp elt [⟨tg, iter, ifs, 0⟩, ⟨tg1, iter1, ifs1, 0⟩] scope pos) spos) (.set i (.comp2 (own.map (·.2)) vs1 Tg Ti Tc Tg1 Ti1 Tc1 Te)) := fun X c => by
  obtain ⟨t, q1, q2⟩ := set2 (spos := spos) i own vs1 c h1 h2 hk hl ha ok hf hf1 hi hg hc hi1 hg1 hc1 he
  exact ⟨_, q1, sr_set q2.er⟩
end
end DL

set_option Elab.async false
set_option linter.all false
set_option maxRecDepth 100000
namespace DL
open PySem L2 PySem.W PySem.Spec PyProof.Rows PySem.Calls
section
variable {X : Cx} {pins : List (Addr × Obj)} {σ : L2.St} {H : Hp} {s : Shared}
theorem Inv.untrackN {a : Addr} {u0 : L2.HO} (hu0 : (∀ xs, u0 ≠ .tup xs) ∧ (∀ o u, u0 ≠ .frz o u) ∧ (∀ ps, u0 ≠ .tbl ps) ∧ (∀ c, u0 ≠ .own c)) (I : L2.Inv X pins σ H s) (ha : H a = some u0) (n0 : X.s_0.heap.get? a = none) :
    ∃ G : Heap, (∀ b o, G.get? b = some o → s.heap.get? b = some o) ∧ (∀ b o, b ≠ a → s.heap.get? b = some o → G.get? b = some o) ∧ G.get? a = none ∧ L2.Inv X pins σ (delH H a) { s with heap := G } := by
  obtain ⟨G, g1, g2⟩ := L2.restrict s.heap fun b => decide (b ≠ a)
  have gk : ∀ b o, b ≠ a → s.heap.get? b = some o → G.get? b = some o := fun b o hb e => by
    rw [g1 b (decide_eq_true hb)]
    exact e
  have ga : G.get? a = none := g2 a (decide_eq_false fun z => z rfl)
  have gs : ∀ b o, G.get? b = some o → s.heap.get? b = some o := fun b o e => by
    by_cases hb : b = a
    · rw [hb, ga] at e
      cases e
    · rw [← g1 b (decide_eq_true hb)]
      exact e
  have ne0 : ∀ b o, X.s_0.heap.get? b = some o → b ≠ a := fun b o e z => by
    rw [z, n0] at e
    cases e
  have neN : ∀ b, H b = none → b ≠ a := fun b e z => by
    rw [z, ha] at e
    cases e
  have neT : ∀ b xs, H b = some (.tup xs) → b ≠ a := fun b xs e z => by
    rw [z, ha] at e
    exact hu0.1 xs (Option.some.inj e)
  have neF : ∀ b o u, H b = some (.frz o u) → b ≠ a := fun b o u e z => by
    rw [z, ha] at e
    exact hu0.2.1 o u (Option.some.inj e)
  have neB : ∀ b ps, H b = some (.tbl ps) → b ≠ a := fun b ps e z => by
    rw [z, ha] at e
    exact hu0.2.2.1 ps (Option.some.inj e)
  have neO : ∀ b c, H b = some (.own c) → b ≠ a := fun b c e z => by
    rw [z, ha] at e
    exact hu0.2.2.2 c (Option.some.inj e)
  have cellK : ∀ x c, X.env.cells.lookup x = some c → ∀ v, s.heap.IsCell c v → G.IsCell c v := fun x c e v ⟨o, ho, hd⟩ => ⟨o, gk c o (neN c (I.freeC x c e)) ho, hd⟩
  refine ⟨G, gs, gk, ga, ⟨I.ok, I.os, I.bare, ⟨fun b o e n hb hq => ?_, fun b o e n hb hq => ?_, fun b o e n hq => ?_, fun b o e hq => ?_, fun b xs e => ?_, fun b o u e => ?_, fun b ps e => ?_⟩, ?_, fun x c e => ?_, ?_, fun x c e => ?_, fun p hp => ?_, fun b u e => ?_, I.len⟩⟩
  · exact gk b o (ne0 b o e) (I.base.keep b o e n hb hq)
  · obtain ⟨sl, q⟩ := I.base.slot b o e n hb hq
    exact ⟨sl, gk b _ (ne0 b o e) q⟩
  · rw [delH_ne (ne0 b o e)]
    exact I.base.free b o e n hq
  · obtain ⟨o', q⟩ := I.base.there b o e hq
    exact ⟨o', gk b o' (ne0 b o e) q⟩
  · have q := I.base.tups b xs e
    rw [delH_ne (neT b xs q)]
    exact q
  · have q := I.base.frzs b o u e
    rw [delH_ne (neF b o u q)]
    exact q
  · obtain ⟨m, q⟩ := I.base.tbls b ps e
    exact ⟨m, by rw [delH_ne (neB b _ q)]; exact q⟩
  · obtain ⟨m, ⟨o, es, ep, ho, r⟩, hl⟩ := I.loc
    refine ⟨m, ⟨o, es, ep, gk _ _ (neN _ I.free) ho, r⟩, fun i x v e1 e2 e3 => ?_⟩
    obtain ⟨u, r', l⟩ := hl i x v e1 e2 e3
    refine ⟨u, r', ?_⟩
    rcases l with l | ⟨k, c, ec, z⟩
    · exact .inl l
    · exact .inr ⟨k, c, ec, cellK x c ec _ z⟩
  · obtain ⟨v, z⟩ := I.cell x c e
    exact ⟨v, cellK x c e v z⟩
  · rw [delH_ne (neN _ I.free)]
    exact I.free
  · rw [delH_ne (neN _ (I.freeC x c e))]
    exact I.freeC x c e
  · obtain ⟨e, n, ne, nf, d⟩ := I.pin p hp
    exact ⟨gk _ _ (neN _ n) e, by rw [delH_ne (neN _ n)]; exact n, ne, nf, d⟩
  · have hb : b ≠ a := fun z => by
      rw [z, delH_same] at e
      cases e
    rw [delH_ne hb] at e
    refine (I.hok b u e).stay (fun c v hc q => gk c v ?_ q) (fun c q => ?_) fun c xs q => ?_
    · rcases hc with z | z
      · rw [z]
        exact hb
      · exact neO _ _ z
    · rw [delH_ne (neO c b q)]
      exact q
    · rw [delH_ne (neT c xs q)]
      exact q
/-- an object that stands just so -/
def exO (a : Addr) (o : Obj) : L2.HO := .ext fun h => h.get? a = some o
theorem exO_ok {P : Program} {w : World} {H : Hp} {h : Heap} {a : Addr} {o : Obj} (e : h.get? a = some o) : ObjOk P w H h a (exO a o) := ⟨e, ⟨o, e⟩, fun h1 h2 q k => k _ q⟩
theorem Inv.ex {a : Addr} {o : Obj} (I : L2.Inv X pins σ H s) (e : H a = some (exO a o)) : s.heap.get? a = some o := (I.hok a _ e).1
/-- a call of a def from within two built-ins -/
theorem run_in2 {k : Nat} {f : Addr} {fd : FuncData} {ps : List Str} {sp : Sp} {ds : List Value} {dvs : List V} {Q : VK} {us : List Value} {vs : List V} (F : FnOk X.prog X.w X.K X.mg X.base CX0 k f fd ps sp) (hr : Room (k + 2) X.A) (hb : Binds X.K fd ps ds) (hd : Vals dvs ds)
    (I : L2.Inv X pins σ H s) (r : Vals vs us) (h : sp (vs ++ dvs) H Q E0) : wpAny (model X.prog X.w) X.A.in1.in1 (call (.ref f) us) (EP X pins σ Q) (fun _ _ => False) s := by
  have r2 : Vals (vs ++ dvs) (us ++ ds) := r.append hd
  have hl : (us ++ ds).length = ps.length := by rw [← r2.length]; exact F.len _ _ _ _ h
  have hr2 : Room k X.A.in1.in1 := (show Room (k + 1) X.A.in1 from Room.in1 hr).in1
  refine wpAny_call (codeAny_mono (F.run X.A.in1.in1 X.stack s H ⟨us, []⟩ (us ++ ds) (vs ++ dvs) Q E0 hr2 I.env0.in1.in1 (hb s us I.kIn hl) r2 h) fun r s' hq => ?_)
  cases r with
  | error e => exact hq
  | ok fl =>
    cases fl with
    | ret u => exact I.after hq
    | next => exact False.elim hq
    | brk => exact False.elim hq
    | cont => exact False.elim hq
end
section
variable {N : Nam}
theorem Sim.touch {Z : Ety} {F H : Hp} {ρ : Env} {M : Mem} {σ : L2.St} (S : Sim N Z F (hideD ρ) M σ H) {p : Addr} {o : L2.HO} (hF : F p = none) (hM : M p = none) (hZ : Z.H_0 p = none) (hC : NoCode H p) : Sim N Z F (hideD ρ) M σ (upd H p o) := by
  have k : ∀ b u, b ≠ p → H b = some u → upd H p o b = some u := fun b u hb e => by rw [upd_ne hb]; exact e
  refine ⟨fun b u e => k b u (fun z => by rw [z, hF] at e; cases e) (S.sub b u e), S.le0, S.mf, fun b m e => ?_, S.mnew, S.fnew, fun b u e z z' => k b u (fun y => by rw [y, hZ] at e; cases e) (S.keep b u e z z'), fun b u e => ?_, ⟨fun _ => none, fun _ _ e => (nomatch e), fun i lv e => ?_⟩, S.len, S.tb.heap hC⟩
  · have hb : b ≠ p := fun y => by rw [y, hM] at e; cases e
    exact (S.mem b m e).mono (Le.refl _) fun u q => k b u hb q
  · obtain ⟨u', q⟩ := S.there b u e
    by_cases hb : b = p
    · exact ⟨o, by rw [hb, upd_same]⟩
    · exact ⟨u', k b u' hb q⟩
  · unfold hideD at e
    rw [List.getElem?_map] at e
    cases q : ρ[i]? with
    | none => rw [q] at e; cases e
    | some lv' =>
      rw [q] at e
      have e : hideL lv' = lv := Option.some.inj e
      subst e
      cases lv' with
      | no => trivial
      | own c => trivial
      | val d =>
        have e1 : (hideD ρ)[i]? = some (.val d) := by unfold hideD; rw [List.getElem?_map, q]; rfl
        obtain ⟨u, h1, h2⟩ := S.val e1
        exact ⟨u, by rw [h1]; rfl, h2⟩
theorem Sim.del {Z : Ety} {F H : Hp} {ρ : Env} {M : Mem} {σ : L2.St} (S : Sim N Z F (hideD ρ) M σ H) {p : Addr} (hF : F p = none) (hM : M p = none) (hZ : Z.H_0 p = none) (hC : NoCode H p) : Sim N Z F (hideD ρ) M σ (delH H p) := by
  have k : ∀ b u, b ≠ p → H b = some u → delH H p b = some u := fun b u hb e => by rw [delH_ne hb]; exact e
  refine ⟨fun b u e => k b u (fun z => by rw [z, hF] at e; cases e) (S.sub b u e), S.le0, S.mf, fun b m e => ?_, S.mnew, S.fnew, fun b u e z z' => k b u (fun y => by rw [y, hZ] at e; cases e) (S.keep b u e z z'), fun b u e => ?_, ⟨fun _ => none, fun _ _ e => (nomatch e), fun i lv e => ?_⟩, S.len, ⟨fun q m => TabS.chg (S.tb.tab q m) fun b o e c => by rw [delH_ne (fun z => by subst z; exact hC o e c)]; exact e, S.tb.fn, S.tb.mn, S.tb.tz⟩⟩
  · have hb : b ≠ p := fun y => by rw [y, hM] at e; cases e
    exact (S.mem b m e).mono (Le.refl _) fun u q => k b u hb q
  · obtain ⟨u', q⟩ := S.there b u e
    have hb : b ≠ p := fun y => by rw [y, hZ] at e; cases e
    exact ⟨u', k b u' hb q⟩
  · unfold hideD at e
    rw [List.getElem?_map] at e
    cases q : ρ[i]? with
    | none => rw [q] at e; cases e
    | some lv' =>
      rw [q] at e
      have e : hideL lv' = lv := Option.some.inj e
      subst e
      cases lv' with
      | no => trivial
      | own c => trivial
      | val d =>
        have e1 : (hideD ρ)[i]? = some (.val d) := by unfold hideD; rw [List.getElem?_map, q]; rfl
        obtain ⟨u, h1, h2⟩ := S.val e1
        exact ⟨u, by rw [h1]; rfl, h2⟩
end
end DL

set_option Elab.async false
set_option linter.all false
set_option maxRecDepth 100000
namespace DL
open PySem L2 PySem.W PySem.Spec PyProof.Rows PySem.Calls
theorem upd_upd' {H : Hp} {a : Addr} {o u : L2.HO} : upd (upd H a o) a u = upd H a u := by
  funext b
  by_cases h : b = a
  · subst h; rw [upd_same, upd_same]
  · rw [upd_ne h, upd_ne h, upd_ne h]
theorem pys_map : ∀ ds : List DL.D, pys ds = ds.map py
  | [] => by unfold pys; rfl
  | d :: ds => by unfold pys; rw [pys_map ds]; rfl
theorem dats_mem : ∀ {ds : List DL.D} {d : DL.D}, dats ds = true → d ∈ ds → dat d = true
  | x :: ds, d, h, m => by
    unfold dats at h
    rw [Bool.and_eq_true] at h
    rcases List.mem_cons.mp m with rfl | m
    · exact h.1
    · exact dats_mem h.2 m
theorem deps_mem : ∀ {ds : List DL.D} {d : DL.D}, d ∈ ds → dep d ≤ deps ds
  | x :: ds, d, m => by
    unfold deps
    rcases List.mem_cons.mp m with rfl | m
    · exact Nat.le_max_left ..
    · exact Nat.le_trans (deps_mem m) (Nat.le_max_right ..)
theorem each_reps {N : Nam} {F : Hp} : ∀ {es : List DL.D} {vsV : List V} {vs : List Value}, Vals vsV vs → Reps N F es vsV → EachIs (fun u d => ∃ v, RelV v u ∧ Rep N F d v) vs es
  | [], vsV, vs, r, q => by rw [reps_nil] at q; subst q; cases r; exact .nil
  | d :: es, vsV, vs, r, q => by
    rw [reps_cons] at q
    obtain ⟨v, t, rfl, q1, q2⟩ := q
    cases r with
    | cons h1 h2 => exact .cons ⟨v, h1, q1⟩ (each_reps h2 q2)
theorem reps_each {N : Nam} {F : Hp} : ∀ {es : List DL.D} {vs : List Value}, EachIs (fun u d => ∃ v, RelV v u ∧ Rep N F d v) vs es → ∃ vsV, Vals vsV vs ∧ Reps N F es vsV
  | [], _, .nil => ⟨[], .nil, reps_nil.mpr rfl⟩
  | d :: es, _, .cons ⟨v, h1, h2⟩ t => by
    obtain ⟨t', q1, q2⟩ := reps_each t
    exact ⟨v :: t', .cons h1 q1, reps_cons.mpr ⟨v, t', rfl, h2, q2⟩⟩
theorem each_dp {K : PySem.W.Frag} {P : PyData → Value → Prop} : ∀ {kz : List PyData} {vsV : List V} {vs : List Value} {H : Hp}, Vals vsV vs → DpAll K H vsV kz → (∀ d v u, Dp K H v d → RelV v u → P d u) → EachIs (fun u d => P d u) vs kz
  | [], _, _, H, r, q, h => by cases q; cases r; exact .nil
  | d :: kz, _, _, H, r, q, h => by
    cases q with
    | cons q1 q2 =>
      cases r with
      | cons r1 r2 => exact .cons (h _ _ _ q1 r1) (each_dp r2 q2 h)
theorem hideD_hideD (ρ : Env) : hideD (hideD ρ) = hideD ρ := by
  unfold hideD
  rw [List.map_map]
  congr 1
  funext l
  cases l <;> rfl
section
variable {X : Cx} {pins : List (Addr × Obj)} {σ : L2.St} {N : Nam}
/-- a key function: how it is called from within built-ins -/
def Callee (X : Cx) (N : Nam) (pins : List (Addr × Obj)) (σ : L2.St) (A' : Around) (fa : Addr) (sp : DSp) (co : List (Addr × Str)) (Fc : Hp) : Prop :=
  ∀ {Z : Ety} {ρ : Env} {M : Mem} {σ' : L2.St} {F H : Hp} {s : Shared} {d : DL.D} {v : V} {u : Value} {Qd : DL.D → Mem → Prop}, Sim N Z F ρ M σ' H → Le Fc F → (∀ p ∈ co, H p.1 = some (LamX.CodeO p.1 p.2)) → L2.Inv X pins σ H s → RelV v u → Rep N F d v → sp [d] M Qd →
    wpAny (model X.prog X.w) A' (call (.ref fa) [u]) (fun w s' => ∃ (v' : V) (H' F' : Hp) (d' : DL.D) (M' : Mem), L2.Inv X pins σ H' s' ∧ RelV v' w ∧ Sim N ⟨H, M, F⟩ F' [] M' [] H' ∧ Rep N F' d' v' ∧ Qd d' M' ∧ ∀ b o, s.heap.get? b = some o → H b = none → b ∉ frs X.stack → s'.heap.get? b = some o ∧ H' b = none) (fun _ _ => False) s
theorem noCode_seq {H : Hp} {s : Shared} {a : Addr} {T : String} {vs : Array Value} {n : Nat} (I : L2.Inv X pins σ H s) (ia : H a = some (exO a (seqObj T vs n))) : NoCode H a := by
  intro o e c
  rw [ia] at e
  cases e
  rcases c with ⟨ps, e⟩ | ⟨q, e⟩
  · cases e
  · have h1 := DL.Inv.ex I ia
    have h2 := (I.hok a _ (ia.trans (congrArg some e))).1
    obtain ⟨oc, vs', t, e1, e2, _⟩ := h2
    rw [h1] at e1
    cases e1
    cases e2
theorem code_keep {Z : Ety} {ρ : Env} {M : Mem} {σ' : L2.St} {F H : Hp} {c : Addr} {q : Str} (S : Sim N Z F ρ M σ' H) (h : H c = some (LamX.CodeO c q)) : M c = none ∧ ∀ p ∈ N.tbs, p.1 ≠ c := by
  refine ⟨?_, fun p m e => ?_⟩
  · cases e : M c with
    | none => rfl
    | some mo => exact absurd (.inr ⟨q, rfl⟩) ((S.mem c mo e).noCode _ h)
  · obtain ⟨ps, z⟩ := TabS.there (S.tb.tab p m)
    rw [e, h] at z
    unfold LamX.CodeO at z
    cases z
theorem after_un {H : Hp} {s s' : Shared} {Q : VK} {u : Value} (I : L2.Inv X pins σ H s) (h : CE X.stack X.prog X.w H s Q u s') : ∃ v H', L2.Inv X pins σ H' s' ∧ RelV v u ∧ Q v H' ∧ ∀ b o, s.heap.get? b = some o → H b = none → b ∉ frs X.stack → s'.heap.get? b = some o ∧ H' b = none := by
  obtain ⟨v, H', os, bare, un, hok, r, q⟩ := h
  have h2 : CE X.stack X.prog X.w H s (fun v H' => Q v H' ∧ ∀ b o, s.heap.get? b = some o → H b = none → H' b = none) u s' := ⟨v, H', os, bare, un, hok, r, q, fun b o h1 h2 => un.free b o h1 h2 (by simp)⟩
  obtain ⟨v2, H2, I2, r2, q2, f2⟩ := I.after h2
  exact ⟨v2, H2, I2, r2, q2, fun b o h1 h2 h3 => ⟨un.keep b o h1 h2 h3 (by simp), f2 b o h1 h2⟩⟩
theorem callee_fn {Fc : Hp} {A' : Around} {k : Nat} {fa : Addr} {fd : FuncData} {ps : List Str} {sp : DSp} {ds : List Value} {dvs : List V} {dd : List DL.D} (Fn : FnOk X.prog X.w X.K X.mg X.base CX0 k fa fd ps (liftS N sp)) (hA : ∀ {s : Shared} {H : Hp}, L2.Inv X pins σ H s → Env0 X.prog X.w X.K X.mg X.base A' X.stack s H) (hr : Room k A') (hb : Binds X.K fd ps ds) (hd : Vals dvs ds) (hdd : ∀ F, Reps N F dd dvs) :
    Callee X N pins σ A' fa (fun as => sp (as ++ dd)) [] Fc := fun {Z ρ M σ' F H s d v u Qd} S _ _ I rx re q => by
  have r2 : Vals ([v] ++ dvs) ([u] ++ ds) := Vals.append (show Vals [v] [u] from .cons rx .nil) hd
  have h : liftS N sp ([v] ++ dvs) H (fun v' H' => ∃ F' d' M', Sim N ⟨H, M, F⟩ F' [] M' [] H' ∧ Rep N F' d' v' ∧ Qd d' M') E0 :=
    ⟨F, M, [d] ++ dd, _, S.ms, reps_cons.mpr ⟨v, dvs, rfl, re, hdd F⟩, q, fun d' M' v' H' F' q' S' r' => ⟨F', d', M', S', r', q'⟩⟩
  have hl : ([u] ++ ds).length = ps.length := by rw [← r2.length]; exact Fn.len _ _ _ _ h
  refine wpAny_call (codeAny_mono (Fn.run A' X.stack s H ⟨[u], []⟩ ([u] ++ ds) ([v] ++ dvs) _ E0 hr (hA I) (hb s [u] I.kIn hl) r2 h) fun r s' hq => ?_)
  cases r with
  | error e => exact hq
  | ok fl =>
    cases fl with
    | ret w =>
      obtain ⟨v', H', I2, rv', ⟨F', d', M', S3, r3, q3⟩, un⟩ := after_un I hq
      exact ⟨v', H', F', d', M', I2, rv', S3, r3, q3, un⟩
    | next => exact False.elim hq
    | brk => exact False.elim hq
    | cont => exact False.elim hq
theorem ksk_loop {fa : Addr} {sp : DSp} {Q : VK} {E : Value → Shared → Prop} {co : List (Addr × Str)} {Fc : Hp} (C : Callee X N pins σ X.A.in1.in1 fa sp co Fc) (hu : X.A.units + 64 < cLine)
    {Z : Ety} {ρ : Env} {M : Mem} {σ' : L2.St} {F0 H : Hp} {es : List DL.D} {kf : DL.D → DL.D} {a kS : Addr} {s : Shared} {vs : List Value} {vsV : List V} {e1 : Nat}
    (S : Sim N Z F0 ρ M σ' H) (ha : H a = none) (hkS : H kS = none) (hne : kS ≠ a) (I : L2.Inv X pins σ (upd (upd H a (exO a (seqObj "list" #[] e1))) kS (exO kS (seqObj "list" #[] 0))) s) (rv : Vals vsV vs) (re : Reps N F0 es vsV) (hz : vs.length ≤ sizeLine)
    (hk : SortOk (es.map kf)) (hsp : ∀ e ∈ es, sp [e] M (fun d M' => M' = M ∧ d = kf e)) (n0 : X.s_0.heap.objs.size ≤ kS) (lF : Le Fc F0) (hco : ∀ p ∈ co, H p.1 = some (LamX.CodeO p.1 p.2))
    (hQ : ∀ H' F', Sim N Z F' (ρ ++ [.own (.L (es.mergeSort fun a b => leD (kf a) (kf b)))]) M (σ' ++ [some (.ref a)]) H' → Le F0 F' → Q (.ref a) H') :
    wpAny (model X.prog X.w) X.A.in1.in1 (ksk_rest a (.ref fa) false vs.toArray e1 (.ref kS)) (fun fin s' => fin = .done (.ret .none) ∧ EP X pins σ Q (.ref a) s') E s := by
  have hlen : vs.length = es.length := by rw [← rv.length, re.length]
  have Ma : M a = none := S.mnone ha
  have Fa : F0 a = none := S.fnone ha
  have Mk : M kS = none := S.mnone hkS
  have Fk : F0 kS = none := S.fnone hkS
  unfold ksk_rest
  refine wpAny_bind (wpAny_rule ?_)
  first
    | rw [List.forIn_toArray]
    | (rw [← Array.forIn_toList]; simp only [List.toList_toArray])
    | rw [← Array.forIn_toList]
  have Z1 : Sim N ⟨H, M, F0⟩ F0 (hideD ρ) M σ' H := S.start
  refine wpAny_bind (ksk_fold (fun i s' => ∃ Hi Fi kA e ksV, L2.Inv X pins σ Hi s' ∧ Hi a = some (exO a (seqObj "list" #[] e1)) ∧ Hi kS = some (exO kS (seqObj "list" kA e)) ∧ Sim N ⟨H, M, F0⟩ Fi (hideD ρ) M σ' Hi ∧ Fi a = none ∧ Fi kS = none ∧ Vals ksV kA.toList ∧ Reps N Fi ((es.take i).map kf) ksV) vs 0 s
    ⟨_, F0, #[], 0, [], I, by rw [upd_ne hne.symm, upd_same], upd_same, (by have := Z1.touch (o := exO a (seqObj "list" #[] e1)) Fa Ma ha (noCode_none ha); exact this.touch (o := exO kS (seqObj "list" #[] 0)) Fk Mk hkS (noCode_none (by rw [upd_ne hne]; exact hkS))), Fa, Fk, .nil, by rw [List.take_zero]; exact reps_nil.mpr rfl⟩ ?step ?done)
  case step =>
    rintro j x s' hx ⟨Hi, Fi, kA, e, ksV, I1, ia, ik, S1, fa1, fk1, rk, qk⟩
    simp only [Nat.zero_add] at rk qk ⊢
    have hj : j < vs.length := (List.getElem?_eq_some_iff.mp hx).1
    obtain ⟨d, hdj⟩ : ∃ d, es[j]? = some d := ⟨_, List.getElem?_eq_getElem (by omega)⟩
    obtain ⟨xv, hxv, rxv⟩ := re.get hdj
    have rx : RelV xv x := by
      have : ∀ {as : List V} {bs : List Value} {i : Nat} {a : V} {b : Value}, Vals as bs → as[i]? = some a → bs[i]? = some b → RelV a b := by
        intro as bs i a b h
        induction h generalizing i with
        | nil => intro h1; simp at h1
        | cons h1 h2 ih =>
          cases i with
          | zero => intro e1 e2; simp at e1 e2; subst e1 e2; exact h1
          | succ i => intro e1 e2; exact ih (by simpa using e1) (by simpa using e2)
      exact this rv hxv hx
    have hz1 : kA.size ≤ vs.length := by
      have h1 : ksV.length = kA.size := by rw [rk.length, Array.length_toList]
      have h2 := qk.length
      rw [List.length_map, List.length_take] at h2
      have h3 := Nat.min_le_right j es.length
      omega
    have S2 : Sim N ⟨Hi, M, Fi⟩ Fi (hideD ρ) M σ' Hi := by
      have := S1.start
      rwa [hideD_hideD] at this
    refine wpAny_bind (wpAny_attempt (wpAny_mono (C S2 (lF.trans S1.le0) (fun p m => let q := code_keep S (hco p m); S1.keep _ _ (hco p m) q.1 q.2) I1 rx (rxv.mono S1.le0) (hsp d (List.mem_of_getElem? hdj))) (fun v s'' he => ?_) fun _ _ hF => hF.elim))
    · obtain ⟨v', H', F', d', M', I2, rv', S3', r3, ⟨eM, rfl⟩, _⟩ := he
      have eM := eM.symm
      subst eM
      have S3 : Sim N ⟨Hi, M, Fi⟩ F' (hideD ρ) M σ' H' := S2.back S3'
      have l3 : Le Fi F' := S3'.le0
      have ia2 : H' a = some (exO a (seqObj "list" #[] e1)) := S3.keep a _ ia Ma (S.tb.neN ha)
      have ik2 : H' kS = some (exO kS (seqObj "list" kA e)) := S3.keep kS _ ik Mk (S.tb.neN hkS)
      have fa2 : F' a = none := by
        cases q : F' a with
        | none => rfl
        | some o => exact absurd (ia.symm.trans (S3.fnew a o q fa1 Ma)) (by simp)
      have fk2 : F' kS = none := by
        cases q : F' kS with
        | none => rfl
        | some o => exact absurd (ik.symm.trans (S3.fnew kS o q fk1 Mk)) (by simp)
      have S4 : Sim N ⟨H, M, F0⟩ F' (hideD ρ) M σ' H' := by
        have := S1.back S3
        exact this
      have nk := DL.Inv.ex I2 ik2
      obtain ⟨c2, hc2⟩ : ∃ c2, (s''.heap.update kS (Obj.mapSeq (·.push v))).get? kS = some (seqObj "list" (kA.push v) c2) := ⟨_, get?_update_seq nk (·.push v)⟩
      have s1 := Heap.SameBut.update s''.heap kS (Obj.mapSeq (·.push v))
      refine wpAny_bind (listUpdate_at nk rfl ?_ (Nat.le_trans hz1 hz) (Nat.le_trans (Nat.le_of_eq (Array.size_push ..)) (Nat.succ_le_succ (Nat.le_trans hz1 hz))))
      have I3 := I2.write (x := kS) (e := kS) (o := exO kS (seqObj "list" (kA.push v) c2)) (h' := s''.heap.update kS (Obj.mapSeq (·.push v))) (t' := s''.toks) (by rw [ik2]; trivial) (.inl rfl) (fun b u hb e => (s1.2 b hb).trans e) ⟨_, hc2⟩ (exO_ok hc2)
      refine wpAny_pure ⟨rfl, _, F', kA.push v, c2, ksV ++ [v'], I3, by rw [upd_ne hne.symm]; exact ia2, upd_same, S4.touch fk2 Mk hkS (noCode_seq I2 ik2), fa2, fk2, ?_, ?_⟩
      · have ea : (kA.push v).toList = kA.toList ++ [v] := by simp
        rw [ea]
        exact rk.append (.cons rv' .nil)
      · have ek : (es.take (j + 1)).map kf = (es.take j).map kf ++ [kf d] := by rw [List.take_add_one, hdj]; simp
        rw [ek]
        exact (qk.mono l3).append (.one r3)
  case done =>
    rintro s' ⟨Hi, Fi, kA, e, ksV, I1, ia, ik, S1, fa1, fk1, rk, qk⟩
    have e3 : es.take (0 + vs.length) = es := List.take_of_length_le (by omega)
    rw [e3] at qk
    obtain ⟨z1, z2, z3, z4, z5⟩ := hk
    have hsz : kA.size = vs.length := by
      have h1 : ksV.length = kA.size := by rw [rk.length, Array.length_toList]
      have h2 := qk.length
      rw [List.length_map] at h2
      omega
    have dp := Reps.dp (K := X.K) S1.sub z2 qk
    have hk' : EachIs (fun v d => ∃ as, Reads s'.heap v d as) kA.toList (pys (es.map kf)) := each_dp (P := fun d v => ∃ as, Reads s'.heap v d as) rk dp fun d v u h1 h2 => Dp.reads I1 d v u h1 h2
    have nk := DL.Inv.ex I1 ik
    have na := DL.Inv.ex I1 ia
    refine wpAny_bind (listItems_at nk rfl ?_)
    have hn0 : X.s_0.heap.get? kS = none := Heap.get?_none_of_le n0
    obtain ⟨G, g1, g2, g3, I2⟩ := DL.Inv.untrackN (u0 := exO kS (seqObj "list" kA e)) ⟨fun _ z => (nomatch z), fun _ _ z => (nomatch z), fun _ z => (nomatch z), fun _ z => (nomatch z)⟩ I1 ik hn0
    have hud : ∀ d, d ∈ pys (es.map kf) → X.A.in1.in1.units + d.depth < cLine := fun d m => by
      rw [pys_map] at m
      obtain ⟨d0, m0, rfl⟩ := List.mem_map.mp m
      have h1 := (lay_py (dats_mem z2 m0)).2
      have h2 := deps_mem m0
      have h3 : X.A.in1.in1.units = X.A.units + 2 := rfl
      omega
    refine keyH_end (κ := dataKind s'.heap (pys (es.map kf))) (h₁ := G) (fun b o hb q => g1 b o q) g3 nk na hne (SortsAt.data (s := s') hk' z4 z5 hud) hsz hz fun h3 tk3 c k3 n3 => ⟨rfl, ?_⟩
    have ko : KeyedOut false (pys (es.map kf)) vs (sortVals (dataKind s'.heap (pys (es.map kf))) false kA.toList vs) := ⟨s'.heap, kA.toList, z4, rfl, hk'⟩
    rw [pys_map, List.map_map] at ko
    have ho := keyedOut_each (py ∘ kf) ko (each_reps (N := N) (F := Fi) rv (re.mono S1.le0))
    rw [← List.map_map, ← pys_map] at ho
    obtain ⟨outV, r1, r2⟩ := reps_each ho
    have eL : es.mergeSort (dataLe false (py ∘ kf)) = es.mergeSort (fun a b => leD (kf a) (kf b)) := rfl
    rw [eL] at r2
    have hzo : outV.length ≤ sizeLine := by
      rw [r2.length, List.length_mergeSort, ← hlen]
      exact hz
    have I3 := I2.write (x := a) (e := a) (o := .lst outV) (h' := h3) (t' := tk3) (by rw [delH_ne hne.symm, ia]; trivial) (.inl rfl) (fun b u hb e => k3 b u hb e) ⟨_, n3⟩ ⟨hzo, _, _, r1, n3⟩
    have S5 := (S1.del fk1 Mk hkS (noCode_seq I1 ik)).del fa1 Ma ha (noCode_seq I2 (by rw [delH_ne hne.symm]; exact ia))
    have S6 := S.back (F' := Fi) (M' := M) (H' := delH (delH Hi kS) a) S5
    have S7 := S6.newO (p := a) (o := .lst outV) (c := .L (es.mergeSort fun a b => leD (kf a) (kf b))) delH_same ⟨outV, upd_same, hzo, r2⟩
    have eH : upd (delH (delH Hi kS) a) a (.lst outV) = upd (delH Hi kS) a (.lst outV) := by
      funext b
      by_cases hb : b = a
      · subst hb; rw [upd_same, upd_same]
      · rw [upd_ne hb, upd_ne hb, delH_ne hb]
    rw [eH] at S7
    exact ⟨.ref a, _, I3, rfl, hQ _ Fi S7 S1.le0⟩
end
end DL

set_option Elab.async false
set_option linter.all false
set_option maxRecDepth 100000
namespace DL
open PySem L2 PySem.W PySem.Spec PyProof.Rows PySem.Calls
section
variable {X : Cx} {pins : List (Addr × Obj)} {σ : L2.St} {N : Nam}
theorem ksk_whole {fa : Addr} {sp : DSp} {Q : VK} {E : Value → Shared → Prop} {co : List (Addr × Str)} {Fc : Hp} (C : Callee X N pins σ X.A.in1.in1 fa sp co Fc) (hu : X.A.units + 64 < cLine)
    {Z : Ety} {ρ : Env} {M : Mem} {σ' : L2.St} {F0 H : Hp} {es : List DL.D} {kf : DL.D → DL.D} {s : Shared} {vs : List Value} {vsV : List V} {p : Addr} {T : String} {o : Obj} {n : Nat}
    (S : Sim N Z F0 ρ M σ' H) (I : L2.Inv X pins σ H s) (hT : T = "list" ∨ T = "tuple") (ho : s.heap.get? p = some o) (hc : o.cls = .type T) (hdat : o.data = .seq vs.toArray n) (rv : Vals vsV vs) (re : Reps N F0 es vsV) (hz : vs.length ≤ sizeLine)
    (hk : SortOk (es.map kf)) (hsp : ∀ e ∈ es, sp [e] M (fun d M' => M' = M ∧ d = kf e))
    (lF : Le Fc F0) (hco : ∀ p ∈ co, H p.1 = some (LamX.CodeO p.1 p.2))
    (hQ : ∀ a H' F', Sim N Z F' (ρ ++ [.own (.L (es.mergeSort fun a b => leD (kf a) (kf b)))]) M (σ' ++ [some (.ref a)]) H' → Le F0 F' → Q (.ref a) H') :
    wpAny (model X.prog X.w) X.A (call (.builtin "sorted") [.ref p] [(Str.ofString "key", .ref fa)]) (EP X pins σ Q) E s := by
  refine call_function_entry_kw kind_sorted plain_sorted entry_sorted (ksk_s1 _ _) ?_
  unfold Builtin.«sorted»
  refine wpAny_bind (m := checkCount "sorted" 1 1 _) (wpAny_pure ?_)
  refine wpAny_bind (wpAny_collect_seq p (o := o) (items := vs.toArray) (n := n) hT ho hc hdat (fun h' hk' => ?_) (by rw [List.size_toArray]; exact hz))
  have I1 : L2.Inv X pins σ H { s with heap := h' } := I.kept (t' := s.toks) hk'
  refine wpAny_bind (wpAny_newList ?_ hz)
  have ha : H h'.objs.size = none := I1.hok.fresh (Nat.le_refl _)
  have ea : (h'.push (seqObj "list" vs.toArray 0)).get? h'.objs.size = some (seqObj "list" vs.toArray 0) := Heap.get?_push_size _ rfl
  have I2 : L2.Inv X pins σ (upd H h'.objs.size (exO h'.objs.size (seqObj "list" vs.toArray 0))) { s with heap := h'.push (seqObj "list" vs.toArray 0) } := I1.laid (t' := s.toks) (fun b u q => Heap.get?_push_of_some _ q) (Nat.le_refl _) (exO_ok ea)
  refine wpAny_bind (wpAny_holding (wpAny_call_entry_kw slot_list_sort ⟨_, ea, rfl⟩ entry_list_sort ?body (ksk_l1 _ _)))
  case body =>
    show wpAny (model X.prog X.w) X.A.in1.in1 (Builtin.«list.sort» ⟨[.ref h'.objs.size], [(Str.ofString "key", .ref fa)]⟩) _ _ { s with heap := h'.push (seqObj "list" vs.toArray 0) }
    rw [ksk_t1]
    generalize hga : h'.objs.size = a at ha ea I2 ⊢
    generalize hgs : ({ s with heap := h'.push (seqObj "list" vs.toArray 0) } : Shared) = s2 at I2 ⊢
    have ea : s2.heap.get? a = some (seqObj "list" vs.toArray 0) := by rw [← hgs]; exact ea
    have sz2 : X.s_0.heap.objs.size ≤ s2.heap.objs.size := I2.sz
    refine wpAny_mono (?_ : wpAny (model X.prog X.w) X.A.in1.in1 (ksk_tree a (.ref fa) false) (fun fin s' => fin = .done (.ret .none) ∧ EP X pins σ Q (.ref a) s') _ s2) (fun f s' hf => ?_) fun _ _ e => e
    · have hlt : a < s2.heap.objs.size := Heap.lt_size ea
      obtain ⟨e1, ho1⟩ : ∃ e1, (s2.heap.update a (Obj.mapSeq fun _ => (#[] : Array Value))).get? a = some (seqObj "list" #[] e1) := ⟨_, get?_update_seq ea fun _ => #[]⟩
      have s1 := Heap.SameBut.update s2.heap a (Obj.mapSeq fun _ => (#[] : Array Value))
      have I3 := I2.write (x := a) (e := a) (o := exO a (seqObj "list" #[] e1)) (h' := s2.heap.update a (Obj.mapSeq fun _ => (#[] : Array Value))) (t' := s2.toks) (by rw [upd_same]; trivial) (.inl rfl) (fun b u hb e => (s1.2 b hb).trans e) ⟨_, ho1⟩ (exO_ok ho1)
      rw [upd_upd'] at I3
      unfold ksk_tree
      refine wpAny_bind (listItems_at ea rfl ?_)
      refine wpAny_bind (listUpdate_at ea rfl ?_ (by rw [List.size_toArray]; exact hz) (Nat.zero_le _))
      refine wpAny_bind (seqEpoch_at ho1 rfl ?_)
      refine wpAny_bind (wpAny_newTuple ?_ (by show vs.length ≤ _; exact hz))
      have I4 : L2.Inv X pins σ (upd H a (exO a (seqObj "list" #[] e1))) { s2 with heap := (s2.heap.update a (Obj.mapSeq fun _ => (#[] : Array Value))).push (seqObj "tuple" vs.toArray 0) } := I3.kept (t' := s2.toks) fun b u q => Heap.get?_push_of_some _ q
      refine wpAny_bind (wpAny_newList ?_ (Nat.zero_le _))
      refine wpAny_holding ?_
      have hkS : ((s2.heap.update a (Obj.mapSeq fun _ => (#[] : Array Value))).push (seqObj "tuple" vs.toArray 0)).objs.size = s2.heap.objs.size + 1 := by rw [size_push', Heap.size_update]
      have fr := I4.hok.fresh (a := ((s2.heap.update a (Obj.mapSeq fun _ => (#[] : Array Value))).push (seqObj "tuple" vs.toArray 0)).objs.size) (Nat.le_refl _)
      have hne : ((s2.heap.update a (Obj.mapSeq fun _ => (#[] : Array Value))).push (seqObj "tuple" vs.toArray 0)).objs.size ≠ a := by rw [hkS]; omega
      have fr' : H ((s2.heap.update a (Obj.mapSeq fun _ => (#[] : Array Value))).push (seqObj "tuple" vs.toArray 0)).objs.size = none := by rw [upd_ne hne] at fr; exact fr
      have ek : (((s2.heap.update a (Obj.mapSeq fun _ => (#[] : Array Value))).push (seqObj "tuple" vs.toArray 0)).push (seqObj "list" #[] 0)).get? ((s2.heap.update a (Obj.mapSeq fun _ => (#[] : Array Value))).push (seqObj "tuple" vs.toArray 0)).objs.size = some (seqObj "list" #[] 0) := Heap.get?_push_size _ rfl
      have I5 := I4.laid (a := ((s2.heap.update a (Obj.mapSeq fun _ => (#[] : Array Value))).push (seqObj "tuple" vs.toArray 0)).objs.size) (o := exO _ (seqObj "list" #[] 0)) (h' := ((s2.heap.update a (Obj.mapSeq fun _ => (#[] : Array Value))).push (seqObj "tuple" vs.toArray 0)).push (seqObj "list" #[] 0)) (t' := s2.toks) (fun b u q => Heap.get?_push_of_some _ q) (Nat.le_refl _) (exO_ok ek)
      exact ksk_loop C hu S ha fr' hne I5 rv re hz hk hsp (by rw [hkS]; omega) lF hco fun H' F' S' l' => hQ a H' F' S' l'
    · obtain ⟨rfl, q⟩ := hf
      exact ⟨_, rfl, wpAny_pure ⟨_, rfl, q⟩⟩
end
end DL

set_option Elab.async false
set_option linter.all false
set_option maxRecDepth 100000
namespace DL
open PySem L2 PySem.W PySem.Spec PyProof.Rows PySem.Calls
def FnRaw (b : Bz) (k : Nat) (x : Str) (sp : DSp) : Prop := ∃ (f : Addr) (fd : FuncData) (ps : List Str) (ds : List Value) (dvs : List V) (dd : List DL.D) (sp' : DSp), FnOk b.P b.w b.K b.mg b.base CX0 k f fd ps (liftS b.N sp') ∧ b.mg x = some (.ref f) ∧ Binds b.K fd ps ds ∧ Vals dvs ds ∧ (∀ F, Reps b.N F dd dvs) ∧ sp = fun ds => sp' (ds ++ dd)
section
variable {b : Bz} {A : Around} {κ : Kt} {pos p p2 kp : Pos} {e1 : Expr} {T1 : DL.T}
theorem h_sortedK {k kk : Nat} {x : Str} {sp : DSp} (R : FnRaw b k x sp) (hr : Room (k + 2) A) (hs : b.B.sp kk = sp) (hm : b.mg "sorted" = none) (hg : glB κ "sorted" = true) (hgx : glB κ x = true) (hdb : (x == ("__debug__" : Str)) = false) (hp : plainE e1 = true) (h1 : HE b A κ e1 T1) :
    HO b A κ (.Call (.Name "sorted" p) [e1] [⟨some "key", .Name x p2, kp⟩] pos) (.sortedK kk T1) := fun X c => by
  obtain ⟨t1, p1, r1⟩ := h1 X c
  obtain ⟨f, fd, ps, ds, dvs, dd, sp', F, hmx, hb, hd, hdd, rfl⟩ := R
  obtain ⟨hc1, hc2, hc3, hc4, hc5, hc6⟩ : X.prog = b.P ∧ X.w = b.w ∧ X.K = b.K ∧ X.mg = b.mg ∧ X.base = b.base ∧ X.A = A := ⟨c.p, c.w, c.k, c.m, c.b, c.a⟩
  rw [← hc1, ← hc2, ← hc3, ← hc4, ← hc5] at F
  rw [← hc3] at hb
  rw [← hc4] at hmx
  rw [← hc6] at hr
  have cr : CallRK X (.builtin "sorted") [Str.ofString "key"] (fun vs zs H Q => ∃ v, vs = [v] ∧ zs = [.ref f] ∧ ∃ (Z : Ety) (ρ : Env) (M : Mem) (σ' : L2.St) (F0 : Hp) (d : DL.D) (es : List DL.D) (kf : DL.D → DL.D), Sim b.N Z F0 ρ M σ' H ∧ Rep b.N F0 d v ∧ seqOf (view M d) = some es ∧ SortOk (es.map kf) ∧ (∀ e ∈ es, sp' ([e] ++ dd) M fun d M' => M' = M ∧ d = kf e) ∧
      ∀ a H' F', Sim b.N Z F' (ρ ++ [.own (.L (es.mergeSort fun a b => leD (kf a) (kf b)))]) M (σ' ++ [some (.ref a)]) H' → Le F0 F' → Q (.ref a) H') := by
    intro pins s σ H xs zs us ws Q I rx rz h
    obtain ⟨v, rfl, rfl, Z, ρ, M, σ', F0, d, es, kf, S, r, e, hk, hsp, hQ⟩ := h
    obtain ⟨pp, vs, rfl, hh, hz, re⟩ := seq_v S (r.view S) e
    obtain ⟨u, rfl, ru⟩ := rx.one
    obtain ⟨w, rfl, rw'⟩ := rz.one
    obtain rfl : u = Value.ref pp := ru
    obtain rfl : w = Value.ref f := rw'
    rcases hh with h | ⟨h, _⟩
    · obtain ⟨its, rv, ⟨o, n, q1, q2, q3, q4⟩, z⟩ := I.list (SqL.of (K := X.K) h)
      exact ksk_whole (sp := fun as => sp' (as ++ dd)) (callee_fn (Fc := F0) F (fun I => I.env0.in1.in1) ((show Room (k + 1) X.A.in1 from Room.in1 hr).in1) hb hd hdd) c.hu S I (.inl rfl) q1 q2 q4 rv re (by rw [← rv.length]; exact z) hk hsp (Le.refl _) (fun p m => nomatch m) hQ
    · obtain ⟨its, rv, ⟨o, q1, q2, n, q4⟩, z⟩ := I.tuple (SqT.of (K := X.K) h)
      exact ksk_whole (sp := fun as => sp' (as ++ dd)) (callee_fn (Fc := F0) F (fun I => I.env0.in1.in1) ((show Room (k + 1) X.A.in1 from Room.in1 hr).in1) hb hd hdd) c.hu S I (.inr rfl) q1 q2 q4 rv re (by rw [← rv.length]; exact z) hk hsp (Le.refl _) (fun p m => nomatch m) hQ
  refine ⟨_, pe_callBK cr (c.gl hg) (by rw [c.m]; exact hm) boot_sorted' (pa_cons p1 pa_nil (star_cons _ hp)) (pk_cons (pe_glob (v := .ref f) (c.gl hgx) hmx rfl hdb) pk_nil) (he := by rw [star_cons (es := []) X.env hp]; rfl) (hpl := by rw [star_cons (es := []) X.env hp]; rfl), fun Z σ H F ρ M Q K S hw hk => ?_⟩
  refine r1 Z σ H F ρ M _ _ S hw fun v H1 F1 d ρ1 M1 S1 l r ⟨es, kf, e1', e2', e3', e4'⟩ => ?_
  refine ⟨v, rfl, rfl, Z, ρ1, M1, σ, F1, d, es, kf, S1, r, e1', e2', fun e m => ?_, fun a H' F' S' l' => hk a H' F' _ ρ1 M1 S' S1.len (l.trans l') e4'⟩
  have q := e3' e m
  rw [hs] at q
  exact q
end
end DL

set_option Elab.async false
set_option linter.all false
set_option maxRecDepth 100000
namespace DL
open PySem L2 PySem.W
/-! ### the same rules, each with one test -/
def okN (x : Str) : Bool := !(x == ("__debug__" : Str)) && !(x == ("__classdict__" : Str))
def nmB (κ : Kt) (i : Nat) (x : Str) : Bool := decide (κ.ns[i]? = some x) && visB κ x && okN x
def lcB (κ : Kt) (i : Nat) (x : Str) : Bool := decide (κ.ns[i]? = some x) && locB κ x
def llB (κ : Kt) (i : Nat) (x : Str) (scope : Scope) (py pos : Pos) : Bool := decide (κ.ns[i]? = some x) && lclB κ x && (κ.sc.kind == .function) && (py.line == pos.line) && !(scope.names.any fun (n, k) => n == x && (k == .local || k == .cell))
section
variable {b : Bz} {A : Around} {κ : Kt} {pos pos' p p1 p2 p3 apos cpos tpos spos py : Pos} {e e1 e2 e3 c o tg iter elt value tg1 iter1 : Expr} {es rest ifs ifs1 : List Expr} {T0 T1 T2 T3 Tr Tg Ti Tc To Te Tg1 Ti1 Tc1 : DL.T}
theorem okN_iff {x : Str} (h : okN x = true) : (x == ("__debug__" : Str)) = false ∧ (x == ("__classdict__" : Str)) = false := by
  unfold okN at h
  simpa using h
theorem nmB_iff {i : Nat} {x : Str} (h : nmB κ i x = true) : κ.ns[i]? = some x ∧ visB κ x = true ∧ (x == ("__debug__" : Str)) = false ∧ (x == ("__classdict__" : Str)) = false := by
  unfold nmB at h
  rw [Bool.and_eq_true, Bool.and_eq_true] at h
  exact ⟨of_decide_eq_true h.1.1, h.1.2, okN_iff h.2⟩
theorem lcB_iff {i : Nat} {x : Str} (h : lcB κ i x = true) : κ.ns[i]? = some x ∧ locB κ x = true := by
  unfold lcB at h
  rw [Bool.and_eq_true] at h
  exact ⟨of_decide_eq_true h.1, h.2⟩
theorem llB_iff {i : Nat} {x : Str} {scope : Scope} (h : llB κ i x scope py pos = true) : κ.ns[i]? = some x ∧ lclB κ x = true ∧ κ.sc.kind = .function ∧ (py.line == pos.line) = true ∧ (scope.names.any fun (n, k) => n == x && (k == .local || k == .cell)) = false := by
  unfold llB at h
  rw [Bool.and_eq_true, Bool.and_eq_true, Bool.and_eq_true, Bool.and_eq_true, Bool.not_eq_true'] at h
  refine ⟨of_decide_eq_true h.1.1.1.1, h.1.1.1.2, ?_, h.1.2, h.2⟩
  have := h.1.1.2
  cases q : κ.sc.kind <;> rw [q] at this <;> first | rfl | cases this
theorem v_ (i : Nat) {x : Str} (h : nmB κ i x = true) : HE b A κ (.Name x pos) (.var i) := let q := nmB_iff h; h_var i q.1 q.2.1 q.2.2.1 q.2.2.2
theorem x_idxO (i : Nat) {x : Str} (h : nmB κ i x = true) (hs : PlainIx e2) (h3 : HE b A κ e2 T2) : HE b A κ (.Subscript (.Name x p) e2 pos) (.idxO i T2) := let q := nmB_iff h; h_idxO i hs q.1 q.2.1 q.2.2.1 q.2.2.2 h3
theorem x_lenO (i : Nat) {x : Str} (hm : b.mg "len" = none) (hg : glB κ "len" = true) (h : nmB κ i x = true) : HE b A κ (.Call (.Name "len" p) [.Name x p2] [] pos) (.lenO i) := let q := nmB_iff h; h_lenO i hm hg q.1 q.2.1 q.2.2.1 q.2.2.2
theorem x_inO (i : Nat) {x : Str} (h : nmB κ i x = true) (h3 : HE b A κ e1 T1) : HE b A κ (.Compare e1 [.In] [.Name x p] pos) (.inO false T1 i) := let q := nmB_iff h; h_inO i q.1 q.2.1 q.2.2.1 q.2.2.2 h3
theorem x_notinO (i : Nat) {x : Str} (h : nmB κ i x = true) (h3 : HE b A κ e1 T1) : HE b A κ (.Compare e1 [.NotIn] [.Name x p] pos) (.inO true T1 i) := let q := nmB_iff h; h_notinO i q.1 q.2.1 q.2.2.1 q.2.2.2 h3
theorem xt_inO (i : Nat) {x : Str} (h : nmB κ i x = true) (h3 : HE b A κ e1 T1) : HT b A κ (.Compare e1 [.In] [.Name x p] pos) (.inO false T1 i) := let q := nmB_iff h; t_inO i q.1 q.2.1 q.2.2.1 q.2.2.2 h3
theorem xt_notinO (i : Nat) {x : Str} (h : nmB κ i x = true) (h3 : HE b A κ e1 T1) : HT b A κ (.Compare e1 [.NotIn] [.Name x p] pos) (.inO true T1 i) := let q := nmB_iff h; t_notinO i q.1 q.2.1 q.2.2.1 q.2.2.2 h3
theorem x_pmO (i : Nat) {x : Str} {m : PM} {name : Str} {id : String} (R : PmRow m name id) (h : nmB κ i x = true) (hf : FewOk e1 es cpos) (hl : (apos.endLine == cpos.line) = true) (hp : plainEs (e1 :: es) = true) (h3 : HA b A κ (e1 :: es) T1) :
    HE b A κ (.Call (.Attribute (.Name x p) name apos) (e1 :: es) [] cpos) (.pmO m i T1) := let q := nmB_iff h; h_pmO i R hf hl hp q.1 q.2.1 q.2.2.1 q.2.2.2 h3
theorem x_pmO0 (i : Nat) {x : Str} {m : PM} {name : Str} {id : String} (R : PmRow m name id) (h : nmB κ i x = true) (hl : (apos.endLine == cpos.line) = true) : HE b A κ (.Call (.Attribute (.Name x p) name apos) [] [] cpos) (.pmO m i .nil) := let q := nmB_iff h; h_pmO0 i R hl q.1 q.2.1 q.2.2.1 q.2.2.2
theorem g_ (i : Nat) {x : Str} (h : lcB κ i x = true) : HG b A κ (.Name x pos) (.tname i) := let q := lcB_iff h; g_name i q.1 q.2
theorem x_set (i : Nat) {x : Str} (h : lcB κ i x = true) (hs : ∀ (env : PySem.Env), swapsWith e1 (some (.Name x pos')) pos.line env = pure false) (h1 : HE b A κ e1 T1) : HS b A κ (.Assign [.Name x pos'] e1 pos) (.set i T1) := let q := lcB_iff h; s_set i q.1 q.2 hs h1
theorem x_setO (i : Nat) {x : Str} (h : lcB κ i x = true) (hs : ∀ (env : PySem.Env), swapsWith e1 (some (.Name x pos')) pos.line env = pure false) (h1 : HO b A κ e1 T1) : HS b A κ (.Assign [.Name x pos'] e1 pos) (.setO i T1) := let q := lcB_iff h; s_setO i q.1 q.2 hs h1
theorem x_setM (i : Nat) {x : Str} (h : lcB κ i x = true) (hs : ∀ (env : PySem.Env), swapsWith e1 (some (.Name x pos')) pos.line env = pure false) (h1 : HO b A κ e1 T1) : HS b A κ (.Assign [.Name x pos'] e1 pos) (.setM i T1) := let q := lcB_iff h; s_setM i q.1 q.2 hs h1
theorem x_aug (i : Nat) {x : Str} {op : Operator} (qq : BOp) (ho : op = opE qq) (hk : iopOk qq = true) (h : lcB κ i x = true) (h1 : HE b A κ e1 T1) : HS b A κ (.AugAssign (.Name x pos') op e1 pos) (.aug i qq T1) := let q := lcB_iff h; s_aug i qq ho hk q.1 q.2 h1
theorem x_setC {scope : Scope} (i : Nat) {x : Str} (own : List (Str × Nat)) (h : llB κ i x scope py pos = true)
    (ok : CompOk κ scope own Tg) (hf : ∀ (env : PySem.Env) x, foldedSetIterable iter env x = pure x) (hi : HI b A κ tg iter Ti) (hg : HG b A (κ.sub scope) tg Tg) (hc : HC b A (κ.sub scope) ifs Tc) (he : HE b A (κ.sub scope) elt Te) :
    HS b A κ (.Assign [.Name x py] (.ListComp elt [⟨tg, iter, ifs, 0⟩] scope pos) spos) (.set i (.comp (own.map (·.2)) Tg Ti Tc Te)) := let q := llB_iff h; s_setC i own q.1 q.2.1 q.2.2.1 q.2.2.2.1 q.2.2.2.2 ok hf hi hg hc he
theorem x_setCO {scope : Scope} (i : Nat) {x : Str} (own : List (Str × Nat)) (h : llB κ i x scope py pos = true)
    (ok : CompOk κ scope own Tg) (hf : ∀ (env : PySem.Env) x, foldedSetIterable iter env x = pure x) (hi : HI b A κ tg iter Ti) (hg : HG b A (κ.sub scope) tg Tg) (hc : HC b A (κ.sub scope) ifs Tc) (he : HE b A (κ.sub scope) elt Te) :
    HS b A κ (.Assign [.Name x py] (.ListComp elt [⟨tg, iter, ifs, 0⟩] scope pos) spos) (.setO i (.comp (own.map (·.2)) Tg Ti Tc Te)) := let q := llB_iff h; s_setCO i own q.1 q.2.1 q.2.2.1 q.2.2.2.1 q.2.2.2.2 ok hf hi hg hc he
theorem x_setC2 {scope : Scope} (i : Nat) {x : Str} (own : List (Str × Nat)) (vs1 : List Nat) (h : llB κ i x scope py pos = true)
    (ok : CompOk2 κ scope own vs1 Tg Tg1) (hf : ∀ (env : PySem.Env) x, foldedSetIterable iter env x = pure x) (hf1 : ∀ (env : PySem.Env) x, foldedSetIterable iter1 env x = pure x) (hi : HI b A κ tg iter Ti) (hg : HG b A (κ.sub scope) tg Tg) (hc : HC b A (κ.sub scope) ifs Tc)
    (hi1 : HI b A (κ.sub scope) tg1 iter1 Ti1) (hg1 : HG b A (κ.sub scope) tg1 Tg1) (hc1 : HC b A (κ.sub scope) ifs1 Tc1) (he : HE b A (κ.sub scope) elt Te) :
    HS b A κ (.Assign [.Name x py] (.ListComp elt [⟨tg, iter, ifs, 0⟩, ⟨tg1, iter1, ifs1, 0⟩] scope pos) spos) (.set i (.comp2 (own.map (·.2)) vs1 Tg Ti Tc Tg1 Ti1 Tc1 Te)) := let q := llB_iff h; s_setC2 i own vs1 q.1 q.2.1 q.2.2.1 q.2.2.2.1 q.2.2.2.2 ok hf hf1 hi hg hc hi1 hg1 hc1 he
def tyB (κ : Kt) (x : Str) (n : String) : Bool := glB κ x && okN x && (match bootBuiltins x with | some (.type m) => m == n | _ => false) && !(x == ("__name__" : Str))
theorem tyB_iff {x : Str} {n : String} (h : tyB κ x n = true) : glB κ x = true ∧ bootBuiltins x = some (.type n) ∧ x ≠ "__name__" ∧ (x == ("__debug__" : Str)) = false := by
  unfold tyB at h
  rw [Bool.and_eq_true, Bool.and_eq_true, Bool.and_eq_true, Bool.not_eq_true'] at h
  refine ⟨h.1.1.1, ?_, fun z => by have := h.2; rw [z] at this; exact absurd this (by decide), (okN_iff h.1.1.2).1⟩
  have q := h.1.2
  split at q
  · rename_i m e
    rw [e, beq_iff_eq.mp q]
  · cases q
theorem x_isi1 {x : Str} (n : String) (hm : b.mg "isinstance" = none) (hg : glB κ "isinstance" = true) (hmx : b.mg x = none) (h : tyB κ x n = true) (hp : plainE e1 = true) (h1 : HE b A κ e1 T1) :
    HE b A κ (.Call (.Name "isinstance" p) [e1, .Name x p2] [] pos) (.isi T1 [.b n]) := let q := tyB_iff h; h_isi1 hm hg hmx q.1 q.2.1 q.2.2.1 q.2.2.2 hp h1
theorem x_isi2 {x y : Str} {k : Nat} (n m : String) (hm : b.mg "isinstance" = none) (hg : glB κ "isinstance" = true) (hmx : b.mg x = none) (hmy : b.mg y = none) (h : tyB κ x n = true) (h' : tyB κ y m = true) (hp : plainE e1 = true) (h1 : HE b A κ e1 T1) :
    HE b A κ (.Call (.Name "isinstance" p) [e1, .Tuple [.Name x p2, .Name y p3] k tpos] [] pos) (.isi T1 [.b n, .b m]) := let q := tyB_iff h; let q' := tyB_iff h'; h_isi2 hm hg hmx q.1 q.2.1 q.2.2.1 q.2.2.2 hmy q'.1 q'.2.1 q'.2.2.1 q'.2.2.2 hp h1

theorem x_setIxO (i : Nat) {x : Str} (h : nmB κ i x = true) (ha : ∀ (env : PySem.Env) v, assign (.Subscript (.Name x p) e1 tpos) env v = (do
      let ov ← holding [v] (eval (.Name x p) env)
      let iv ← holding [v, ov] (eval e1 env)
      standAt tpos
      holding [v, ov, iv] (setItem ov iv v)
      release [v, ov, iv] [])) (hs : ∀ (env : PySem.Env), swapsWithSole [.Subscript (.Name x p) e1 tpos] e2 pos.line env = pure false) (hw : ∀ (env : PySem.Env), swappedStores [.Subscript (.Name x p) e1 tpos] e2 env = pure none)
    (hq : ∀ (env : PySem.Env), (assignEach [.Subscript (.Name x p) e1 tpos] env).map (·.2) = [assign (.Subscript (.Name x p) e1 tpos) env]) (h3 : HE b A κ e1 T1) (h4 : HE b A κ e2 T2) :
    HS b A κ (.Assign [.Subscript (.Name x p) e1 tpos] e2 pos) (.setIxO i T1 T2) := let q := nmB_iff h; s_setIxO i ha hs hw hq q.1 q.2.1 q.2.2.1 q.2.2.2 h3 h4
theorem sw_cell {gs : List Comprehension} {scope : Scope} {y : Str} {l : Nat} {env : PySem.Env} (hk : env.scope.kind = .function) (hy : env.scope.names.lookup y = some .cell) : swapsWith (.ListComp elt gs scope pos) (some (.Name y py)) l env = pure false := by
  have ky : env.kindOf y = some .cell := hy
  have hb : env.blockKind = .function := by unfold Env.blockKind; rw [hk]; rfl
  unfold swapsWith
  simp only [hb, ky, Expr.pos]
  rfl
def clB (κ : Kt) (i : Nat) (x : Str) : Bool := decide (κ.ns[i]? = some x) && (match κ.sc.names.lookup x with | some .cell => κ.fn x | _ => false) && (κ.sc.kind == .function)
theorem clB_iff {i : Nat} {x : Str} (h : clB κ i x = true) : κ.ns[i]? = some x ∧ locB κ x = true ∧ κ.sc.names.lookup x = some .cell ∧ κ.sc.kind = .function := by
  unfold clB at h
  rw [Bool.and_eq_true, Bool.and_eq_true] at h
  have q := h.1.2
  refine ⟨of_decide_eq_true h.1.1, ?_, ?_, ?_⟩
  · unfold locB
    split at q
    · rename_i e; rw [e]; exact q
    · cases q
  · split at q
    · assumption
    · cases q
  · have := h.2
    cases q : κ.sc.kind <;> rw [q] at this <;> first | rfl | cases this
/-- a comprehension to a name that comprehensions read -/
theorem x_setK (i : Nat) {x : Str} {gs : List Comprehension} {scope : Scope} (h : clB κ i x = true) (h1 : HO b A κ (.ListComp elt gs scope pos) T1) : HS b A κ (.Assign [.Name x py] (.ListComp elt gs scope pos) spos) (.set i T1) := fun X c => by
  obtain ⟨q1, q2, q3, q4⟩ := clB_iff h
  obtain ⟨t1, p1, r1⟩ := h1.he X c
  exact ⟨_, ps_set c.nd (by rw [c.n]; exact q1) (c.loc q2).1 p1 (sw_cell (by rw [c.s]; exact q4) (by rw [c.s]; exact q3)) (c.loc q2).2, sr_set r1⟩
theorem x_setKO (i : Nat) {x : Str} {gs : List Comprehension} {scope : Scope} (h : clB κ i x = true) (h1 : HO b A κ (.ListComp elt gs scope pos) T1) : HS b A κ (.Assign [.Name x py] (.ListComp elt gs scope pos) spos) (.setO i T1) := fun X c => by
  obtain ⟨q1, q2, q3, q4⟩ := clB_iff h
  obtain ⟨t1, p1, r1⟩ := h1 X c
  exact ⟨_, ps_set c.nd (by rw [c.n]; exact q1) (c.loc q2).1 p1 (sw_cell (by rw [c.s]; exact q4) (by rw [c.s]; exact q3)) (c.loc q2).2, sr_setO r1⟩
theorem x_setKM (i : Nat) {x : Str} {gs : List Comprehension} {scope : Scope} (h : clB κ i x = true) (h1 : HO b A κ (.ListComp elt gs scope pos) T1) : HS b A κ (.Assign [.Name x py] (.ListComp elt gs scope pos) spos) (.setM i T1) := fun X c => by
  obtain ⟨q1, q2, q3, q4⟩ := clB_iff h
  obtain ⟨t1, p1, r1⟩ := h1 X c
  exact ⟨_, ps_set c.nd (by rw [c.n]; exact q1) (c.loc q2).1 p1 (sw_cell (by rw [c.s]; exact q4) (by rw [c.s]; exact q3)) (c.loc q2).2, sr_setM r1⟩
end
end DL

set_option Elab.async false
set_option linter.all false
set_option maxRecDepth 100000
namespace DL
open PySem L2 PySem.W
section
variable {b : Bz} {A : Around} {κ : Kt} {pos pos' p p1 p2 p3 apos cpos tpos spos py : Pos} {e e1 e2 e3 c o tg iter elt value tg1 iter1 : Expr} {es rest ifs ifs1 : List Expr} {T0 T1 T2 T3 Tr Tg Ti Tc To Te Tg1 Ti1 Tc1 : DL.T}
theorem x_lenSetO (i : Nat) {x : Str} (hm : b.mg "len" = none) (hg : glB κ "len" = true) (hm2 : b.mg "set" = none) (hg2 : glB κ "set" = true) (h : nmB κ i x = true) : HE b A κ (.Call (.Name "len" p) [.Call (.Name "set" p2) [.Name x p1] [] p3] [] pos) (.lenSetO i) := fun X c => by
  obtain ⟨q1, q2, q3, q4⟩ := nmB_iff h
  refine ⟨_, pe_lenSetG c.c (c.gl hg) (by rw [c.m]; exact hm) (c.gl hg2) (by rw [c.m]; exact hm2) (pe_var (by rw [c.n]; exact q1) (c.vis q2) q3 q4) rfl, fun Z σ H F ρ M Q K S ⟨ns, e, z, q⟩ hk => ?_⟩
  obtain ⟨p, hp, ⟨vs, h1, h2, h3⟩, _⟩ := S.ownAt e
  refine ⟨_, hp, p, ns, rfl, SqL.of (by rw [h1, reps_intv h3]), z, hk _ H F _ ρ M S (Le.refl _) (int_rep _) q⟩
/-- x = A if c else x, x a container of this def alone -/
theorem x_setIf (i : Nat) {x : Str} (h : lcB κ i x = true) (hn : nmB κ i x = true) (h0 : HT b A κ c T0) (h1 : HO b A κ e1 T1) : HS b A κ (.Assign [.Name x pos'] (.IfExp c e1 (.Name x p) p2) pos) (.cond T0 (.sealS i (.setO i T1)) (.chk i)) := fun X cx => by
  obtain ⟨t0, p0, r0⟩ := h0 X cx
  obtain ⟨t1, p1, r1⟩ := h1 X cx
  obtain ⟨q1, q2⟩ := lcB_iff h
  obtain ⟨q3, q4, q5, q6⟩ := nmB_iff hn
  refine ⟨_, ps_set cx.nd (by rw [cx.n]; exact q1) (cx.loc q2).1 (pe_ifExp p0 p1 (pe_var (by rw [cx.n]; exact q3) (cx.vis q4) q5 q6)) (by rfl) (cx.loc q2).2, fun Z σ H F ρ M E D S h le => ?_⟩
  refine r0 Z σ H F ρ M (fun k ρ M => iteN (Bool.toNat k) (wpS b.B (.sealS i (.setO i T1)) ρ M E) (wpS b.B (.chk i) ρ M E)) _ S h fun k H' F' ρ' M' S' _ q => ?_
  cases k with
  | true => exact sr_seal (sr_setO r1) Z σ H' F' ρ' M' E D S' q le
  | false =>
    obtain ⟨⟨cc, e⟩, q⟩ := q
    obtain ⟨pp, hp, _⟩ := S'.ownAt e
    refine ⟨_, hp, ?_⟩
    have es : σ.set i (some (.ref pp)) = σ := by
      obtain ⟨h1, h2⟩ := List.getElem?_eq_some_iff.mp hp
      rw [← h2]
      exact List.set_getElem_self h1
    show D.nx (σ.set i (some (.ref pp))) H'
    rw [es]
    exact le.nx _ _ _ _ _ S' q
end
end DL

set_option Elab.async false
set_option linter.all false
set_option maxRecDepth 100000
namespace DL
open PySem L2 PySem.W PySem.Spec PyProof.Rows
section
variable {b : Bz} {x : Str} {sp spI spC spC' : DSp} {k c : Nat} {f : Addr} {fd : FuncData} {ps : List Str} {n : Nat}
theorem fnI_of0 (F : FnOk b.P b.w b.K b.mg b.base CX0 k f fd ps (liftS b.N sp)) (hm : b.mg x = some (.ref f)) (hk : PySem.W.keepIn b.K (.ref f) = true) (hb : Binds b.K fd ps []) (hdb : (x == ("__debug__" : Str)) = false) : FnI b k x n sp := by
  have h := fnI_of (n := n) (dd := []) F hm hk hb .nil (fun _ => reps_nil.mpr rfl) hdb
  have e : (fun ds => sp (ds ++ [])) = sp := funext fun ds => by rw [List.append_nil]
  rw [e] at h
  exact h
theorem mtI_of0 {m : Str} (F : FnOk b.P b.w b.K b.mg b.base CX0 k f fd ps (liftS b.N sp)) (g : b.Good) (cl : Cls b.K (b.N.cad c)) (hm : Meth b.K (b.N.cad c) m f) (hb : Binds b.K fd ps []) (hno : m ∉ b.N.nms c) : MtI b k c m n sp := by
  have h := mtI_of (n := n) (dd := []) F g cl hm hb .nil (fun _ => reps_nil.mpr rfl) hno
  have e : (fun ds => sp (ds ++ [])) = sp := funext fun ds => by rw [List.append_nil]
  rw [e] at h
  exact h
theorem raw_of0 (F : FnOk b.P b.w b.K b.mg b.base CX0 k f fd ps (liftS b.N sp)) (hm : b.mg x = some (.ref f)) (hb : Binds b.K fd ps []) : FnRaw b k x sp :=
  ⟨f, fd, ps, [], [], [], sp, F, hm, hb, .nil, fun _ => reps_nil.mpr rfl, funext fun ds => by rw [List.append_nil]⟩
theorem MkP.weak {N : Nam} (h : MkP N c spI spC) (m : ∀ ds M Q, spC' ds M Q → spC ds M Q) : MkP N c spI spC' := fun S r q hk => h S r (m _ _ _ q) hk
theorem rmM_upd {M : Mem} {a : Addr} {x y : MO} (h : M a = none) : rmM (updM (updM M a x) a y) a = M := by
  funext b
  by_cases e : b = a
  · subst e; simp [rmM, h]
  · simp [rmM, e, updM]
theorem rmM_ne {M : Mem} {a b : Addr} (h : b ≠ a) : rmM M a b = M b := by simp [rmM, h]
end
end DL

set_option Elab.async false
set_option linter.all false
set_option maxRecDepth 100000
/-! dict(pairs), dict(d), int(b), xs.index(y) -/
namespace DL
open PySem L2 PySem.W PySem.Spec PyProof.Rows
section
variable {X : Cx} {N : Nam} {B : Tab}
theorem mergeK_nodup : ∀ {kvs acc : List (Key × V)}, (∀ p ∈ kvs, ∀ q ∈ acc, q.1 ≠ p.1) → (kvs.map (·.1)).Nodup → mergeK acc kvs = acc ++ kvs
  | [], acc, _, _ => by unfold mergeK; simp
  | kv :: kvs, acc, h, nd => by
    have e1 : putK acc kv.1 kv.2 = acc ++ [kv] := by
      unfold putK
      rw [if_neg]
      rw [Bool.not_eq_true, List.any_eq_false]
      intro q hq
      simpa using h kv List.mem_cons_self q hq
    show mergeK (putK acc kv.1 kv.2) kvs = _
    rw [e1, mergeK_nodup]
    · rw [List.append_assoc]; rfl
    · intro p hp q hq
      rcases List.mem_append.mp hq with z | z
      · exact h p (List.mem_cons_of_mem _ hp) q z
      · rw [List.mem_singleton.mp z]
        rw [List.map_cons, List.nodup_cons] at nd
        intro e
        exact nd.1 (List.mem_map.mpr ⟨p, hp, e.symm⟩)
    · rw [List.map_cons, List.nodup_cons] at nd
      exact nd.2
theorem kD_rep {F : Hp} {k : Key} {v : V} (r : Rep N F (kD k) v) : v = kV k := by
  cases k with
  | inl i => exact rep_int.mp r
  | inr s => exact rep_str.mp r
theorem pairs_rep {F H : Hp} (K : PySem.W.Frag) (sub : ∀ a o, F a = some o → H a = some o) : ∀ {kds : List (Key × D)} {vs : List V}, Reps N F (kds.map fun p => .tup [kD p.1, p.2]) vs → ∃ (ps : List Addr) (kvs : List (Key × V)), vs = ps.map V.ref ∧ Paired (fun p (kv : Key × V) => SqT K H p [kV kv.1, kv.2]) ps kvs ∧ kvs.map (·.1) = kds.map (·.1) ∧ Reps N F (kds.map (·.2)) (kvs.map (·.2))
  | [], vs, r => by
    rw [List.map_nil, reps_nil] at r
    exact ⟨[], [], r, .nil, rfl, reps_nil.mpr rfl⟩
  | kd :: kds, vs, r => by
    obtain ⟨v, t, rfl, q, w⟩ := reps_cons.mp r
    obtain ⟨ps, kvs, rfl, h2, h3, h4⟩ := pairs_rep K sub w
    obtain ⟨a, us, rfl, ha, _, q2⟩ := rep_tup.mp q
    obtain ⟨u1, t1, rfl, q3, w1⟩ := reps_cons.mp q2
    obtain ⟨u2, t2, rfl, q4, w2⟩ := reps_cons.mp w1
    rw [reps_nil] at w2
    subst w2
    rw [kD_rep q3] at ha
    refine ⟨a :: ps, (kd.1, u2) :: kvs, rfl, .cons (SqT.of (sub _ _ ha)) h2, by rw [List.map_cons, h3]; rfl, reps_cons.mpr ⟨_, _, rfl, q4, h4⟩⟩
theorem zip_fs {α β : Type} : ∀ (l : List (α × β)), (l.map (·.1)).zip (l.map (·.2)) = l
  | [] => rfl
  | x :: l => by rw [List.map_cons, List.map_cons, List.zip_cons_cons, zip_fs l]
theorem or_dictP {ta : TA} {wa : WA} (h : AR N ta wa) : OR' N (tCB (fun xs H Q => ∃ (a : Addr) (ps : List Addr) (kvs : List (Key × V)), xs = [.ref a] ∧ SqL X.K H a (ps.map V.ref) ∧ Paired (fun p kv => SqT X.K H p [kV kv.1, kv.2]) ps kvs ∧
    ∀ p, H p = none → Q (.ref p) (upd H p (.dK (mergeK [] kvs)))) ta) (fun ρ M Q => wa ρ M fun ds ρ M => biP M .dictP ds fun z => Q z ρ M) := fun Z σ H F ρ M Q K S hw hk =>
  h Z σ H F ρ M _ _ S hw fun vs H1 F1 ds ρ1 M1 S1 l r q => by
    obtain ⟨d, kds, rfl, h1, nd, h2⟩ := q
    obtain ⟨v, rfl, r1⟩ := reps1 r
    have rv := r1.view S1
    rw [h1] at rv
    obtain ⟨p, us, rfl, hp, z, w⟩ := rv
    obtain ⟨ps, kvs, e, h3, h4, h5⟩ := pairs_rep X.K S1.sub w
    refine ⟨p, ps, kvs, rfl, SqL.of (by rw [hp, e]), h3, fun a ha => ?_⟩
    have em : mergeK [] kvs = kvs := by
      rw [mergeK_nodup (by intro _ _ q hq; cases hq) (by rw [h4]; exact nd)]; rfl
    refine hk a _ F1 (.K (kds.map fun x : Key × D => x.1) (kds.map fun x : Key × D => x.2)) ρ1 M1 (S1.newO ha ⟨kvs.map fun x : Key × V => x.2, ?_, ?_, ?_, nd, h5⟩) S1.len l h2
    · rw [upd_same, em, ← h4, zip_fs]
    · rw [← h4, List.length_map, List.length_map]
    · rw [List.length_map]
      have := h3.length
      rw [e, List.length_map] at z
      omega
theorem or_dictC {ta : TA} {wa : WA} (h : AR N ta wa) : OR' N (tCB (fun xs H Q => ∃ (a : Addr) (kvs : List (Key × V)), xs = [.ref a] ∧ Rd H a (.dK kvs) ∧ ∀ p, H p = none → Q (.ref p) (upd H p (.dK kvs))) ta) (fun ρ M Q => wa ρ M fun ds ρ M => biP M .dictC ds fun z => Q z ρ M) := fun Z σ H F ρ M Q K S hw hk =>
  h Z σ H F ρ M _ _ S hw fun vs H1 F1 ds ρ1 M1 S1 l r q => by
    obtain ⟨d, ks, es, rfl, h1, h2⟩ := q
    obtain ⟨v, rfl, r1⟩ := reps1 r
    have rv := r1.view S1
    rw [h1] at rv
    obtain ⟨p, us, rfl, hp, z, z2, nd, w⟩ := rv
    exact ⟨p, _, rfl, .inl hp, fun a ha => hk a _ F1 (.K ks es) ρ1 M1 (S1.newO ha ⟨us, upd_same, z, z2, nd, w⟩) S1.len l h2⟩
theorem cb_intB : CRb N (fun xs H Q => (∃ i, xs = [.int i] ∧ Q (.int i) H) ∨ ∃ k, xs = [.bl k] ∧ Q (.int (if k then 1 else 0)) H) (fun M => biP M .intB) := fun Z σ H F ρ M vs ds Q K S r h hk => by
  rcases h with ⟨k, rfl, h⟩ | ⟨i, rfl, h⟩
  · obtain ⟨v, rfl, r1⟩ := reps1 r
    rw [rep_bl.mp r1]
    exact .inr ⟨k, rfl, hk _ H F _ S (Le.refl _) (int_rep _) h⟩
  · obtain ⟨v, rfl, r1⟩ := reps1 r
    rw [rep_int.mp r1]
    exact .inl ⟨i, rfl, hk _ H F _ S (Le.refl _) (int_rep _) h⟩
theorem er_index {to : TE} {ta : TA} {wo : WE} {wa : WA} (ho : ER N to wo) (ha : AR N ta wa) : ER N (tBM X.K "list" (rIndex X.K) to ta) (fun ρ M Q => wo ρ M fun y ρ M => bmK .index (view M y) ∧ wa ρ M fun ds ρ M => bmP .index (view M y) ds fun z => Q z ρ M) := fun Z σ H F ρ M Q K S hw hk =>
  ho Z σ H F ρ M _ _ S hw fun v H1 F1 d ρ1 M1 S1 l r ⟨hk1, q1⟩ => by
    obtain ⟨es, ed⟩ : ∃ es, view M1 d = .lst es := by
      cases e : view M1 d with
      | lst es => exact ⟨es, rfl⟩
      | _ => rw [e] at hk1; exact hk1.elim
    have rv := r.view S1
    rw [ed] at rv
    obtain ⟨p, us, rfl, hp, z, w⟩ := rv
    refine ⟨.inl ⟨rfl, us, SqL.of hp⟩, ?_⟩
    refine ha Z σ H1 F1 ρ1 M1 _ _ S1 q1 fun vs H2 F2 ds ρ2 M2 S2 l2 r2 q2 => ?_
    have q2 : bmP .index (view M2 d) ds fun z => Q z ρ2 M2 := q2
    cases e2 : view M2 d with
    | lst es2 =>
      rw [e2] at q2
      have rv2 := (r.mono l2).view S2
      rw [e2] at rv2
      obtain ⟨p2, us2, ep, hp2, z2, w2⟩ := rv2
      cases ep
      match ds, q2 with
      | [x], q2 =>
        have q2 : (flatD x && es2.all flatD) = true ∧ ∃ (j : Nat) (z : D), es2[j]? = some z ∧ deq z x = true ∧ (∀ (m : Nat) (z' : D), m < j → es2[m]? = some z' → deq z' x = false) ∧ Q (.int (j : Nat)) ρ2 M2 := q2
        obtain ⟨fl, j, zz, h1, h2, h3, h4⟩ := q2
        rw [Bool.and_eq_true] at fl
        obtain ⟨y, rfl, ry⟩ := reps1 r2
        obtain ⟨u, hu, ru⟩ := w2.get h1
        have fz : flatD zz = true := List.all_eq_true.mp fl.2 zz (List.mem_of_getElem? h1)
        refine ⟨p, us2, y, j, u, rfl, rfl, SqL.of hp2, flat_v fl.1 ry, flat_vs fl.2 w2, hu, by rw [eq_flat fz fl.1 ru ry]; exact h2, fun m z' hm hz' => ?_, hk _ H2 F2 _ ρ2 M2 S2 (l.trans l2) (int_rep _) h4⟩
        obtain ⟨dz, hd, rd⟩ := w2.get' hz'
        rw [eq_flat (List.all_eq_true.mp fl.2 dz (List.mem_of_getElem? hd)) fl.1 rd ry]
        exact h3 m dz hm hd
    | _ => rw [e2] at q2; exact q2.elim
end
section
variable {b : Bz} {A : Around} {κ : Kt} {pos pos' p p1 p2 p3 apos cpos tpos : Pos} {e e1 e2 e3 c o : Expr} {es rest : List Expr} {T0 T1 T2 T3 Tr Tg Ti Tc To : DL.T}
theorem boot_dict' : bootBuiltins "dict" = some (.type "dict") := by decide +kernel
theorem boot_int' : bootBuiltins "int" = some (.type "int") := by decide +kernel
theorem o_dictP (hm : b.mg "dict" = none) (hg : glB κ "dict" = true) (hp : plainE e1 = true) (h1 : HE b A κ e1 T1) : HO b A κ (.Call (.Name "dict" p) [e1] [] pos) (.bi .dictP (.cons T1 .nil)) := fun X c => by
  obtain ⟨t1, p1, r1⟩ := a_cons hp h1 a_nil X c
  exact ⟨_, pe_callTy (call_dictP c.c) (c.gl hg) (by rw [c.m]; exact hm) boot_dict' p1 (he := star_cons _ hp), or_dictP (X := X) r1⟩
theorem o_dictC (hm : b.mg "dict" = none) (hg : glB κ "dict" = true) (hp : plainE e1 = true) (h1 : HE b A κ e1 T1) : HO b A κ (.Call (.Name "dict" p) [e1] [] pos) (.bi .dictC (.cons T1 .nil)) := fun X c => by
  obtain ⟨t1, p1, r1⟩ := a_cons hp h1 a_nil X c
  exact ⟨_, pe_callTy call_dictD (c.gl hg) (by rw [c.m]; exact hm) boot_dict' p1 (he := star_cons _ hp), or_dictC r1⟩
theorem h_intB (hm : b.mg "int" = none) (hg : glB κ "int" = true) (hp : plainE e1 = true) (h1 : HE b A κ e1 T1) : HE b A κ (.Call (.Name "int" p) [e1] [] pos) (.bi .intB (.cons T1 .nil)) := fun X c => by
  obtain ⟨t1, p1, r1⟩ := a_cons hp h1 a_nil X c
  exact ⟨_, pe_callTy call_int1 (c.gl hg) (by rw [c.m]; exact hm) boot_int' p1 (he := star_cons _ hp), er_cb (p := fun M => biP M .intB) r1 cb_intB⟩
theorem h_index (hb : ∀ env : PySem.Env, attributeBase o "index" env (eval o env) = eval o env) (hf : FewOk e1 es cpos) (hl : (apos.endLine == cpos.line) = true) (hp : plainEs (e1 :: es) = true) (h1 : HE b A κ o To) (h3 : HA b A κ (e1 :: es) T1) :
    HE b A κ (.Call (.Attribute o "index" apos) (e1 :: es) [] cpos) (.bm .index To T1) := fun X c => by
  obtain ⟨t1, p1, r1⟩ := h3 X c
  obtain ⟨t2, p2, r2⟩ := h1 X c
  unfold plainEs at hp
  rw [List.all_cons, Bool.and_eq_true] at hp
  exact ⟨_, pe_bm PySem.F.plainAttrs_list PySem.F.slot_list_index PySem.F.type_list_index mt_index p2 p1 (hbase := hb _) (hfew := hf _) (hline := hl) (hs := star_cons _ hp.1) (hplain := star_any _ hp.2), er_index (X := X) r2 r1⟩
end
end DL

set_option Elab.async false
set_option linter.all false
set_option maxRecDepth 100000
/-! containers that go to memory, frozen again; x or y of values; repr; two targets -/
namespace DL
open PySem L2 PySem.W PySem.Spec PyProof.Rows
section
variable {X : Cx} {N : Nam} {B : Tab}
theorem er_newM {te : TE} {we : WE} (he : OR' N te we) : ER N te (fun ρ M Q => we ρ M fun x ρ M => ∃ c, freshLst x = some c ∧ ∀ p, M p = none → Q (.loc p) ρ (updM M p (.co c))) := fun Z σ H F ρ M Q K S hw hk =>
  he Z σ H F ρ M _ _ S hw fun p H1 F1 c ρ1 M1 S1 hl l ⟨c', e, h1⟩ => by
    have e2 : c' = c := by cases c <;> exact (Option.some.inj e).symm
    subst e2
    obtain ⟨g1, S2⟩ := S1.toM hl
    exact hk _ _ _ _ _ _ S2 l (rep_loc.mpr rfl) (h1 p g1)
theorem Sim.freezeC {Z : Ety} {F H : Hp} {ρ : Env} {M : Mem} {σ : L2.St} (S : Sim N Z F ρ M σ H) {a : Addr} {c : CO} (e : M a = some (.co c)) : ∃ F', Sim N Z F' ρ (rmM M a) σ H ∧ Le F F' ∧ Rep N F' c.tree (.ref a) := by
  have x : CoOk N F H a c := S.mem a _ e
  obtain ⟨ho, h1⟩ := x.there
  have fa : F a = none := S.mf a _ e
  have lf : Le F (upd F a ho) := Le.new fa
  refine ⟨upd F a ho, ⟨fun b o q => ?_, S.le0.trans lf, fun b m q => ?_, fun b m q => ?_, fun b m q => ?_, fun b o q z1 z2 => ?_, S.keep, S.there, ?_, S.len, (S.tb.putF (S.tb.neM e)).rmM a⟩, lf, Rep.co x h1 fa⟩
  · by_cases hb : b = a
    · subst hb; rw [upd_same] at q; cases q; exact h1
    · rw [upd_ne hb] at q; exact S.sub b o q
  · by_cases hb : b = a
    · subst hb; simp [rmM] at q
    · simp [rmM, hb] at q; rw [upd_ne hb]; exact S.mf b m q
  · by_cases hb : b = a
    · subst hb; simp [rmM] at q
    · simp [rmM, hb] at q; exact (S.mem b m q).mono lf fun o h => h
  · by_cases hb : b = a
    · subst hb; simp [rmM] at q
    · simp [rmM, hb] at q; exact S.mnew b m q
  · by_cases hb : b = a
    · subst hb; exact S.mnew b _ e z2
    · rw [upd_ne hb] at q; exact S.fnew b o q z1 z2
  · obtain ⟨ow, w1, w2⟩ := S.own
    refine ⟨ow, fun p i q => ?_, fun i lv q => (w2 i lv q).mono lf fun _ _ _ h => h⟩
    obtain ⟨y1, y2, y3, y4⟩ := w1 p i q
    have hp : p ≠ a := fun z => by subst z; rw [e] at y2; cases y2
    exact ⟨by rw [upd_ne hp]; exact y1, by simp [rmM, hp]; exact y2, y3, y4⟩
theorem er_frz {te : TE} {we : WE} (he : ER N te we) : ER N te (fun ρ M Q => we ρ M fun x ρ M => ∃ p c, x = .loc p ∧ M p = some (.co c) ∧ Q c.tree ρ (rmM M p)) := fun Z σ H F ρ M Q K S hw hk =>
  he Z σ H F ρ M _ _ S hw fun v H1 F1 d ρ1 M1 S1 l r ⟨p, c, e, hm, q⟩ => by
    subst e
    rw [rep_loc.mp r]
    obtain ⟨F2, S2, l2, r2⟩ := S1.freezeC hm
    exact hk _ _ _ _ _ _ S2 (l.trans l2) r2 q
theorem tru_v {F H : Hp} {d : D} {v : V} {k : Bool} (K : PySem.W.Frag) (h : truD d = some k) (r : Rep N F d v) : TruV K v H k := by
  cases d with
  | non => cases h; rw [rep_non.mp r]; rfl
  | bl b => cases h; rw [rep_bl.mp r]; rfl
  | int i => cases h; rw [rep_int.mp r]; rfl
  | _ => cases h
theorem er_orVV {ta tb : TE} {wa wb : WE} (ha : ER N ta wa) (hb : ER N tb wb) : ER N (tOrT X.K ta tb) (fun ρ M Q => wa ρ M fun x ρ M => ∃ k, truD x = some k ∧ iteN (Bool.toNat k) (Q x ρ M) (wb ρ M Q)) := fun Z σ H F ρ M Q K S hw hk =>
  ha Z σ H F ρ M _ _ S hw fun v H1 F1 d ρ1 M1 S1 l r ⟨k, e, q⟩ => by
    refine ⟨k, tru_v X.K e r, ?_⟩
    cases k with
    | true => rw [if_pos rfl]; exact hk v H1 F1 d ρ1 M1 S1 l r q
    | false =>
      rw [if_neg Bool.false_ne_true]
      exact hb Z σ H1 F1 ρ1 M1 Q K S1 q fun v2 H2 F2 d2 ρ2 M2 S2 l2 r2 q2 => hk v2 H2 F2 d2 ρ2 M2 S2 (l.trans l2) r2 q2
theorem call_repr : CallR X (.builtin "repr") (fun xs H Q => (xs = [.non] ∧ Q (.str (Str.ofString "None")) H) ∨ (∃ i : Int, xs = [.int i] ∧ i.natAbs.log2 < 1920 ∧ Q (.str (Str.ofString (toString i))) H)) := by
  intro pins s σ H xs us Q I r h
  rcases h with ⟨rfl, q⟩ | ⟨i, rfl, hz, q⟩
  · obtain ⟨u, rfl, ru⟩ := r.one
    obtain rfl : u = Value.none := ru
    exact PySem.P.repr_of_none ⟨.str _, H, I.tok _, ⟨_, rfl⟩, q⟩
  · obtain ⟨u, rfl, t, rfl⟩ := vals1 r
    exact PySem.P.repr_of_int hz ⟨.str _, H, I.tok _, ⟨_, rfl⟩, q⟩
theorem cb_repr : CRb N (fun xs H Q => (xs = [.non] ∧ Q (.str (Str.ofString "None")) H) ∨ (∃ i : Int, xs = [.int i] ∧ i.natAbs.log2 < 1920 ∧ Q (.str (Str.ofString (toString i))) H)) (fun M => biP M .repr) := fun Z σ H F ρ M vs ds Q K S r h hk => by
  rcases h with ⟨rfl, h⟩ | ⟨i, rfl, hz, h⟩
  · obtain ⟨v, rfl, r1⟩ := reps1 r
    rw [rep_non.mp r1]
    exact .inl ⟨rfl, hk _ H F _ S (Le.refl _) (rep_str.mpr rfl) h⟩
  · obtain ⟨v, rfl, r1⟩ := reps1 r
    rw [rep_int.mp r1]
    exact .inr ⟨i, rfl, hz, hk _ H F _ S (Le.refl _) (rep_str.mpr rfl) h⟩
theorem sr_setIx2 {te tp ti ti2 : TE} {we wp wi wi2 : WE} {i : Nat} (he : ER N te we) (hp : ER N tp wp) (hi : ER N ti wi) (hi2 : ER N ti2 wi2) : SR N (tAsg2 te (gSub tp ti rSetA) (gSub (tVar i) ti2 rSetA)) (fun ρ M E => we ρ M fun x ρ M => wp ρ M fun q ρ M => wi ρ M fun y ρ M => ∃ a c, q = .loc a ∧ M a = some (.co c) ∧ setIxP c (view M y) x fun c' => (∃ c, ρ[i]? = some (.own c)) ∧ wi2 ρ (updM M a (.co c')) fun y ρ M => ∃ c, ρ[i]? = some (.own c) ∧ setIxP c (view M y) x fun c' => E.nx (ρ.set i (.own c')) M) := fun Z σ H F ρ M E D S h le =>
  he Z σ H F ρ M _ _ S h fun v H1 F1 d ρ1 M1 S1 _ r1 h1 => hp Z σ H1 F1 ρ1 M1 _ _ S1 h1 fun w H2 F2 q ρ2 M2 S2 l2 r2 h2 => hi Z σ H2 F2 ρ2 M2 _ _ S2 h2 fun u H3 F3 y ρ3 M3 S3 l3 r3 ⟨a, c, e1, e2, h3⟩ => by
    subst e1
    rw [rep_loc.mp r2]
    refine setIx_ok (S3.mem a _ e2) (r3.view S3) (r1.mono (l2.trans l3)) h3 fun c' ho x' q' => ?_
    have S4 := S3.putM (mo' := .co c') e2 x'
    obtain ⟨⟨c0, e0⟩, h4⟩ := q'
    obtain ⟨p, hp, _, _⟩ := S4.ownAt e0
    refine ⟨_, hp, ?_⟩
    refine hi2 Z σ _ _ _ _ _ _ S4 h4 fun u5 H5 F5 y5 ρ5 M5 S5 l5 r5 ⟨c5, e5, q5⟩ => ?_
    obtain ⟨p', hp', x5, _⟩ := S5.ownAt e5
    rw [hp] at hp'; cases hp'
    exact setIx_ok x5 (r5.view S5) (r1.mono ((l2.trans l3).trans l5)) q5 fun c6 ho6 x6 q6 => le.nx _ _ _ _ _ (S5.putO e5 hp x6) q6
end
section
variable {b : Bz} {A : Around} {κ : Kt} {pos pos' p p1 p2 p3 apos cpos tpos tpos2 : Pos} {e e1 e2 e3 c o : Expr} {es rest : List Expr} {T0 T1 T2 T3 Tr Tg Ti Tc To : DL.T}
theorem h_newM (h1 : HO b A κ e1 T1) : HE b A κ e1 (.newM T1) := fun X c => by
  obtain ⟨t1, p1, r1⟩ := h1 X c
  exact ⟨t1, p1, er_newM r1⟩
theorem h_frz (h1 : HE b A κ e1 T1) : HE b A κ e1 (.frz T1) := fun X c => by
  obtain ⟨t1, p1, r1⟩ := h1 X c
  exact ⟨t1, p1, er_frz r1⟩
theorem h_orV (h1 : HE b A κ e1 T1) (h2 : HE b A κ (.BoolOp .Or (e2 :: rest) pos) T2) : HE b A κ (.BoolOp .Or (e1 :: e2 :: rest) pos) (.orV T1 T2) := fun X c => by
  obtain ⟨t1, p1, r1⟩ := h1 X c
  obtain ⟨t2, p2, r2⟩ := h2 X c
  exact ⟨_, pe_orT p1 p2, er_orVV (X := X) r1 r2⟩
theorem boot_repr' : bootBuiltins "repr" = some (.builtin "repr") := by decide +kernel
theorem h_repr (hm : b.mg "repr" = none) (hg : glB κ "repr" = true) (hp : plainE e1 = true) (h1 : HE b A κ e1 T1) : HE b A κ (.Call (.Name "repr" p) [e1] [] pos) (.bi .repr (.cons T1 .nil)) := fun X c => by
  obtain ⟨t1, p1, r1⟩ := a_cons hp h1 a_nil X c
  exact ⟨_, pe_callB call_repr (c.gl hg) (by rw [c.m]; exact hm) boot_repr' p1 (he := star_cons _ hp), er_cb (p := fun M => biP M .repr) r1 cb_repr⟩
theorem x_setIx2 (i : Nat) {x : Str} (ha : ∀ (env : PySem.Env) v, assign (.Subscript o e1 tpos) env v = (do
      let ov ← holding [v] (eval o env)
      let iv ← holding [v, ov] (eval e1 env)
      standAt tpos
      holding [v, ov, iv] (setItem ov iv v)
      release [v, ov, iv] [])) (ha2 : ∀ (env : PySem.Env) v, assign (.Subscript (.Name x p) e2 tpos2) env v = (do
      let ov ← holding [v] (eval (.Name x p) env)
      let iv ← holding [v, ov] (eval e2 env)
      standAt tpos2
      holding [v, ov, iv] (setItem ov iv v)
      release [v, ov, iv] [])) (hq : ∀ (env : PySem.Env), (assignEach [.Subscript o e1 tpos, .Subscript (.Name x p) e2 tpos2] env).map (·.2) = [assign (.Subscript o e1 tpos) env, assign (.Subscript (.Name x p) e2 tpos2) env]) (hw : ∀ (env : PySem.Env), swappedStores [.Subscript o e1 tpos, .Subscript (.Name x p) e2 tpos2] e3 env = pure none)
    (h : nmB κ i x = true) (h0 : HE b A κ o To) (h3 : HE b A κ e1 T1) (h5 : HE b A κ e2 T2) (h4 : HE b A κ e3 T3) :
    HS b A κ (.Assign [.Subscript o e1 tpos, .Subscript (.Name x p) e2 tpos2] e3 pos) (.setIx2 To T1 i T2 T3) := fun X c => by
  obtain ⟨q1, q2, q3, q4⟩ := nmB_iff h
  obtain ⟨t1, p1, r1⟩ := h3 X c
  obtain ⟨t2, p2, r2⟩ := h5 X c
  obtain ⟨t3, p3, r3⟩ := h4 X c
  obtain ⟨t0, p0, r0⟩ := h0 X c
  exact ⟨_, ps_asg2 p3 (set_frame c.hu p0 p1 ha) (set_frame c.hu (pe_var (by rw [c.n]; exact q1) (c.vis q2) q3 q4) p2 ha2) (hq _) (hw _), sr_setIx2 r3 r0 r1 r2⟩
end
end DL

set_option Elab.async false
set_option linter.all false
set_option maxRecDepth 100000
/-! a, b = x, y -/
namespace DL
open PySem L2 PySem.W PySem.Spec PyProof.Rows
def swS (sc : Scope) (ts vs : List Expr) : Option (Option (List Str)) :=
  if (!(ts.length == 2 || ts.length == 3) || vs.length != ts.length) = true then some none
  else if (vs.any fun | .Starred .. => true | _ => false) = true then some none
  else
    let line := (ts.head?.map (·.pos.line)).getD 0
    let names := ts.filterMap fun
      | .Name id pos => if (sc.names.lookup id == some .local && pos.line == line) = true then some id else none
      | _ => none
    if (names.length != ts.length || names.eraseDups.length != names.length) = true then some none
    else if vs.all (foldedForSure 8) = true then some none
    else if vs.all (constantsAlone 8) = true then none
    else some (some names)
theorem sw_eq {ts vs : List Expr} {kt k2 pt pt2} {env : PySem.Env} {sc : Scope} {r : Option (List Str)} (h : env.scope = sc) (hk : sc.kind = .function) (e : swS sc ts vs = some r) : swappedStores [.Tuple ts kt pt] (.Tuple vs k2 pt2) env = pure r := by
  subst h
  have hb : env.blockKind = .function := by unfold Env.blockKind; rw [hk]; rfl
  unfold swS at e
  unfold swappedStores
  simp only [hb]
  have hkd : ∀ id, env.kindOf id = env.scope.names.lookup id := fun _ => rfl
  simp only [hkd]
  have e1 : (ScopeKind.function != ScopeKind.function) = false := rfl
  simp only [e1, Bool.or_false]
  dsimp only at e
  split at e
  · rename_i c; cases e; exact if_pos c
  · rename_i c; refine (if_neg c).trans ?_
    split at e
    · rename_i c; cases e; exact if_pos c
    · rename_i c; refine (if_neg c).trans ?_
      split at e
      · rename_i c; cases e; exact if_pos c
      · rename_i c; refine (if_neg c).trans ?_
        split at e
        · rename_i c; cases e; exact if_pos c
        · rename_i c; refine (if_neg c).trans ?_
          split at e
          · cases e
          · rename_i c; cases e; exact if_neg c
section
variable {X : Cx} {N : Nam} {B : Tab}
theorem sr_par2 {ta : TA} {wa : WA} {i j : Nat} (ha : AR N ta wa) : SR N (tPar i j ta) (fun ρ M E => wa ρ M fun ds ρ M => ∃ x y, ds = [x, y] ∧ E.nx ((ρ.set i (.val x)).set j (.val y)) M) := fun Z σ H F ρ M E D S h le =>
  ha Z σ H F ρ M _ _ S h fun vs H1 F1 ds ρ1 M1 S1 _ r ⟨x, y, e, q⟩ => by
    subst e
    obtain ⟨v, t, rfl, r1, w⟩ := reps_cons.mp r
    obtain ⟨u, t2, rfl, r2, w2⟩ := reps_cons.mp w
    rw [reps_nil] at w2
    subst w2
    exact ⟨v, u, rfl, le.nx _ _ _ _ _ ((S1.set i r1).set j r2) q⟩
theorem sr_par3 {ta : TA} {wa : WA} {i j k : Nat} (ha : AR N ta wa) : SR N (tPar3 i j k ta) (fun ρ M E => wa ρ M fun ds ρ M => ∃ x y z, ds = [x, y, z] ∧ E.nx (((ρ.set i (.val x)).set j (.val y)).set k (.val z)) M) := fun Z σ H F ρ M E D S h le =>
  ha Z σ H F ρ M _ _ S h fun vs H1 F1 ds ρ1 M1 S1 _ r ⟨x, y, z, e, q⟩ => by
    subst e
    obtain ⟨v, t, rfl, r1, w⟩ := reps_cons.mp r
    obtain ⟨u, t2, rfl, r2, w2⟩ := reps_cons.mp w
    obtain ⟨u3, t3, rfl, r3, w3⟩ := reps_cons.mp w2
    rw [reps_nil] at w3
    subst w3
    exact ⟨v, u, u3, rfl, le.nx _ _ _ _ _ (((S1.set i r1).set j r2).set k r3) q⟩
end
def nlB (κ : Kt) (i : Nat) (x : Str) : Bool := decide (κ.ns[i]? = some x) && lclB κ x
theorem nlB_iff {κ : Kt} {i : Nat} {x : Str} (h : nlB κ i x = true) : κ.ns[i]? = some x ∧ lclB κ x = true := by
  unfold nlB at h
  rw [Bool.and_eq_true] at h
  exact ⟨of_decide_eq_true h.1, h.2⟩
section
variable {b : Bz} {A : Around} {κ : Kt} {pos pos' p p1 p2 p3 apos cpos tpos tpos2 : Pos} {e e1 e2 e3 c o : Expr} {es rest : List Expr} {T0 T1 T2 T3 Tr Tg Ti Tc To : DL.T}
theorem x_par2 (i j : Nat) {x y : Str} {px py pt pt2 : Pos} {kt k2 : Nat} (hx : nlB κ i x = true) (hy : nlB κ j y = true) (hij : i ≠ j) (hk : κ.sc.kind = .function) (hw : swS κ.sc [.Name x px, .Name y py] [e1, e2] = some (some [x, y]))
    (hs : ∀ (env : PySem.Env), swapsWithSole [.Tuple [.Name x px, .Name y py] kt pt] (.Tuple [e1, e2] k2 pt2) pos.line env = pure false) (h1 : HA b A κ [e1, e2] T1) : HS b A κ (.Assign [.Tuple [.Name x px, .Name y py] kt pt] (.Tuple [e1, e2] k2 pt2) pos) (.par2 i j T1) := fun X c => by
  obtain ⟨t1, p1, r1⟩ := h1 X c
  exact ⟨_, ps_par c.c c.nd (by rw [c.n]; exact (nlB_iff hx).1) (by rw [c.n]; exact (nlB_iff hy).1) hij (c.lcl (nlB_iff hx).2) (c.lcl (nlB_iff hy).2) p1 (sw_eq c.s hk hw) (hs _), sr_par2 r1⟩
theorem x_par3 (i j k : Nat) {x y z : Str} {px py pz pt pt2 : Pos} {kt k2 : Nat} (hx : nlB κ i x = true) (hy : nlB κ j y = true) (hz : nlB κ k z = true) (hij : i ≠ j) (hik : i ≠ k) (hjk : j ≠ k) (hk : κ.sc.kind = .function) (hw : swS κ.sc [.Name x px, .Name y py, .Name z pz] [e1, e2, e3] = some (some [x, y, z]))
    (hs : ∀ (env : PySem.Env), swapsWithSole [.Tuple [.Name x px, .Name y py, .Name z pz] kt pt] (.Tuple [e1, e2, e3] k2 pt2) pos.line env = pure false) (h1 : HA b A κ [e1, e2, e3] T1) : HS b A κ (.Assign [.Tuple [.Name x px, .Name y py, .Name z pz] kt pt] (.Tuple [e1, e2, e3] k2 pt2) pos) (.par3 i j k T1) := fun X c => by
  obtain ⟨t1, p1, r1⟩ := h1 X c
  exact ⟨_, ps_par3 c.c c.nd (by rw [c.n]; exact (nlB_iff hx).1) (by rw [c.n]; exact (nlB_iff hy).1) (by rw [c.n]; exact (nlB_iff hz).1) hij hik hjk (c.lcl (nlB_iff hx).2) (c.lcl (nlB_iff hy).2) (c.lcl (nlB_iff hz).2) p1 (sw_eq c.s hk hw) (hs _), sr_par3 r1⟩
theorem x_asgT {elts vs : List Expr} {kk k2 : Nat} {pt2 : Pos} (hk : κ.sc.kind = .function) (hw : swS κ.sc elts vs = some none) (hs : ∀ (env : PySem.Env), swapsWithSole [.Tuple elts kk tpos] (.Tuple vs k2 pt2) pos.line env = pure false) (h1 : HE b A κ (.Tuple vs k2 pt2) T1) (h2 : HG b A κ (.Tuple elts kk tpos) Tg) : HS b A κ (.Assign [.Tuple elts kk tpos] (.Tuple vs k2 pt2) pos) (.asgT Tg T1) := fun X c => by
  obtain ⟨t1, p1, r1⟩ := h1 X c
  obtain ⟨t2, p2, r2⟩ := h2 X c
  exact ⟨_, ps_asg p1 p2 (hs _) (sw_eq c.s hk hw), sr_asgT r1 r2⟩
end
end DL

set_option Elab.async false
set_option linter.all false
set_option maxRecDepth 100000
set_option maxHeartbeats 2000000
namespace DL
open PySem L2 PySem.W PySem.Spec PyProof.Rows
section
variable {X : Cx} {CX : CXT} {k : Nat} {f : Addr} {fd : FuncData} {ps ks : List Str} {sp : Sp} {E : XK} {x : Str} {p pos : Pos} {kws : List Keyword} {tk : TA} {g : List Value → List Value → List Value} {gV : List V → List V → List V}
/-- f(k = v, ..) -/
theorem pe_callN0 (F : FnOk X.prog X.w X.K X.mg X.base CX k f fd ps sp) (hr : Room k X.A) (hg : Gl X x) (hm : X.mg x = some (.ref f)) (hk : PySem.W.keepIn X.K (.ref f) = true) (hb : KBn X.K fd ps 0 ks g gV) (hx : Passes CX X E)
    (hkw : PK X kws tk) (hall : (backToKw pos (keywordEach kws X.env)).all (·.1.isSome) = true) (hks : (backToKw pos (keywordEach kws X.env)).filterMap (·.1) = ks) (hdb : (x == ("__debug__" : Str)) = false)
    (hpl : ((backTo pos (starEach [] X.env)).any (·.1) || (backToKw pos (keywordEach kws X.env)).any (·.1.isNone)) = false) :
    PE X (.Call (.Name x p) [] kws pos) (fun σ H Q => tk σ H fun zs H2 => zs.length = ks.length ∧ sp (gV [] zs) H2 Q E) := by
  refine ⟨fun pins s σ H Q I h => ?_⟩
  refine wpAny_Call_Name_kw (ld_glob I hg hm ?_ hdb)
  refine PySem.W.callWith_KW0 (h₀ := X.base) I.ok.mod.kin hk hall ?_ hpl
  refine thn (hkw.run pos pins s σ H _ I h) fun ws s2 ⟨zs, H2, I2, rz, l2, q2⟩ => ⟨I2.kIn, ?_⟩
  rw [hks]
  exact run_fnN (vs := []) F hr hb hx I2 .nil rz rfl l2 q2
end
section
variable {b : Bz} {x : Str} {sp : DSp} {k : Nat} {f : Addr} {fd : FuncData} {ps ks : List Str}
/-- what can be called by keywords alone -/
def FnKI0 (b : Bz) (k : Nat) (x : Str) (ks : List Str) (sp : DSp) : Prop := ∀ (A : Around) (κ : Kt) (kws : List Keyword) (p pos : Pos) (Tk : DL.T) (kk : Nat), Room k A → kwOf kws = some ks → glB κ x = true → (b.B.ent kk).npos = 0 → (b.B.ent kk).nkw = ks.length → b.B.sp kk = sp → HK b A κ kws Tk → HE b A κ (.Call (.Name x p) [] kws pos) (.callK kk .nil Tk)
theorem fnKI_of0 {g : List Value → List Value → List Value} {gV : List V → List V → List V} {gD : List D → List D → List D} {sp' : DSp} (F : FnOk b.P b.w b.K b.mg b.base CX0 k f fd ps (liftS b.N sp)) (hm : b.mg x = some (.ref f)) (hk : PySem.W.keepIn b.K (.ref f) = true)
    (hb : KBn b.K fd ps 0 ks g gV) (hdb : (x == ("__debug__" : Str)) = false) (hg : ∀ F bs us, bs.length = ks.length → Reps b.N F bs us → Reps b.N F (gD [] bs) (gV [] us)) (hsp : ∀ bs M Q, bs.length = ks.length → sp' bs M Q → sp (gD [] bs) M Q) : FnKI0 b k x ks sp' := by
  intro A κ kws p pos Tk kk hr hks hgl h1 h2 hs hkw X c
  obtain ⟨tk, pk, kk'⟩ := hkw X c
  obtain ⟨hc1, hc2, hc3, hc4, hc5, hc6⟩ : X.prog = b.P ∧ X.w = b.w ∧ X.K = b.K ∧ X.mg = b.mg ∧ X.base = b.base ∧ X.A = A := ⟨c.p, c.w, c.k, c.m, c.b, c.a⟩
  rw [← hc1, ← hc2, ← hc3, ← hc4, ← hc5] at F
  rw [← hc3] at hk hb
  rw [← hc4] at hm
  rw [← hc6] at hr
  obtain ⟨k1, k2, k3⟩ := kw_facts (pos := pos) X.env hks
  refine ⟨_, pe_callN0 F hr (c.gl hgl) hm hk hb pass0 pk k1 k3 hdb (by rw [k2]; rfl), fun Z σ H F ρ M Q KK S hw hk => ?_⟩
  have hw : wpA b.B Tk ρ M fun es ρ M => (0 = (b.B.ent kk).npos ∧ es.length = (b.B.ent kk).nkw) ∧ b.B.sp kk ([] ++ es) M fun d M' => Q d ρ M' := hw
  refine kk' Z σ H F ρ M _ _ S hw fun us H2 F2 es2 ρ2 M2 S2 l2 r2 ⟨⟨z1, z2⟩, q2⟩ => ?_
  rw [hs] at q2
  rw [h2] at z2
  exact ⟨by rw [r2.length]; exact z2, lift_run S2 (hg F2 es2 us z2 r2) (hsp es2 M2 _ z2 q2) fun v H' F' d ρ' M' S' l' r' q' => hk v H' F' d ρ' M' S' (l2.trans l') r' q'⟩
end
end DL

set_option Elab.async false
set_option linter.all false
set_option maxRecDepth 100000
set_option maxHeartbeats 2000000
/-! a new object that never changes behind __init__, nor do the containers that its fields hold -/
namespace DL
open PySem L2 PySem.W PySem.Spec PyProof.Rows
def clr (M : Mem) : List D → Mem
  | [] => M
  | .loc p :: ds => clr (rmM M p) ds
  | _ :: ds => clr M ds
def mkSpFF (c : Nat) (n : Nat) (spI : DSp) : DSp := fun ds M Q => ∀ a, M a = none → spI (.loc a :: ds) (updM M a (.obj c [])) fun d M' => d = .non ∧ ∃ fs, M' a = some (.obj c fs) ∧ fs.length = n ∧ Q (.obj c (fs.map (view M'))) (clr (rmM M' a) fs)
section
variable {N : Nam} {Z : Ety} {F H : Hp} {ρ : Env} {M : Mem} {σ : L2.St}
theorem Sim.rm (S : Sim N Z F ρ M σ H) (a : Addr) : Sim N Z F ρ (rmM M a) σ H := by
  have k : ∀ {b m}, rmM M a b = some m → M b = some m := fun {b m} q => by
    by_cases hb : b = a
    · subst hb; simp [rmM] at q
    · simpa [rmM, hb] using q
  refine { S with mf := fun b m q => S.mf b m (k q), mem := fun b m q => S.mem b m (k q), mnew := fun b m q => S.mnew b m (k q), own := ?_, tb := S.tb.rmM a }
  obtain ⟨ow, w1, w2⟩ := S.own
  refine ⟨ow, fun p i q => ?_, w2⟩
  obtain ⟨y1, y2, y3, y4⟩ := w1 p i q
  exact ⟨y1, by unfold rmM; by_cases hb : p = a <;> simp [hb] <;> first | exact y2 | (subst hb; exact y2), y3, y4⟩
theorem Sim.freezeL : ∀ {fs : List D} {vs : List V} {M0 M : Mem} {F : Hp}, Sim N Z F ρ M σ H → Reps N F fs vs → (∀ p c, M0 p = some (.co c) → M p = some (.co c) ∨ Rep N F c.tree (.ref p)) → ∃ F', Sim N Z F' ρ (clr M fs) σ H ∧ Le F F' ∧ Reps N F' (fs.map (view M0)) vs
  | [], vs, M0, M, F, S, r, _ => ⟨F, S, Le.refl _, r⟩
  | d :: fs, vs, M0, M, F, S, r, h => by
    obtain ⟨v, t, rfl, r1, r2⟩ := reps_cons.mp r
    have other : view M0 d = d → clr M (d :: fs) = clr M fs → ∃ F', Sim N Z F' ρ (clr M (d :: fs)) σ H ∧ Le F F' ∧ Reps N F' ((d :: fs).map (view M0)) (v :: t) := fun e1 e2 => by
      obtain ⟨F', S', l, r'⟩ := Sim.freezeL S r2 h
      refine ⟨F', by rw [e2]; exact S', l, ?_⟩
      rw [List.map_cons, e1]
      exact reps_cons.mpr ⟨_, _, rfl, r1.mono l, r'⟩
    cases d with
    | loc p =>
      have hv : v = .ref p := rep_loc.mp r1
      subst hv
      have step : ∀ {F1 : Hp}, Sim N Z F1 ρ (rmM M p) σ H → Le F F1 → Rep N F1 (view M0 (.loc p)) (.ref p) → (∀ c, M0 p = some (.co c) → Rep N F1 c.tree (.ref p)) → ∃ F', Sim N Z F' ρ (clr M (.loc p :: fs)) σ H ∧ Le F F' ∧ Reps N F' ((D.loc p :: fs).map (view M0)) (.ref p :: t) := fun {F1} S1 l1 q1 q2 => by
        obtain ⟨F', S', l, r'⟩ := Sim.freezeL (M0 := M0) S1 (r2.mono l1) fun p' c e => by
          by_cases hp : p' = p
          · subst hp; exact .inr (q2 c e)
          · rcases h p' c e with z | z
            · exact .inl (by simp [rmM, hp]; exact z)
            · exact .inr (z.mono l1)
        exact ⟨F', S', l1.trans l, reps_cons.mpr ⟨_, _, rfl, q1.mono l, r'⟩⟩
      cases e : M0 p with
      | none => exact step (S.rm p) (Le.refl _) (by simp [view, e]; exact rep_loc.mpr rfl) fun c z => by rw [e] at z; cases z
      | some mo =>
        cases mo with
        | obj c' fs' => exact step (S.rm p) (Le.refl _) (by simp [view, e]; exact rep_loc.mpr rfl) fun c z => by rw [e] at z; cases z
        | co c =>
          have ev : view M0 (.loc p) = c.tree := by simp [view, e]
          rcases h p c e with z | z
          · obtain ⟨F1, S1, l1, q1⟩ := S.freezeC z
            exact step S1 l1 (by rw [ev]; exact q1) fun c' z' => by rw [e] at z'; cases z'; exact q1
          · exact step (S.rm p) (Le.refl _) (by rw [ev]; exact z) fun c' z' => by rw [e] at z'; cases z'; exact z
    | _ => exact other rfl rfl
theorem Sim.freezeD (S : Sim N Z F ρ M σ H) {a : Addr} {c : Nat} {fs : List D} (e : M a = some (.obj c fs)) (hl : fs.length = (N.nms c).length) :
    ∃ F', Sim N Z F' ρ (clr (rmM M a) fs) σ H ∧ Le F F' ∧ Rep N F' (.obj c (fs.map (view M))) (.ref a) := by
  obtain ⟨F1, S1, l1, q1⟩ := S.freeze e hl
  obtain ⟨a', dx, vs, ea, h1, hv, r1⟩ := rep_obj.mp q1
  cases ea
  obtain ⟨F2, S2, l2, q2⟩ := Sim.freezeL (M0 := M) S1 r1 fun p c' e' => .inl (by
    have hp : p ≠ a := fun z => by subst z; rw [e] at e'; cases e'
    simp [rmM, hp]; exact e')
  exact ⟨F2, S2, l1.trans l2, rep_obj.mpr ⟨a, dx, vs, rfl, l2 _ _ h1, hv, q2⟩⟩
theorem mk_liftFF {c : Nat} {spI : DSp} {vs : List V} {ds : List D} {Q : D → Env → Mem → Prop} {KK : VK} (S : Sim N Z F ρ M σ H) (r : Reps N F ds vs) (h : mkSpFF c (N.nms c).length spI ds M fun d M' => Q d ρ M')
    (hk : ∀ v H' F' d ρ' M', Sim N Z F' ρ' M' σ H' → Le F F' → Rep N F' d v → Q d ρ' M' → KK v H') (y dx : Addr) (h1 : H y = none) (h2 : H dx = none) (h3 : dx ≠ y) :
    lift N spI (.ref y :: vs) (upd (upd H dx (.own y)) y (.ins (N.cad c) dx [])) (fun v H2 => v = .non ∧ KK (.ref y) H2) := by
  have S1 := S.more (p := dx) (o := .own y) h2
  have S2 := S1.newM (p := y) (o := .ins (N.cad c) dx []) (mo := .obj c []) (by rw [upd_ne h3.symm]; exact h1) ⟨dx, [], by rw [upd_same]; simp, Nat.zero_le _, reps_nil.mpr rfl⟩
  refine lift_run (Q := fun d ρ M' => d = .non ∧ ∃ fs, M' y = some (.obj c fs) ∧ fs.length = (N.nms c).length ∧ Q (.obj c (fs.map (view M'))) ρ (clr (rmM M' y) fs)) S2 (reps_cons.mpr ⟨_, _, rfl, rep_loc.mpr rfl, r⟩) (h y (S.mnone h1)) fun v H' F' d ρ' M' S' l' r' ⟨e, fs, e1, e2, q'⟩ => ?_
  subst e
  obtain ⟨F2, S3, l3, r3⟩ := S'.freezeD e1 e2
  exact ⟨rep_non.mp r', hk _ H' F2 _ ρ' _ S3 (l'.trans l3) r3 q'⟩
end
theorem mkP_frozenD {N : Nam} {c n : Nat} {spI : DSp} (hn : n = (N.nms c).length) : MkP N c spI (mkSpFF c n spI) := by subst hn; exact fun S r h hk => mk_liftFF S r h hk
theorem clr_loc {M : Mem} {p : Addr} {ds : List D} : clr M (.loc p :: ds) = clr (rmM M p) ds := rfl
end DL

set_option Elab.async false
set_option linter.all false
set_option maxRecDepth 100000
/-! a call by keywords of a def that has no defaults -/
namespace DL
open PySem L2 PySem.W PySem.Spec PyProof.Rows
theorem kbindsP {K : PySem.W.Frag} {x qual : Str} {params : Arguments} {body : List Stmt} {scope : Scope} {f : Addr} {fd : FuncData} {ps : List Str} (F : FunD K x qual params body scope [] [] f fd) (n : Nat) (ks : List Str) (g : {α : Type} → List α → List α → List α)
    (hrel : ∀ {vs zs : List V} {us ws : List Value}, Vals vs us → Vals zs ws → Vals (g vs zs) (g us ws))
    (h : ∀ (kV doc pm : Value) (an : Option Addr) (cdv ct : Value) (us ws : List Value), us.length = n → ws.length = ks.length → bindArgs (PySem.W.fnOf x qual params body scope .none kV doc pm an cdv ct) ⟨us, ks.zip ws⟩ = pure (ps.zip (g us ws))) :
    KBn K fd ps n ks (fun us ws => g us ws) (fun vs zs => g vs zs) := by
  obtain ⟨oc, od, dV, kV, doc, pm, an, cdv, ct, osl, rfl, lk, hcd, hD, hK⟩ := F.ex
  rcases hD with ⟨_, rfl⟩ | ⟨e, _⟩
  · exact ⟨fun s us ws X l1 l2 => .of_eq (h kV doc pm an cdv ct us ws l1 l2), fun r1 r2 => hrel r1 r2⟩
  · exact absurd rfl e
end DL

set_option Elab.async false
set_option linter.all false
set_option maxRecDepth 100000
set_option maxHeartbeats 2000000
/-! lambdas of one parameter: how they are made, how they are called from within built-ins -/
namespace DL
open PySem L2 PySem.W PySem.Spec PyProof.Rows PySem.Calls LamX
/-- a lambda's names: its parameter x, captured ones, globals -/
structure LamP (sc scope : Scope) (x : Str) : Prop where
  kind : scope.kind = .function
  co : scope.isCoroutine = false
  gen : scope.isGenerator = false
  loc : scope.names.lookup x = some .local
  own : ∀ y ∈ scope.names, y.2 = .local → y.1 = x
  noc : ∀ y ∈ scope.names, y.2 ≠ .cell
  free : ∀ y ∈ scope.names, y.2 = .free → sc.names.lookup y.1 = some .cell ∨ sc.names.lookup y.1 = some .free
def lamPB (sc scope : Scope) (x : Str) : Bool :=
  decide (scope.kind = .function) && (!scope.isCoroutine && (!scope.isGenerator && (decide (scope.names.lookup x = some .local) && scope.names.all fun y => (!decide (y.2 = .local) || decide (y.1 = x)) && (!decide (y.2 = .cell) && (!decide (y.2 = .free) || (decide (sc.names.lookup y.1 = some .cell) || decide (sc.names.lookup y.1 = some .free)))))))
theorem lamP_of {sc scope : Scope} {x : Str} (h : lamPB sc scope x = true) : LamP sc scope x := by
  unfold lamPB at h
  simp only [Bool.and_eq_true, Bool.or_eq_true, Bool.not_eq_true', decide_eq_true_eq, decide_eq_false_iff_not, List.all_eq_true] at h
  obtain ⟨h1, h2, h3, h4, h5⟩ := h
  refine ⟨h1, h2, h3, h4, fun y m e => ?_, fun y m => (h5 y m).2.1, fun y m e => ?_⟩
  · rcases (h5 y m).1 with z | z
    · exact absurd e z
    · exact z
  · rcases (h5 y m).2.2 with z | z
    · exact absurd e z
    · exact z
section
variable {X : Cx} {pins : List (Addr × Obj)} {σ : L2.St} {H : Hp} {s : Shared}
theorem LamP.has {scope : Scope} {x : Str} (L : LamP X.env.scope scope x) (ok : X.Ok) : ∀ y ∈ scope.names, y.2 = .free → ∃ c, X.env.cells.lookup y.1 = some c := fun y m e => (L.free y m e).elim (fun k => ok.has _ (.inl k)) fun k => ok.has _ (.inr k)
/-- the lambda made: its function object at f is new; its code object is new, too, or it was made before -/
theorem lam_new {E : Value → Shared → Prop} {c P : Addr} {q : Str} {params : Arguments} {body : Expr} {scope : Scope} {pos : Pos} {Q : Value → Shared → Prop} (I : Inv X pins σ H s) (TB : TabB X.base X.mg c P) (hcode : X.env.code = .ref c) (hq : q = X.env.qual ++ "<lambda>") (hT : TabS H P q)
    (hdef : defaultsOf params X.env = ([], [])) (hfree : ∀ y ∈ scope.names, y.2 = .free → ∃ c, X.env.cells.lookup y.1 = some c)
    (done : ∀ (f c' : Addr) (pm ctv : Value) (H1 : Hp) (s' : Shared), Inv X pins σ H1 s' → (H1 = H ∨ ∃ ps', H c' = none ∧ H1 = upd (upd H P (.tbl ps')) c' (CodeO c' q)) → TabS H1 P q →
      s'.heap.get? f = some (PySem.W.kla_obj "<lambda>" q params body scope (cloFrom X.env.cells scope.names []) pm c' ctv) → H1 f = none → f ∉ frs X.stack → H1 c' = some (CodeO c' q) → Q (.ref f) s') :
    wpAny (model X.prog X.w) X.A (eval (.Lambda params body scope pos) X.env) Q E s := by
  subst hq
  have hT' := hT
  obtain ⟨ps, tbl, tri, known⟩ := hT
  have bPs := TB.bm.keeps I.bk
  have tabAt : s.heap.get? P = some { cls := .none, data := .fields ps } := I.hok P _ tbl
  have above : ∀ a, s.heap.objs.size ≤ a → a ∉ frs X.stack := fun a ha m => (List.mem_cons.mp (I.stkSub _ m)).elim
    (fun e => Nat.lt_irrefl _ (Nat.lt_of_lt_of_le (e ▸ I.lt) ha)) fun m => I.nofs ha m
  refine PySem.W.kla_eval hdef ?_
  cases am : codeAmong pos ps.toList with
  | some cv =>
    obtain ⟨c', rfl, isC⟩ := known pos cv am
    refine PySem.W.kla_makeFunctionHit (mg := X.mg) (c := c) (P := P) (ps := ps) (closure_ok hfree) I.ok.glob (I.mod.glob.keeps I.bk) hcode (TB.code.keeps I.bk) tabAt tri am bPs fun ctv hN tk kept grown => ?_
    refine done hN.objs.size c' ((X.mg "__name__").getD .none) ctv H _ (I.kept (t' := tk) fun b o e => Heap.get?_push_of_some _ (kept b o e)) (.inl rfl) hT' (Heap.get?_push_size _ rfl) (I.hok.fresh grown) (above _ grown) isC
  | none =>
    refine PySem.W.kla_makeFunction (mg := X.mg) (c := c) (P := P) (ps := ps) (closure_ok hfree) I.ok.glob (I.mod.glob.keeps I.bk) hcode (TB.code.keeps I.bk) tabAt tri am TB.gP bPs fun c' ctv hN tk kept cNew cLt rec tabN => ?_
    obtain ⟨c2, oc, vs, t, ec, ho, hd, hv⟩ := rec
    cases ec
    have free : H c' = none := I.hok.fresh cNew
    have grown : s.heap.objs.size ≤ hN.objs.size := Nat.le_trans cNew (Nat.le_of_lt cLt)
    have nPc : P ≠ c' := ne_of_none tbl free
    have J := inv_table (t' := tk) (more := #[rawInt pos.line, rawInt pos.col, .ref c']) (h' := hN.push (PySem.W.kla_obj "<lambda>" (X.env.qual ++ "<lambda>") params body scope (cloFrom X.env.cells scope.names []) ((X.mg "__name__").getD .none) c' ctv)) I tbl
      (fun b o nb e => Heap.get?_push_of_some _ (kept b o nb e)) (Heap.get?_push_of_some _ tabN) cNew ⟨oc, vs, t, Heap.get?_push_of_some _ ho, hd, hv⟩
    have toL : (ps ++ #[rawInt pos.line, rawInt pos.col, .ref c']).toList = ps.toList ++ [rawInt pos.line, rawInt pos.col, .ref c'] := by simp
    refine done hN.objs.size c' ((X.mg "__name__").getD .none) ctv _ _ J (.inr ⟨_, free, rfl⟩) ⟨_, by rw [upd_ne nPc, upd_same], by rw [toL]; exact PySem.TriplesOk_snoc _ _ _ _ tri, fun p' cv hcv => ?_⟩ (Heap.get?_push_size _ rfl) ?_ (above _ grown) upd_same
    · rw [toL] at hcv
      rcases among_app _ tri hcv with z | z
      · obtain ⟨c0, e1, e2⟩ := known p' cv z
        refine ⟨c0, e1, ?_⟩
        by_cases h1 : c0 = c'
        · rw [h1] at e2 ⊢; rw [free] at e2; cases e2
        · rw [upd_ne h1, upd_ne (fun h2 => codeO_ne ps (Option.some.inj (e2.symm.trans (by rw [h2]; exact tbl))))]
          exact e2
      · exact ⟨c', z, upd_same⟩
    · have n1 : hN.objs.size ≠ c' := Nat.ne_of_gt cLt
      have n2 : hN.objs.size ≠ P := Nat.ne_of_gt (Nat.lt_of_lt_of_le (Heap.lt_size tabAt) grown)
      rw [upd_ne n1, upd_ne n2]
      exact I.hok.fresh grown
/-- the lambda's body begins -/
theorem lam_body {A : Around} {outer : List PySem.Env} {E : XK} {scope : Scope} {f c' : Addr} {h₁ : Heap} {tk i : Nat} {x : Str} {v : V} {u : Value} (I : Inv X pins σ H s) (L : LamP X.env.scope scope x) (hi : X.N[i]? = some x) (nd : X.N.Nodup) (e0 : Env0 X.prog X.w X.K X.mg X.base A outer s H) (hd : A.handled = none)
    (hns : h₁.Ns s.heap.objs.size fun y => ([(x, u)] : List (Str × Value)).reverse.lookup y) (kp : ∀ b o, s.heap.get? b = some o → h₁.get? b = some o) (rv : RelV v u) :
    Inv (lamCx X A outer s H E scope f c') [] (σ.set i (some v)) H { s with heap := h₁, toks := tk } := by
  have hfree := L.has I.ok
  have seen : ∀ {y c}, (cloFrom X.env.cells scope.names []).lookup y = some c → X.env.cells.lookup y = some c := fun {y c} e => by
    rcases cloFrom_mem (PySem.mem_of_lookup e) with m | ⟨m, rfl⟩
    · cases m
    · obtain ⟨c1, hc⟩ := hfree _ m rfl
      have hc : X.env.cells.lookup y = some c1 := hc
      rw [hc] <;> rfl
  have cellOf : ∀ {y}, scope.names.lookup y = some .free → ∃ c, (cloFrom X.env.cells scope.names []).lookup y = some c := fun {y} hl => mem_lookup (cloFrom_has (cells := X.env.cells) (acc := []) (PySem.mem_of_lookup hl))
  have stays : ∀ {c : Addr} {v : Option Value}, H c = none → s.heap.IsCell c v → h₁.IsCell c v := fun {c v} _ ⟨o, ho, hdd⟩ => ⟨o, kp _ _ ho, hdd⟩
  have noEx : ∀ b : Addr, b ∉ (lamCx X A outer s H E scope f c').ex := fun b z => absurd (show b ∈ ([] : List Addr) from z) (by simp)
  have okL : (lamCx X A outer s H E scope f c').Ok := {
    mod := e0.mod
    kind := L.kind
    glob := rfl
    blt := rfl
    above := Nat.le_refl _
    inj := fun y z c e1 e2 => I.ok.inj y z c (seen e1) (seen e2)
    has := fun y hy => by
      have hy : scope.names.lookup y = some .cell ∨ scope.names.lookup y = some .free := hy
      rcases hy with hy | hy
      · exact absurd rfl (L.noc _ (PySem.mem_of_lookup hy))
      · exact cellOf hy
    cab := fun y c z _ => by
      have z : false = true := z
      cases z
    hd := fun _ => hd
    frames := Around.frames_deeper e0.frames
    stk := .inr ⟨rfl, rfl⟩
    exf := fun b z => absurd z (noEx b)
    bs := e0.bs
    bsz := e0.bsz
    noex := fun b _ _ => noEx b
    exfs := fun b z => absurd z (noEx b)
    funs := e0.funs
    frf := e0.frf }
  refine ⟨okL, rfl, e0.bare, Un.kept kp, ⟨_, hns, fun j y v' e1 e2 e3 => ?_⟩, fun y c e => ?_, e0.hok.fresh (Nat.le_refl _), fun y c e => ?_, fun q hq => absurd (show q ∈ ([] : List (Addr × Obj)) ++ [] from hq) (by simp), e0.hok.kept kp, by rw [List.length_set]; exact I.len⟩
  · have e3 : Vis scope y := e3
    by_cases hj : i = j
    · subst hj
      have ey : y = x := Option.some.inj (e1.symm.trans hi)
      have hl : i < σ.length := by rw [I.len]; exact (List.getElem?_eq_some_iff.mp hi).1
      rw [List.getElem?_set_self hl] at e2
      cases e2
      exact ⟨u, rv, .inl ⟨by rw [ey]; exact L.loc, by rw [ey]; simp⟩⟩
    · rw [List.getElem?_set_ne hj] at e2
      have ny : y ≠ x := fun e => hj (nodup_ix nd hi (e ▸ e1))
      rcases e3 with k | k | k
      · exact absurd (L.own _ (PySem.mem_of_lookup k) rfl) ny
      · exact absurd rfl (L.noc _ (PySem.mem_of_lookup k))
      · obtain ⟨m, hn, hl⟩ := I.loc
        have kk := L.free _ (PySem.mem_of_lookup k) rfl
        have hvis : Vis X.env.scope y := kk.elim (fun k => .inr (.inl k)) fun k => .inr (.inr k)
        obtain ⟨w', r, q⟩ := hl j y v' e1 e2 hvis
        obtain ⟨c2, h2⟩ := cellOf k
        refine ⟨w', r, .inr ⟨.inr k, c2, h2, ?_⟩⟩
        rcases q with ⟨k', _⟩ | ⟨_, c3, e', z⟩
        · have k' : X.env.scope.names.lookup y = some .local := k'
          rcases kk with k2 | k2 <;> rw [show X.env.scope.names.lookup y = _ from k2] at k' <;> cases k'
        · rw [seen h2] at e'
          cases e'
          exact stays (I.freeC y _ (seen h2)) z
  · obtain ⟨w', z⟩ := I.cell y c (seen e)
    exact ⟨w', stays (I.freeC y c (seen e)) z⟩
  · exact I.freeC y c (seen e)
end
end DL

set_option Elab.async false
set_option linter.all false
set_option maxRecDepth 100000
set_option maxHeartbeats 2000000
/-! lambdas as key functions -/
namespace DL
open PySem L2 PySem.W PySem.Spec PyProof.Rows PySem.Calls LamX
def spLam (B : Tab) (Tb : DL.T) (ρ0 : Env) (i : Nat) : DSp := fun ds M Q => ∃ d, ds = [d] ∧ wpE B Tb ((hideD ρ0).set i (.val d)) M fun y _ M' => Q y M'
section
variable {b : Bz} {A A' : Around} {κ : Kt} {X : Cx} {pins : List (Addr × Obj)} {σ : L2.St}
/-- the lambda at f, called from within built-ins -/
theorem callee_lam {k i : Nat} {f c' : Addr} {x q : Str} {params : Arguments} {body : Expr} {scope : Scope} {pm ctv : Value} {Tb : DL.T} {Z0 : Ety} {F0 H0 : Hp} {ρ0 : Env} {M0 : Mem} (cx : Cok b A κ X) (hA : ∀ {s : Shared} {H : Hp}, L2.Inv X pins σ H s → Env0 X.prog X.w X.K X.mg X.base A' X.stack s H) (hr : Room (k + 1) A')
    (L : LamP X.env.scope scope x) (hi : X.N[i]? = some x) (hq : q = X.env.qual ++ "<lambda>") (hmem : (f, PySem.W.kla_obj "<lambda>" q params body scope (cloFrom X.env.cells scope.names []) pm c' ctv) ∈ pins)
    (hbind : ∀ u, bindArgs (PySem.W.kla_fn "<lambda>" q params body scope (cloFrom X.env.cells scope.names []) pm (.ref c') ctv) ⟨[u], []⟩ = pure [(x, u)])
    (hbody : ∀ A'', Room k A'' → HE b A'' ⟨κ.ns, scope, fun _ => false, false⟩ body Tb) (S0 : Sim b.N Z0 F0 ρ0 M0 σ H0) :
    Callee X b.N pins σ A' f (spLam b.B Tb ρ0 i) [(c', q)] F0 := by
  intro Z ρ M σ' F H s d v u Qd S lF hco I rx re hw
  obtain ⟨d', e, hw⟩ := hw
  cases e
  subst hq
  have pin := I.pin _ (List.mem_append_right _ hmem)
  have isC := hco _ (List.mem_singleton.mpr rfl)
  obtain ⟨⟨oc, vs, t, hoc, hdc, hvc⟩, _, _⟩ := I.hok c' _ isC
  have e0 := hA I
  have S1 : Sim b.N ⟨H, M, F⟩ F ((hideD ρ0).set i (.val d)) M (σ.set i (some v)) H := by
    have := (S0.graft S lF []).set i re
    have ew : L2.wipe σ [] = σ := by unfold L2.wipe; rfl
    rw [ew] at this
    exact this
  let Qv : VK := fun v' H' => ∃ F' d' M', Sim b.N ⟨H, M, F⟩ F' [] M' [] H' ∧ Rep b.N F' d' v' ∧ Qd d' M'
  have rc : codeAny (model X.prog X.w) A' (.call (.ref f) ⟨[u], []⟩) (CR CX0 X.stack X.prog X.w H s Qv E0) s := by
    refine PySem.W.kla_callFunE hr.depth pin.1 rfl L.co L.gen rfl ⟨c', oc, vs, t, rfl, hoc, hdc, hvc⟩ ?_
    rw [hbind]
    refine wpAny_pure (wpAny_newFunctionEnv L.noc (fun y hy => ?_) (fun h₁ hns hsb => ⟨I.nolimit.fresh _ hsb, ?_⟩) L.kind)
    · rw [List.mem_singleton.mp hy]; exact L.loc
    show codeAny _ _ (.expr body (lamEnv X scope s.heap.objs.size f c')) _ _
    have kp : ∀ b o, s.heap.get? b = some o → h₁.get? b = some o := fun b o e => hsb.extBut b o (Nat.ne_of_lt (Heap.lt_size e)) (Heap.get?_push_of_some _ e)
    have J := lam_body (E := fun _ _ _ => False) (f := f) (c' := c') (tk := s.toks + ([(x, u)] : List (Str × Value)).length) I L hi cx.nd e0 hr.hd hns kp rx
    have cl : Cok b (A'.deeper (lamEnv X scope s.heap.objs.size f c')) ⟨κ.ns, scope, fun _ => false, false⟩ (lamCx X A' X.stack s H (fun _ _ _ => False) scope f c').nox :=
      ⟨cx.g, fun z => (nomatch z), cx.p, cx.w, cx.k, cx.m, cx.b, rfl, rfl, cx.n, rfl, rfl, cx.nd, rfl, (hr.deeper _).units, fun h => absurd (h (Str.ofString "")) (by simp)⟩
    obtain ⟨t1, p1, r1⟩ := hbody _ (hr.deeper (lamEnv X scope s.heap.objs.size f c')) _ cl
    refine PySem.W.kla_codeExpr (wpAny_mono (p1.run [] _ _ H Qv (J.wish _) (r1 _ _ _ _ _ _ _ _ S1 hw fun v' H' F' d' ρ' M' S' l' r' q' => ⟨F', d', M', S'.drop rfl fun i lv e => by simp at e, r', q'⟩)) (fun w s' hq => ?_) fun e s' hq => hq.elim)
    obtain ⟨v', H', J', rv, q⟩ := hq
    exact ⟨v', H', J'.os, J'.bare, J'.base, J'.hok, rv, q⟩
  refine wpAny_call (codeAny_mono rc fun r s' hq => ?_)
  cases r with
  | error e => exact hq
  | ok fl =>
    cases fl with
    | ret w =>
      obtain ⟨v', H', I2, rv, ⟨F', d', M', S', r', q'⟩, un⟩ := after_un I hq
      exact ⟨v', H', F', d', M', I2, rv, S', r', q', un⟩
    | next => exact False.elim hq
    | brk => exact False.elim hq
    | cont => exact False.elim hq
/-- the Sim of the state in which the lambda was made -/
theorem Sim.lam {N : Nam} {Z : Ety} {F H H1 : Hp} {ρ : Env} {M : Mem} {σ : L2.St} {P c' : Addr} {q : Str} (S : Sim N Z F ρ M σ H) (hP : (P, q) ∈ N.tbs) (hu : ∀ p ∈ N.tbs, p.1 = P → p.2 = q) (h : H1 = H ∨ ∃ ps', H c' = none ∧ H1 = upd (upd H P (.tbl ps')) c' (CodeO c' q)) (t : TabS H1 P q) : Sim N Z F ρ M σ H1 := by
  rcases h with rfl | ⟨ps', nc, rfl⟩
  · exact S
  have fP := S.tb.fn _ hP
  have mP := S.tb.mn _ hP
  obtain ⟨ps0, tz⟩ := S.tb.tz _ hP
  obtain ⟨ps1, tH⟩ := TabS.there (S.tb.tab _ hP)
  have kp : ∀ b o, b ≠ P → H b = some o → upd (upd H P (.tbl ps')) c' (CodeO c' q) b = some o := fun b o h1 e => by rw [upd_ne (ne_of_none e nc), upd_ne h1]; exact e
  have nPc : P ≠ c' := ne_of_none tH nc
  refine ⟨fun b o e => kp b o (fun z => by rw [z, fP] at e; cases e) (S.sub b o e), S.le0, S.mf, fun b m e => (S.mem b m e).mono (Le.refl _) fun o z => kp b o (fun y => by rw [y, mP] at e; cases e) z, S.mnew, S.fnew, fun b o e z z' => kp b o (fun y => z' _ hP y.symm) (S.keep b o e z z'), fun b o e => ?_, ?_, S.len, ⟨fun p m => ?_, S.tb.fn, S.tb.mn, S.tb.tz⟩⟩
  · obtain ⟨u, z⟩ := S.there b o e
    by_cases hb : b = P
    · rw [hb, upd_ne nPc, upd_same]; exact ⟨_, rfl⟩
    · exact ⟨u, kp b u hb z⟩
  · obtain ⟨ow, o1, o2⟩ := S.own
    have nP : ∀ p i, ow p = some i → p ≠ P := fun p i e z => by
      have := (o1 p i e).2.2.1
      rw [z, tz] at this; cases this
    refine ⟨ow, fun p i e => ?_, fun i lv e => (o2 i lv e).mono (Le.refl _) fun p o e' z => kp p o (nP p i e') z⟩
    obtain ⟨h1, h2, h3, o, h4⟩ := o1 p i e
    exact ⟨h1, h2, h3, o, kp p o (nP p i e) h4⟩
  · by_cases hp : p.1 = P
    · rw [hp, hu p m hp]; exact t
    · obtain ⟨ps, h1, h2, h3⟩ := S.tb.tab p m
      refine ⟨ps, kp _ _ hp h1, h2, fun pos cv hc => ?_⟩
      obtain ⟨c, e1, e2⟩ := h3 pos cv hc
      exact ⟨c, e1, kp _ _ (fun z => codeO_ne ps1 (Option.some.inj (e2.symm.trans (by rw [z]; exact tH)))) e2⟩
end
end DL

set_option Elab.async false
set_option linter.all false
set_option maxRecDepth 100000
set_option maxHeartbeats 2000000
/-! sorted(xs, key=lambda ..) -/
namespace DL
open PySem L2 PySem.W PySem.Spec PyProof.Rows PySem.Calls LamX
section
variable {X : Cx} {pins : List (Addr × Obj)} {σ : L2.St} {H : Hp} {s : Shared}
/-- the new function object is pinned -/
theorem pin_fn {f : Addr} {o : Obj} {fd : FuncData} (I : L2.Inv X pins σ H s) (hd : o.data = .func fd) (pin : s.heap.get? f = some o) (hf : H f = none) (hfr : f ∉ frs X.stack) : L2.Inv X ((f, o) :: pins) σ H s := by
  refine I.pins_of fun p hp => ?_
  rcases List.mem_cons.mp hp with e | hp
  · subst e
    refine ⟨pin, hf, fun z => ?_, fun z => hfr ?_, fun v z => ?_⟩
    · obtain ⟨m, ⟨ol, es, ep, ho, hdl, _⟩, _⟩ := I.loc
      have z : f = X.env.locals := z
      rw [← z, pin] at ho
      cases ho
      rw [hd] at hdl
      cases hdl
    · rcases I.ok.stk with e | ⟨e, _⟩
      · rw [e]; exact z
      · rw [e]
        obtain ⟨en, me, q⟩ := List.mem_filterMap.mp z
        exact List.mem_filterMap.mpr ⟨en, List.mem_cons_of_mem _ me, q⟩
    · have z : o.data = .cell v := z
      rw [hd] at z; cases z
  · exact I.pin p (List.mem_append_right _ hp)
theorem ep_unpin {q : Addr × Obj} {Q : VK} {v : Value} {s' : Shared} (h : EP X (q :: pins) σ Q v s') : EP X pins σ Q v s' := by
  obtain ⟨w, H', I, r, q'⟩ := h
  exact ⟨w, H', I.pins_of fun p hp => I.pin p (List.mem_append_right _ (List.mem_cons_of_mem _ hp)), r, q'⟩
end
section
variable {b : Bz} {A : Around} {κ : Kt} {pos p lpos kp : Pos} {e1 e2 body : Expr} {T1 T2 Tb : DL.T} {params : Arguments} {scope : Scope}
/-- what is asked of a lambda that is a key -/
structure LamKey (b : Bz) (κ : Kt) (i k : Nat) (params : Arguments) (body : Expr) (scope : Scope) (Tb : DL.T) : Prop where
  ex : ∃ x, κ.ns[i]? = some x ∧ lamPB κ.sc scope x = true ∧ ∀ (q : Str) (cl : List (Str × Addr)) (pm cv ctv u : Value), bindArgs (PySem.W.kla_fn "<lambda>" q params body scope cl pm cv ctv) ⟨[u], []⟩ = pure [(x, u)]
  lam : κ.lam = true
  dfl : ∀ env : PySem.Env, defaultsOf params env = ([], [])
  body : ∀ A'', Room k A'' → HE b A'' ⟨κ.ns, scope, fun _ => false, false⟩ body Tb
/-- the key lambda is made and pinned; what is wanted behind -/
theorem lam_key {X : Cx} {i k : Nat} (c : Cok b A κ X) (L : LamKey b κ i k params body scope Tb) {A' : Around} (hA : ∀ {pins : List (Addr × Obj)} {σ : L2.St} {s : Shared} {H : Hp}, L2.Inv X pins σ H s → Env0 X.prog X.w X.K X.mg X.base A' X.stack s H) (hr : Room (k + 1) A')
    {pins : List (Addr × Obj)} {σ : L2.St} {H : Hp} {s : Shared} {Z : Ety} {F : Hp} {ρ : Env} {M : Mem} (I : L2.Inv X pins σ H s) (S : Sim b.N Z F ρ M σ H) {E : Value → Shared → Prop} {Q : Value → Shared → Prop}
    (done : ∀ (f : Addr) (o : Obj) (co : List (Addr × Str)) (H1 : Hp) (s' : Shared), L2.Inv X ((f, o) :: pins) σ H1 s' → Sim b.N Z F ρ M σ H1 → (∀ p ∈ co, H1 p.1 = some (CodeO p.1 p.2)) → Callee X b.N ((f, o) :: pins) σ A' f (spLam b.B Tb ρ i) co F → Q (.ref f) s') :
    wpAny (model X.prog X.w) X.A (eval (.Lambda params body scope lpos) X.env) Q E s := by
  obtain ⟨x, hx, hP, hbind⟩ := L.ex
  obtain ⟨cc, P, hcode, TB, hmem, hu⟩ := c.lm L.lam
  have lp : LamP X.env.scope scope x := by rw [c.s]; exact lamP_of hP
  refine lam_new I TB hcode rfl (S.tb.tab _ hmem) (L.dfl _) (lp.has I.ok) fun f c' pm ctv H1 s' I1 hH t1 pin hf hfr hco => ?_
  have I2 := pin_fn I1 rfl pin hf hfr
  have S1 := S.lam hmem hu hH t1
  refine done f _ [(c', X.env.qual ++ "<lambda>")] H1 s' I2 S1 (fun q m => by rw [List.mem_singleton.mp m]; exact hco) ?_
  exact callee_lam c hA hr lp (by rw [c.n]; exact hx) rfl List.mem_cons_self (fun u => hbind _ _ _ _ _ u) L.body S
theorem h_sortedL {i k : Nat} (hr : Room (k + 3) A) (L : LamKey b κ i k params body scope Tb) (hm : b.mg "sorted" = none) (hg : glB κ "sorted" = true) (hp : plainE e1 = true) (h1 : HE b A κ e1 T1) :
    HO b A κ (.Call (.Name "sorted" p) [e1] [⟨some "key", .Lambda params body scope lpos, kp⟩] pos) (.sortedL T1 i Tb) := fun X c => by
  obtain ⟨t1, p1, r1⟩ := h1 X c
  have pa := pa_cons p1 pa_nil (star_cons (es := []) X.env hp)
  have ha : X.A = A := c.a
  refine ⟨fun σ H Q => t1 σ H fun v H1 => ∃ (Z : Ety) (ρ : Env) (M : Mem) (F0 : Hp) (d : DL.D) (es : List DL.D) (kf : DL.D → DL.D), Sim b.N Z F0 ρ M σ H1 ∧ Rep b.N F0 d v ∧ seqOf (view M d) = some es ∧ SortOk (es.map kf) ∧ (∀ e ∈ es, spLam b.B Tb ρ i [e] M fun d M' => M' = M ∧ d = kf e) ∧
      ∀ a H' F', Sim b.N Z F' (ρ ++ [.own (.L (es.mergeSort fun a b => leD (kf a) (kf b)))]) M (σ ++ [some (.ref a)]) H' → Le F0 F' → Q (.ref a) H', ⟨fun pins s σ H Q I h => ?_⟩, fun Z σ H F ρ M Q K S hw hk => ?_⟩
  · refine wpAny_Call_Name_kw (ld_blt I (c.gl hg) (by rw [c.m]; exact hm) boot_sorted' ?_ (by decide) (by decide))
    refine PyProof.Rows.callWith_kw (thn (pa.run pos pins s σ H (fun vs H1 => ∃ v, vs = [v] ∧ ∃ (Z : Ety) (ρ : Env) (M : Mem) (F0 : Hp) (d : DL.D) (es : List DL.D) (kf : DL.D → DL.D), Sim b.N Z F0 ρ M σ H1 ∧ Rep b.N F0 d v ∧ seqOf (view M d) = some es ∧ SortOk (es.map kf) ∧ (∀ e ∈ es, spLam b.B Tb ρ i [e] M fun d M' => M' = M ∧ d = kf e) ∧
      ∀ a H' F', Sim b.N Z F' (ρ ++ [.own (.L (es.mergeSort fun a b => leD (kf a) (kf b)))]) M (σ ++ [some (.ref a)]) H' → Le F0 F' → Q (.ref a) H') I ?_) fun us s1 ⟨vs, H1, I1, rx, q1⟩ => ?_) (by rw [star_cons (es := []) X.env hp]; rfl) (by rw [star_cons (es := []) X.env hp]; rfl) (by rfl) (by rfl)
    · exact (show tCons t1 tNil σ H _ from by
        unfold tCons tNil
        refine (?_ : t1 σ H _)
        exact cast (congrArg (t1 σ H) (by funext v H1; simp)) h)
    obtain ⟨v, rfl, Z, ρ, M, F0, d, es, kf, S, r, e, hk, hsp, hQ⟩ := q1
    refine wpAny_evalAll_cons (wpAny_bind (lam_key (A' := X.A.in1.in1) c L (fun I => I.env0.in1.in1) (by rw [ha]; exact (show Room (k + 2) A.in1 from Room.in1 hr).in1) I1 S fun f o co H2 s2 I2 S2 hco C => wpAny_bind (wpAny_standAt (wpAny_pure (wpAny_evalAll_nil ?_)))))
    show wpAny _ _ (call (.builtin "sorted") us [(Str.ofString "key", .ref f)]) _ _ s2
    refine wpAny_mono (?_ : wpAny (model X.prog X.w) X.A (call (.builtin "sorted") us [(Str.ofString "key", .ref f)]) (EP X ((f, o) :: pins) σ Q) X.xe s2) (fun w s3 z => ep_unpin z) fun _ _ z => z
    obtain ⟨pp, vs, rfl, hh, hz, re⟩ := seq_v S2 (r.view S2) e
    obtain ⟨u, rfl, ru⟩ := rx.one
    obtain rfl : u = Value.ref pp := ru
    rcases hh with h | ⟨h, _⟩
    · obtain ⟨its, rv, ⟨o', n, q1, q2, q3, q4⟩, z⟩ := I2.list (SqL.of (K := X.K) h)
      exact ksk_whole C c.hu S2 I2 (.inl rfl) q1 q2 q4 rv re (by rw [← rv.length]; exact z) hk hsp (Le.refl _) hco hQ
    · obtain ⟨its, rv, ⟨o', q1, q2, n, q4⟩, z⟩ := I2.tuple (SqT.of (K := X.K) h)
      exact ksk_whole C c.hu S2 I2 (.inr rfl) q1 q2 q4 rv re (by rw [← rv.length]; exact z) hk hsp (Le.refl _) hco hQ
  · refine r1 Z σ H F ρ M _ _ S hw fun v H1 F1 d ρ1 M1 S1 l r ⟨es, kf, e1', e2', e3', e4'⟩ => ?_
    exact ⟨Z, ρ1, M1, F1, d, es, kf, S1, r, e1', e2', fun e m => ⟨e, rfl, e3' e m⟩, fun a H' F' S' l' => hk a H' F' _ ρ1 M1 S' S1.len (l.trans l') e4'⟩
end
end DL

set_option Elab.async false
set_option linter.all false
set_option maxRecDepth 100000
set_option maxHeartbeats 2000000
/-! min(xs, key=lambda ..) -/
namespace DL
open PySem L2 PySem.W PySem.Spec PyProof.Rows PySem.Calls LamX
section
variable {X : Cx} {pins : List (Addr × Obj)} {σ : L2.St} {N : Nam}
/-- a record of the built-in's own: no one else looks at it -/
structure Mine (X : Cx) (pins : List (Addr × Obj)) (b : Addr) : Prop where
  l : b ≠ X.env.locals
  fs : b ∉ frs X.stack
  ex : b ∈ X.ex ∨ X.s_0.heap.objs.size ≤ b
  ce : ∀ x c, X.env.cells.lookup x = some c → c ≠ b
  pin : ∀ p ∈ X.pn ++ pins, p.1 ≠ b
theorem mine_of {H : Hp} {s : Shared} {b : Addr} (I : L2.Inv X pins σ H s) (hb : s.heap.objs.size ≤ b) : Mine X pins b := by
  obtain ⟨_, h2, _, h4, h5, h6⟩ := I.fpOk (H' := fun _ => none) hb rfl
  exact ⟨h2, fun m => (List.mem_cons.mp (I.stkSub _ m)).elim (fun e => Nat.lt_irrefl _ (Nat.lt_of_lt_of_le (e ▸ I.lt) hb)) fun m => I.nofs hb m, h4, h5, h6⟩
theorem Mine.turned {H : Hp} {s : Shared} {b : Addr} {h' : Heap} {t' : Nat} (m : Mine X pins b) (I : L2.Inv X pins σ H s) (hn : H b = none) (k : ∀ a o, a ≠ b → s.heap.get? a = some o → h'.get? a = some o) : L2.Inv X pins σ H { s with heap := h', toks := t' } := I.turned k hn m.l m.ex m.ce m.pin
/-- what stands between two turns -/
structure MinAt (X : Cx) (pins : List (Addr × Obj)) (σ : L2.St) (N : Nam) (Z0 : Ety) (ρ : Env) (M : Mem) (σ' : L2.St) (kf : DL.D → DL.D) (it S pp : Addr) (j : Nat) (best : DL.D) (vb kb : Value) (s : Shared) : Prop where
  ex : ∃ (Hi Fi : Hp) (vv kv : V) (c : Nat), L2.Inv X pins σ Hi s ∧ Sim N Z0 Fi (hideD ρ) M σ' Hi ∧ Hi S = none ∧ Hi it = none ∧ RelV vv vb ∧ Rep N Fi best vv ∧ RelV kv kb ∧ Rep N Fi (kf best) kv ∧ s.heap.get? S = some (seqObj "list" #[vb, kb] c)
  iter : s.heap.IsListIter it pp j
theorem alike_lt {H F : Hp} {s : Shared} {A' : Around} {E : Value → Shared → Prop} {Q : Value → Shared → Prop} {x y : DL.D} {vx vy : V} {ux uy : Value} (I : L2.Inv X pins σ H s) (sub : ∀ a o, F a = some o → H a = some o) (dx : dat x = true) (dy : dat y = true) (px : dep x ≤ 60) (al : PySem.W.alike (py x) (py y) = true) (nn : py x ≠ .none)
    (rx : Rep N F x vx) (ry : Rep N F y vy) (ex : RelV vx ux) (ey : RelV vy uy) (hu : A'.units + 62 < cLine) (q : Q (.bool (ltD x y)) s) : wpAny (model X.prog X.w) A' (richCompare .Lt ux uy) Q E s := by
  obtain ⟨as, ra⟩ := Dp.reads I _ _ _ (Rep.dp (K := X.K) sub dx rx) ex
  obtain ⟨bs, rb⟩ := Dp.reads I _ _ _ (Rep.dp (K := X.K) sub dy ry) ey
  have h1 := (lay_py dx).2
  exact lt_data ra rb al nn (by have := Nat.min_le_left (py x).depth (py y).depth; omega) q
theorem min_loop {fa it S pp : Addr} {sp : DSp} {co : List (Addr × Str)} {Fc F0 H : Hp} {Z : Ety} {ρ : Env} {M : Mem} {σ' : L2.St} {dl e0 : DL.D} {es : List DL.D} {kf : DL.D → DL.D} {kw : List (Str × Value)} {R : Result → Shared → Prop}
    (C : Callee X N pins σ X.A.in1 fa sp co Fc) (hu : X.A.units + 64 < cLine) (hh : X.A.in1.handled = none) (S0 : Sim N Z F0 ρ M σ' H) (lF : Le Fc F0) (hco : ∀ p ∈ co, H p.1 = some (LamX.CodeO p.1 p.2)) (rl : Rep N F0 dl (.ref pp)) (vl : view M dl = .lst es)
    (hk : MinOk (es.map kf)) (hsp : ∀ e ∈ es, sp [e] M (fun d M' => M' = M ∧ d = kf e)) (mI : Mine X pins it) (mS : Mine X pins S) (hne : S ≠ it)
    (hR : ∀ (u : Value) (s' : Shared) (H' F' : Hp) (v : V), L2.Inv X pins σ H' s' → Sim N ⟨H, M, F0⟩ F' (hideD ρ) M σ' H' → RelV v u → Rep N F' (minBy ltD kf e0 (es.drop 1)) v → R (.ok (.ret u)) s') :
    ∀ (r j : Nat) (s : Shared) (best : DL.D) (vb kb : Value), es.length - (j + 1) = r → j + 1 ≤ es.length → best ∈ es → minBy ltD kf best (es.drop (j + 1)) = minBy ltD kf e0 (es.drop 1) → MinAt X pins σ N ⟨H, M, F0⟩ ρ M σ' kf it S pp (j + 1) best vb kb s →
      codeAny (model X.prog X.w) X.A (.builtin "min.loop" ⟨[.ref it, .ref fa, .ref S], kw⟩) R s := by
  have nm : (toString "min" ++ toString ".loop" : String) = "min.loop" := by decide
  intro r
  induction r with
  | zero =>
    intro j s best vb kb hr hj mb hb hm
    obtain ⟨⟨Hi, Fi, vv, kv, c, I, Si, nS, nI, rv, rb, rk, rkb, hS⟩, hit⟩ := hm
    have ed : es.drop (j + 1) = [] := List.drop_of_length_le (by omega)
    rw [ed] at hb
    have vr := (rl.mono Si.le0).view Si
    rw [vl] at vr
    obtain ⟨pp', vs, ep, hr2, hz, re⟩ := vr
    cases ep
    obtain ⟨its, rits, ⟨ol, nl, g1, g2, g3, g4⟩, z⟩ := I.list (SqL.of (K := X.K) hr2)
    have hl : s.heap.IsList pp its.toArray := ⟨ol, g1, g2, nl, g4⟩
    refine codeAny_builtin PySem.F.entry_min_loop ?_
    rw [Around.under_plainId PySem.F.plain_min_loop _]
    show wpAny _ X.A.in1 (seqItems? (.ref S) >>= _) _ _ s
    refine wpAny_bind (wpAny_seqItems hS rfl ?_)
    show wpAny _ X.A.in1 (tryCatch (pyNext (.ref it)) _ >>= _) _ _ s
    have hend : its.toArray[j + 1]? = none := by
      have : its.length = es.length := by rw [← rits.length, re.length]
      simp; omega
    refine wpAny_bind (wpAny_tryCatch (wpAny_pyNext_list_end hh hit hl hend fun h' ext => ?_))
    have kp : ∀ a o, a ≠ it → s.heap.get? a = some o → h'.get? a = some o := fun a o na e => ext a o na e
    have I1 := mI.turned (t' := s.toks) I nI kp
    have hS1 : h'.get? S = some (seqObj "list" #[vb, kb] c) := kp _ _ hne hS
    show wpAny _ X.A.in1 (updateSeq S (fun _ => #[]) >>= _) _ _ _
    refine wpAny_bind ?_
    refine wpAny_updateSeq hS1 rfl (wpAny_bind (wpAny_letGo (wpAny_pure ?_)))
    have sm := Heap.SameBut.update h' S (Obj.mapSeq fun _ => (#[] : Array Value))
    have I2 := mS.turned (t' := s.toks) I1 nS (fun a o na e => (sm.2 a na).trans e)
    have hb' : best = minBy ltD kf e0 (es.drop 1) := hb
    exact hR vb _ Hi Fi vv I2 Si rv (hb' ▸ rb)
  | succ r ih =>
    intro j s best vb kb hr hj mb hb hm
    obtain ⟨⟨Hi, Fi, vv, kv, c, I, Si, nS, nI, rv, rb, rk, rkb, hS⟩, hit⟩ := hm
    obtain ⟨e, he⟩ : ∃ e, es[j + 1]? = some e := ⟨_, List.getElem?_eq_getElem (by omega)⟩
    have me : e ∈ es := List.mem_of_getElem? he
    have ed : es.drop (j + 1) = e :: es.drop (j + 1 + 1) := by
      obtain ⟨h1, h2⟩ := List.getElem?_eq_some_iff.mp he
      rw [List.drop_eq_getElem_cons h1, h2]
    rw [ed] at hb
    have vr := (rl.mono Si.le0).view Si
    rw [vl] at vr
    obtain ⟨pp', vs, ep, hr2, hz, re⟩ := vr
    cases ep
    obtain ⟨its, rits, ⟨ol, nl, g1, g2, g3, g4⟩, z⟩ := I.list (SqL.of (K := X.K) hr2)
    have hl : s.heap.IsList pp its.toArray := ⟨ol, g1, g2, nl, g4⟩
    obtain ⟨xv, hxv, rxv⟩ := re.get he
    obtain ⟨x, hx, rx⟩ : ∃ x, its[j + 1]? = some x ∧ RelV xv x := by
      have : ∀ {as : List V} {bs : List Value} {i : Nat} {a : V}, Vals as bs → as[i]? = some a → ∃ b, bs[i]? = some b ∧ RelV a b := by
        intro as bs i a h
        induction h generalizing i with
        | nil => intro h1; simp at h1
        | cons h1 h2 ih =>
          cases i with
          | zero => intro e1; simp at e1; subst e1; exact ⟨_, rfl, h1⟩
          | succ i => intro e1; exact ih (by simpa using e1)
      exact this rits hxv
    refine codeAny_builtin PySem.F.entry_min_loop ?_
    rw [Around.under_plainId PySem.F.plain_min_loop _]
    show wpAny _ X.A.in1 (seqItems? (.ref S) >>= _) _ _ s
    refine wpAny_bind (wpAny_seqItems hS rfl ?_)
    show wpAny _ X.A.in1 (tryCatch (pyNext (.ref it)) _ >>= _) _ _ s
    refine wpAny_bind (wpAny_tryCatch (wpAny_pyNext_list_item hit hl (x := x) (by simpa using hx) fun h' hit' same => ?_))
    have kp : ∀ a o, a ≠ it → s.heap.get? a = some o → h'.get? a = some o := fun a o na e => same.extBut a o na e
    have I1 : L2.Inv X pins σ Hi { s with heap := h' } := mI.turned (t' := s.toks) I nI kp
    have hS1 : h'.get? S = some (seqObj "list" #[vb, kb] c) := kp _ _ hne hS
    show wpAny _ X.A.in1 (tryCatch (holding [x] (call (.ref fa) [x])) _ >>= _) _ _ _
    have S1 : Sim N ⟨Hi, M, Fi⟩ Fi (hideD ρ) M σ' Hi := by
      have := Si.start
      rwa [hideD_hideD] at this
    refine wpAny_bind (wpAny_tryCatch (wpAny_holding (wpAny_mono (C S1 (lF.trans Si.le0) (fun p m => let q := code_keep S0 (hco p m); Si.keep _ _ (hco p m) q.1 q.2) I1 rx rxv (hsp e me)) (fun kx s2 hq => ?_) fun _ _ z => z.elim)))
    obtain ⟨kv2, H2, F2, d2, M2, I2, rk2, S2, rd2, ⟨eM, rfl⟩, un⟩ := hq
    have eM := eM.symm
    subst eM
    have Sj : Sim N ⟨H, M, F0⟩ F2 (hideD ρ) M σ' H2 := Si.back S2
    have le2 : Le Fi F2 := S2.le0
    obtain ⟨hS2, nS2⟩ := un S _ hS1 nS mS.fs
    obtain ⟨oI, hoI, hcI, hdI⟩ := id hit'
    obtain ⟨hI2, nI2⟩ := un it _ hoI nI mI.fs
    have hit2 : s2.heap.IsListIter it pp (j + 1 + 1) := ⟨oI, hI2, hcI, hdI⟩
    obtain ⟨z1, z2, z3⟩ := hk
    have mk : ∀ {y : DL.D}, y ∈ es → kf y ∈ es.map kf := fun m => List.mem_map.mpr ⟨_, m, rfl⟩
    show wpAny _ X.A.in1 (tryCatch (holding [x, kx] (richCompare .Lt kx kb >>= _)) _ >>= _) _ _ _
    have hu1 : X.A.in1.units + 62 < cLine := by
      have : X.A.in1.units = X.A.units + 1 := rfl
      omega
    refine wpAny_bind (wpAny_tryCatch (wpAny_holding (wpAny_bind (alike_lt I2 Sj.sub (dats_mem z1 (mk me)) (dats_mem z1 (mk mb)) (Nat.le_trans (deps_mem (mk me)) z2) (z3 _ (mk me) _ (mk mb)).1 (z3 _ (mk me) _ (mk mb)).2 rd2 (rkb.mono le2) rk2 rk hu1 ?_))))
    refine wpAny_bind (wpAny_holding (wpAny_truthy_bool ?_))
    refine wpAny_bind (wpAny_letGo (wpAny_pure ?_))
    cases hlt : ltD (kf e) (kf best) with
    | true =>
      simp only [if_true]
      refine wpAny_bind ?_
      refine wpAny_updateSeq hS2 rfl (wpAny_bind (wpAny_letGo ?_))
      rw [nm]
      have sm := Heap.SameBut.update s2.heap S (Obj.mapSeq fun _ => #[x, kx])
      obtain ⟨c3, hS3⟩ : ∃ c3, (s2.heap.update S (Obj.mapSeq fun _ => #[x, kx])).get? S = some (seqObj "list" #[x, kx] c3) := ⟨_, get?_update_seq hS2 fun _ => #[x, kx]⟩
      have I3 := mS.turned (t' := s2.toks) I2 nS2 (fun a o na e => (sm.2 a na).trans e)
      refine wpAny_pure ⟨plainId_quiet PySem.F.plain_min_loop _, ih (j + 1) _ e x kx (by omega) (by omega) me ?_ ⟨⟨H2, F2, xv, kv2, c3, I3, Sj, nS2, nI2, rx, rxv.mono le2, rk2, rd2, hS3⟩, ⟨oI, (sm.2 it hne.symm).trans hI2, hcI, hdI⟩⟩⟩
      rw [← hb]
      show _ = if ltD (kf e) (kf best) = true then _ else _
      rw [hlt, if_pos rfl]
    | false =>
      simp only [Bool.false_eq_true, if_false]
      refine wpAny_bind (wpAny_letGo ?_)
      rw [nm]
      refine wpAny_pure ⟨plainId_quiet PySem.F.plain_min_loop _, ih (j + 1) _ best vb kb (by omega) (by omega) mb ?_ ⟨⟨H2, F2, vv, kv, c, I2, Sj, nS2, nI2, rv, rb.mono le2, rk, rkb.mono le2, hS2⟩, hit2⟩⟩
      rw [← hb]
      show _ = if ltD (kf e) (kf best) = true then _ else _
      rw [hlt, if_neg Bool.false_ne_true]
end
end DL

set_option Elab.async false
set_option linter.all false
set_option maxRecDepth 100000
set_option maxHeartbeats 2000000
/-! min(xs, key=lambda ..): the whole call -/
namespace DL
open PySem L2 PySem.W PySem.Spec PyProof.Rows PySem.Calls LamX
section
variable {X : Cx} {pins : List (Addr × Obj)} {σ : L2.St} {N : Nam}
theorem vals_get {as : List V} {bs : List Value} {i : Nat} {a : V} (h : Vals as bs) : as[i]? = some a → ∃ b, bs[i]? = some b ∧ RelV a b := by
  induction h generalizing i with
  | nil => intro h1; simp at h1
  | cons h1 h2 ih =>
    cases i with
    | zero => intro e1; simp at e1; subst e1; exact ⟨_, rfl, h1⟩
    | succ i => intro e1; exact ih (by simpa using e1)
/-- the first turn, and all behind it -/
theorem min_first {fa it S pp : Addr} {sp : DSp} {co : List (Addr × Str)} {Fc F0 H : Hp} {Z : Ety} {ρ : Env} {M : Mem} {σ' : L2.St} {dl e0 : DL.D} {es : List DL.D} {kf : DL.D → DL.D} {kw : List (Str × Value)} {R : Result → Shared → Prop} {s : Shared} {c : Nat}
    (C : Callee X N pins σ X.A.in1 fa sp co Fc) (hu : X.A.units + 64 < cLine) (hh : X.A.in1.handled = none) (S0 : Sim N Z F0 ρ M σ' H) (lF : Le Fc F0) (hco : ∀ p ∈ co, H p.1 = some (LamX.CodeO p.1 p.2)) (rl : Rep N F0 dl (.ref pp)) (vl : view M dl = .lst (e0 :: es))
    (hk : MinOk ((e0 :: es).map kf)) (hsp : ∀ e ∈ e0 :: es, sp [e] M (fun d M' => M' = M ∧ d = kf e)) (mI : Mine X pins it) (mS : Mine X pins S) (hne : S ≠ it)
    (I : L2.Inv X pins σ H s) (nS : H S = none) (nI : H it = none) (hS : s.heap.get? S = some (seqObj "list" #[] c)) (hit : s.heap.IsListIter it pp 0)
    (hR : ∀ (u : Value) (s' : Shared) (H' F' : Hp) (v : V), L2.Inv X pins σ H' s' → Sim N ⟨H, M, F0⟩ F' (hideD ρ) M σ' H' → RelV v u → Rep N F' (minBy ltD kf e0 es) v → R (.ok (.ret u)) s') :
    codeAny (model X.prog X.w) X.A (.builtin "min.loop" ⟨[.ref it, .ref fa, .ref S], kw⟩) R s := by
  have nm : (toString "min" ++ toString ".loop" : String) = "min.loop" := by decide
  have vr := rl.view S0
  rw [vl] at vr
  obtain ⟨pp', vs, ep, hr2, hz, re⟩ := vr
  cases ep
  obtain ⟨its, rits, ⟨ol, nl, g1, g2, g3, g4⟩, z⟩ := I.list (SqL.of (K := X.K) hr2)
  have hl : s.heap.IsList pp its.toArray := ⟨ol, g1, g2, nl, g4⟩
  obtain ⟨xv, hxv, rxv⟩ := re.get (i := 0) rfl
  obtain ⟨x, hx, rx⟩ := vals_get rits hxv
  refine codeAny_builtin PySem.F.entry_min_loop ?_
  rw [Around.under_plainId PySem.F.plain_min_loop _]
  show wpAny _ X.A.in1 (seqItems? (.ref S) >>= _) _ _ s
  refine wpAny_bind (wpAny_seqItems hS rfl ?_)
  show wpAny _ X.A.in1 (tryCatch (pyNext (.ref it)) _ >>= _) _ _ s
  refine wpAny_bind (wpAny_tryCatch (wpAny_pyNext_list_item hit hl (x := x) (by simpa using hx) fun h' hit' same => ?_))
  have kp : ∀ a o, a ≠ it → s.heap.get? a = some o → h'.get? a = some o := fun a o na e => same.extBut a o na e
  have I1 : L2.Inv X pins σ H { s with heap := h' } := mI.turned (t' := s.toks) I nI kp
  have hS1 : h'.get? S = some (seqObj "list" #[] c) := kp _ _ hne hS
  show wpAny _ X.A.in1 (tryCatch (holding [x] (call (.ref fa) [x])) _ >>= _) _ _ _
  refine wpAny_bind (wpAny_tryCatch (wpAny_holding (wpAny_mono (C S0.start lF hco I1 rx rxv (hsp e0 List.mem_cons_self)) (fun kx s2 hq => ?_) fun _ _ z => z.elim)))
  obtain ⟨kv2, H2, F2, d2, M2, I2, rk2, S2, rd2, ⟨eM, rfl⟩, un⟩ := hq
  have eM := eM.symm
  subst eM
  have Sj : Sim N ⟨H, M, F0⟩ F2 (hideD ρ) M σ' H2 := S0.start.back S2
  have le2 : Le F0 F2 := S2.le0
  obtain ⟨hS2, nS2⟩ := un S _ hS1 nS mS.fs
  obtain ⟨oI, hoI, hcI, hdI⟩ := id hit'
  obtain ⟨hI2, nI2⟩ := un it _ hoI nI mI.fs
  show wpAny _ X.A.in1 (updateSeq S (fun _ => #[x, kx]) >>= _) _ _ _
  refine wpAny_bind ?_
  refine wpAny_updateSeq hS2 rfl ?_
  rw [nm]
  have sm := Heap.SameBut.update s2.heap S (Obj.mapSeq fun _ => #[x, kx])
  obtain ⟨c3, hS3⟩ : ∃ c3, (s2.heap.update S (Obj.mapSeq fun _ => #[x, kx])).get? S = some (seqObj "list" #[x, kx] c3) := ⟨_, get?_update_seq hS2 fun _ => #[x, kx]⟩
  have I3 := mS.turned (t' := s2.toks) I2 nS2 (fun a o na e => (sm.2 a na).trans e)
  refine wpAny_pure ⟨plainId_quiet PySem.F.plain_min_loop _, min_loop (es := e0 :: es) C hu hh S0 lF hco rl vl hk hsp mI mS hne (e0 := e0) (fun u s' H' F' v a1 a2 a3 a4 => hR u s' H' F' v a1 a2 a3 a4) _ 0 _ e0 x kx rfl (by simp) List.mem_cons_self rfl ⟨⟨H2, F2, xv, kv2, c3, I3, Sj, nS2, nI2, rx, rxv.mono le2, rk2, rd2, hS3⟩, ⟨oI, (sm.2 it hne.symm).trans hI2, hcI, hdI⟩⟩⟩
/-- of an empty list the default -/
theorem min_empty {it S pp : Addr} {H : Hp} {d : Value} {x : Str} {kw : List (Str × Value)} {f : Value} {R : Result → Shared → Prop} {s : Shared} {c : Nat} (hh : X.A.in1.handled = none) (mI : Mine X pins it) (mS : Mine X pins S) (hne : S ≠ it)
    (I : L2.Inv X pins σ H s) (nS : H S = none) (nI : H it = none) (hS : s.heap.get? S = some (seqObj "list" #[] c)) (hit : s.heap.IsListIter it pp 0) (hl : s.heap.IsList pp #[])
    (hR : ∀ s', L2.Inv X pins σ H s' → R (.ok (.ret d)) s') : codeAny (model X.prog X.w) X.A (.builtin "min.loop" ⟨[.ref it, f, .ref S], (x, d) :: kw⟩) R s := by
  refine codeAny_builtin PySem.F.entry_min_loop ?_
  rw [Around.under_plainId PySem.F.plain_min_loop _]
  show wpAny _ X.A.in1 (seqItems? (.ref S) >>= _) _ _ s
  refine wpAny_bind (wpAny_seqItems hS rfl ?_)
  show wpAny _ X.A.in1 (tryCatch (pyNext (.ref it)) _ >>= _) _ _ s
  refine wpAny_bind (wpAny_tryCatch (wpAny_pyNext_list_end hh hit hl rfl fun h' ext => ?_))
  have kp : ∀ a o, a ≠ it → s.heap.get? a = some o → h'.get? a = some o := fun a o na e => ext a o na e
  have I1 := mI.turned (t' := s.toks) I nI kp
  show wpAny _ X.A.in1 (rule _ >>= _) _ _ _
  exact wpAny_bind (wpAny_rule (wpAny_pure (hR _ I1)))
theorem mine_two {H : Hp} {s : Shared} (I : L2.Inv X pins σ H s) {o1 o2 : Obj} (ho : o1.isFreed = false) : let h1 := s.heap.push o1
    let h2 := h1.push o2
    L2.Inv X pins σ H { s with heap := h2 } ∧ Mine X pins s.heap.objs.size ∧ Mine X pins h1.objs.size ∧ h1.objs.size ≠ s.heap.objs.size ∧ H s.heap.objs.size = none ∧ H h1.objs.size = none ∧ h2.get? s.heap.objs.size = h1.get? s.heap.objs.size := by
  have hz : (s.heap.push o1).objs.size = s.heap.objs.size + 1 := size_push' _ _
  have I1 : L2.Inv X pins σ H { s with heap := s.heap.push o1 } := I.kept (t' := s.toks) fun b u q => Heap.get?_push_of_some _ q
  have I2 : L2.Inv X pins σ H { s with heap := (s.heap.push o1).push o2 } := I1.kept (t' := s.toks) fun b u q => Heap.get?_push_of_some _ q
  refine ⟨I2, mine_of I (Nat.le_refl _), mine_of I1 (Nat.le_refl _), by omega, I.hok.fresh (Nat.le_refl _), I1.hok.fresh (Nat.le_refl _), ?_⟩
  rw [Heap.get?_push_size _ ho]
  exact Heap.get?_push_of_some _ (Heap.get?_push_size _ ho)
theorem min_whole {fa pp : Addr} {sp : DSp} {co : List (Addr × Str)} {Fc F0 H : Hp} {Z : Ety} {ρ : Env} {M : Mem} {σ' : L2.St} {dl e0 : DL.D} {es : List DL.D} {kf : DL.D → DL.D} {Q : VK} {E : Value → Shared → Prop} {s : Shared}
    (C : Callee X N pins σ X.A.in1 fa sp co Fc) (hu : X.A.units + 64 < cLine) (hh : X.A.in1.handled = none) (S0 : Sim N Z F0 ρ M σ' H) (lF : Le Fc F0) (hco : ∀ p ∈ co, H p.1 = some (LamX.CodeO p.1 p.2)) (rl : Rep N F0 dl (.ref pp)) (vl : view M dl = .lst (e0 :: es))
    (hk : MinOk ((e0 :: es).map kf)) (hsp : ∀ e ∈ e0 :: es, sp [e] M (fun d M' => M' = M ∧ d = kf e)) (I : L2.Inv X pins σ H s)
    (hQ : ∀ v H' F', Sim N Z F' ρ M σ' H' → Le F0 F' → Rep N F' (minBy ltD kf e0 es) v → Q v H') :
    wpAny (model X.prog X.w) X.A (call (.builtin "min") [.ref pp] [(Str.ofString "key", .ref fa)]) (EP X pins σ Q) E s := by
  have nm : (toString "min" ++ toString ".loop" : String) = "min.loop" := by decide
  have vr := rl.view S0
  rw [vl] at vr
  obtain ⟨pp', vs, ep, hr2, hz, re⟩ := vr
  cases ep
  obtain ⟨its, rits, ⟨ol, nl, g1, g2, g3, g4⟩, z⟩ := I.list (SqL.of (K := X.K) hr2)
  have hl : s.heap.IsList pp its.toArray := ⟨ol, g1, g2, nl, g4⟩
  refine PyProof.Rows.kmk_tree PySem.F.kind_min PySem.F.plain_min PySem.F.entry_min (PyProof.Rows.kmk_min_key _ _) ?_
  show wpAny _ X.A.in1 (Builtin.Builtins.bindParams "min" ["key", "default"] 0 ⟨[], [(Str.ofString "key", .ref fa)]⟩ >>= _) _ _ s
  refine wpAny_bind (wpAny_of_eq (show Builtin.Builtins.bindParams "min" ["key", "default"] 0 ⟨[], [(Str.ofString "key", .ref fa)]⟩ = pure [some (.ref fa), none] from rfl) ?_)
  refine wpAny_bind (wpAny_pure ?_)
  refine wpAny_bind (wpAny_pyIter_list hl ?_)
  refine wpAny_bind (wpAny_newObj_type ?_)
  rw [nm]
  obtain ⟨I2, mI, mS, hne, nI, nS, eI⟩ := mine_two I rfl (o1 := { cls := .type "list_iterator", data := .fields #[.ref pp, .int 0 0] }) (o2 := { cls := .type "list", data := .seq #[] 0 })
  refine wpAny_pure ⟨plainId_quiet PySem.F.plain_min_loop _, min_first C hu hh S0 lF hco rl vl hk hsp mI mS hne I2 nS nI (c := 0) (Heap.get?_push_size _ rfl) ⟨_, eI.trans (Heap.get?_push_size _ rfl), rfl, rfl⟩ fun u s' H' F' v I' S' r' re' => ?_⟩
  exact ⟨v, H', I', r', hQ v H' F' (S0.back S') S'.le0 re'⟩
theorem min_wholeD {fa pp : Addr} {sp : DSp} {co : List (Addr × Str)} {Fc F0 H : Hp} {Z : Ety} {ρ : Env} {M : Mem} {σ' : L2.St} {dl dd : DL.D} {es : List DL.D} {kf : DL.D → DL.D} {Q : VK} {E : Value → Shared → Prop} {s : Shared} {vd : V} {ud : Value}
    (C : Callee X N pins σ X.A.in1 fa sp co Fc) (hu : X.A.units + 64 < cLine) (hh : X.A.in1.handled = none) (S0 : Sim N Z F0 ρ M σ' H) (lF : Le Fc F0) (hco : ∀ p ∈ co, H p.1 = some (LamX.CodeO p.1 p.2)) (rl : Rep N F0 dl (.ref pp)) (vl : view M dl = .lst es)
    (hk : MinOk (es.map kf)) (hsp : ∀ e ∈ es, sp [e] M (fun d M' => M' = M ∧ d = kf e)) (I : L2.Inv X pins σ H s) (rd : Rep N F0 dd vd) (ed : RelV vd ud)
    (hQ : ∀ v H' F' d, Sim N Z F' ρ M σ' H' → Le F0 F' → Rep N F' d v → (es = [] → d = dd) → (∀ e es', es = e :: es' → d = minBy ltD kf e es') → Q v H') :
    wpAny (model X.prog X.w) X.A (call (.builtin "min") [.ref pp] [(Str.ofString "key", .ref fa), (Str.ofString "default", ud)]) (EP X pins σ Q) E s := by
  have nm : (toString "min" ++ toString ".loop" : String) = "min.loop" := by decide
  have vr := rl.view S0
  rw [vl] at vr
  obtain ⟨pp', vs, ep, hr2, hz, re⟩ := vr
  cases ep
  obtain ⟨its, rits, ⟨ol, nl, g1, g2, g3, g4⟩, z⟩ := I.list (SqL.of (K := X.K) hr2)
  have hl : s.heap.IsList pp its.toArray := ⟨ol, g1, g2, nl, g4⟩
  refine PyProof.Rows.kmk_tree PySem.F.kind_min PySem.F.plain_min PySem.F.entry_min (args_min_key_default _ _ _) ?_
  show wpAny _ X.A.in1 (Builtin.Builtins.bindParams "min" ["key", "default"] 0 ⟨[], [(Str.ofString "key", .ref fa), (Str.ofString "default", ud)]⟩ >>= _) _ _ s
  refine wpAny_bind (wpAny_of_eq (show Builtin.Builtins.bindParams "min" ["key", "default"] 0 ⟨[], [(Str.ofString "key", .ref fa), (Str.ofString "default", ud)]⟩ = pure [some (.ref fa), some ud] from rfl) ?_)
  refine wpAny_bind (wpAny_pure ?_)
  refine wpAny_bind (wpAny_pyIter_list hl ?_)
  refine wpAny_bind (wpAny_newObj_type ?_)
  rw [nm]
  obtain ⟨I2, mI, mS, hne, nI, nS, eI⟩ := mine_two I rfl (o1 := { cls := .type "list_iterator", data := .fields #[.ref pp, .int 0 0] }) (o2 := { cls := .type "list", data := .seq #[] 0 })
  have hit := (⟨_, eI.trans (Heap.get?_push_size _ rfl), rfl, rfl⟩ : Heap.IsListIter _ _ pp 0)
  refine wpAny_pure ⟨plainId_quiet PySem.F.plain_min_loop _, ?_⟩
  cases es with
  | nil =>
    obtain rfl : its = [] := List.length_eq_zero_iff.mp (by rw [← rits.length, re.length]; rfl)
    obtain ⟨its2, rits2, ⟨ol2, nl2, g12, g22, g32, g42⟩, z2⟩ := I2.list (SqL.of (K := X.K) hr2)
    have e2 : its2 = [] := List.length_eq_zero_iff.mp (by rw [← rits2.length, re.length]; rfl)
    subst e2
    refine min_empty hh mI mS hne I2 nS nI (c := 0) (Heap.get?_push_size _ rfl) hit ⟨ol2, g12, g22, nl2, g42⟩ fun s' I' => ?_
    exact ⟨vd, H, I', ed, hQ vd H F0 dd S0 (Le.refl _) rd (fun _ => rfl) fun _ _ z => nomatch z⟩
  | cons e0 es =>
    refine min_first C hu hh S0 lF hco rl vl hk hsp mI mS hne I2 nS nI (c := 0) (Heap.get?_push_size _ rfl) hit fun u s' H' F' v I' S' r' re' => ?_
    exact ⟨v, H', I', r', hQ v H' F' _ (S0.back S') S'.le0 re' (fun z => nomatch z) fun _ _ z => by cases z; rfl⟩
end
section
variable {b : Bz} {A : Around} {κ : Kt} {pos p lpos kp kp2 dpos : Pos} {e1 e2 body : Expr} {T1 T2 Tb : DL.T} {params : Arguments} {scope : Scope}
theorem h_minKL {i k : Nat} (hr : Room (k + 2) A) (L : LamKey b κ i k params body scope Tb) (hm : b.mg "min" = none) (hg : glB κ "min" = true) (hp : plainE e1 = true) (h1 : HE b A κ e1 T1) :
    HE b A κ (.Call (.Name "min" p) [e1] [⟨some "key", .Lambda params body scope lpos, kp⟩] pos) (.minKL T1 i Tb) := fun X c => by
  obtain ⟨t1, p1, r1⟩ := h1 X c
  have pa := pa_cons p1 pa_nil (star_cons (es := []) X.env hp)
  have ha : X.A = A := c.a
  refine ⟨fun σ H Q => t1 σ H fun v H1 => ∃ (Z : Ety) (ρ : Env) (M : Mem) (F0 : Hp) (d e0 : DL.D) (es : List DL.D) (kf : DL.D → DL.D), Sim b.N Z F0 ρ M σ H1 ∧ Rep b.N F0 d v ∧ view M d = .lst (e0 :: es) ∧ MinOk ((e0 :: es).map kf) ∧ (∀ e ∈ e0 :: es, spLam b.B Tb ρ i [e] M fun d M' => M' = M ∧ d = kf e) ∧
      ∀ v H' F', Sim b.N Z F' ρ M σ H' → Le F0 F' → Rep b.N F' (minBy ltD kf e0 es) v → Q v H', ⟨fun pins s σ H Q I h => ?_⟩, fun Z σ H F ρ M Q K S hw hk => ?_⟩
  · refine wpAny_Call_Name_kw (ld_blt I (c.gl hg) (by rw [c.m]; exact hm) boot_min ?_ (by decide) (by decide))
    refine PyProof.Rows.callWith_kw (thn (pa.run pos pins s σ H (fun vs H1 => ∃ v, vs = [v] ∧ ∃ (Z : Ety) (ρ : Env) (M : Mem) (F0 : Hp) (d e0 : DL.D) (es : List DL.D) (kf : DL.D → DL.D), Sim b.N Z F0 ρ M σ H1 ∧ Rep b.N F0 d v ∧ view M d = .lst (e0 :: es) ∧ MinOk ((e0 :: es).map kf) ∧ (∀ e ∈ e0 :: es, spLam b.B Tb ρ i [e] M fun d M' => M' = M ∧ d = kf e) ∧
      ∀ v H' F', Sim b.N Z F' ρ M σ H' → Le F0 F' → Rep b.N F' (minBy ltD kf e0 es) v → Q v H') I ?_) fun us s1 ⟨vs, H1, I1, rx, q1⟩ => ?_) (by rw [star_cons (es := []) X.env hp]; rfl) (by rw [star_cons (es := []) X.env hp]; rfl) (by rfl) (by rfl)
    · exact (show tCons t1 tNil σ H _ from by
        unfold tCons tNil
        refine (?_ : t1 σ H _)
        exact cast (congrArg (t1 σ H) (by funext v H1; simp)) h)
    obtain ⟨v, rfl, Z, ρ, M, F0, d, e0, es, kf, S, r, e, hk, hsp, hQ⟩ := q1
    refine wpAny_evalAll_cons (wpAny_bind (lam_key (A' := X.A.in1) c L (fun I => I.env0.in1) (by rw [ha]; exact (show Room (k + 1) A.in1 from Room.in1 hr)) I1 S fun f o co H2 s2 I2 S2 hco C => wpAny_bind (wpAny_standAt (wpAny_pure (wpAny_evalAll_nil ?_)))))
    show wpAny _ _ (call (.builtin "min") us [(Str.ofString "key", .ref f)]) _ _ s2
    refine wpAny_mono (?_ : wpAny (model X.prog X.w) X.A (call (.builtin "min") us [(Str.ofString "key", .ref f)]) (EP X ((f, o) :: pins) σ Q) X.xe s2) (fun w s3 z => ep_unpin z) fun _ _ z => z
    have vr := r.view S
    rw [e] at vr
    obtain ⟨pp', vs, ep, hr2, hz, re⟩ := vr
    subst ep
    obtain ⟨u, rfl, ru⟩ := rx.one
    obtain rfl : u = Value.ref pp' := ru
    exact min_whole C c.hu (by rw [ha]; exact (show Room (k + 1) A.in1 from Room.in1 hr).hd) S2 (Le.refl _) hco r e hk hsp I2 hQ
  · refine r1 Z σ H F ρ M _ _ S hw fun v H1 F1 d ρ1 M1 S1 l r ⟨e0, es, kf, e1', e2', e3', e4'⟩ => ?_
    exact ⟨Z, ρ1, M1, F1, d, e0, es, kf, S1, r, e1', e2', fun e m => ⟨e, rfl, e3' e m⟩, fun v H' F' S' l' r' => hk v H' F' _ ρ1 M1 S' (l.trans l') r' e4'⟩
theorem h_minKLD {j} {i k : Nat} (hr : Room (k + 2) A) (L : LamKey b κ i k params body scope Tb) (hm : b.mg "min" = none) (hg : glB κ "min" = true) (hp : plainE e1 = true) (h1 : HE b A κ e1 T1) :
    HE b A κ (.Call (.Name "min" p) [e1] [⟨some "key", .Lambda params body scope lpos, kp⟩, ⟨some "default", .Constant .none j dpos, kp2⟩] pos) (.minKLD T1 i Tb .non) := fun X c => by
  obtain ⟨t1, p1, r1⟩ := h1 X c
  have pa := pa_cons p1 pa_nil (star_cons (es := []) X.env hp)
  have ha : X.A = A := c.a
  refine ⟨fun σ H Q => t1 σ H fun v H1 => ∃ (Z : Ety) (ρ : Env) (M : Mem) (F0 : Hp) (d : DL.D) (es : List DL.D) (kf : DL.D → DL.D), Sim b.N Z F0 ρ M σ H1 ∧ Rep b.N F0 d v ∧ view M d = .lst es ∧ MinOk (es.map kf) ∧ (∀ e ∈ es, spLam b.B Tb ρ i [e] M fun d M' => M' = M ∧ d = kf e) ∧
      ∀ v H' F' d, Sim b.N Z F' ρ M σ H' → Le F0 F' → Rep b.N F' d v → (es = [] → d = .non) → (∀ e es', es = e :: es' → d = minBy ltD kf e es') → Q v H', ⟨fun pins s σ H Q I h => ?_⟩, fun Z σ H F ρ M Q K S hw hk => ?_⟩
  · refine wpAny_Call_Name_kw (ld_blt I (c.gl hg) (by rw [c.m]; exact hm) boot_min ?_ (by decide) (by decide))
    refine PyProof.Rows.callWith_kw (thn (pa.run pos pins s σ H (fun vs H1 => ∃ v, vs = [v] ∧ ∃ (Z : Ety) (ρ : Env) (M : Mem) (F0 : Hp) (d : DL.D) (es : List DL.D) (kf : DL.D → DL.D), Sim b.N Z F0 ρ M σ H1 ∧ Rep b.N F0 d v ∧ view M d = .lst es ∧ MinOk (es.map kf) ∧ (∀ e ∈ es, spLam b.B Tb ρ i [e] M fun d M' => M' = M ∧ d = kf e) ∧
      ∀ v H' F' d, Sim b.N Z F' ρ M σ H' → Le F0 F' → Rep b.N F' d v → (es = [] → d = .non) → (∀ e es', es = e :: es' → d = minBy ltD kf e es') → Q v H') I ?_) fun us s1 ⟨vs, H1, I1, rx, q1⟩ => ?_) (by rw [star_cons (es := []) X.env hp]; rfl) (by rw [star_cons (es := []) X.env hp]; rfl) (by rfl) (by rfl)
    · exact (show tCons t1 tNil σ H _ from by
        unfold tCons tNil
        refine (?_ : t1 σ H _)
        exact cast (congrArg (t1 σ H) (by funext v H1; simp)) h)
    obtain ⟨v, rfl, Z, ρ, M, F0, d, es, kf, S, r, e, hk, hsp, hQ⟩ := q1
    refine wpAny_evalAll_cons (wpAny_bind (lam_key (A' := X.A.in1) c L (fun I => I.env0.in1) (by rw [ha]; exact (show Room (k + 1) A.in1 from Room.in1 hr)) I1 S fun f o co H2 s2 I2 S2 hco C => wpAny_bind (wpAny_standAt (wpAny_pure (wpAny_evalAll_cons (wpAny_bind (wpAny_Constant_none (wpAny_bind (wpAny_standAt (wpAny_pure (wpAny_evalAll_nil ?_)))))))))))
    show wpAny _ _ (call (.builtin "min") us [(Str.ofString "key", .ref f), (Str.ofString "default", .none)]) _ _ s2
    refine wpAny_mono (?_ : wpAny (model X.prog X.w) X.A (call (.builtin "min") us [(Str.ofString "key", .ref f), (Str.ofString "default", .none)]) (EP X ((f, o) :: pins) σ Q) X.xe s2) (fun w s3 z => ep_unpin z) fun _ _ z => z
    have vr := r.view S
    rw [e] at vr
    obtain ⟨pp', vs, ep, hr2, hz, re⟩ := vr
    subst ep
    obtain ⟨u, rfl, ru⟩ := rx.one
    obtain rfl : u = Value.ref pp' := ru
    exact min_wholeD C c.hu (by rw [ha]; exact (show Room (k + 1) A.in1 from Room.in1 hr).hd) S2 (Le.refl _) hco r e hk hsp I2 (rep_non.mpr rfl) rfl hQ
  · refine r1 Z σ H F ρ M _ _ S hw fun v H1 F1 d ρ1 M1 S1 l r q => ?_
    unfold wpE at q
    obtain ⟨es, kf, e1', e2', e3', e4', e5'⟩ := q
    refine ⟨Z, ρ1, M1, F1, d, es, kf, S1, r, e1', e2', fun e m => ⟨e, rfl, e3' e m⟩, fun v H' F' d S' l' r' z1 z2 => hk v H' F' _ ρ1 M1 S' (l.trans l') r' ?_⟩
    cases es with
    | nil => rw [z1 rfl]; exact e4' rfl
    | cons e es' => rw [z2 e es' rfl]; exact e5' e es' rfl
end
end DL

set_option Elab.async false
set_option linter.all false
set_option maxRecDepth 100000
/-! dict comprehensions -/
namespace DL
open PySem L2 PySem.W
section
variable {J : It} {n : Nat} {G : Hp → Prop} {Y : Nat → Hp → V → Hp → Prop}
theorem dc_it (w : L2.Walk J n G Y) {g : TG} {tt : TT} {tk tv : TE} {vs : List Nat} {σ : L2.St} {H1 : Hp} {D : Addr} {Qd : Hp → Prop} (Pv : Nat → Hp → Prop) (h0 : Pv 0 (upd H1 D (.dK []))) (hG : ∀ i H, i ≤ n → Pv i H → G H)
    (hs : ∀ i x H H', i < n → Pv i H → Y i H x H' → g x (L2.wipe σ vs) H' fun σ2 H2 => L2.wipe σ2 vs = L2.wipe σ vs ∧ tt σ2 H2 fun b H3 =>
      if b = true then tk σ2 H3 fun y H4 => tv σ2 H4 fun z H5 => ∃ kvs k, y = kV k ∧ H5 D = some (.dK kvs) ∧ kvs.length < sizeLine ∧ Pv (i + 1) (upd H5 D (.dK (putK kvs k z))) else Pv (i + 1) H3) (hd : ∀ H, Pv n H → Qd H) :
    ∃ W : Nat → Nat → Hp → Prop, (∃ m, W 0 m (upd H1 D (.dK []))) ∧ ∀ i m H, W i m H →
      (J.stop i H ∧ Qd H) ∨ (J.go i H ∧ ∃ Nx : Hp → Prop, (∀ H', Nx H' → ∃ m', m' < m ∧ W (i + 1) m' H') ∧ ∀ x H', J.yld i H x H' → g x (L2.wipe σ vs) H' fun σ2 H2 => L2.wipe σ2 vs = L2.wipe σ vs ∧ tt σ2 H2 fun b H3 =>
        if b = true then tk σ2 H3 fun y H4 => tv σ2 H4 fun z H5 => ∃ kvs k, y = kV k ∧ H5 D = some (.dK kvs) ∧ kvs.length < sizeLine ∧ Nx (upd H5 D (.dK (putK kvs k z))) else Nx H3) := by
  refine ⟨fun i m H => m = n - i ∧ i ≤ n ∧ Pv i H, ⟨n, by simp, Nat.zero_le _, h0⟩, ?_⟩
  rintro i m H ⟨rfl, hi, p⟩
  have q := hG i H hi p
  by_cases hlt : i < n
  · refine .inr ⟨w.goes i H hlt q, Pv (i + 1), fun H' p' => ⟨n - (i + 1), by omega, rfl, hlt, p'⟩, fun x H' y => hs i x H H' hlt p (w.yields i H x H' hlt q y)⟩
  · have e : i = n := by omega
    subst e
    exact .inl ⟨w.stops H q, hd H p⟩
end
section
variable {X : Cx} {N : Nam} {B : Tab} {pos : Pos}
theorem dput_fst_len {ks : List Key} {ds : List D} (j : Key) (x : D) (h : ks.length = ds.length) : (dput ks ds j x).2.length ≤ ds.length + 1 := by
  induction ks generalizing ds with
  | nil => cases ds with
    | nil => unfold dput; simp
    | cons d ds => cases h
  | cons k ks ih => cases ds with
    | nil => cases h
    | cons d ds =>
      unfold dput
      split
      · simp
      · have := ih (ds := ds) (by simpa using h)
        simp only [List.length_cons]
        omega
theorem or_dcomp {wi : TI} {wI : WA} {g : TG} {tg : T} {tt : TT} {wc : Env → Mem → (Bool → Env → Mem → Prop) → Prop} {tk tv : TE} {wk wv : WE} {own : List Nat} {K : PySem.W.Frag} (hi : IR N wi wI) (hg : GR N K g tg) (hc : CR' N tt wc) (hk : ER N tk wk) (hv : ER N tv wv) (hs : ∀ i ∈ slotsT tg, i ∈ own) :
    OR' N (tDc wi g tt tk tv own) (fun ρ M Q => wI ρ M fun ds ρ M => compD (fun d M K => bindP tg d (hideD (wipeD ρ own)) fun ρ1 => wc ρ1 M fun b ρ2 M1 => ρ2 = ρ1 ∧
      iteN (Bool.toNat b) (wk ρ1 M1 fun x ρ3 M2 => ρ3 = ρ1 ∧ wv ρ1 M2 fun y ρ4 M3 => ρ4 = ρ1 ∧ K (some (x, y)) M3) (K none M1)) ds [] [] M fun ks es M => Q (.dct ks es) ρ M) := by
  intro Z σ H F ρ M Q KK S hw hkk
  refine hi Z σ H F ρ M _ _ S hw fun J H1 F1 ds ρ0 M1 S1 l1 ⟨hz, G, Y, w, hG, hY⟩ q1 D hD => ?_
  refine dc_it w (fun i H' => ∃ F' M' ks es, Sim N Z F' (ρ0 ++ [.own (.K ks es)]) M' (σ ++ [some (.ref D)]) H' ∧ Le F1 F' ∧ es.length ≤ i ∧ ks.length = es.length ∧ compD (fun d M K => bindP tg d (hideD (wipeD ρ0 own)) fun ρ1 => wc ρ1 M fun b ρ2 M1 => ρ2 = ρ1 ∧
      iteN (Bool.toNat b) (wk ρ1 M1 fun x ρ3 M2 => ρ3 = ρ1 ∧ wv ρ1 M2 fun y ρ4 M3 => ρ4 = ρ1 ∧ K (some (x, y)) M3) (K none M1)) (ds.drop i) ks es M' fun ks es M => Q (.dct ks es) ρ0 M) ?_ ?_ ?_ ?_
  · exact ⟨F1, M1, [], [], S1.newO hD ⟨[], upd_same, rfl, Nat.zero_le _, List.nodup_nil, reps_nil.mpr rfl⟩, Le.refl _, Nat.le_refl _, rfl, q1⟩
  · rintro i H' _ ⟨F', M', ks, es, S', l', _, _, _⟩
    exact hG Z F' H' _ M' _ S' l'
  · rintro i x H2 H3 hlt ⟨F2, M2, ks, es, S2, l2, ha, hkl, q2⟩ y
    obtain ⟨F3, d, hd, S3, l3, r3⟩ := hY Z F2 H2 _ M2 _ i x H3 S2 l2 hlt y
    have ed : ds.drop i = d :: ds.drop (i + 1) := by
      obtain ⟨h1, h2⟩ := List.getElem?_eq_some_iff.mp hd
      rw [List.drop_eq_getElem_cons h1, h2]
    rw [ed, compD_consE] at q2
    have q2 : bindP tg d (hideD (wipeD ρ0 own)) _ := q2
    have S4 := S3.block S1.len own
    refine hg _ _ H3 F3 _ M2 d x _ _ S4 r3 q2 fun σ5 ρ5 S5 k5 q5 => ⟨?_, ?_⟩
    · rw [k5 own hs, wipe_wipe]
    · refine hc _ σ5 H3 F3 ρ5 M2 _ _ S5 q5 fun b H6 F6 ρ6 M6 S6 l6 ⟨e6, q6⟩ => ?_
      subst e6
      cases b with
      | false =>
        have S7 := S3.back S6
        exact ⟨F6, M6, ks, es, S7, (l2.trans l3).trans l6, by omega, hkl, q6⟩
      | true =>
        refine hk _ σ5 H6 F6 ρ6 M6 _ _ S6 q6 fun v H7 F7 d7 ρ7 M7 S7 l7 r7 ⟨e7, q7⟩ => ?_
        subst e7
        refine hv _ σ5 H7 F7 ρ7 M7 _ _ S7 q7 fun v8 H8 F8 d8 ρ8 M8 S8 l8 r8 ⟨e8, j, kj, q8⟩ => ?_
        have S9 := S3.back S8
        have e8 : (ρ0 ++ [LV.own (.K ks es)])[ρ0.length]? = some (.own (.K ks es)) := by simp
        obtain ⟨p', hp', ⟨vs, h1, h2, h3, h4, h5⟩, _⟩ := S9.ownAt e8
        have ep : p' = D := by
          rw [S1.len] at hp'
          simp at hp'
          exact hp'.symm
        subst ep
        have ez : (ks.zip vs).length = vs.length := by rw [List.length_zip, h2, Nat.min_self]
        have hl : (ks.zip vs).length < sizeLine := by rw [ez, h5.length]; omega
        obtain ⟨us, k1, k2, k3⟩ := dput_v (j := j) r8 h4 h2 h5
        have hlen : us.length ≤ sizeLine := by
          have := length_putK (ks.zip vs) j v8
          rw [k1, List.length_zip, k2, Nat.min_self, ez, h5.length] at this
          omega
        refine ⟨ks.zip vs, j, key_v kj (r7.mono l8), h1, hl, F8, M8, (dput ks es j d8).1, (dput ks es j d8).2, ?_, (((l2.trans l3).trans l6).trans l7).trans l8, ?_, dput_len j d8 hkl, q8⟩
        · have S10 := S9.putO (c' := .K (dput ks es j d8).1 (dput ks es j d8).2) (ho := .dK (putK (ks.zip vs) j v8)) e8 hp' (by rw [k1]; exact ⟨us, upd_same, k2, hlen, dput_nodup h4, k3⟩)
          have e9 : (ρ0 ++ [LV.own (.K ks es)]).set ρ0.length (.own (.K (dput ks es j d8).1 (dput ks es j d8).2)) = ρ0 ++ [.own (.K (dput ks es j d8).1 (dput ks es j d8).2)] := by
            rw [List.set_append_right _ _ (Nat.le_refl _)]
            simp
          rw [e9] at S10
          exact S10
        · have := dput_fst_len j d8 hkl
          omega
  · rintro H' ⟨F', M', ks, es, S', l', _, _, q'⟩
    rw [List.drop_length, compD_nilE] at q'
    exact hkk D H' F' (.K ks es) ρ0 M' S' S1.len (l1.trans l') q'
theorem sw_trueD {kx vx : Expr} {gs : List Comprehension} {scope : Scope} {pos py : Pos} {y : Str} {l : Nat} {env : PySem.Env} (hk : env.scope.kind = .function) (hy : env.scope.names.lookup y = some .local) (hl : (py.line == pos.line) = true)
    (ha : (scope.names.any fun (n, k) => n == y && (k == .local || k == .cell)) = false) : swapsWith (.DictComp kx vx gs scope pos) (some (.Name y py)) l env = pure true := by
  have ky : env.kindOf y = some .local := hy
  have hb : env.blockKind = .function := by unfold PySem.Env.blockKind; rw [hk]; rfl
  unfold swapsWith
  simp only [hb, ky, ha, Expr.pos, hl]
  rfl
theorem ps_setDc {i : Nat} {y : Str} {py : Pos} {kx vx tg iter : Expr} {ifs : List Expr} {scope : Scope} {own : List (Str × Nat)} {pos spos : Pos} {wi : TI} {g : TG} {tt : TT} {tk tv : TE} (hc : X.calm = true) (hN : X.N.Nodup) (hy : X.N[i]? = some y) (hyl : X.env.scope.names.lookup y = some .local)
    (hsw : swapsWith (.DictComp kx vx [⟨tg, iter, ifs, 0⟩] scope pos) (some (.Name y py)) spos.line X.env = pure true) (hi : PI X tg iter wi) (ok : BlkOk X.N X.env.scope scope own)
    (hg : ∀ (s : Shared) (H : Hp) (C : Addr) (cl : List (Str × Addr)) (fp : List Addr), PG (X.blk s H scope (compEnvC scope cl C X.env) fp) tg g) (ht : ∀ (s : Shared) (H : Hp) (C : Addr) (cl : List (Str × Addr)) (fp : List Addr), PTs (X.blk s H scope (compEnvC scope cl C X.env) fp) ifs tt)
    (hk : ∀ (s : Shared) (H : Hp) (C : Addr) (cl : List (Str × Addr)) (fp : List Addr), PE (X.blk s H scope (compEnvC scope cl C X.env) fp) kx tk)
    (he : ∀ (s : Shared) (H : Hp) (C : Addr) (cl : List (Str × Addr)) (fp : List Addr), PE (X.blk s H scope (compEnvC scope cl C X.env) fp) vx tv) (hs : ∀ x, foldedSetIterable iter X.env x = pure x := by intro _; rfl) :
    PS X (.Assign [.Name y py] (.DictComp kx vx [⟨tg, iter, ifs, 0⟩] scope pos) spos) (tAsg (tDc wi g tt tk tv (own.map (·.2))) (gName i)) := by
  refine ⟨fun pins s σ H D I h => ?_⟩
  rw [exec_Assign_Name_used _ _ _ _ hsw]
  refine wpAny_bind (wpAny_standAt (wpAny_bind ?_))
  show wpAny _ X.A (do let _ ← comprehension (.DictComp kx vx [⟨tg, iter, ifs, 0⟩] scope pos) scope X.env (firstIterPos [⟨tg, iter, ifs, 0⟩] pos) newDict false (eval iter X.env) (some (assign (.Name y py) X.env))) _ _ s
  have h : tDc wi g tt tk tv (own.map (·.2)) σ H (fun x H1 => gName i x σ H1 D.nx) := h
  refine wpAny_bind (thn (dc_core (Qf := fun _ s' => SP X pins D .next s') hc hN I hi ok hg ht hk he hs h fun L C s' m H' I' q hn f => ?_) fun _ s' hq => wpAny_pure (wpAny_pure hq))
  show wpAny _ _ (assign (.Name y py) X.env (.ref L)) _ _ _
  refine wpAny_assign_Name (store_ok2 (v := V.ref L) I' hN hy (.inl hyl) rfl (fun s2 I2 ⟨a, sb, ha⟩ => ?_) (.inr hyl))
  obtain ⟨f0, f1, f2, f3, f4, f5⟩ := f
  have haC : C ≠ a := by
    rcases ha with z | z
    · rw [z]; exact f1
    · exact fun e => f4 y a z e.symm
  refine ⟨m, hn.sameBut sb haC, fun h3 sb3 => ?_⟩
  exact ⟨_, H', I2.turned (t' := s2.toks) (fun b o hb e => (sb3.2 b hb).trans e) f0 f1 f3 f4 f5, q⟩
end
section
variable {b : Bz} {A : Around} {κ : Kt} {pos pos' p p1 p2 p3 apos cpos tpos spos py : Pos} {e e1 e2 e3 c o tg iter kx vx value : Expr} {es rest ifs : List Expr} {T0 T1 T2 T3 Tr Tg Ti Tc To Tk Tv : DL.T}
theorem dcomp_er {X : Cx} {scope : Scope} {own : List (Str × Nat)} (c : Cok b A κ X) (ok : CompOk κ scope own Tg) (hi : HI b A κ tg iter Ti) (hg : HG b A (κ.sub scope) tg Tg) (hc : HC b A (κ.sub scope) ifs Tc) (hk : HE b A (κ.sub scope) kx Tk) (he : HE b A (κ.sub scope) vx Tv) :
    ∃ wi g tt tk tv, PI X tg iter wi ∧ BlkOk X.N X.env.scope scope own ∧ (∀ (s : Shared) (H : Hp) (C : Addr) (cl : List (Str × Addr)) (fp : List Addr), PG (X.blk s H scope (compEnvC scope cl C X.env) fp) tg g) ∧ (∀ (s : Shared) (H : Hp) (C : Addr) (cl : List (Str × Addr)) (fp : List Addr), PTs (X.blk s H scope (compEnvC scope cl C X.env) fp) ifs tt) ∧
      (∀ (s : Shared) (H : Hp) (C : Addr) (cl : List (Str × Addr)) (fp : List Addr), PE (X.blk s H scope (compEnvC scope cl C X.env) fp) kx tk) ∧ (∀ (s : Shared) (H : Hp) (C : Addr) (cl : List (Str × Addr)) (fp : List Addr), PE (X.blk s H scope (compEnvC scope cl C X.env) fp) vx tv) ∧ OR' b.N (tDc wi g tt tk tv (own.map (·.2))) (wpE b.B (.dcomp (own.map (·.2)) Tg Ti Tc Tk Tv)) := by
  obtain ⟨wi, p1, r1⟩ := hi X c
  obtain ⟨g, p2, r2⟩ := hg.uni
  obtain ⟨tt, p3, r3⟩ := hc.uni
  obtain ⟨tk, p4, r4⟩ := hk.uni
  obtain ⟨tv, p5, r5⟩ := he.uni
  exact ⟨wi, g, tt, tk, tv, p1, by rw [c.n, c.s]; exact blkOk_by ok.blk, fun s H C cl fp => p2 _ (c.blk scope s H C cl fp), fun s H C cl fp => p3 _ (c.blk scope s H C cl fp), fun s H C cl fp => p4 _ (c.blk scope s H C cl fp), fun s H C cl fp => p5 _ (c.blk scope s H C cl fp), or_dcomp r1 r2 r3 r4 r5 ok.slots⟩
theorem o_dcomp {scope : Scope} (own : List (Str × Nat)) (ok : CompOk κ scope own Tg) (hf : ∀ (env : PySem.Env) x, foldedSetIterable iter env x = pure x) (hi : HI b A κ tg iter Ti) (hg : HG b A (κ.sub scope) tg Tg) (hc : HC b A (κ.sub scope) ifs Tc) (hk : HE b A (κ.sub scope) kx Tk) (he : HE b A (κ.sub scope) vx Tv) :
    HO b A κ (.DictComp kx vx [⟨tg, iter, ifs, 0⟩] scope pos) (.dcomp (own.map (·.2)) Tg Ti Tc Tk Tv) := fun X c => by
  obtain ⟨wi, g, tt, tk, tv, q1, q2, q3, q4, q5, q6, q7⟩ := dcomp_er c ok hi hg hc hk he
  exact ⟨_, pe_dc c.c c.nd q1 q2 q3 q4 q5 q6 (hf X.env), q7⟩
theorem setDc {X : Cx} {scope : Scope} (i : Nat) {x : Str} (own : List (Str × Nat)) (c : Cok b A κ X) (h1 : κ.ns[i]? = some x) (h2 : lclB κ x = true) (hk : κ.sc.kind = .function) (hl : (py.line == pos.line) = true) (ha : (scope.names.any fun (n, k) => n == x && (k == .local || k == .cell)) = false)
    (ok : CompOk κ scope own Tg) (hf : ∀ (env : PySem.Env) x, foldedSetIterable iter env x = pure x) (hi : HI b A κ tg iter Ti) (hg : HG b A (κ.sub scope) tg Tg) (hc : HC b A (κ.sub scope) ifs Tc) (hkx : HE b A (κ.sub scope) kx Tk) (he : HE b A (κ.sub scope) vx Tv) :
    ∃ t, PS X (.Assign [.Name x py] (.DictComp kx vx [⟨tg, iter, ifs, 0⟩] scope pos) spos) (tAsg t (gName i)) ∧ OR' b.N t (wpE b.B (.dcomp (own.map (·.2)) Tg Ti Tc Tk Tv)) := by
  obtain ⟨wi, g, tt, tk, tv, q1, q2, q3, q4, q5, q6, q7⟩ := dcomp_er c ok hi hg hc hkx he
  exact ⟨_, ps_setDc c.c c.nd (by rw [c.n]; exact h1) (c.lcl h2) (sw_trueD (by rw [c.s]; exact hk) (c.lcl h2) hl ha) q1 q2 q3 q4 q5 q6 (hf X.env), q7⟩
theorem s_setDC {scope : Scope} (i : Nat) {x : Str} (own : List (Str × Nat)) (h1 : κ.ns[i]? = some x) (h2 : lclB κ x = true) (hk : κ.sc.kind = .function) (hl : (py.line == pos.line) = true) (ha : (scope.names.any fun (n, k) => n == x && (k == .local || k == .cell)) = false)
    (ok : CompOk κ scope own Tg) (hf : ∀ (env : PySem.Env) x, foldedSetIterable iter env x = pure x) (hi : HI b A κ tg iter Ti) (hg : HG b A (κ.sub scope) tg Tg) (hc : HC b A (κ.sub scope) ifs Tc) (hkx : HE b A (κ.sub scope) kx Tk) (he : HE b A (κ.sub scope) vx Tv) :
    HS b A κ (.Assign [.Name x py] (.DictComp kx vx [⟨tg, iter, ifs, 0⟩] scope pos) spos) (.set i (.dcomp (own.map (·.2)) Tg Ti Tc Tk Tv)) := fun X c => by
  obtain ⟨t, q1, q2⟩ := setDc (spos := spos) i own c h1 h2 hk hl ha ok hf hi hg hc hkx he
  exact ⟨_, q1, sr_set q2.er⟩
theorem s_setDCO {scope : Scope} (i : Nat) {x : Str} (own : List (Str × Nat)) (h1 : κ.ns[i]? = some x) (h2 : lclB κ x = true) (hk : κ.sc.kind = .function) (hl : (py.line == pos.line) = true) (ha : (scope.names.any fun (n, k) => n == x && (k == .local || k == .cell)) = false)
    (ok : CompOk κ scope own Tg) (hf : ∀ (env : PySem.Env) x, foldedSetIterable iter env x = pure x) (hi : HI b A κ tg iter Ti) (hg : HG b A (κ.sub scope) tg Tg) (hc : HC b A (κ.sub scope) ifs Tc) (hkx : HE b A (κ.sub scope) kx Tk) (he : HE b A (κ.sub scope) vx Tv) :
    HS b A κ (.Assign [.Name x py] (.DictComp kx vx [⟨tg, iter, ifs, 0⟩] scope pos) spos) (.setO i (.dcomp (own.map (·.2)) Tg Ti Tc Tk Tv)) := fun X c => by
  obtain ⟨t, q1, q2⟩ := setDc (spos := spos) i own c h1 h2 hk hl ha ok hf hi hg hc hkx he
  exact ⟨_, q1, sr_setO q2⟩
end
end DL

set_option Elab.async false
set_option linter.all false
set_option maxRecDepth 100000
/-! defs that make lambdas -/
namespace DL
open PySem L2 PySem.W PySem.Spec PyProof.Rows
/-- a def's code object and the table of those that it made -/
def LamD (b : Bz) (fd : FuncData) (q : Str) : Prop := ∃ c P, fd.code = .ref c ∧ LamX.TabB b.base b.mg c P ∧ (P, q) ∈ b.N.tbs ∧ ∀ p ∈ b.N.tbs, p.1 = P → p.2 = q
section
variable {b : Bz} {x qual : Str} {f : Addr} {fd : FuncData} {ns ps : List Str} {k : Nat} {sp : DSp} {T : DL.T}
theorem fn_okL {params : Arguments} {body : List Stmt} {scope : Scope} {dvs : List V} {kws : List (Str × V)} (F : FunD b.K x qual params body scope dvs kws f fd) (S : FnScope ns ps scope) (g : b.Good) (L : LamD b fd (qual ++ ".<locals>." ++ "<lambda>")) (len : ∀ ds M Q, sp ds M Q → ds.length = ps.length) (h : ∀ A, Room k A → HSs b A ⟨ns, scope, fun _ => true, true⟩ body T) (hw : Fits b.B ns.length T sp) :
    FnOk b.P b.w b.K b.mg b.base CX0 (k + 1) f fd ps (liftS b.N sp) := by
  obtain ⟨oc, od, dV, kV, doc, pm, an, cdv, ct, osl, rfl, lk, hcd, _, _⟩ := F.ex
  refine fn_of lk hcd S (lift_len len) fun A outer s H vs Q E hr hl => ?_
  have c0 : Cok b (A.deeper (envOfC qual scope s.heap.objs.size f cdv)) ⟨ns, scope, fun _ => true, true⟩ (cxOf CX0 b.P b.w b.K b.mg b.base ns qual scope f cdv A outer s H E).nox :=
    ⟨g, fun _ => L, rfl, rfl, rfl, rfl, rfl, rfl, rfl, rfl, rfl, rfl, S.nd, rfl, hr.units, fun _ => ⟨rfl, rfl⟩⟩
  obtain ⟨t, p, q⟩ := fit_run c0 (h _ hr) hw hl
  exact ⟨t, p.nox, q⟩
/-- from the head's K -/
theorem lamD_of {params : Arguments} {body : List Stmt} {scope : Scope} {dvs : List V} {kws : List (Str × V)} {q : Str} (p : He.Defn) (F : FunD b.K x qual params body scope dvs kws (He.fAd b.K p) fd) (TB : LamX.TabB b.base b.mg (He.cT b.K p).1 (He.cT b.K p).2) (hm : ((He.cT b.K p).2, q) ∈ b.N.tbs) (hn : (b.N.tbs.map (·.1)).Nodup) : LamD b fd q := by
  obtain ⟨oc, od, dV, kV, doc, pm, an, cdv, ct, osl, rfl, lk, hcd, _, _⟩ := F.ex
  obtain ⟨c, ec⟩ := He.codeIn_ref hcd
  have e : He.codeOf b.K p = c := He.codeOf_eq lk ec
  refine ⟨c, (He.cT b.K p).2, ec, e ▸ TB, hm, fun r mr er => ?_⟩
  have : ∀ {l : List (Addr × Str)} {a b : Addr × Str}, (l.map (·.1)).Nodup → a ∈ l → b ∈ l → a.1 = b.1 → a = b := by
    intro l a b hn ha hb e
    induction l with
    | nil => cases ha
    | cons y l ih =>
      obtain ⟨n1, n2⟩ := List.nodup_cons.mp hn
      rcases List.mem_cons.mp ha with rfl | ha2
      · rcases List.mem_cons.mp hb with rfl | hb2
        · rfl
        · exact absurd (show a.1 ∈ l.map (·.1) from List.mem_map.mpr ⟨b, hb2, e.symm⟩) n1
      · rcases List.mem_cons.mp hb with rfl | hb2
        · exact absurd (show b.1 ∈ l.map (·.1) from List.mem_map.mpr ⟨a, ha2, e⟩) n1
        · exact ih n2 ha2 hb2
  rw [this hn mr hm er]
end
end DL

set_option Elab.async false
set_option linter.all false
set_option maxRecDepth 100000
set_option maxHeartbeats 2000000
/-! sorted of data, list(range(..)), dict.get -/
namespace DL
open PySem L2 PySem.W PySem.Spec PyProof.Rows PySem.Calls
section
variable {X : Cx} {N : Nam}
/-- sorted(xs) of data of one shape -/
def rSortD (N : Nam) (K : PySem.W.Frag) : List V → Hp → VK → Prop := fun vs H Q => ∃ (a : Addr) (xs : List V) (es : List DL.D) (F : Hp), vs = [V.ref a] ∧ (∀ b o, F b = some o → H b = some o) ∧ SqL K H a xs ∧ Reps N F es xs ∧ SortOk es ∧
  ∀ (ys : List V) (p : Addr), Reps N F (es.mergeSort leD) ys → ys.length ≤ sizeLine → H p = none → Q (.ref p) (upd H p (.lst ys))
theorem cr_sortD (hu : X.A.units + 64 < cLine) : CallR X (.builtin "sorted") (rSortD N X.K) := by
  intro pins s σ H vs us Q I r h
  obtain ⟨a, xs, es, F, rfl, sub, hs, re, hk, q⟩ := h
  obtain ⟨its, rv, hl, hz⟩ := I.list hs
  obtain ⟨z1, z2, z3, z4, z5⟩ := hk
  rw [Vals.ref1 r]
  have er := each_reps rv re
  have hlen : its.length = es.length := by rw [← rv.length, re.length]
  have ed : EachIs (fun v d => ∃ as, Reads s.heap v (py d) as) its es := by
    have dp := Reps.dp (K := X.K) sub z2 re
    have h1 : EachIs (fun v d => ∃ as, Reads s.heap v d as) its (pys es) := each_dp (P := fun d v => ∃ as, Reads s.heap v d as) rv dp fun d v u h1 h2 => Dp.reads I d v u h1 h2
    have : ∀ {ds : List DL.D} {us : List Value}, EachIs (fun v d => ∃ as, Reads s.heap v d as) us (ds.map py) → EachIs (fun v d => ∃ as, Reads s.heap v (py d) as) us ds := by
      intro ds
      induction ds with
      | nil => intro us h; cases h; exact .nil
      | cons d ds ih => intro us h; cases h with | cons h1 h2 => exact .cons h1 (ih h2)
    exact this (by rw [← pys_map]; exact h1)
  have hud : ∀ d, d ∈ es → X.A.units + 2 + (py d).depth < cLine := fun d m => by
    have h1 := (lay_py (dats_mem z2 m)).2
    have h2 := deps_mem m
    omega
  refine sorted_data hl.isList er ed (by rw [← pys_map]; exact z4) (by rw [← pys_map]; exact z5) (by rw [← hlen, ← rv.length]; exact hz) hud fun out ho eo => ?_
  obtain ⟨ep, he'⟩ := PyProof.Rows.sortedAll_at s.heap its out.toArray
  obtain ⟨ys, r1, r2⟩ := reps_each eo
  have hzo : ys.length ≤ sizeLine := by rw [r1.length, ho, ← hlen, ← rv.length]; exact hz
  exact ⟨.ref _, upd H (s.heap.objs.size + 1) (.lst ys), I.laid (t' := s.toks) (fun _ _ => PyProof.Rows.sortedAll_old) (Nat.le_succ _) ⟨hzo, out, ep, r1, he'⟩, rfl, q ys _ r2 hzo (I.hok.fresh (Nat.le_succ _))⟩
theorem or_sortD {ta : TA} {wa : WA} (h : AR N ta wa) : OR' N (tCB (rSortD N X.K) ta) (fun ρ M Q => wa ρ M fun ds ρ M => biP M .sortedD ds fun z => Q z ρ M) := fun Z σ H F ρ M Q K S hw hk =>
  h Z σ H F ρ M _ _ S hw fun vs H1 F1 ds ρ1 M1 S1 l r q => by
    obtain ⟨es, rfl, hl, h2⟩ := q
    obtain ⟨v, rfl, r1⟩ := reps1 r
    obtain ⟨a, us, rfl, e, z, w⟩ := rep_lst.mp r1
    refine ⟨a, us, es, F1, rfl, S1.sub, SqL.of (S1.sub _ _ e), w, hl, fun ys p hp hz ha => ?_⟩
    exact hk p _ F1 (.L (es.mergeSort leD)) ρ1 M1 (S1.newO ha ⟨ys, upd_same, hz, hp⟩) S1.len l h2
/-! ### list(range(n)) -/
theorem or_listR {te : TE} {we : WE} (h : ER N te we) : OR' N (tLstRg (tRg1 te)) (fun ρ M Q => we ρ M fun x ρ M => biP M .listR [x] fun z => Q z ρ M) := fun Z σ H F ρ M Q K S hw hk =>
  h Z σ H F ρ M _ _ S hw fun v H1 F1 d ρ1 M1 S1 l r q => by
    obtain ⟨n, e, ⟨h1, h2⟩, q⟩ := q
    cases e
    refine ⟨n, rep_int.mp r, RgOk.of_le (by omega) h2 (by omega) h1, fun p hp => ?_⟩
    have ev : rgV 0 n = (((List.range n.toNat).map fun (k : Nat) => (k : Int)).map V.int) := by
      unfold rgV
      rw [List.map_map, Int.sub_zero]
      refine List.map_congr_left fun k _ => ?_
      show V.int (0 + (k : Int)) = V.int (k : Int)
      rw [Int.zero_add]
    have ed : ((List.range n.toNat).map fun (k : Nat) => DL.D.int (k : Nat)) = (((List.range n.toNat).map fun (k : Nat) => (k : Int)).map DL.D.int) := by rw [List.map_map]; rfl
    rw [ed] at q
    exact hk p _ F1 (.L (((List.range n.toNat).map fun (k : Nat) => (k : Int)).map DL.D.int)) ρ1 M1 (S1.newO hp ⟨_, upd_same, by rw [rgV_length, sizeLine_eq]; omega, by rw [ev]; exact reps_ints _⟩) S1.len l q
end
section
variable {b : Bz} {A : Around} {κ : Kt} {pos p p2 pos2 apos cpos : Pos} {e1 e2 o : Expr} {T1 T2 To : DL.T}
theorem o_sortedD (hm : b.mg "sorted" = none) (hg : glB κ "sorted" = true) (hp : plainE e1 = true) (h1 : HE b A κ e1 T1) : HO b A κ (.Call (.Name "sorted" p) [e1] [] pos) (.bi .sortedD (.cons T1 .nil)) := fun X c => by
  obtain ⟨t1, p1, r1⟩ := a_cons hp h1 a_nil X c
  exact ⟨_, pe_callB (cr_sortD (N := b.N) c.hu) (c.gl hg) (by rw [c.m]; exact hm) boot_sorted' p1 (he := star_cons _ hp), or_sortD (X := X) r1⟩
theorem o_listR (hm : b.mg "list" = none) (hg : glB κ "list" = true) (hm2 : b.mg "range" = none) (hg2 : glB κ "range" = true) (hp : plainE e1 = true) (h1 : HE b A κ e1 T1) : HO b A κ (.Call (.Name "list" p) [.Call (.Name "range" p2) [e1] [] pos2] [] pos) (.bi .listR (.cons T1 .nil)) := fun X c => by
  obtain ⟨t1, p1, r1⟩ := h1 X c
  refine ⟨_, pe_listRg c.c (c.gl hg) (by rw [c.m]; exact hm) (prg_1 (c.gl hg2) (by rw [c.m]; exact hm2) p1 (star_cons _ hp)), ?_⟩
  have := or_listR (N := b.N) r1
  exact this
end
section
variable {b : Bz} {A : Around} {κ : Kt} {pos pos' p py spos tpos : Pos} {tg iter kx vx : Expr} {ifs : List Expr} {T1 Tg Ti Tc Tk Tv : DL.T}
theorem x_setDC {scope : Scope} (i : Nat) {x : Str} (own : List (Str × Nat)) (h : llB κ i x scope py pos = true)
    (ok : CompOk κ scope own Tg) (hf : ∀ (env : PySem.Env) x, foldedSetIterable iter env x = pure x) (hi : HI b A κ tg iter Ti) (hg : HG b A (κ.sub scope) tg Tg) (hc : HC b A (κ.sub scope) ifs Tc) (hk : HE b A (κ.sub scope) kx Tk) (he : HE b A (κ.sub scope) vx Tv) :
    HS b A κ (.Assign [.Name x py] (.DictComp kx vx [⟨tg, iter, ifs, 0⟩] scope pos) spos) (.set i (.dcomp (own.map (·.2)) Tg Ti Tc Tk Tv)) := let q := llB_iff h; s_setDC i own q.1 q.2.1 q.2.2.1 q.2.2.2.1 q.2.2.2.2 ok hf hi hg hc hk he
theorem x_setDCO {scope : Scope} (i : Nat) {x : Str} (own : List (Str × Nat)) (h : llB κ i x scope py pos = true)
    (ok : CompOk κ scope own Tg) (hf : ∀ (env : PySem.Env) x, foldedSetIterable iter env x = pure x) (hi : HI b A κ tg iter Ti) (hg : HG b A (κ.sub scope) tg Tg) (hc : HC b A (κ.sub scope) ifs Tc) (hk : HE b A (κ.sub scope) kx Tk) (he : HE b A (κ.sub scope) vx Tv) :
    HS b A κ (.Assign [.Name x py] (.DictComp kx vx [⟨tg, iter, ifs, 0⟩] scope pos) spos) (.setO i (.dcomp (own.map (·.2)) Tg Ti Tc Tk Tv)) := let q := llB_iff h; s_setDCO i own q.1 q.2.1 q.2.2.1 q.2.2.2.1 q.2.2.2.2 ok hf hi hg hc hk he
theorem sw_cellD {gs : List Comprehension} {scope : Scope} {y : Str} {l : Nat} {env : PySem.Env} (hk : env.scope.kind = .function) (hy : env.scope.names.lookup y = some .cell) : swapsWith (.DictComp kx vx gs scope pos) (some (.Name y py)) l env = pure false := by
  have ky : env.kindOf y = some .cell := hy
  have hb : env.blockKind = .function := by unfold PySem.Env.blockKind; rw [hk]; rfl
  unfold swapsWith
  simp only [hb, ky, Expr.pos]
  rfl
theorem x_setKD (i : Nat) {x : Str} {gs : List Comprehension} {scope : Scope} (h : clB κ i x = true) (h1 : HO b A κ (.DictComp kx vx gs scope pos) T1) : HS b A κ (.Assign [.Name x py] (.DictComp kx vx gs scope pos) spos) (.set i T1) := fun X c => by
  obtain ⟨q1, q2, q3, q4⟩ := clB_iff h
  obtain ⟨t1, p1, r1⟩ := h1.he X c
  exact ⟨_, ps_set c.nd (by rw [c.n]; exact q1) (c.loc q2).1 p1 (sw_cellD (by rw [c.s]; exact q4) (by rw [c.s]; exact q3)) (c.loc q2).2, sr_set r1⟩
theorem x_setKDO (i : Nat) {x : Str} {gs : List Comprehension} {scope : Scope} (h : clB κ i x = true) (h1 : HO b A κ (.DictComp kx vx gs scope pos) T1) : HS b A κ (.Assign [.Name x py] (.DictComp kx vx gs scope pos) spos) (.setO i T1) := fun X c => by
  obtain ⟨q1, q2, q3, q4⟩ := clB_iff h
  obtain ⟨t1, p1, r1⟩ := h1 X c
  exact ⟨_, ps_set c.nd (by rw [c.n]; exact q1) (c.loc q2).1 p1 (sw_cellD (by rw [c.s]; exact q4) (by rw [c.s]; exact q3)) (c.loc q2).2, sr_setO r1⟩
theorem x_setKDM (i : Nat) {x : Str} {gs : List Comprehension} {scope : Scope} (h : clB κ i x = true) (h1 : HO b A κ (.DictComp kx vx gs scope pos) T1) : HS b A κ (.Assign [.Name x py] (.DictComp kx vx gs scope pos) spos) (.setM i T1) := fun X c => by
  obtain ⟨q1, q2, q3, q4⟩ := clB_iff h
  obtain ⟨t1, p1, r1⟩ := h1 X c
  exact ⟨_, ps_set c.nd (by rw [c.n]; exact q1) (c.loc q2).1 p1 (sw_cellD (by rw [c.s]; exact q4) (by rw [c.s]; exact q3)) (c.loc q2).2, sr_setM r1⟩
end
end DL

set_option Elab.async false
set_option linter.all false
set_option maxRecDepth 100000
set_option maxHeartbeats 2000000
/-! str.index, dict.get -/
namespace DL
open PySem L2 PySem.W PySem.Spec PyProof.Rows PySem.Calls
section
variable {X : Cx} {N : Nam}
def rIndexS : V → List V → Hp → VK → Prop := fun x xs H Q => ∃ a b i rest, x = .str a ∧ xs = [.str b] ∧ Builtin.Str.occurrences a b 0 a.length 1 = i :: rest ∧ Q (.int (i : Nat)) H
theorem er_indexS {to : TE} {ta : TA} {wo : WE} {wa : WA} (ho : ER N to wo) (ha : AR N ta wa) : ER N (tBM X.K "str" rIndexS to ta) (fun ρ M Q => wo ρ M fun y ρ M => bmK .indexS (view M y) ∧ wa ρ M fun ds ρ M => bmP .indexS (view M y) ds fun z => Q z ρ M) := fun Z σ H F ρ M Q K S hw hk =>
  ho Z σ H F ρ M _ _ S hw fun v H1 F1 d ρ1 M1 S1 l r ⟨hk1, q1⟩ => by
    obtain ⟨a, ed⟩ : ∃ a, view M1 d = .str a := by
      cases e : view M1 d with
      | str a => exact ⟨a, rfl⟩
      | _ => rw [e] at hk1; exact hk1.elim
    have rv := r.view S1
    rw [ed] at rv
    have ev : v = .str a := rep_str.mp (show Rep N F1 (.str a) v from rv)
    subst ev
    refine ⟨rfl, ?_⟩
    refine ha Z σ H1 F1 ρ1 M1 _ _ S1 q1 fun vs H2 F2 ds ρ2 M2 S2 l2 r2 q2 => ?_
    have q2 : bmP .indexS (view M2 d) ds fun z => Q z ρ2 M2 := q2
    have rv2 := (r.mono l2).view S2
    cases e2 : view M2 d with
    | str b =>
      rw [e2] at q2 rv2
      have eb := rep_str.mp (show Rep N F2 (.str b) _ from rv2)
      cases eb
      match ds, q2 with
      | [.str x], ⟨i, rest, ho, q3⟩ =>
        obtain ⟨u, rfl, ru⟩ := reps1 r2
        exact ⟨a, x, i, rest, rfl, by rw [rep_str.mp ru], ho, hk _ H2 F2 _ ρ2 M2 S2 (l.trans l2) (int_rep _) q3⟩
    | _ => rw [e2] at q2; exact (show False from q2).elim
theorem get_v {F : Hp} {ks : List Key} {ds : List DL.D} {vs : List V} (z : ks.length = vs.length) (r : Reps N F ds vs) {j : Key} {dd : DL.D} {vd : V} (rd : Rep N F dd vd) : Rep N F ((dget ks ds j).getD dd) ((valV (ks.zip vs) j).getD vd) := by
  have v := valV_zip (k := j) z r
  cases e : dget ks ds j with
  | some d =>
    rw [e] at v
    obtain ⟨u, hu, hr⟩ := v
    rw [hu]
    exact hr
  | none =>
    rw [e] at v
    have v : valV (ks.zip vs) j = none := v
    rw [v]
    exact rd
theorem er_get1 {to ty : TE} {wo wy : WE} (ho : ER N to wo) (hy : ER N ty wy) : ER N (tDGet1 to ty) (fun ρ M Q => wo ρ M fun y ρ M => bmK .get1 (view M y) ∧ wy ρ M fun k ρ M => bmP .get1 (view M y) [k] fun z => Q z ρ M) := fun Z σ H F ρ M Q K S hw hk =>
  ho Z σ H F ρ M _ _ S hw fun v H1 F1 d ρ1 M1 S1 l r ⟨hk1, q1⟩ => by
    obtain ⟨ks, es, ed⟩ : ∃ ks es, view M1 d = .dct ks es := by
      cases e : view M1 d with
      | dct ks es => exact ⟨ks, es, rfl⟩
      | _ => rw [e] at hk1; exact hk1.elim
    have rv := r.view S1
    rw [ed] at rv
    obtain ⟨a, vs, rfl, hp, z, z2, nd, w⟩ := rv
    refine ⟨a, rfl, .inl ⟨_, .inl hp⟩, ?_⟩
    refine hy Z σ H1 F1 ρ1 M1 _ _ S1 q1 fun u H2 F2 x ρ2 M2 S2 l2 r2 q2 => ?_
    have rv2 := (r.mono l2).view S2
    cases e2 : view M2 d with
    | dct ks2 es2 =>
      have q2 : bmP .get1 (view M2 d) [x] fun z => Q z ρ2 M2 := q2
      rw [e2] at q2 rv2
      obtain ⟨a2, vs2, ea, hp2, z3, z4, nd2, w2⟩ := rv2
      cases ea
      obtain ⟨j, hj, q3⟩ := q2
      refine ⟨valV (ks2.zip vs2) j, ?_, hk _ H2 F2 _ ρ2 M2 S2 (l.trans l2) (get_v z3 w2 (rep_non.mpr rfl)) q3⟩
      rw [key_v hj r2]
      exact DGet.k hp2
    | _ => have q2 : bmP .get1 (view M2 d) [x] fun z => Q z ρ2 M2 := q2; rw [e2] at q2; exact (show False from q2).elim
theorem er_get2 {to ty tx : TE} {wo wy wx : WE} (ho : ER N to wo) (hy : ER N ty wy) (hx : ER N tx wx) : ER N (tDGet2 to ty tx) (fun ρ M Q => wo ρ M fun y ρ M => bmK .get2 (view M y) ∧ wy ρ M fun k ρ M => wx ρ M fun dd ρ M => bmP .get2 (view M y) [k, dd] fun z => Q z ρ M) := fun Z σ H F ρ M Q K S hw hk =>
  ho Z σ H F ρ M _ _ S hw fun v H1 F1 d ρ1 M1 S1 l r ⟨hk1, q1⟩ => by
    obtain ⟨ks, es, ed⟩ : ∃ ks es, view M1 d = .dct ks es := by
      cases e : view M1 d with
      | dct ks es => exact ⟨ks, es, rfl⟩
      | _ => rw [e] at hk1; exact hk1.elim
    have rv := r.view S1
    rw [ed] at rv
    obtain ⟨a, vs, rfl, hp, z, z2, nd, w⟩ := rv
    refine ⟨a, rfl, .inl ⟨_, .inl hp⟩, ?_⟩
    refine hy Z σ H1 F1 ρ1 M1 _ _ S1 q1 fun u H2 F2 x ρ2 M2 S2 l2 r2 q2 => ?_
    refine hx Z σ H2 F2 ρ2 M2 _ _ S2 q2 fun u3 H3 F3 x3 ρ3 M3 S3 l3 r3 q3 => ?_
    have q3 : bmP .get2 (view M3 d) [x, x3] fun z => Q z ρ3 M3 := q3
    have rv2 := (r.mono (l2.trans l3)).view S3
    cases e2 : view M3 d with
    | dct ks2 es2 =>
      rw [e2] at q3 rv2
      obtain ⟨a2, vs2, ea, hp2, z3, z4, nd2, w2⟩ := rv2
      cases ea
      obtain ⟨j, hj, q4⟩ := q3
      refine ⟨valV (ks2.zip vs2) j, ?_, hk _ H3 F3 _ ρ3 M3 S3 ((l.trans l2).trans l3) (get_v z3 w2 r3) q4⟩
      rw [key_v hj (r2.mono l3)]
      exact DGet.k hp2
    | _ => rw [e2] at q3; exact (show False from q3).elim
theorem er_getO1 {i : Nat} {ty : TE} {wy : WE} (hy : ER N ty wy) : ER N (tDGet1 (tVar i) ty) (fun ρ M Q => (∃ c, ρ[i]? = some (.own c) ∧ bmK .get1 c.tree) ∧ wy ρ M fun k ρ M => ∃ c, ρ[i]? = some (.own c) ∧ bmP .get1 c.tree [k] fun z => Q z ρ M) := fun Z σ H F ρ M Q K S ⟨⟨c0, e0, hk0⟩, hw⟩ hk => by
  obtain ⟨p, hp, x0, _⟩ := S.ownAt e0
  cases c0 with
  | L ds => exact (show False from hk0).elim
  | K ks es =>
    obtain ⟨vs, h1, h2, h3, h4, h5⟩ := x0
    refine ⟨_, hp, p, rfl, .inl ⟨_, .inl h1⟩, ?_⟩
    refine hy Z σ H F ρ M _ _ S hw fun v H1 F1 d ρ1 M1 S1 l r ⟨c, e, q⟩ => ?_
    obtain ⟨p', hp', x, _⟩ := S1.ownAt e
    rw [hp] at hp'; cases hp'
    cases c with
    | L ds => exact (show False from q).elim
    | K ks2 es2 =>
      obtain ⟨vs2, g1, g2, g3, g4, g5⟩ := x
      obtain ⟨j, hj, q4⟩ := q
      refine ⟨valV (ks2.zip vs2) j, ?_, hk _ H1 F1 _ ρ1 M1 S1 l (get_v g2 g5 (rep_non.mpr rfl)) q4⟩
      rw [key_v hj r]
      exact DGet.k g1
theorem er_getO2 {i : Nat} {ty tx : TE} {wy wx : WE} (hy : ER N ty wy) (hx : ER N tx wx) : ER N (tDGet2 (tVar i) ty tx) (fun ρ M Q => (∃ c, ρ[i]? = some (.own c) ∧ bmK .get2 c.tree) ∧ wy ρ M fun k ρ M => wx ρ M fun dd ρ M => ∃ c, ρ[i]? = some (.own c) ∧ bmP .get2 c.tree [k, dd] fun z => Q z ρ M) := fun Z σ H F ρ M Q K S ⟨⟨c0, e0, hk0⟩, hw⟩ hk => by
  obtain ⟨p, hp, x0, _⟩ := S.ownAt e0
  cases c0 with
  | L ds => exact (show False from hk0).elim
  | K ks es =>
    obtain ⟨vs, h1, h2, h3, h4, h5⟩ := x0
    refine ⟨_, hp, p, rfl, .inl ⟨_, .inl h1⟩, ?_⟩
    refine hy Z σ H F ρ M _ _ S hw fun v H1 F1 d ρ1 M1 S1 l r q1 => ?_
    refine hx Z σ H1 F1 ρ1 M1 _ _ S1 q1 fun u H2 F2 x2 ρ2 M2 S2 l2 r2 ⟨c, e, q⟩ => ?_
    obtain ⟨p', hp', x, _⟩ := S2.ownAt e
    rw [hp] at hp'; cases hp'
    cases c with
    | L ds => exact (show False from q).elim
    | K ks2 es2 =>
      obtain ⟨vs2, g1, g2, g3, g4, g5⟩ := x
      obtain ⟨j, hj, q4⟩ := q
      refine ⟨valV (ks2.zip vs2) j, ?_, hk _ H2 F2 _ ρ2 M2 S2 (l.trans l2) (get_v g2 g5 r2) q4⟩
      rw [key_v hj (r.mono l2)]
      exact DGet.k g1
end
section
variable {b : Bz} {A : Around} {κ : Kt} {pos p p2 pos2 apos cpos : Pos} {e1 e2 o : Expr} {es : List Expr} {T1 T2 To : DL.T}
theorem h_indexS (hb : ∀ env : PySem.Env, attributeBase o "index" env (eval o env) = eval o env) (hf : FewOk e1 es cpos) (hl : (apos.endLine == cpos.line) = true) (hp : plainEs (e1 :: es) = true) (h1 : HE b A κ o To) (h3 : HA b A κ (e1 :: es) T1) :
    HE b A κ (.Call (.Attribute o "index" apos) (e1 :: es) [] cpos) (.bm .indexS To T1) := fun X c => by
  obtain ⟨t1, p1, r1⟩ := h3 X c
  obtain ⟨t2, p2, r2⟩ := h1 X c
  unfold plainEs at hp
  rw [List.all_cons, Bool.and_eq_true] at hp
  exact ⟨_, pe_bm PySem.F.plainAttrs_str PySem.F.slot_str_index PySem.F.type_str_index mt_sindex p2 p1 (hbase := hb _) (hfew := hf _) (hline := hl) (hs := star_cons _ hp.1) (hplain := star_any _ hp.2), er_indexS (X := X) r2 r1⟩
theorem m1_of {X : Cx} {m : Str} (hb : ∀ env : PySem.Env, attributeBase o m env (eval o env) = eval o env) (hl : (apos.endLine == cpos.line) = true) (hp : plainE e1 = true) : M1 X o m apos e1 cpos :=
  ⟨hb _, few1 hp _, hl, by rw [star_cons (es := []) X.env hp]; rfl⟩
theorem m2_of {X : Cx} {m : Str} (hb : ∀ env : PySem.Env, attributeBase o m env (eval o env) = eval o env) (hl : (apos.endLine == cpos.line) = true) (hp : plainE e1 = true) (hq : plainE e2 = true) : M2 X o m apos e1 e2 cpos :=
  ⟨hb _, few2 hp hq _, hl, by rw [star_cons (es := [e2]) X.env hp, star_cons (es := []) X.env hq]; rfl⟩
theorem h_get1 (hb : ∀ env : PySem.Env, attributeBase o "get" env (eval o env) = eval o env) (hl : (apos.endLine == cpos.line) = true) (hp : plainE e1 = true) (h1 : HE b A κ o To) (h2 : HE b A κ e1 T1) : HE b A κ (.Call (.Attribute o "get" apos) [e1] [] cpos) (.bm .get1 To (.cons T1 .nil)) := fun X c => by
  obtain ⟨t1, p1, r1⟩ := h1 X c
  obtain ⟨t2, p2, r2⟩ := h2 X c
  exact ⟨_, pe_dget1 (by have := c.hu; omega) p1 p2 (m1_of hb hl hp), er_get1 r1 r2⟩
theorem h_get2 (hb : ∀ env : PySem.Env, attributeBase o "get" env (eval o env) = eval o env) (hl : (apos.endLine == cpos.line) = true) (hp : plainE e1 = true) (hq : plainE e2 = true) (h1 : HE b A κ o To) (h2 : HE b A κ e1 T1) (h3 : HE b A κ e2 T2) : HE b A κ (.Call (.Attribute o "get" apos) [e1, e2] [] cpos) (.bm .get2 To (.cons T1 (.cons T2 .nil))) := fun X c => by
  obtain ⟨t1, p1, r1⟩ := h1 X c
  obtain ⟨t2, p2, r2⟩ := h2 X c
  obtain ⟨t3, p3, r3⟩ := h3 X c
  exact ⟨_, pe_dget2 (by have := c.hu; omega) p1 p2 p3 (m2_of hb hl hp hq), er_get2 r1 r2 r3⟩
theorem x_getO1 (i : Nat) {x : Str} (h : nmB κ i x = true) (hl : (apos.endLine == cpos.line) = true) (hp : plainE e1 = true) (h2 : HE b A κ e1 T1) : HE b A κ (.Call (.Attribute (.Name x p) "get" apos) [e1] [] cpos) (.bmO .get1 i (.cons T1 .nil)) := fun X c => by
  obtain ⟨q1, q2, q3, q4⟩ := nmB_iff h
  obtain ⟨t2, p2, r2⟩ := h2 X c
  exact ⟨_, pe_dget1 (by have := c.hu; omega) (pe_var (by rw [c.n]; exact q1) (c.vis q2) q3 q4) p2 (m1_of (fun _ => rfl) hl hp), er_getO1 r2⟩
theorem x_getO2 (i : Nat) {x : Str} (h : nmB κ i x = true) (hl : (apos.endLine == cpos.line) = true) (hp : plainE e1 = true) (hq : plainE e2 = true) (h2 : HE b A κ e1 T1) (h3 : HE b A κ e2 T2) : HE b A κ (.Call (.Attribute (.Name x p) "get" apos) [e1, e2] [] cpos) (.bmO .get2 i (.cons T1 (.cons T2 .nil))) := fun X c => by
  obtain ⟨q1, q2, q3, q4⟩ := nmB_iff h
  obtain ⟨t2, p2, r2⟩ := h2 X c
  obtain ⟨t3, p3, r3⟩ := h3 X c
  exact ⟨_, pe_dget2 (by have := c.hu; omega) (pe_var (by rw [c.n]; exact q1) (c.vis q2) q3 q4) p2 p3 (m2_of (fun _ => rfl) hl hp hq), er_getO2 r2 r3⟩
end
end DL

set_option Elab.async false
set_option linter.all false
set_option maxRecDepth 100000
set_option maxHeartbeats 2000000
/-! the head's hook with one more look -/
namespace DL
open PySem PySem.Spec PyProof.Rows L2
def empB (K : PySem.W.Frag) (a : Addr) : Bool := match K.lookup a with
  | some ⟨.type c, _, .seq its _, _⟩ => decide (c = "tuple") && decide (its.toList = [])
  | _ => false
theorem empB_ok {K : PySem.W.Frag} {a : Addr} (h : empB K a = true) (H : Hp) : SqT K H a [] := by
  unfold empB at h
  cases q : K.lookup a with
  | none =>
    rw [q] at h
    cases h
  | some o =>
    obtain ⟨oc, od, dt, osl⟩ := o
    rw [q] at h
    cases oc with
    | type c =>
      cases dt with
      | seq its n =>
        obtain ⟨h1, h2⟩ := He.ba (show (decide (c = "tuple") && decide (its.toList = [])) = true from h)
        have e := of_decide_eq_true h2
        have e2 : its.size = 0 := by rw [← Array.length_toList, e]; rfl
        exact .inr ⟨_, its, n, q, congrArg Value.type (of_decide_eq_true h1), rfl, by rw [e2]; exact Nat.zero_le _, by rw [e]; exact .nil⟩
      | _ => cases h
    | _ => cases dt <;> cases h
def obsX (fa : List He.Fa) (fn : List He.DefD) (ex : PySem.W.Frag → Bool) (K : PySem.W.Frag) : Bool × He.AlD := (ex K, He.obsD fa fn K)
def HdOk (fa : List He.Fa) (fn : List He.DefD) (ex : PySem.W.Frag → Bool) (K : PySem.W.Frag) : Prop := obsX fa fn ex K = (true, He.valD fn)
def obsXG (n : Nat) (fa : List He.Fa) (fn : List He.DefD) (ex : PySem.W.Frag → Bool) (g : Addr → Option Obj) : Bool × He.AlD := obsX fa fn ex (He.frG g (He.asD g n))
def hookX (n : Nat) (fa : List He.Fa) (fn : List He.DefD) (ex : PySem.W.Frag → Bool) : PySem.W.Hook where
  α := Bool × He.AlD
  obs := fun s => obsXG n fa fn ex s.heap.get?
  val := fun _ => (true, He.valD fn)
  says := fun _ h => ∃ K : PySem.W.Frag, K.In h ∧ HdOk fa fn ex K
  of := fun _ _ e => ⟨_, He.frG_in, e⟩
  keeps := fun _ _ _ ⟨K, hK, c⟩ k => ⟨K, PySem.W.Frag.In.keeps hK k, c⟩
theorem obsXG_eq {n : Nat} {fa : List He.Fa} {fn : List He.DefD} {ex : PySem.W.Frag → Bool} {g : Addr → Option Obj} {s : Shared} (h : ∀ a, g a = s.heap.get? a) : obsXG n fa fn ex g = (hookX n fa fn ex).obs s := by
  have e : g = s.heap.get? := funext h
  rw [e] <;> rfl
section
variable {fa : List He.Fa} {fn : List He.DefD} {ex : PySem.W.Frag → Bool} {K : PySem.W.Frag}
theorem HdOk.says (c : HdOk fa fn ex K) : He.SaysD fa fn K := congrArg (fun z : Bool × He.AlD => z.2) c
theorem HdOk.exok (c : HdOk fa fn ex K) : ex K = true := congrArg (fun z : Bool × He.AlD => z.1) c
theorem HdOk.fact (c : HdOk fa fn ex K) (i : Nat) {f : He.Fa} (h : fa[i]? = some f := by rfl) : f.ok K = true := c.says.fact i h
theorem HdOk.def_ (c : HdOk fa fn ex K) (i : Nat) {d : He.DefD} (h : fn[i]? = some d := by rfl) : ∃ fd, FunD K d.name d.qual d.params d.body d.scope (d.dvs K) (d.kws K) (He.fAd K d.at_) fd := c.says.def_ i h
end
end DL

set_option Elab.async false
set_option linter.all false
set_option maxRecDepth 100000
set_option maxHeartbeats 2000000
/-! the head of a law with lambdas -/
namespace DL
open PySem PySem.Spec PyProof.Rows L2
section
variable {fa : List He.Fa} {fn : List He.DefD} {tf : List He.Defn} {ex : PySem.W.Frag → Bool} {w : World} {h : Heap} {K : PySem.W.Frag}
theorem saysX_fact (c : He.SaysX fa fn [] tf ex w h K) (i : Nat) {f : He.Fa} (h : fa[i]? = some f := by rfl) : f.ok K = true := c.t.d.fact i h
theorem saysX_def (c : He.SaysX fa fn [] tf ex w h K) (i : Nat) {d : He.DefD} (h : fn[i]? = some d := by rfl) : ∃ fd, FunD K d.name d.qual d.params d.body d.scope (d.dvs K) (d.kws K) (He.fAd K d.at_) fd := c.t.d.def_ i h
end
/-- the tables of the defs that make lambdas -/
def tbsOf (K : PySem.W.Frag) (tf : List (He.Defn × Str)) : List (Addr × Str) := tf.map fun p => ((He.cT K p.1).2, p.2)
def noTbl (H : Hp) : Hp := fun b => match H b with
  | some (.tbl _) => none
  | x => x
theorem noTbl_sub {H : Hp} {a : Addr} {o : L2.HO} (e : noTbl H a = some o) : H a = some o := by
  unfold noTbl at e
  split at e
  · cases e
  · exact e
theorem noTbl_tbl {H : Hp} {a : Addr} {ps : Array Value} (e : H a = some (.tbl ps)) : noTbl H a = none := by
  unfold noTbl
  rw [e]
theorem noTbl_sq {K : PySem.W.Frag} {H : Hp} {a : Addr} {xs : List V} (h : SqL K H a xs) : SqL K (noTbl H) a xs := by
  rcases h with (h | ⟨o, h⟩) | h
  · exact .inl (.inl (by unfold noTbl; rw [h]))
  · exact .inl (.inr ⟨o, by unfold noTbl; rw [h]⟩)
  · exact .inr h
theorem tb_start {N : Nam} {H : Hp} (h : ∀ p ∈ N.tbs, H p.1 = some (.tbl #[])) : TbOk N H (noTbl H) (fun _ => none) H :=
  ⟨fun p m => ⟨#[], h p m, trivial, fun _ _ e => (nomatch e)⟩, fun p m => noTbl_tbl (h p m), fun _ _ => rfl, fun p m => ⟨#[], h p m⟩⟩
end DL

set_option Elab.async false
set_option linter.all false
set_option maxRecDepth 100000
/-! plain Lean: how a weakest precondition is gone through -/
namespace DL
open PySem L2
theorem ne_t {b : Bool} (h : b = false) : ¬ b = true := by rw [h]; exact Bool.false_ne_true
theorem ne_d {p : Prop} [Decidable p] (h : ¬ p) : ¬ decide p = true := by rw [decide_eq_false h]; exact Bool.false_ne_true
theorem it_ {c : Bool} {A B : Prop} (h : c = true) (q : A) : iteN (Bool.toNat c) (A) (B) := by rw [h]; exact q
theorem if_ {c : Bool} {A B : Prop} (h : c = false) (q : B) : iteN (Bool.toNat c) (A) (B) := by rw [h]; exact q
theorem ic_ {c : Bool} {A B : Prop} (h1 : c = true → A) (h2 : c = false → B) : iteN (Bool.toNat c) (A) (B) := by
  cases c with
  | true => exact h1 rfl
  | false => exact h2 rfl
theorem ibT {c : Bool} {A B : Prop} (h : c = true) : iteN (Bool.toNat c) A B = A := by rw [h]; rfl
theorem ibF {c : Bool} {A B : Prop} (h : ¬ c = true) : iteN (Bool.toNat c) A B = B := by
  cases c with
  | true => exact absurd rfl h
  | false => rfl
theorem updM_same {M : Mem} {a : Addr} {o : MO} : updM M a o a = some o := by unfold updM; rw [if_pos rfl]
theorem updM_ne {M : Mem} {a b : Addr} {o : MO} (h : b ≠ a) : updM M a o b = M b := by unfold updM; rw [if_neg h]
/-- for: by an invariant -/
theorem forL_invA {bd : D → WS} {E : En} (I : Nat → Env → Mem → Prop) : ∀ {ds : List D} {n : Nat} {ρ : Env} {M : Mem}, I n ρ M → (∀ j d ρ M (K : En), ds[j]? = some d → I (n + j) ρ M → (∀ ρ M, I (n + j + 1) ρ M → K.nx ρ M) → (∀ ρ M, I (n + j + 1) ρ M → K.ct ρ M) → K.bk = E.nx → K.rt = E.rt → bd d ρ M K) → (∀ ρ M, I (n + ds.length) ρ M → E.nx ρ M) → forL bd ds ρ M E
  | [], n, ρ, M, i, _, done => by rw [forL_nilE]; exact done ρ M i
  | d :: ds, n, ρ, M, i, step, done => by
    have rc : ∀ ρ M, I (n + 1) ρ M → forL bd ds ρ M E := fun ρ M q => forL_invA I (n := n + 1) q (fun j d' ρ M K h q k1 k2 k3 k4 => by
      have e : n + 1 + j = n + (j + 1) := by omega
      rw [e] at q k1 k2
      exact step (j + 1) d' ρ M K (by simpa using h) q k1 k2 k3 k4) fun ρ M q => done ρ M (by
        have e : n + 1 + ds.length = n + (d :: ds).length := by rw [List.length_cons]; omega
        rwa [e] at q)
    rw [forL_consE]; exact step 0 d ρ M _ rfl i rc rc rfl rfl
theorem forL_inv {bd : D → WS} {E : En} {ds : List D} {ρ : Env} {M : Mem} (I : Nat → Env → Mem → Prop) (h0 : I 0 ρ M) (step : ∀ j d ρ M (K : En), ds[j]? = some d → I j ρ M → (∀ ρ M, I (j + 1) ρ M → K.nx ρ M) → (∀ ρ M, I (j + 1) ρ M → K.ct ρ M) → K.bk = E.nx → K.rt = E.rt → bd d ρ M K) (done : ∀ ρ M, I ds.length ρ M → E.nx ρ M) : forL bd ds ρ M E :=
  forL_invA I (n := 0) h0 (fun j d ρ M K h q k1 k2 k3 k4 => by rw [Nat.zero_add] at q k1 k2; exact step j d ρ M K h q k1 k2 k3 k4) fun ρ M q => done ρ M (by rwa [Nat.zero_add] at q)
/-- a comprehension: by an invariant -/
theorem compL_invA {bd : D → Mem → (Option D → Mem → Prop) → Prop} {Q : List D → Mem → Prop} (I : Nat → List D → Mem → Prop) : ∀ {ds acc : List D} {n : Nat} {M : Mem}, I n acc M → (∀ j d acc M (K : Option D → Mem → Prop), ds[j]? = some d → I (n + j) acc M → (∀ x M', I (n + j + 1) (acc ++ [x]) M' → K (some x) M') → (∀ M', I (n + j + 1) acc M' → K none M') → bd d M K) → (∀ acc M, I (n + ds.length) acc M → Q acc M) → compL bd ds acc M Q
  | [], acc, n, M, i, _, done => by rw [compL_nilE]; exact done acc M i
  | d :: ds, acc, n, M, i, step, done => by
    have rc : ∀ acc M, I (n + 1) acc M → compL bd ds acc M Q := fun acc M q => compL_invA I (n := n + 1) q (fun j d' acc M K h q k1 k2 => by
      have e : n + 1 + j = n + (j + 1) := by omega
      rw [e] at q k1 k2
      exact step (j + 1) d' acc M K (by simpa using h) q k1 k2) fun acc M q => done acc M (by
        have e : n + 1 + ds.length = n + (d :: ds).length := by rw [List.length_cons]; omega
        rwa [e] at q)
    rw [compL_consE]; exact step 0 d acc M _ rfl i (fun x M' q => rc _ _ q) fun M' q => rc _ _ q
theorem compL_inv {bd : D → Mem → (Option D → Mem → Prop) → Prop} {Q : List D → Mem → Prop} {ds : List D} {M : Mem} (I : Nat → List D → Mem → Prop) (h0 : I 0 [] M) (step : ∀ j d acc M (K : Option D → Mem → Prop), ds[j]? = some d → I j acc M → (∀ x M', I (j + 1) (acc ++ [x]) M' → K (some x) M') → (∀ M', I (j + 1) acc M' → K none M') → bd d M K) (done : ∀ acc M, I ds.length acc M → Q acc M) : compL bd ds [] M Q :=
  compL_invA I (n := 0) h0 (fun j d acc M K h q k1 k2 => by rw [Nat.zero_add] at q k1 k2; exact step j d acc M K h q k1 k2) fun acc M q => done acc M (by rwa [Nat.zero_add] at q)
/-- .. that changes nothing: what comes out -/
theorem compL_pure {bd : D → Mem → (Option D → Mem → Prop) → Prop} {Q : List D → Mem → Prop} {M : Mem} (f : D → Option D) : ∀ {ds acc : List D}, (∀ d ∈ ds, ∀ K : Option D → Mem → Prop, K (f d) M → bd d M K) → Q (acc ++ ds.filterMap f) M → compL bd ds acc M Q
  | [], acc, _, q => by
    have q : Q (acc ++ []) M := q
    rw [List.append_nil] at q
    rw [compL_nilE]; exact q
  | d :: ds, acc, h, q => by
    rw [compL_consE]
    refine h d (List.mem_cons_self ..) _ (compL_pure f (fun d' m => h d' (List.mem_cons_of_mem _ m)) ?_)
    rw [List.filterMap_cons] at q
    cases e : f d with
    | none => rw [e] at q; exact q
    | some x => rw [e] at q; simpa using q
theorem compL_map {bd : D → Mem → (Option D → Mem → Prop) → Prop} {Q : List D → Mem → Prop} {M : Mem} {ds : List D} (f : D → D) (h : ∀ d ∈ ds, ∀ K : Option D → Mem → Prop, K (some (f d)) M → bd d M K) (q : Q (ds.map f) M) : compL bd ds [] M Q := by
  refine compL_pure (fun d => some (f d)) h ?_
  rw [List.nil_append]
  have e : ds.filterMap (fun d => some (f d)) = ds.map f := by induction ds <;> simp_all
  rw [e]; exact q
/-- while: by a measure -/
theorem while_inv {c : WE} {bd : WS} {E : En} (I : Nat → Env → Mem → Prop) (step : ∀ m ρ M (K : En), I m ρ M → (∀ m' ρ M, m' < m → I m' ρ M → K.nx ρ M) → (∀ m' ρ M, m' < m → I m' ρ M → K.ct ρ M) → K.bk = E.nx → K.rt = E.rt →
    c ρ M fun d ρ1 M1 => ∃ b, d = .bl b ∧ iteN (Bool.toNat b) (bd ρ1 M1 K) (E.nx ρ1 M1)) : ∀ {m : Nat} {ρ : Env} {M : Mem}, I m ρ M → ∃ n, whileN c bd n ρ M E := by
  have all : ∀ (n m : Nat) (ρ : Env) (M : Mem), m < n → I m ρ M → whileN c bd n ρ M E := by
    intro n
    induction n with
    | zero => intro m ρ M h; omega
    | succ n ih => intro m ρ M h i; rw [whileN_succE]; exact step m ρ M _ i (fun m' ρ M h' i' => ih m' ρ M (by omega) i') (fun m' ρ M h' i' => ih m' ρ M (by omega) i') rfl rfl
  exact fun {m ρ M} i => ⟨m + 1, all (m + 1) m ρ M (Nat.lt_succ_self m) i⟩
end DL
namespace DL
open PySem L2
theorem isi1 {d : D} {n x : String} {b : Bool} (h : tyN d = some n) (h2 : kitB n x = some b) : isiP d [.b x] = some b := by
  have e : isiB d (.b x) = kitB n x := by
    cases d <;> first | (cases h; rfl) | cases h
  unfold isiP
  rw [e, h2]
  cases b <;> rfl
theorem isi2 {d : D} {n x y : String} (h : tyN d = some n) (h2 : kitB n x = some true) : isiP d [.b x, .b y] = some true := by
  have e : isiB d (.b x) = kitB n x := by
    cases d <;> first | (cases h; rfl) | cases h
  unfold isiP
  rw [e, h2]
theorem k_ii : kitB "int" "int" = some true := by decide +kernel
theorem k_ib : kitB "int" "bool" = some false := by decide +kernel
theorem k_ss : kitB "str" "str" = some true := by decide +kernel
theorem k_tt : kitB "tuple" "tuple" = some true := by decide +kernel
theorem k_bb : kitB "bool" "bool" = some true := by decide +kernel
/-- len ≤ sizeLine, small -/
theorem szL {n : Nat} (h : n ≤ 1000) : n ≤ sizeLine := by rw [sizeLine_eq]; omega
end DL
namespace DL
theorem forL_cons {bd : D → WS} {d : D} {ds : List D} {ρ : Env} {M : Mem} {E : En} (h : bd d ρ M { nx := fun ρ M => forL bd ds ρ M E, ct := fun ρ M => forL bd ds ρ M E, bk := E.nx, rt := E.rt }) : forL bd (d :: ds) ρ M E := by rw [forL_consE]; exact h
theorem forL_nil {bd : D → WS} {ρ : Env} {M : Mem} {E : En} (h : E.nx ρ M) : forL bd [] ρ M E := by rw [forL_nilE]; exact h
end DL

set_option Elab.async false
set_option linter.all false
set_option maxRecDepth 100000
set_option maxHeartbeats 0
namespace LawW
open PySem L2 PySem.W DL
def top (i : Nat) : Stmt := PySem.Challenge.pw_promptworks_k25_arrivals_and_releases.main.body.getD i (.Pass ⟨0, 0, 0, 0⟩)
abbrev s__law_pen : Stmt := top 27
abbrev s__law_draw : Stmt := top 28
abbrev s__law_names : Stmt := top 29
abbrev s__law_sections : Stmt := top 30
abbrev s__law_raw : Stmt := top 31
abbrev s_Plan___init__ : Stmt := inClass (top 12) 0
abbrev s_is_name : Stmt := top 16
abbrev s_is_whole : Stmt := top 17
abbrev s_lies_within : Stmt := top 20
abbrev s_go_together : Stmt := top 21
abbrev s_is_section : Stmt := top 19
abbrev s_are_sections : Stmt := top 22
abbrev s_bad_part : Stmt := top 24
abbrev s_written_place : Stmt := top 23
abbrev s_Task___init__ : Stmt := inClass (top 25) 0
abbrev s__law_plan : Stmt := top 32
abbrev s__law_wishes : Stmt := top 34
abbrev s_Plan_tasks : Stmt := inClass (top 12) 2
abbrev s_need_wish : Stmt := top 8
abbrev s_jobs_of : Stmt := top 9
abbrev s_let_in : Stmt := top 10
abbrev s__law_jobs : Stmt := top 33
abbrev s_law : Stmt := top 35
/-- classes: 0 Plan, 1 Task; attributes: 0 by_name, 1 name, 2 rank, 3 by_rank, 4 ceilings, 5 sections, 6 gap, 7 most, 8 due, 9 wait -/
def attrN : Nat → String
  | 0 => "by_name"
  | 1 => "name"
  | 2 => "rank"
  | 3 => "by_rank"
  | 4 => "ceilings"
  | 5 => "sections"
  | 6 => "gap"
  | 7 => "most"
  | 8 => "due"
  | 9 => "wait"
  | _ => ""
def cnameN : Nat → String
  | 0 => "Plan"
  | 1 => "Task"
  | _ => ""
def cfsN : Nat → List Nat
  | 0 => [0, 3, 4]
  | 1 => [1, 2, 6, 7, 8, 9, 5]
  | _ => []
def entN : Nat → Ent
  | 0 => ⟨"_law_draw", 2, [], 0⟩
  | 1 => ⟨"_law_names", 2, [], 0⟩
  | 2 => ⟨"_law_sections", 3, [], 0⟩
  | 3 => ⟨"lies_within", 2, [], 0⟩
  | 4 => ⟨"is_whole", 1, [], 0⟩
  | 5 => ⟨"is_whole", 1, ["least"], 0⟩
  | 6 => ⟨"is_name", 1, [], 0⟩
  | 7 => ⟨"is_section", 2, [], 0⟩
  | 8 => ⟨"go_together", 2, [], 0⟩
  | 9 => ⟨"are_sections", 2, [], 0⟩
  | 10 => ⟨"bad_part", 7, [], 0⟩
  | 11 => ⟨"written_place", 1, [], 0⟩
  | 12 => ⟨"Task", 1, ["rank", "gap", "most", "due", "wait", "sections"], 0⟩
  | 13 => ⟨"Plan", 1, [], 0⟩
  | 14 => ⟨"tasks", 0, [], 0⟩
  | 15 => ⟨"need_wish", 3, [], 0⟩
  | 16 => ⟨"jobs_of", 3, [], 0⟩
  | 17 => ⟨"_law_pen", 1, [], 0⟩
  | 18 => ⟨"_law_raw", 3, [], 0⟩
  | 19 => ⟨"_law_plan", 1, [], 0⟩
  | 20 => ⟨"_law_wishes", 4, [], 0⟩
  | 21 => ⟨"_law_jobs", 3, [], 0⟩
  | 22 => ⟨"let_in", 2, ["gate"], 0⟩
  | 23 => ⟨"let_in", 2, [], 0⟩
  | 24 => ⟨"Plan", 0, [], 0⟩
  | _ => ⟨"", 0, [], 0⟩
def globN : Nat → String × DL.D
  | 0 => ("LONGEST_NAME", .int 12)
  | 1 => ("LETTERS", .str "abcdefghijklmnopqrstuvwxyz")
  | _ => ("", .non)
/-! ### what the data are -/
structure Sec where
  s : Int
  l : Int
  k : Str
structure Raw where
  nm : Str
  rk : Int
  gap : Int
  mst : Int
  due : Int
  wt : Int
  secs : List Sec
def dSec (x : Sec) : DL.D := .tup [.int x.s, .int x.l, .str x.k]
def fldsR (r : Raw) : List DL.D := [.str r.nm, .int r.rk, .int r.gap, .int r.mst, .int r.due, .int r.wt, .tup (r.secs.map dSec)]
def dRaw (r : Raw) : DL.D := .tup (fldsR r)
def dTask (r : Raw) : DL.D := .obj 1 (fldsR r)
def LetOk (c : Nat) : Prop := 97 ≤ c ∧ c ≤ 122
def NmS (s : Str) : Prop := 1 ≤ s.cps.toList.length ∧ s.cps.toList.length ≤ 12 ∧ ∀ c ∈ s.cps.toList, LetOk c
structure SecOk (mst : Int) (x : Sec) : Prop where
  s0 : 0 ≤ x.s
  l1 : 1 ≤ x.l
  nm : NmS x.k
  fit : x.s + x.l < mst
def within (a b : Sec) : Prop := b.s ≤ a.s ∧ a.s + a.l ≤ b.s + b.l
instance (a b : Sec) : Decidable (within a b) := by unfold within; infer_instance
def Together (a b : Sec) : Prop := a.s + a.l ≤ b.s ∨ b.s + b.l ≤ a.s ∨ (a.k ≠ b.k ∧ (within a b ∨ within b a))
def LIM : Int := 1125899906842624
/-- so far below 2 ^ 200 -/
def Sml (x : Int) : Prop := -1267650600228229401496703205376 < x ∧ x < 1267650600228229401496703205376
structure RawOk (r : Raw) : Prop where
  nm : NmS r.nm
  rk1 : 1 ≤ r.rk
  rkL : r.rk < LIM
  gap1 : 1 ≤ r.gap
  gapL : r.gap < LIM
  mst1 : 1 ≤ r.mst
  mstL : r.mst < LIM
  due1 : 1 ≤ r.due
  dueG : r.due ≤ r.gap
  wt0 : 0 ≤ r.wt
  wtL : r.wt < LIM
  secs : ∀ x ∈ r.secs, SecOk r.mst x
  tog : r.secs.Pairwise Together
  few : r.secs.length ≤ 8
/-- the task's sections are sorted -/
def TaskOf (r r' : Raw) : Prop := ∃ ss, ss.Perm r.secs ∧ r' = { r with secs := ss }
/-! ### the sums -/
def minL : List Int → Int
  | [] => 0
  | a :: l => l.foldl min a
def ceil (ts : List Raw) (k : Str) : Int := minL ((ts.filter fun t => t.secs.any fun s => decide (s.k = k)).map (·.rk))
def backs (ts : List Raw) (rk : Int) : List Int := (ts.filter fun t => decide (rk < t.rk)).flatMap fun t => (t.secs.filter fun s => decide (ceil ts s.k ≤ rk)).map fun s => s.l - 1
def back (ts : List Raw) (rk : Int) : Int := (backs ts rk).foldl max 0
def upN (t : Raw) (x : Int) : Int := t.mst * ((x + t.wt + t.gap - 1) / t.gap)
def side (ts : List Raw) (r : Raw) (x : Int) : Int := back ts r.rk + r.mst + ((ts.filter fun t => decide (t.rk < r.rk)).map fun t => upN t x).sum
def LFix (f : Int → Int) (k : Int) : Prop := 0 ≤ k ∧ f k = k ∧ ∀ j, 0 ≤ j → f j = j → k ≤ j
/-! ### memory -/
def Keeps (M M' : Mem) : Prop := ∀ b mo, M b = some mo → M' b = some mo
/-- the pen: so many numbers are drawn -/
def PenM (c : Int) (M : Mem) (a : Addr) : Prop := ∃ (cs : List Int) (i l : Int), M a = some (.co (.K [.inr "cells", .inr "at", .inr "left"] [.lst (cs.map .int), .int i, .int l])) ∧ 0 ≤ i ∧ i ≤ c ∧ 0 ≤ l
def But (a : Addr) (M M' : Mem) : Prop := ∀ b, b ≠ a → M' b = M b
/-- what the ceilings' dict holds -/
structure CeilD (ps : List Raw) (ks : List Key) (ds : List DL.D) : Prop where
  at_ : ∀ k : Str, (∃ t ∈ ps, ∃ s ∈ t.secs, s.k = k) → dget ks ds (.inr k) = some (.int (ceil ps k))
  str : ∃ ls : List Str, ks = ls.map .inr ∧ ls.Nodup ∧ ls.length = ds.length ∧ ∀ k, k ∈ ls ↔ ∃ t ∈ ps, ∃ s ∈ t.secs, s.k = k
structure PlanP (ts ps : List Raw) (ks : List Key) (ds : List DL.D) : Prop where
  ce : CeilD ps ks ds
  perm : ps.Perm ts
  sorted : ps.Pairwise fun a b => a.rk < b.rk
  nms : (ts.map (·.nm)).Nodup
  few : ts.length < 64
  ok : ∀ t ∈ ts, RawOk t
/-- a plan: nothing of it changes behind __init__ -/
def PlanD (ts ps : List Raw) (ks : List Key) (ds : List DL.D) : DL.D := .obj 0 [.dct (ts.map fun t => .inr t.nm) (ts.map dTask), .tup (ps.map dTask), .dct ks ds]
def PlanAt (pl : DL.D) (ts : List Raw) : Prop := ∃ ps ks ds, pl = PlanD ts ps ks ds ∧ PlanP ts ps ks ds
/-! ### promises -/
def spIsName : DSp := fun ds M Q => ∃ s, ds = [.str s] ∧ NmS s ∧ Q (.bl true) M
def spIsWhole : DSp := fun ds M Q => ∃ i l : Int, ds = [.int i, .int l] ∧ Q (.bl (decide (l ≤ i))) M
def spWithin : DSp := fun ds M Q => ∃ a b, ds = [dSec a, dSec b] ∧ Q (.bl (decide (within a b))) M
def spGo : DSp := fun ds M Q => ∃ a b, ds = [dSec a, dSec b] ∧ NmS a.k ∧ NmS b.k ∧ Together a b ∧ Q (.bl true) M
def spIsSection : DSp := fun ds M Q => ∃ a m, ds = [dSec a, .int m] ∧ SecOk m a ∧ Q (.bl true) M
def spAreSections : DSp := fun ds M Q => ∃ (xs : List Sec) (m : Int), ds = [.tup (xs.map dSec), .int m] ∧ (∀ x ∈ xs, SecOk m x) ∧ xs.Pairwise Together ∧ xs.length ≤ 8 ∧ Q (.bl true) M
def spBadPart : DSp := fun ds M Q => ∃ r, ds = fldsR r ∧ RawOk r ∧ Q .non M
def wrt (a : Sec) : DL.D := .tup [.int a.s, .int (-a.l), .str a.k]
def spWritten : DSp := fun ds M Q => ∃ a, ds = [dSec a] ∧ Q (wrt a) M
def spTaskInit : DSp := fun ds M Q => ∃ a r, ds = .loc a :: fldsR r ∧ M a = some (.obj 1 []) ∧ RawOk r ∧ ∀ r', TaskOf r r' → Q .non (updM M a (.obj 1 (fldsR r')))
def spTask : DSp := fun ds M Q => ∃ r, ds = fldsR r ∧ RawOk r ∧ ∀ r', TaskOf r r' → Q (dTask r') M
def spPlanInit : DSp := fun ds M Q => ∃ (a : Addr) (ts : List Raw) (d : DL.D), ds = [.loc a, d] ∧ itemsOf d = some (ts.map dTask) ∧ strSz d ∧ M a = some (.obj 0 []) ∧ (ts.map (·.nm)).Nodup ∧ (ts.map (·.rk)).Nodup ∧ ts.length < 64 ∧ (∀ t ∈ ts, RawOk t) ∧
  ∀ (d1 d2 : Addr) (ps : List Raw) (ks : List Key) (es : List DL.D) (M' : Mem), M' a = some (.obj 0 [.loc d1, .tup (ps.map dTask), .loc d2]) → M' d1 = some (.co (.K (ts.map fun t => .inr t.nm) (ts.map dTask))) → M' d2 = some (.co (.K ks es)) → (∀ b, b ≠ a → b ≠ d1 → b ≠ d2 → M' b = M b) → d1 ≠ a → d2 ≠ a → M d1 = none → M d2 = none → PlanP ts ps ks es → Q .non M'
def spPlan : DSp := fun ds M Q => ∃ (ts : List Raw) (d : DL.D), ds = [d] ∧ itemsOf d = some (ts.map dTask) ∧ strSz d ∧ (ts.map (·.nm)).Nodup ∧ (ts.map (·.rk)).Nodup ∧ ts.length < 64 ∧ (∀ t ∈ ts, RawOk t) ∧ ∀ pl, PlanAt pl ts → Q pl M
def spPlanTask : DSp := fun ds M Q => ∃ (pl : DL.D) (ts : List Raw) (r : Raw), ds = [pl, .str r.nm] ∧ PlanAt pl ts ∧ r ∈ ts ∧ Q (dTask r) M
def spAbove : DSp := fun ds M Q => ∃ (pl : DL.D) (ts : List Raw) (r : Raw), ds = [pl, .str r.nm] ∧ PlanAt pl ts ∧ r ∈ ts ∧ ∀ (xs : List Raw), xs.Perm (ts.filter fun t => decide (t.rk < r.rk)) → (xs.Pairwise fun a b => a.rk < b.rk) → Q (.lst (xs.map dTask)) M
def spHolding : DSp := fun ds M Q => ∃ (pl : DL.D) (ts : List Raw) (r : Raw), ds = [pl, .str r.nm] ∧ PlanAt pl ts ∧ r ∈ ts ∧ ∀ (xs : List (Raw × Sec)), (xs.map fun p => p.2.l - 1).Perm (backs ts r.rk) → Q (.lst (xs.map fun p => .tup [dTask p.1, dSec p.2])) M
def spHeldBack : DSp := fun ds M Q => ∃ (pl : DL.D) (ts : List Raw) (r : Raw), ds = [pl, .str r.nm] ∧ PlanAt pl ts ∧ r ∈ ts ∧ Q (.int (back ts r.rk)) M
def spTimesUp : DSp := fun ds M Q => ∃ n g : Int, ds = [.int n, .int g] ∧ 0 < g ∧ g < LIM ∧ -(3 * 1267650600228229401496703205376) < n ∧ n < 3 * 1267650600228229401496703205376 ∧ Q (.int ((n + g - 1) / g)) M
def spRightSide : DSp := fun ds M Q => ∃ (pl : DL.D) (ts : List Raw) (r : Raw) (x : Int), ds = [pl, .str r.nm, .int x] ∧ PlanAt pl ts ∧ r ∈ ts ∧ Sml x ∧ Q (.int (side ts r x)) M
/-- Q of the least number that is its own right side within the due; else of none -/
def LeastQ (ts : List Raw) (r : Raw) (f : Int → Int) (Q : DL.D → Prop) : Prop := (∀ k, LFix (side ts r) k → k ≤ r.due - r.wt → Q (.int (f k))) ∧ ((∀ k, 0 ≤ k → side ts r k = k → r.due - r.wt < k) → Q .non)
def spLeast : DSp := fun ds M Q => ∃ (pl : DL.D) (ts : List Raw) (r : Raw), ds = [pl, .str r.nm] ∧ PlanAt pl ts ∧ r ∈ ts ∧ LeastQ ts r (fun k => k) fun d => Q d M
def spBound : DSp := fun ds M Q => ∃ (pl : DL.D) (ts : List Raw) (r : Raw), ds = [pl, .str r.nm] ∧ PlanAt pl ts ∧ r ∈ ts ∧ LeastQ ts r (fun k => r.wt + k) fun d => Q d M
def spTasks : DSp := fun ds M Q => ∃ (pl : DL.D) (ts : List Raw), ds = [pl] ∧ PlanAt pl ts ∧ ∀ (xs : List Raw), xs.Perm ts → (xs.Pairwise fun a b => a.rk < b.rk) → Q (.lst (xs.map dTask)) M
def HasB (ts : List Raw) (r : Raw) : Prop := ∃ k, LFix (side ts r) k ∧ k ≤ r.due - r.wt
def spIsKept : DSp := fun ds M Q => ∃ (pl : DL.D) (ts : List Raw), ds = [pl] ∧ PlanAt pl ts ∧ ∀ b : Bool, (b = true ↔ ∀ r ∈ ts, HasB ts r) → Q (.bl b) M
/-! the law's own -/
def spPen : DSp := fun ds M Q => ∃ ns : List Int, ds = [.scr ns] ∧ ∀ a M', M a = none → But a M M' → PenM 0 M' a → Q (.loc a) M'
def spDraw : DSp := fun ds M Q => ∃ (a : Addr) (n c : Int), ds = [.loc a, .int n] ∧ 0 < n ∧ n < 1073741824 ∧ PenM c M a ∧ c < 1000000000 ∧ ∀ r M', 0 ≤ r → r < n → But a M M' → PenM (c + 1) M' a → Q (.int r) M'
def spNames : DSp := fun ds M Q => ∃ (a : Addr) (n c : Int), ds = [.loc a, .int n] ∧ 0 ≤ n ∧ n ≤ 26 ∧ PenM c M a ∧ c < 900000000 ∧ ∀ (xs : List Str) M', xs.length = n.toNat → xs.Nodup → (∀ x ∈ xs, NmS x) → But a M M' → PenM (c + 100) M' a → Q (.lst (xs.map .str)) M'
def spSections : DSp := fun ds M Q => ∃ (a : Addr) (full : Int) (ls : List Str) (c : Int), ds = [.loc a, .int full, .lst (ls.map .str)] ∧ 1 ≤ full ∧ full < 1000000 ∧ 3 ≤ ls.length ∧ ls.Nodup ∧ (∀ x ∈ ls, NmS x) ∧ PenM c M a ∧ c < 900000000 ∧
  ∀ (xs : List Sec) M', (∀ x ∈ xs, SecOk full x) → xs.Pairwise Together → xs.length ≤ 8 → But a M M' → PenM (c + 100) M' a → Q (.tup (xs.map dSec)) M'
def RawS (r : Raw) : Prop := r.mst < 100000 ∧ r.wt < 100000 ∧ r.gap < 100000
def spOne : DSp := fun ds M Q => ∃ (a : Addr) (nm : Str) (rk : Int) (ls : List Str) (wide c : Int), ds = [.loc a, .str nm, .int rk, .lst (ls.map .str), .int wide] ∧ 1 ≤ wide ∧ wide < 1000 ∧ 3 ≤ ls.length ∧ ls.Nodup ∧ (∀ x ∈ ls, NmS x) ∧ NmS nm ∧ 1 ≤ rk ∧ rk < LIM ∧ PenM c M a ∧ c < 800000000 ∧
  ∀ r M', r.nm = nm → r.rk = rk → RawOk r → RawS r → But a M M' → PenM (c + 1000) M' a → Q (dRaw r) M'
structure RawsOk (rs : List Raw) : Prop where
  nms : (rs.map (·.nm)).Nodup
  rks : (rs.map (·.rk)).Nodup
  ok : ∀ r ∈ rs, RawOk r
  few : rs.length < 64
def RawsB (rs : List Raw) (many : Int) : Prop := (∀ r ∈ rs, r.rk < 400 ∧ RawS r) ∧ 1 ≤ rs.length ∧ (rs.length : Int) ≤ many
def spRaws : DSp := fun ds M Q => ∃ (a : Addr) (many wide c : Int), ds = [.loc a, .int many, .int wide] ∧ 1 ≤ many ∧ many ≤ 20 ∧ 1 ≤ wide ∧ wide < 1000 ∧ PenM c M a ∧ c < 700000000 ∧ ∀ (rs : List Raw) (M' : Mem), RawsOk rs → RawsB rs many → But a M M' → PenM (c + 100000) M' a → Q (.lst (rs.map dRaw)) M'
def spLawTask : DSp := fun ds M Q => ∃ r, ds = [dRaw r] ∧ RawOk r ∧ ∀ r', TaskOf r r' → Q (dTask r') M
inductive TasksOf : List Raw → List Raw → Prop
  | nil : TasksOf [] []
  | cons {r t : Raw} {rs ts : List Raw} : TaskOf r t → TasksOf rs ts → TasksOf (r :: rs) (t :: ts)
def spMade : DSp := fun ds M Q => ∃ (rs : List Raw), ds = [.lst (rs.map dRaw)] ∧ RawsOk rs ∧ ∀ (ts : List Raw) (pl : DL.D), TasksOf rs ts → PlanAt pl ts → Q pl M
def spLawRaw : DSp := fun ds M Q => ∃ (rs : List Raw) (r : Raw), ds = [.lst (rs.map dRaw), .str r.nm] ∧ RawsOk rs ∧ r ∈ rs ∧ Q (dRaw r) M
def spLawCeiling : DSp := fun ds M Q => ∃ (rs : List Raw) (k : Str), ds = [.lst (rs.map dRaw), .str k] ∧ RawsOk rs ∧ (∃ t ∈ rs, ∃ s ∈ t.secs, s.k = k) ∧ Q (.int (ceil rs k)) M
def spLawBack : DSp := fun ds M Q => ∃ (rs : List Raw) (r : Raw), ds = [.lst (rs.map dRaw), .str r.nm] ∧ RawsOk rs ∧ r ∈ rs ∧ Q (.int (back rs r.rk)) M
def spLawSide : DSp := fun ds M Q => ∃ (rs : List Raw) (r : Raw) (x : Int), ds = [.lst (rs.map dRaw), .str r.nm, .int x] ∧ RawsOk rs ∧ r ∈ rs ∧ Sml x ∧ Q (.int (side rs r x)) M
def spLaw : DSp := fun ds M Q => ∃ ns : List Int, ds = [.scr ns] ∧ ns.length ≤ 63 ∧ M = (fun _ => none) ∧ ∀ M', Q (.bl true) M'
/-! ### the works' laws: what they draw -/
/-- all but the pen is kept; there may be more -/
def KeepB (a : Addr) (M M' : Mem) : Prop := ∀ b mo, b ≠ a → M b = some mo → M' b = some mo
def RawsD (rs : List Raw) (many : Int) : Prop := RawsOk rs ∧ (rs.length : Int) = many ∧ ∀ r ∈ rs, r.rk < 400 ∧ RawS r
def spSect3 : DSp := fun ds M Q => ∃ (a : Addr) (full : Int) (ls : List Str) (c : Int), ds = [.loc a, .int full, .lst (ls.map .str)] ∧ 1 ≤ full ∧ full < 1000000 ∧ ls.length = 3 ∧ ls.Nodup ∧ (∀ x ∈ ls, NmS x) ∧ PenM c M a ∧ c < 900000000 ∧
  ∀ (xs : List Sec) M', (∀ x ∈ xs, SecOk full x) → xs.Pairwise Together → xs.length ≤ 8 → KeepB a M M' → PenM (c + 100) M' a → Q (.tup (xs.map dSec)) M'
def spRaws3 : DSp := fun ds M Q => ∃ (a : Addr) (many wide c : Int), ds = [.loc a, .int many, .int wide] ∧ 1 ≤ many ∧ many ≤ 20 ∧ 1 ≤ wide ∧ wide < 1000 ∧ PenM c M a ∧ c < 700000000 ∧ ∀ (rs : List Raw) (M' : Mem), RawsD rs many → KeepB a M M' → PenM (c + 100000) M' a → Q (.lst (rs.map dRaw)) M'
/-! ### wishes and jobs -/
structure Wish where
  h : Int
  nm : Str
  w : Int
def dWish (x : Wish) : DL.D := .tup [.int x.h, .str x.nm, .int x.w]
def pairD (p : Int × Int) : DL.D := .tup [.int p.1, .int p.2]
structure Jb where
  nm : Str
  k : Nat
  h : Int
  ar : Int
  re : Int
  w : Int
def fldsJ (j : Jb) : List DL.D := [.str j.nm, .int (j.k : Nat), .int j.h, .int j.ar, .int j.re, .int j.w]
def dJob (j : Jb) : DL.D := .tup (fldsJ j)
def dJobL (j : Jb) : DL.D := .lst (fldsJ j)
def arrOf (r : Raw) (la : Option Int) (h : Int) : Int := match la with
  | none => h - r.wt
  | some l => if l + r.gap > h - r.wt then l + r.gap else h - r.wt
def relOf (g : Bool) (h ar : Int) : Int := if g then (if ar > h then ar else h) else h
/-- the jobs of one task by its rows -/
def jobsA (r : Raw) (gate : Bool) : Nat → Option Int → List (Int × Int) → List Jb
  | _, _, [] => []
  | k, la, (h, w) :: ps => ⟨r.nm, k, h, arrOf r la h, relOf gate h (arrOf r la h), w⟩ :: jobsA r gate (k + 1) (some (arrOf r la h)) ps
def jobsOf (r : Raw) (gate : Bool) (ps : List (Int × Int)) : List Jb := jobsA r gate 0 none ps
def rowsFor (ws : List Wish) (nm : Str) : List (Int × Int) := (ws.filter fun x => decide (x.nm = nm)).map fun x => (x.h, x.w)
def leP (a b : Int × Int) : Bool := leD (pairD a) (pairD b)
def leR (a b : Raw) : Bool := leD (.int a.rk) (.int b.rk)
def jobsIn (rs : List Raw) (ws : List Wish) (gate : Bool) : List Jb := (rs.mergeSort leR).flatMap fun r => jobsOf r gate ((rowsFor ws r.nm).mergeSort leP)
def WishB (x : Wish) : Prop := 0 ≤ x.h ∧ x.h < LIM ∧ 1 ≤ x.w ∧ x.w < LIM
def WishesOk (rs : List Raw) (ws : List Wish) : Prop := ws.length < 40 ∧ ∀ x ∈ ws, WishB x ∧ ∃ r ∈ rs, r.nm = x.nm
def spNeed : DSp := fun ds M Q => ∃ (pl : DL.D) (ts : List Raw) (r : Raw) (w : Int), ds = [pl, .str r.nm, .int w] ∧ PlanAt pl ts ∧ r ∈ ts ∧ 1 ≤ w ∧ Q .non M
def spJobsOf : DSp := fun ds M Q => ∃ (r : Raw) (ps : List (Int × Int)) (g : Bool), ds = [dTask r, .lst (ps.map pairD), .bl g] ∧ RawOk r ∧ ps.length < 64 ∧ Q (.lst ((jobsOf r g ps).map dJob)) M
def spLetIn : DSp := fun ds M Q => ∃ (pl d : DL.D) (ts : List Raw) (ws : List Wish) (g : Bool), ds = [pl, d, .bl g] ∧ itemsOf d = some (ws.map dWish) ∧ strSz d ∧ PlanAt pl ts ∧ WishesOk ts ws ∧ ∀ p, M p = none → Q (.loc p) (updM M p (.co (.L ((jobsIn ts ws g).map dJob))))
def spWishes : DSp := fun ds M Q => ∃ (a : Addr) (rs : List Raw) (many wide c : Int), ds = [.loc a, .lst (rs.map dRaw), .int many, .int wide] ∧ RawsOk rs ∧ rs ≠ [] ∧ (∀ r ∈ rs, RawS r) ∧ 0 ≤ many ∧ many < 40 ∧ 1 ≤ wide ∧ wide ≤ 1000000000 ∧ PenM c M a ∧ c < 700000000 ∧
  ∀ (ws : List Wish) (M' : Mem), WishesOk rs ws → But a M M' → PenM (c + 1000) M' a → Q (.lst (ws.map dWish)) M'
def spLawJobs : DSp := fun ds M Q => ∃ (rs : List Raw) (ws : List Wish) (g : Bool), ds = [.lst (rs.map dRaw), .lst (ws.map dWish), .bl g] ∧ RawsOk rs ∧ WishesOk rs ws ∧ Q (.lst ((jobsIn rs ws g).map dJobL)) M

def spN : Nat → DSp
  | 0 => spDraw
  | 1 => spNames
  | 2 => spSect3
  | 3 => spWithin
  | 4 => fun ds => spIsWhole (ds ++ [.int 0])
  | 5 => spIsWhole
  | 6 => spIsName
  | 7 => spIsSection
  | 8 => spGo
  | 9 => spAreSections
  | 10 => spBadPart
  | 11 => spWritten
  | 12 => spTask
  | 13 => spPlan
  | 14 => spTasks
  | 15 => spNeed
  | 16 => spJobsOf
  | 17 => spPen
  | 18 => spRaws3
  | 19 => spMade
  | 20 => spWishes
  | 21 => spLawJobs
  | 22 => spLetIn
  | 23 => fun ds => spLetIn (ds ++ [.bl true])
  | 24 => fun ds => spPlan (ds ++ [.kemp 0])
  | _ => fun _ _ _ => False
def tab : Tab := { attr := attrN, cname := cnameN, cfs := cfsN, ent := entN, sp := spN, glb := globN }
structure Facts (b : Bz) : Prop where
  g : b.Good
  z_abs : b.mg "abs" = none
  z_all : b.mg "all" = none
  z_bool : b.mg "bool" = none
  z_enumerate : b.mg "enumerate" = none
  z_int : b.mg "int" = none
  z_isinstance : b.mg "isinstance" = none
  z_len : b.mg "len" = none
  z_list : b.mg "list" = none
  z_max : b.mg "max" = none
  z_min : b.mg "min" = none
  z_range : b.mg "range" = none
  z_sorted : b.mg "sorted" = none
  z_str : b.mg "str" = none
  z_tuple : b.mg "tuple" = none
  g_LONGEST_NAME : ∀ {A : Around} {κ : Kt} {pos : Pos}, glB κ "LONGEST_NAME" = true → HE b A κ (.Name "LONGEST_NAME" pos) (.glob 0)
  g_LETTERS : ∀ {A : Around} {κ : Kt} {pos : Pos}, glB κ "LETTERS" = true → HE b A κ (.Name "LETTERS" pos) (.glob 1)
section
variable {P : Program} {w : World} {K : PySem.W.Frag} {mg : Str → Option Value} {base : Heap} {N : Nam}
def n__law_pen : List Str := ["script", "cell"]
def T__law_pen : DL.T := (.retM (.disp [.inr "cells", .inr "at", .inr "left"] (.cons (.comp [1] (.tname 1) (.it (.sl (.var 0) .non (.prt (.int 63)))) .nil (.var 1)) (.cons (.int 0) (.cons (.int 0) .nil)))))
abbrev k__law_pen : Kt := ⟨n__law_pen, defScope s__law_pen, fun _ => true, false⟩
theorem w__law_pen (Z : Facts ⟨P, w, K, mg, base, tab, N⟩)  {A : Around} (hr : Room 0 A) : HSs ⟨P, w, K, mg, base, tab, N⟩ A k__law_pen (defBody s__law_pen) T__law_pen :=
  (ss_one (s_retM (o_disp (d_cons (HO.he (o_comp [("cell", 1)] ⟨(by decide +kernel), (by decide +kernel)⟩ (fun _ _ => rfl) (i_seq (h_sl (v_ 0 (by decide +kernel)) p_none (p_some h_int))) (g_ 1 (by decide +kernel)) c_nil (v_ 1 (by decide +kernel)))) (d_cons h_int (d_cons h_int d_nil))) rfl rfl (by decide +kernel) (by decide +kernel))))
def n__law_draw : List Str := ["pen", "many", "at", "cell", "number", "again", "digit"]
def T__law_draw : DL.T := (.seq (.cond (.cmp .gt (.idx (.var 0) (.str "left")) (.int 0)) (.seq (.set 6 (.bin .mod (.idx (.var 0) (.str "left")) (.var 1)))
  (.seq (.setIx (.var 0) (.str "left") (.bin .fdiv (.idx (.var 0) (.str "left")) (.var 1)))
  (.ret (.var 6)))) .skip)
  (.seq (.set 2 (.idx (.var 0) (.str "at")))
  (.seq (.setIx (.var 0) (.str "at") (.bin .add (.var 2) (.int 1)))
  (.seq (.set 3 (.bin .add (.bin .mul (.var 2) (.var 2)) (.int 5)))
  (.seq (.cond (.cmp .ne (.idx (.var 0) (.str "cells")) (.lst .nil)) (.set 3 (.idx (.idx (.var 0) (.str "cells")) (.bin .mod (.var 2) (.bi .len (.cons (.idx (.var 0) (.str "cells")) .nil))))) .skip)
  (.seq (.cond (.and (.cmp .lt (.var 2) (.bi .len (.cons (.idx (.var 0) (.str "cells")) .nil))) (.cmp .ge (.bi .abs (.cons (.var 3) .nil)) (.bin .pow (.int 10) (.int 18)))) (.seq (.setIx (.var 0) (.str "left") (.bin .fdiv (.bi .abs (.cons (.var 3) .nil)) (.var 1)))
  (.ret (.bin .mod (.bi .abs (.cons (.var 3) .nil)) (.var 1)))) .skip)
  (.seq (.set 4 (.bin .mod (.bin .mul (.bin .add (.bin .add (.bin .mod (.var 3) (.int 4294967311)) (.bin .mul (.int 65539) (.var 2))) (.int 17)) (.int 48271)) (.int 4294967311)))
  (.seq (.for (.tname 5) (.rng1 (.int 3))
  (.seq (.set 4 (.bin .add (.bin .add (.bin .add (.bin .mul (.var 4) (.var 4)) (.bin .mul (.int 69621) (.var 4))) (.var 2)) (.var 5)))
  (.set 4 (.bin .mod (.var 4) (.int 4294967311)))))
  (.ret (.bin .mod (.bin .fdiv (.var 4) (.int 32)) (.var 1)))))))))))
abbrev k__law_draw : Kt := ⟨n__law_draw, defScope s__law_draw, fun _ => true, false⟩
theorem w__law_draw (Z : Facts ⟨P, w, K, mg, base, tab, N⟩)  {A : Around} (hr : Room 0 A) : HSs ⟨P, w, K, mg, base, tab, N⟩ A k__law_draw (defBody s__law_draw) T__law_draw :=
  (ss_cons (s_if (t_cmp .gt rfl rfl (h_idx (fun _ _ => rfl) (v_ 0 (by decide +kernel)) h_str) h_int)
  (ss_cons (x_set 6 (by decide +kernel) (fun _ => rfl) (h_bin .mod rfl (h_idx (fun _ _ => rfl) (v_ 0 (by decide +kernel)) h_str) (v_ 1 (by decide +kernel))))
  (ss_cons (s_setIx (fun _ _ => rfl) (fun _ => rfl) (fun _ => rfl) (fun _ => rfl) (v_ 0 (by decide +kernel)) h_str (h_bin .fdiv rfl (h_idx (fun _ _ => rfl) (v_ 0 (by decide +kernel)) h_str) (v_ 1 (by decide +kernel))))
  (ss_one (s_ret (v_ 6 (by decide +kernel)))))) ss_nil)
  (ss_cons (x_set 2 (by decide +kernel) (fun _ => rfl) (h_idx (fun _ _ => rfl) (v_ 0 (by decide +kernel)) h_str))
  (ss_cons (s_setIx (fun _ _ => rfl) (fun _ => rfl) (fun _ => rfl) (fun _ => rfl) (v_ 0 (by decide +kernel)) h_str (h_bin .add rfl (v_ 2 (by decide +kernel)) h_int))
  (ss_cons (x_set 3 (by decide +kernel) (fun _ => rfl) (h_bin .add rfl (h_bin .mul rfl (v_ 2 (by decide +kernel)) (v_ 2 (by decide +kernel))) h_int))
  (ss_cons (s_if (t_cmp .ne rfl rfl (h_idx (fun _ _ => rfl) (v_ 0 (by decide +kernel)) h_str) (HO.he (o_lst a_nil)))
  (ss_one (x_set 3 (by decide +kernel) (fun _ => rfl) (h_idx (fun _ _ => rfl) (h_idx (fun _ _ => rfl) (v_ 0 (by decide +kernel)) h_str) (h_bin .mod rfl (v_ 2 (by decide +kernel)) (h_len Z.z_len (by decide +kernel) rfl (h_idx (fun _ _ => rfl) (v_ 0 (by decide +kernel)) h_str)))))) ss_nil)
  (ss_cons (s_if (HW.ht (w_and (t_cmp .lt rfl rfl (v_ 2 (by decide +kernel)) (h_len Z.z_len (by decide +kernel) rfl (h_idx (fun _ _ => rfl) (v_ 0 (by decide +kernel)) h_str))) (w_and1 (t_cmp .ge rfl rfl (h_abs Z.z_abs (by decide +kernel) rfl (v_ 3 (by decide +kernel))) (h_bin .pow rfl h_int h_int)))))
  (ss_cons (s_setIx (fun _ _ => rfl) (fun _ => rfl) (fun _ => rfl) (fun _ => rfl) (v_ 0 (by decide +kernel)) h_str (h_bin .fdiv rfl (h_abs Z.z_abs (by decide +kernel) rfl (v_ 3 (by decide +kernel))) (v_ 1 (by decide +kernel))))
  (ss_one (s_ret (h_bin .mod rfl (h_abs Z.z_abs (by decide +kernel) rfl (v_ 3 (by decide +kernel))) (v_ 1 (by decide +kernel)))))) ss_nil)
  (ss_cons (x_set 4 (by decide +kernel) (fun _ => rfl) (h_bin .mod rfl (h_bin .mul rfl (h_bin .add rfl (h_bin .add rfl (h_bin .mod rfl (v_ 3 (by decide +kernel)) h_int) (h_bin .mul rfl h_int (v_ 2 (by decide +kernel)))) h_int) h_int) h_int))
  (ss_cons (s_for (fun _ _ => rfl) (i_rng1 Z.z_range (by decide +kernel) rfl h_int) (g_ 5 (by decide +kernel))
  (ss_cons (x_set 4 (by decide +kernel) (fun _ => rfl) (h_bin .add rfl (h_bin .add rfl (h_bin .add rfl (h_bin .mul rfl (v_ 4 (by decide +kernel)) (v_ 4 (by decide +kernel))) (h_bin .mul rfl h_int (v_ 4 (by decide +kernel)))) (v_ 2 (by decide +kernel))) (v_ 5 (by decide +kernel))))
  (ss_one (x_set 4 (by decide +kernel) (fun _ => rfl) (h_bin .mod rfl (v_ 4 (by decide +kernel)) h_int)))))
  (ss_one (s_ret (h_bin .mod rfl (h_bin .fdiv rfl (v_ 4 (by decide +kernel)) h_int) (v_ 1 (by decide +kernel)))))))))))))
def n__law_names : List Str := ["pen", "many", "letters", "word", "at", "first", "by", "lot", "found", "k", "tail"]
def T__law_names : DL.T := (.seq (.set 2 (.str "abcdefghijklmnopqrstuvwxyz"))
  (.seq (.set 3 (.bm .join (.str "") (.cons (.comp [9] (.tname 9) (.rng1 (.bin .add (.int 1) (.call 0 (.cons (.var 0) (.cons (.int 12) .nil))))) .nil (.idx (.var 2) (.call 0 (.cons (.var 0) (.cons (.int 26) .nil))))) .nil)))
  (.seq (.set 4 (.call 0 (.cons (.var 0) (.cons (.bi .len (.cons (.var 3) .nil)) .nil))))
  (.seq (.par2 5 6 (.cons (.call 0 (.cons (.var 0) (.cons (.int 26) .nil))) (.cons (.idx (.lst (.cons (.int 3) (.cons (.int 5) (.cons (.int 7) (.cons (.int 9) (.cons (.int 11) (.cons (.int 15) .nil))))))) (.call 0 (.cons (.var 0) (.cons (.int 6) .nil)))) .nil)))
  (.seq (.par2 7 8 (.cons (.bm .indexS (.var 2) (.cons (.idx (.var 3) (.var 4)) .nil)) (.cons (.newM (.lst .nil)) .nil)))
  (.seq (.for (.tname 9) (.rng1 (.var 1))
  (.seq (.set 10 (.sl (.sl (.var 3) (.prt (.bin .add (.var 4) (.int 1))) .non) .non (.prt (.idx (.lst (.cons (.int 12) (.cons (.bin .mod (.var 9) (.int 4)) .nil))) (.bin .mod (.var 7) (.int 2))))))
  (.expr (.pm .append (.var 8) (.cons (.bin .add (.bin .add (.sl (.var 3) .non (.prt (.var 4))) (.idx (.var 2) (.bin .mod (.bin .add (.var 5) (.bin .mul (.var 6) (.var 9))) (.int 26)))) (.var 10)) .nil)))))
  (.seq (.cond (.and (.cmp .gt (.var 4) (.int 0)) (.and (.cmp .gt (.var 1) (.int 0)) (.cmp .eq (.bin .mod (.bin .fdiv (.var 7) (.int 2)) (.int 3)) (.int 1)))) (.setIx (.var 8) (.bin .mod (.bin .fdiv (.var 7) (.int 6)) (.var 1)) (.sl (.var 3) .non (.prt (.var 4)))) .skip)
  (.ret (.frz (.var 8))))))))))
abbrev k__law_names : Kt := ⟨n__law_names, defScope s__law_names, fun _ => true, false⟩
theorem w__law_names (Z : Facts ⟨P, w, K, mg, base, tab, N⟩) (e_0 : FnI ⟨P, w, K, mg, base, tab, N⟩ 1 "_law_draw" 2 (spN 0)) {A : Around} (hr : Room 3 A) : HSs ⟨P, w, K, mg, base, tab, N⟩ A k__law_names (defBody s__law_names) T__law_names :=
  (ss_cons (x_set 2 (by decide +kernel) (fun _ => rfl) h_str)
  (ss_cons (x_set 3 (by decide +kernel) (fun _ => rfl) (h_join (fun _ => rfl) (by decide +kernel) rfl h_str (HO.he (o_comp [("k", 9)] ⟨(by decide +kernel), (by decide +kernel)⟩ (fun _ _ => rfl) (i_rng1 Z.z_range (by decide +kernel) rfl (h_bin .add rfl h_int (e_0 A _ _ _ _ _ _ (hr.mono (by decide)) rfl rfl (by decide +kernel) (fun z => (nomatch z)) rfl (a_cons rfl (v_ 0 (by decide +kernel)) (a_cons rfl h_int a_nil))))) (g_ 9 (by decide +kernel)) c_nil (h_idx (fun _ _ => rfl) (v_ 2 (by decide +kernel)) (e_0 A _ _ _ _ _ _ (hr.mono (by decide)) rfl rfl (by decide +kernel) (fun z => (nomatch z)) rfl (a_cons rfl (v_ 0 (by decide +kernel)) (a_cons rfl h_int a_nil))))))))
  (ss_cons (x_set 4 (by decide +kernel) (fun _ => rfl) (e_0 A _ _ _ _ _ _ (hr.mono (by decide)) rfl rfl (by decide +kernel) (fun z => (nomatch z)) rfl (a_cons rfl (v_ 0 (by decide +kernel)) (a_cons rfl (h_len Z.z_len (by decide +kernel) rfl (v_ 3 (by decide +kernel))) a_nil))))
  (ss_cons (x_par2 5 6 (by decide +kernel) (by decide +kernel) (by decide +kernel) rfl (by decide +kernel) (fun _ => rfl) (a_cons rfl (e_0 A _ _ _ _ _ _ (hr.mono (by decide)) rfl rfl (by decide +kernel) (fun z => (nomatch z)) rfl (a_cons rfl (v_ 0 (by decide +kernel)) (a_cons rfl h_int a_nil))) (a_cons rfl (h_idx (fun _ _ => rfl) (HO.he (o_lst (a_cons rfl h_int (a_cons rfl h_int (a_cons rfl h_int (a_cons rfl h_int (a_cons rfl h_int (a_cons rfl h_int a_nil)))))))) (e_0 A _ _ _ _ _ _ (hr.mono (by decide)) rfl rfl (by decide +kernel) (fun z => (nomatch z)) rfl (a_cons rfl (v_ 0 (by decide +kernel)) (a_cons rfl h_int a_nil)))) a_nil)))
  (ss_cons (x_par2 7 8 (by decide +kernel) (by decide +kernel) (by decide +kernel) rfl (by decide +kernel) (fun _ => rfl) (a_cons rfl (h_indexS (fun _ => rfl) (few1 rfl) (by decide +kernel) rfl (v_ 2 (by decide +kernel)) (a_cons rfl (h_idx (fun _ _ => rfl) (v_ 3 (by decide +kernel)) (v_ 4 (by decide +kernel))) a_nil)) (a_cons rfl (h_newM (o_lst a_nil)) a_nil)))
  (ss_cons (s_for (fun _ _ => rfl) (i_rng1 Z.z_range (by decide +kernel) rfl (v_ 1 (by decide +kernel))) (g_ 9 (by decide +kernel))
  (ss_cons (x_set 10 (by decide +kernel) (fun _ => rfl) (h_sl (h_sl (v_ 3 (by decide +kernel)) (p_some (h_bin .add rfl (v_ 4 (by decide +kernel)) h_int)) p_none) p_none (p_some (h_idx (fun _ _ => rfl) (HO.he (o_lst (a_cons rfl h_int (a_cons rfl (h_bin .mod rfl (v_ 9 (by decide +kernel)) h_int) a_nil)))) (h_bin .mod rfl (v_ 7 (by decide +kernel)) h_int)))))
  (ss_one (s_expr (fun _ => rfl) (h_pm row_append (fun _ => rfl) (few1 rfl) (by decide +kernel) rfl (v_ 8 (by decide +kernel)) (a_cons rfl (h_bin .add rfl (h_bin .add rfl (h_sl (v_ 3 (by decide +kernel)) p_none (p_some (v_ 4 (by decide +kernel)))) (h_idx (fun _ _ => rfl) (v_ 2 (by decide +kernel)) (h_bin .mod rfl (h_bin .add rfl (v_ 5 (by decide +kernel)) (h_bin .mul rfl (v_ 6 (by decide +kernel)) (v_ 9 (by decide +kernel)))) h_int))) (v_ 10 (by decide +kernel))) a_nil))))))
  (ss_cons (s_if (HW.ht (w_and (t_cmp .gt rfl rfl (v_ 4 (by decide +kernel)) h_int) (w_and (t_cmp .gt rfl rfl (v_ 1 (by decide +kernel)) h_int) (w_and1 (t_cmp .eq rfl rfl (h_bin .mod rfl (h_bin .fdiv rfl (v_ 7 (by decide +kernel)) h_int) h_int) h_int)))))
  (ss_one (s_setIx (fun _ _ => rfl) (fun _ => rfl) (fun _ => rfl) (fun _ => rfl) (v_ 8 (by decide +kernel)) (h_bin .mod rfl (h_bin .fdiv rfl (v_ 7 (by decide +kernel)) h_int) (v_ 1 (by decide +kernel))) (h_sl (v_ 3 (by decide +kernel)) p_none (p_some (v_ 4 (by decide +kernel)))))) ss_nil)
  (ss_one (s_ret (h_frz (v_ 8 (by decide +kernel))))))))))))
def n__law_sections : List Str := ["pen", "limit", "locks", "found", "begin", "long", "way", "late", "other", "lock", "third", "inner"]
def T__law_sections : DL.T := (.seq (.setM 3 (.lst .nil))
  (.seq (.cond (.and (.cmp .gt (.var 1) (.int 1)) (.cmp .gt (.call 0 (.cons (.var 0) (.cons (.int 3) .nil))) (.int 0))) (.seq (.set 4 (.call 0 (.cons (.var 0) (.cons (.bin .sub (.var 1) (.int 1)) .nil))))
  (.seq (.set 5 (.bin .add (.int 1) (.call 0 (.cons (.var 0) (.cons (.bin .sub (.bin .sub (.var 1) (.int 1)) (.var 4)) .nil)))))
  (.seq (.expr (.pm .append (.var 3) (.cons (.tup (.cons (.var 4) (.cons (.var 5) (.cons (.idx (.var 2) (.call 0 (.cons (.var 0) (.cons (.bi .len (.cons (.var 2) .nil)) .nil)))) .nil)))) .nil)))
  (.seq (.set 6 (.call 0 (.cons (.var 0) (.cons (.int 3) .nil))))
  (.seq (.cond (.cmp .eq (.var 6) (.int 1)) (.seq (.set 7 (.bin .add (.var 4) (.call 0 (.cons (.var 0) (.cons (.var 5) .nil)))))
  (.seq (.set 8 (.comp [9] (.tname 9) (.it (.var 2)) (.cons (.cmp .ne (.var 9) (.idx (.idx (.var 3) (.int 0)) (.int 2))) .nil) (.var 9)))
  (.seq (.expr (.pm .append (.var 3) (.cons (.tup (.cons (.var 7) (.cons (.bin .add (.int 1) (.call 0 (.cons (.var 0) (.cons (.bin .sub (.bin .add (.var 4) (.var 5)) (.var 7)) .nil)))) (.cons (.idx (.var 8) (.call 0 (.cons (.var 0) (.cons (.bi .len (.cons (.var 8) .nil)) .nil)))) .nil)))) .nil)))
  (.cond (.cmp .eq (.call 0 (.cons (.var 0) (.cons (.int 2) .nil))) (.int 0)) (.seq (.set 10 (.idx (.comp [9] (.tname 9) (.it (.var 2)) (.cons (.cmp .notin (.var 9) (.tup (.cons (.idx (.idx (.var 3) (.int 0)) (.int 2)) (.cons (.idx (.idx (.var 3) (.int 1)) (.int 2)) .nil)))) .nil) (.var 9)) (.int 0)))
  (.seq (.set 11 (.bin .add (.var 7) (.call 0 (.cons (.var 0) (.cons (.idx (.idx (.var 3) (.int 1)) (.int 1)) .nil)))))
  (.expr (.pm .append (.var 3) (.cons (.tup (.cons (.var 11) (.cons (.bin .add (.int 1) (.call 0 (.cons (.var 0) (.cons (.bin .sub (.bin .add (.var 7) (.idx (.idx (.var 3) (.int 1)) (.int 1))) (.var 11)) .nil)))) (.cons (.var 10) .nil)))) .nil))))) .skip)))) .skip)
  (.cond (.and (.cmp .eq (.var 6) (.int 2)) (.cmp .lt (.bin .add (.var 4) (.var 5)) (.bin .sub (.var 1) (.int 1)))) (.seq (.set 7 (.bin .add (.bin .add (.var 4) (.var 5)) (.call 0 (.cons (.var 0) (.cons (.bin .sub (.bin .sub (.bin .sub (.var 1) (.int 1)) (.var 4)) (.var 5)) .nil)))))
  (.expr (.pm .append (.var 3) (.cons (.tup (.cons (.var 7) (.cons (.bin .add (.int 1) (.call 0 (.cons (.var 0) (.cons (.bin .sub (.bin .sub (.var 1) (.int 1)) (.var 7)) .nil)))) (.cons (.idx (.var 2) (.call 0 (.cons (.var 0) (.cons (.bi .len (.cons (.var 2) .nil)) .nil)))) .nil)))) .nil)))) .skip)))))) .skip)
  (.ret (.bi .tuple (.cons (.stp (.var 3) (.idx (.lst (.cons (.int 1) (.cons (.neg (.int 1)) .nil))) (.call 0 (.cons (.var 0) (.cons (.int 2) .nil))))) .nil)))))
abbrev k__law_sections : Kt := ⟨n__law_sections, defScope s__law_sections, fun _ => true, false⟩
theorem w__law_sections (Z : Facts ⟨P, w, K, mg, base, tab, N⟩) (e_0 : FnI ⟨P, w, K, mg, base, tab, N⟩ 1 "_law_draw" 2 (spN 0)) {A : Around} (hr : Room 3 A) : HSs ⟨P, w, K, mg, base, tab, N⟩ A k__law_sections (defBody s__law_sections) T__law_sections :=
  (ss_cons (x_setM 3 (by decide +kernel) (fun _ => rfl) (o_lst a_nil))
  (ss_cons (s_if (HW.ht (w_and (t_cmp .gt rfl rfl (v_ 1 (by decide +kernel)) h_int) (w_and1 (t_cmp .gt rfl rfl (e_0 A _ _ _ _ _ _ (hr.mono (by decide)) rfl rfl (by decide +kernel) (fun z => (nomatch z)) rfl (a_cons rfl (v_ 0 (by decide +kernel)) (a_cons rfl h_int a_nil))) h_int))))
  (ss_cons (x_set 4 (by decide +kernel) (fun _ => rfl) (e_0 A _ _ _ _ _ _ (hr.mono (by decide)) rfl rfl (by decide +kernel) (fun z => (nomatch z)) rfl (a_cons rfl (v_ 0 (by decide +kernel)) (a_cons rfl (h_bin .sub rfl (v_ 1 (by decide +kernel)) h_int) a_nil))))
  (ss_cons (x_set 5 (by decide +kernel) (fun _ => rfl) (h_bin .add rfl h_int (e_0 A _ _ _ _ _ _ (hr.mono (by decide)) rfl rfl (by decide +kernel) (fun z => (nomatch z)) rfl (a_cons rfl (v_ 0 (by decide +kernel)) (a_cons rfl (h_bin .sub rfl (h_bin .sub rfl (v_ 1 (by decide +kernel)) h_int) (v_ 4 (by decide +kernel))) a_nil)))))
  (ss_cons (s_expr (fun _ => rfl) (h_pm row_append (fun _ => rfl) (few1 rfl) (by decide +kernel) rfl (v_ 3 (by decide +kernel)) (a_cons rfl (h_tup (a_cons rfl (v_ 4 (by decide +kernel)) (a_cons rfl (v_ 5 (by decide +kernel)) (a_cons rfl (h_idx (fun _ _ => rfl) (v_ 2 (by decide +kernel)) (e_0 A _ _ _ _ _ _ (hr.mono (by decide)) rfl rfl (by decide +kernel) (fun z => (nomatch z)) rfl (a_cons rfl (v_ 0 (by decide +kernel)) (a_cons rfl (h_len Z.z_len (by decide +kernel) rfl (v_ 2 (by decide +kernel))) a_nil)))) a_nil)))) a_nil)))
  (ss_cons (x_set 6 (by decide +kernel) (fun _ => rfl) (e_0 A _ _ _ _ _ _ (hr.mono (by decide)) rfl rfl (by decide +kernel) (fun z => (nomatch z)) rfl (a_cons rfl (v_ 0 (by decide +kernel)) (a_cons rfl h_int a_nil))))
  (ss_cons (s_if (t_cmp .eq rfl rfl (v_ 6 (by decide +kernel)) h_int)
  (ss_cons (x_set 7 (by decide +kernel) (fun _ => rfl) (h_bin .add rfl (v_ 4 (by decide +kernel)) (e_0 A _ _ _ _ _ _ (hr.mono (by decide)) rfl rfl (by decide +kernel) (fun z => (nomatch z)) rfl (a_cons rfl (v_ 0 (by decide +kernel)) (a_cons rfl (v_ 5 (by decide +kernel)) a_nil)))))
  (ss_cons (x_setC 8 [("lock", 9)] (by decide +kernel) ⟨(by decide +kernel), (by decide +kernel)⟩ (fun _ _ => rfl) (i_seq (v_ 2 (by decide +kernel))) (g_ 9 (by decide +kernel)) (c_one (t_cmp .ne rfl rfl (v_ 9 (by decide +kernel)) (h_idx (fun _ _ => rfl) (h_idx (fun _ _ => rfl) (v_ 3 (by decide +kernel)) h_int) h_int))) (v_ 9 (by decide +kernel)))
  (ss_cons (s_expr (fun _ => rfl) (h_pm row_append (fun _ => rfl) (few1 rfl) (by decide +kernel) rfl (v_ 3 (by decide +kernel)) (a_cons rfl (h_tup (a_cons rfl (v_ 7 (by decide +kernel)) (a_cons rfl (h_bin .add rfl h_int (e_0 A _ _ _ _ _ _ (hr.mono (by decide)) rfl rfl (by decide +kernel) (fun z => (nomatch z)) rfl (a_cons rfl (v_ 0 (by decide +kernel)) (a_cons rfl (h_bin .sub rfl (h_bin .add rfl (v_ 4 (by decide +kernel)) (v_ 5 (by decide +kernel))) (v_ 7 (by decide +kernel))) a_nil)))) (a_cons rfl (h_idx (fun _ _ => rfl) (v_ 8 (by decide +kernel)) (e_0 A _ _ _ _ _ _ (hr.mono (by decide)) rfl rfl (by decide +kernel) (fun z => (nomatch z)) rfl (a_cons rfl (v_ 0 (by decide +kernel)) (a_cons rfl (h_len Z.z_len (by decide +kernel) rfl (v_ 8 (by decide +kernel))) a_nil)))) a_nil)))) a_nil)))
  (ss_one (s_if (t_cmp .eq rfl rfl (e_0 A _ _ _ _ _ _ (hr.mono (by decide)) rfl rfl (by decide +kernel) (fun z => (nomatch z)) rfl (a_cons rfl (v_ 0 (by decide +kernel)) (a_cons rfl h_int a_nil))) h_int)
  (ss_cons (x_set 10 (by decide +kernel) (fun _ => rfl) (h_idx (fun _ _ => rfl) (HO.he (o_comp [("lock", 9)] ⟨(by decide +kernel), (by decide +kernel)⟩ (fun _ _ => rfl) (i_seq (v_ 2 (by decide +kernel))) (g_ 9 (by decide +kernel)) (c_one (t_cmp .notin rfl rfl (v_ 9 (by decide +kernel)) (h_tup (a_cons rfl (h_idx (fun _ _ => rfl) (h_idx (fun _ _ => rfl) (v_ 3 (by decide +kernel)) h_int) h_int) (a_cons rfl (h_idx (fun _ _ => rfl) (h_idx (fun _ _ => rfl) (v_ 3 (by decide +kernel)) h_int) h_int) a_nil))))) (v_ 9 (by decide +kernel)))) h_int))
  (ss_cons (x_set 11 (by decide +kernel) (fun _ => rfl) (h_bin .add rfl (v_ 7 (by decide +kernel)) (e_0 A _ _ _ _ _ _ (hr.mono (by decide)) rfl rfl (by decide +kernel) (fun z => (nomatch z)) rfl (a_cons rfl (v_ 0 (by decide +kernel)) (a_cons rfl (h_idx (fun _ _ => rfl) (h_idx (fun _ _ => rfl) (v_ 3 (by decide +kernel)) h_int) h_int) a_nil)))))
  (ss_one (s_expr (fun _ => rfl) (h_pm row_append (fun _ => rfl) (few1 rfl) (by decide +kernel) rfl (v_ 3 (by decide +kernel)) (a_cons rfl (h_tup (a_cons rfl (v_ 11 (by decide +kernel)) (a_cons rfl (h_bin .add rfl h_int (e_0 A _ _ _ _ _ _ (hr.mono (by decide)) rfl rfl (by decide +kernel) (fun z => (nomatch z)) rfl (a_cons rfl (v_ 0 (by decide +kernel)) (a_cons rfl (h_bin .sub rfl (h_bin .add rfl (v_ 7 (by decide +kernel)) (h_idx (fun _ _ => rfl) (h_idx (fun _ _ => rfl) (v_ 3 (by decide +kernel)) h_int) h_int)) (v_ 11 (by decide +kernel))) a_nil)))) (a_cons rfl (v_ 10 (by decide +kernel)) a_nil)))) a_nil)))))) ss_nil))))) ss_nil)
  (ss_one (s_if (HW.ht (w_and (t_cmp .eq rfl rfl (v_ 6 (by decide +kernel)) h_int) (w_and1 (t_cmp .lt rfl rfl (h_bin .add rfl (v_ 4 (by decide +kernel)) (v_ 5 (by decide +kernel))) (h_bin .sub rfl (v_ 1 (by decide +kernel)) h_int)))))
  (ss_cons (x_set 7 (by decide +kernel) (fun _ => rfl) (h_bin .add rfl (h_bin .add rfl (v_ 4 (by decide +kernel)) (v_ 5 (by decide +kernel))) (e_0 A _ _ _ _ _ _ (hr.mono (by decide)) rfl rfl (by decide +kernel) (fun z => (nomatch z)) rfl (a_cons rfl (v_ 0 (by decide +kernel)) (a_cons rfl (h_bin .sub rfl (h_bin .sub rfl (h_bin .sub rfl (v_ 1 (by decide +kernel)) h_int) (v_ 4 (by decide +kernel))) (v_ 5 (by decide +kernel))) a_nil)))))
  (ss_one (s_expr (fun _ => rfl) (h_pm row_append (fun _ => rfl) (few1 rfl) (by decide +kernel) rfl (v_ 3 (by decide +kernel)) (a_cons rfl (h_tup (a_cons rfl (v_ 7 (by decide +kernel)) (a_cons rfl (h_bin .add rfl h_int (e_0 A _ _ _ _ _ _ (hr.mono (by decide)) rfl rfl (by decide +kernel) (fun z => (nomatch z)) rfl (a_cons rfl (v_ 0 (by decide +kernel)) (a_cons rfl (h_bin .sub rfl (h_bin .sub rfl (v_ 1 (by decide +kernel)) h_int) (v_ 7 (by decide +kernel))) a_nil)))) (a_cons rfl (h_idx (fun _ _ => rfl) (v_ 2 (by decide +kernel)) (e_0 A _ _ _ _ _ _ (hr.mono (by decide)) rfl rfl (by decide +kernel) (fun z => (nomatch z)) rfl (a_cons rfl (v_ 0 (by decide +kernel)) (a_cons rfl (h_len Z.z_len (by decide +kernel) rfl (v_ 2 (by decide +kernel))) a_nil)))) a_nil)))) a_nil))))) ss_nil))))))) ss_nil)
  (ss_one (s_ret (h_tuple Z.z_tuple (by decide +kernel) rfl (HO.he (o_stp (fun _ _ => rfl) (v_ 3 (by decide +kernel)) (h_idx (fun _ _ => rfl) (HO.he (o_lst (a_cons rfl h_int (a_cons rfl (h_neg h_int) a_nil)))) (e_0 A _ _ _ _ _ _ (hr.mono (by decide)) rfl rfl (by decide +kernel) (fun z => (nomatch z)) rfl (a_cons rfl (v_ 0 (by decide +kernel)) (a_cons rfl h_int a_nil)))))))))))
def n__law_raw : List Str := ["pen", "many", "wide", "names", "left", "found", "k", "a_rank", "limit", "between", "last", "late"]
def T__law_raw : DL.T := (.seq (.set 3 (.call 1 (.cons (.var 0) (.cons (.bin .add (.var 1) (.int 3)) .nil))))
  (.seq (.setO 4 (.bi .listR (.cons (.var 1) .nil)))
  (.seq (.setO 5 (.lst .nil))
  (.seq (.for (.tname 6) (.rng1 (.var 1))
  (.seq (.set 7 (.bin .add (.bin .add (.int 1) (.bin .mul (.int 3) (.pmO .popAt 4 (.cons (.call 0 (.cons (.var 0) (.cons (.lenO 4) .nil))) .nil)))) (.call 0 (.cons (.var 0) (.cons (.int 3) .nil)))))
  (.seq (.set 8 (.bin .add (.int 1) (.call 0 (.cons (.var 0) (.cons (.idx (.lst (.cons (.int 3) (.cons (.int 6) .nil))) (.call 0 (.cons (.var 0) (.cons (.int 2) .nil)))) .nil)))))
  (.seq (.set 9 (.bin .add (.var 8) (.call 0 (.cons (.var 0) (.cons (.var 2) .nil)))))
  (.seq (.set 10 (.idx (.lst (.cons (.var 9) (.cons (.bin .add (.int 1) (.call 0 (.cons (.var 0) (.cons (.var 9) .nil)))) .nil))) (.call 0 (.cons (.var 0) (.cons (.int 2) .nil)))))
  (.seq (.set 11 (.idx (.lst (.cons (.int 0) (.cons (.int 0) (.cons (.call 0 (.cons (.var 0) (.cons (.int 4) .nil))) .nil)))) (.call 0 (.cons (.var 0) (.cons (.int 3) .nil)))))
  (.expr (.pmO .append 5 (.cons (.tup (.cons (.idx (.var 3) (.var 6)) (.cons (.var 7) (.cons (.var 9) (.cons (.var 8) (.cons (.var 10) (.cons (.var 11) (.cons (.call 2 (.cons (.var 0) (.cons (.var 8) (.cons (.sl (.var 3) (.prt (.var 1)) .non) .nil)))) .nil)))))))) .nil)))))))))
  (.ret (.var 5))))))
abbrev k__law_raw : Kt := ⟨n__law_raw, defScope s__law_raw, fun _ => true, false⟩
theorem w__law_raw (Z : Facts ⟨P, w, K, mg, base, tab, N⟩) (e_0 : FnI ⟨P, w, K, mg, base, tab, N⟩ 1 "_law_draw" 2 (spN 0)) (e_1 : FnI ⟨P, w, K, mg, base, tab, N⟩ 4 "_law_names" 2 (spN 1)) (e_2 : FnI ⟨P, w, K, mg, base, tab, N⟩ 4 "_law_sections" 3 (spN 2)) {A : Around} (hr : Room 6 A) : HSs ⟨P, w, K, mg, base, tab, N⟩ A k__law_raw (defBody s__law_raw) T__law_raw :=
  (ss_cons (x_set 3 (by decide +kernel) (fun _ => rfl) (e_1 A _ _ _ _ _ _ (hr.mono (by decide)) rfl rfl (by decide +kernel) (fun z => (nomatch z)) rfl (a_cons rfl (v_ 0 (by decide +kernel)) (a_cons rfl (h_bin .add rfl (v_ 1 (by decide +kernel)) h_int) a_nil))))
  (ss_cons (x_setO 4 (by decide +kernel) (fun _ => rfl) (o_listR Z.z_list (by decide +kernel) Z.z_range (by decide +kernel) rfl (v_ 1 (by decide +kernel))))
  (ss_cons (x_setO 5 (by decide +kernel) (fun _ => rfl) (o_lst a_nil))
  (ss_cons (s_for (fun _ _ => rfl) (i_rng1 Z.z_range (by decide +kernel) rfl (v_ 1 (by decide +kernel))) (g_ 6 (by decide +kernel))
  (ss_cons (x_set 7 (by decide +kernel) (fun _ => rfl) (h_bin .add rfl (h_bin .add rfl h_int (h_bin .mul rfl h_int (x_pmO 4 row_popAt (by decide +kernel) (few1 rfl) (by decide +kernel) rfl (a_cons rfl (e_0 A _ _ _ _ _ _ (hr.mono (by decide)) rfl rfl (by decide +kernel) (fun z => (nomatch z)) rfl (a_cons rfl (v_ 0 (by decide +kernel)) (a_cons rfl (x_lenO 4 Z.z_len (by decide +kernel) (by decide +kernel)) a_nil))) a_nil)))) (e_0 A _ _ _ _ _ _ (hr.mono (by decide)) rfl rfl (by decide +kernel) (fun z => (nomatch z)) rfl (a_cons rfl (v_ 0 (by decide +kernel)) (a_cons rfl h_int a_nil)))))
  (ss_cons (x_set 8 (by decide +kernel) (fun _ => rfl) (h_bin .add rfl h_int (e_0 A _ _ _ _ _ _ (hr.mono (by decide)) rfl rfl (by decide +kernel) (fun z => (nomatch z)) rfl (a_cons rfl (v_ 0 (by decide +kernel)) (a_cons rfl (h_idx (fun _ _ => rfl) (HO.he (o_lst (a_cons rfl h_int (a_cons rfl h_int a_nil)))) (e_0 A _ _ _ _ _ _ (hr.mono (by decide)) rfl rfl (by decide +kernel) (fun z => (nomatch z)) rfl (a_cons rfl (v_ 0 (by decide +kernel)) (a_cons rfl h_int a_nil)))) a_nil)))))
  (ss_cons (x_set 9 (by decide +kernel) (fun _ => rfl) (h_bin .add rfl (v_ 8 (by decide +kernel)) (e_0 A _ _ _ _ _ _ (hr.mono (by decide)) rfl rfl (by decide +kernel) (fun z => (nomatch z)) rfl (a_cons rfl (v_ 0 (by decide +kernel)) (a_cons rfl (v_ 2 (by decide +kernel)) a_nil)))))
  (ss_cons (x_set 10 (by decide +kernel) (fun _ => rfl) (h_idx (fun _ _ => rfl) (HO.he (o_lst (a_cons rfl (v_ 9 (by decide +kernel)) (a_cons rfl (h_bin .add rfl h_int (e_0 A _ _ _ _ _ _ (hr.mono (by decide)) rfl rfl (by decide +kernel) (fun z => (nomatch z)) rfl (a_cons rfl (v_ 0 (by decide +kernel)) (a_cons rfl (v_ 9 (by decide +kernel)) a_nil)))) a_nil)))) (e_0 A _ _ _ _ _ _ (hr.mono (by decide)) rfl rfl (by decide +kernel) (fun z => (nomatch z)) rfl (a_cons rfl (v_ 0 (by decide +kernel)) (a_cons rfl h_int a_nil)))))
  (ss_cons (x_set 11 (by decide +kernel) (fun _ => rfl) (h_idx (fun _ _ => rfl) (HO.he (o_lst (a_cons rfl h_int (a_cons rfl h_int (a_cons rfl (e_0 A _ _ _ _ _ _ (hr.mono (by decide)) rfl rfl (by decide +kernel) (fun z => (nomatch z)) rfl (a_cons rfl (v_ 0 (by decide +kernel)) (a_cons rfl h_int a_nil))) a_nil))))) (e_0 A _ _ _ _ _ _ (hr.mono (by decide)) rfl rfl (by decide +kernel) (fun z => (nomatch z)) rfl (a_cons rfl (v_ 0 (by decide +kernel)) (a_cons rfl h_int a_nil)))))
  (ss_one (s_expr (fun _ => rfl) (x_pmO 5 row_append (by decide +kernel) (few1 rfl) (by decide +kernel) rfl (a_cons rfl (h_tup (a_cons rfl (h_idx (fun _ _ => rfl) (v_ 3 (by decide +kernel)) (v_ 6 (by decide +kernel))) (a_cons rfl (v_ 7 (by decide +kernel)) (a_cons rfl (v_ 9 (by decide +kernel)) (a_cons rfl (v_ 8 (by decide +kernel)) (a_cons rfl (v_ 10 (by decide +kernel)) (a_cons rfl (v_ 11 (by decide +kernel)) (a_cons rfl (e_2 A _ _ _ _ _ _ (hr.mono (by decide)) rfl rfl (by decide +kernel) (fun z => (nomatch z)) rfl (a_cons rfl (v_ 0 (by decide +kernel)) (a_cons rfl (v_ 8 (by decide +kernel)) (a_cons rfl (h_sl (v_ 3 (by decide +kernel)) (p_some (v_ 1 (by decide +kernel))) p_none) a_nil)))) a_nil)))))))) a_nil))))))))))
  (ss_one (s_ret (v_ 5 (by decide +kernel))))))))
def n_Plan___init__ : List Str := ["self", "tasks", "ranks", "one", "start", "length", "lock", "rank"]
def T_Plan___init__ : DL.T := (.seq (.setAtO (.var 0) 0 .dnew)
  (.seq (.setO 2 .dnew)
  (.seq (.for (.tname 3) (.it (.var 1))
  (.seq (.cond (.cmp .isin (.attr (.var 3) 1) (.attr (.var 0) 0)) .never .skip)
  (.seq (.cond (.inO false (.attr (.var 3) 2) 2) .never .skip)
  (.seq (.setIx (.attr (.var 0) 0) (.attr (.var 3) 1) (.var 3))
  (.setIxO 2 (.attr (.var 3) 2) (.var 3))))))
  (.sealS 2 (.seq (.setAt (.var 0) 3 (.bi .tuple (.cons (.comp [7] (.tname 7) (.it (.bi .sortedDI (.cons (.var 2) .nil))) .nil (.idx (.var 2) (.var 7))) .nil)))
  (.seq (.setAtO (.var 0) 4 .dnew)
  (.for (.tname 3) (.it (.attr (.var 0) 3))
  (.for (.ttup (.cons (.tname 4) (.cons (.tname 5) (.cons (.tname 6) .nil)))) (.it (.attr (.var 3) 5))
  (.expr (.pm .setdefault (.attr (.var 0) 4) (.cons (.var 6) (.cons (.attr (.var 3) 2) .nil))))))))))))
abbrev k_Plan___init__ : Kt := ⟨n_Plan___init__, defScope s_Plan___init__, fun _ => true, false⟩
theorem w_Plan___init__ (Z : Facts ⟨P, w, K, mg, base, tab, N⟩)  {A : Around} (hr : Room 0 A) : HSs ⟨P, w, K, mg, base, tab, N⟩ A k_Plan___init__ (defBody s_Plan___init__) T_Plan___init__ :=
  (ss_cons (s_setAtO 0 rfl (fun _ => rfl) (v_ 0 (by decide +kernel)) o_dnew)
  (ss_cons (x_setO 2 (by decide +kernel) (fun _ => rfl) o_dnew)
  (ss_cons (s_for (fun _ _ => rfl) (i_seq (v_ 1 (by decide +kernel))) (g_ 3 (by decide +kernel))
  (ss_cons (s_if (t_cmp .isin rfl rfl (h_attr 1 rfl (fun _ => rfl) (v_ 3 (by decide +kernel))) (h_attr 0 rfl (fun _ => rfl) (v_ 0 (by decide +kernel))))
  (ss_one s_never) ss_nil)
  (ss_cons (s_if (xt_inO 2 (by decide +kernel) (h_attr 2 rfl (fun _ => rfl) (v_ 3 (by decide +kernel))))
  (ss_one s_never) ss_nil)
  (ss_cons (s_setIx (fun _ _ => rfl) (fun _ => rfl) (fun _ => rfl) (fun _ => rfl) (h_attr 0 rfl (fun _ => rfl) (v_ 0 (by decide +kernel))) (h_attr 1 rfl (fun _ => rfl) (v_ 3 (by decide +kernel))) (v_ 3 (by decide +kernel)))
  (ss_one (x_setIxO 2 (by decide +kernel) (fun _ _ => rfl) (fun _ => rfl) (fun _ => rfl) (fun _ => rfl) (h_attr 2 rfl (fun _ => rfl) (v_ 3 (by decide +kernel))) (v_ 3 (by decide +kernel))))))))
  (ss_seal 2 (ss_cons (s_setAt 3 rfl (fun _ => rfl) (v_ 0 (by decide +kernel)) (h_tuple Z.z_tuple (by decide +kernel) rfl (HO.he (o_comp [("rank", 7)] ⟨(by decide +kernel), (by decide +kernel)⟩ (fun _ _ => rfl) (i_seq (HO.he (o_sortedDI Z.z_sorted (by decide +kernel) rfl (v_ 2 (by decide +kernel))))) (g_ 7 (by decide +kernel)) c_nil (h_idx (fun _ _ => rfl) (v_ 2 (by decide +kernel)) (v_ 7 (by decide +kernel)))))))
  (ss_cons (s_setAtO 4 rfl (fun _ => rfl) (v_ 0 (by decide +kernel)) o_dnew)
  (ss_one (s_for (fun _ _ => rfl) (i_seq (h_attr 3 rfl (fun _ => rfl) (v_ 0 (by decide +kernel)))) (g_ 3 (by decide +kernel))
  (ss_one (s_for (fun _ _ => rfl) (i_seq (h_attr 5 rfl (fun _ => rfl) (v_ 3 (by decide +kernel)))) (g_tup (fun _ => rfl) (fun _ => rfl) (gs_cons' (fun _ => rfl) (g_ 4 (by decide +kernel)) (gs_cons' (fun _ => rfl) (g_ 5 (by decide +kernel)) (gs_cons' (fun _ => rfl) (g_ 6 (by decide +kernel)) gs_nil'))))
  (ss_one (s_expr (fun _ => rfl) (h_pm row_setd (fun _ => rfl) (few2 rfl rfl) (by decide +kernel) rfl (h_attr 4 rfl (fun _ => rfl) (v_ 0 (by decide +kernel))) (a_cons rfl (v_ 6 (by decide +kernel)) (a_cons rfl (h_attr 2 rfl (fun _ => rfl) (v_ 3 (by decide +kernel))) a_nil)))))))))))))))
def n_is_name : List Str := ["thing", "sign"]
def T_is_name : DL.T := (.seq (.cond (.or (.not (.isi (.var 0) [.b "str"])) (.not (.chain .le .le (.int 1) (.bi .len (.cons (.var 0) .nil)) (.glob 0)))) (.ret (.bl false)) .skip)
  (.ret (.bi .all (.cons (.comp [1] (.tname 1) (.it (.var 0)) .nil (.cmp .isin (.var 1) (.glob 1))) .nil))))
abbrev k_is_name : Kt := ⟨n_is_name, defScope s_is_name, fun _ => true, false⟩
theorem w_is_name (Z : Facts ⟨P, w, K, mg, base, tab, N⟩)  {A : Around} (hr : Room 0 A) : HSs ⟨P, w, K, mg, base, tab, N⟩ A k_is_name (defBody s_is_name) T_is_name :=
  (ss_cons (s_if (HW.ht (w_or (t_not (t_val (fun _ _ => rfl) (x_isi1 "str" Z.z_isinstance (by decide +kernel) Z.z_str (by decide +kernel) rfl (v_ 0 (by decide +kernel))))) (w_or1 (t_not (t_chain .le .le rfl rfl rfl h_int (h_len Z.z_len (by decide +kernel) rfl (v_ 0 (by decide +kernel))) (Z.g_LONGEST_NAME (by decide +kernel)))))))
  (ss_one (s_ret h_bl)) ss_nil)
  (ss_one (s_ret (h_all Z.z_all (by decide +kernel) rfl (HO.he (o_comp [("sign", 1)] ⟨(by decide +kernel), (by decide +kernel)⟩ (fun _ _ => rfl) (i_seq (v_ 0 (by decide +kernel))) (g_ 1 (by decide +kernel)) c_nil (h_cmp .isin rfl rfl (v_ 1 (by decide +kernel)) (Z.g_LETTERS (by decide +kernel)))))))))
def n_is_whole : List Str := ["thing", "least"]
def T_is_whole : DL.T := (.ret (.and (.isi (.var 0) [.b "int"]) (.and (.not (.isi (.var 0) [.b "bool"])) (.cmp .ge (.var 0) (.var 1)))))
abbrev k_is_whole : Kt := ⟨n_is_whole, defScope s_is_whole, fun _ => true, false⟩
theorem w_is_whole (Z : Facts ⟨P, w, K, mg, base, tab, N⟩)  {A : Around} (hr : Room 0 A) : HSs ⟨P, w, K, mg, base, tab, N⟩ A k_is_whole (defBody s_is_whole) T_is_whole :=
  (ss_one (s_ret (h_and (x_isi1 "int" Z.z_isinstance (by decide +kernel) Z.z_int (by decide +kernel) rfl (v_ 0 (by decide +kernel))) (h_and (h_not (x_isi1 "bool" Z.z_isinstance (by decide +kernel) Z.z_bool (by decide +kernel) rfl (v_ 0 (by decide +kernel)))) (h_one (h_cmp .ge rfl rfl (v_ 0 (by decide +kernel)) (v_ 1 (by decide +kernel))))))))
def n_lies_within : List Str := ["one", "other"]
def T_lies_within : DL.T := (.ret (.and (.cmp .le (.idx (.var 1) (.int 0)) (.idx (.var 0) (.int 0))) (.cmp .le (.bin .add (.idx (.var 0) (.int 0)) (.idx (.var 0) (.int 1))) (.bin .add (.idx (.var 1) (.int 0)) (.idx (.var 1) (.int 1))))))
abbrev k_lies_within : Kt := ⟨n_lies_within, defScope s_lies_within, fun _ => true, false⟩
theorem w_lies_within (Z : Facts ⟨P, w, K, mg, base, tab, N⟩)  {A : Around} (hr : Room 0 A) : HSs ⟨P, w, K, mg, base, tab, N⟩ A k_lies_within (defBody s_lies_within) T_lies_within :=
  (ss_one (s_ret (h_and (h_cmp .le rfl rfl (h_idx (fun _ _ => rfl) (v_ 1 (by decide +kernel)) h_int) (h_idx (fun _ _ => rfl) (v_ 0 (by decide +kernel)) h_int)) (h_one (h_cmp .le rfl rfl (h_bin .add rfl (h_idx (fun _ _ => rfl) (v_ 0 (by decide +kernel)) h_int) (h_idx (fun _ _ => rfl) (v_ 0 (by decide +kernel)) h_int)) (h_bin .add rfl (h_idx (fun _ _ => rfl) (v_ 1 (by decide +kernel)) h_int) (h_idx (fun _ _ => rfl) (v_ 1 (by decide +kernel)) h_int)))))))
def n_go_together : List Str := ["one", "other"]
def T_go_together : DL.T := (.seq (.cond (.or (.cmp .le (.bin .add (.idx (.var 0) (.int 0)) (.idx (.var 0) (.int 1))) (.idx (.var 1) (.int 0))) (.cmp .le (.bin .add (.idx (.var 1) (.int 0)) (.idx (.var 1) (.int 1))) (.idx (.var 0) (.int 0)))) (.ret (.bl true)) .skip)
  (.ret (.and (.cmp .ne (.idx (.var 0) (.int 2)) (.idx (.var 1) (.int 2))) (.or (.call 3 (.cons (.var 0) (.cons (.var 1) .nil))) (.call 3 (.cons (.var 1) (.cons (.var 0) .nil)))))))
abbrev k_go_together : Kt := ⟨n_go_together, defScope s_go_together, fun _ => true, false⟩
theorem w_go_together (Z : Facts ⟨P, w, K, mg, base, tab, N⟩) (e_3 : FnI ⟨P, w, K, mg, base, tab, N⟩ 1 "lies_within" 2 (spN 3)) {A : Around} (hr : Room 3 A) : HSs ⟨P, w, K, mg, base, tab, N⟩ A k_go_together (defBody s_go_together) T_go_together :=
  (ss_cons (s_if (HW.ht (w_or (t_cmp .le rfl rfl (h_bin .add rfl (h_idx (fun _ _ => rfl) (v_ 0 (by decide +kernel)) h_int) (h_idx (fun _ _ => rfl) (v_ 0 (by decide +kernel)) h_int)) (h_idx (fun _ _ => rfl) (v_ 1 (by decide +kernel)) h_int)) (w_or1 (t_cmp .le rfl rfl (h_bin .add rfl (h_idx (fun _ _ => rfl) (v_ 1 (by decide +kernel)) h_int) (h_idx (fun _ _ => rfl) (v_ 1 (by decide +kernel)) h_int)) (h_idx (fun _ _ => rfl) (v_ 0 (by decide +kernel)) h_int)))))
  (ss_one (s_ret h_bl)) ss_nil)
  (ss_one (s_ret (h_and (h_cmp .ne rfl rfl (h_idx (fun _ _ => rfl) (v_ 0 (by decide +kernel)) h_int) (h_idx (fun _ _ => rfl) (v_ 1 (by decide +kernel)) h_int)) (h_one (h_or (e_3 A _ _ _ _ _ _ (hr.mono (by decide)) rfl rfl (by decide +kernel) (fun z => (nomatch z)) rfl (a_cons rfl (v_ 0 (by decide +kernel)) (a_cons rfl (v_ 1 (by decide +kernel)) a_nil))) (h_one (e_3 A _ _ _ _ _ _ (hr.mono (by decide)) rfl rfl (by decide +kernel) (fun z => (nomatch z)) rfl (a_cons rfl (v_ 1 (by decide +kernel)) (a_cons rfl (v_ 0 (by decide +kernel)) a_nil))))))))))
def n_is_section : List Str := ["thing", "most", "start", "length", "lock"]
def T_is_section : DL.T := (.seq (.cond (.or (.not (.isi (.var 0) [.b "tuple"])) (.cmp .ne (.bi .len (.cons (.var 0) .nil)) (.int 3))) (.ret (.bl false)) .skip)
  (.seq (.asgT (.ttup (.cons (.tname 2) (.cons (.tname 3) (.cons (.tname 4) .nil)))) (.var 0))
  (.seq (.cond (.or (.not (.call 4 (.cons (.var 2) .nil))) (.or (.not (.callK 5 (.cons (.var 3) .nil) (.cons (.int 1) .nil))) (.not (.call 6 (.cons (.var 4) .nil))))) (.ret (.bl false)) .skip)
  (.ret (.cmp .lt (.bin .add (.var 2) (.var 3)) (.var 1))))))
abbrev k_is_section : Kt := ⟨n_is_section, defScope s_is_section, fun _ => true, false⟩
theorem w_is_section (Z : Facts ⟨P, w, K, mg, base, tab, N⟩) (e_6 : FnI ⟨P, w, K, mg, base, tab, N⟩ 1 "is_name" 1 (spN 6)) (e_4 : FnI ⟨P, w, K, mg, base, tab, N⟩ 1 "is_whole" 1 (spN 4)) (e_5 : FnKI ⟨P, w, K, mg, base, tab, N⟩ 1 "is_whole" 1 ["least"] (spN 5)) {A : Around} (hr : Room 3 A) : HSs ⟨P, w, K, mg, base, tab, N⟩ A k_is_section (defBody s_is_section) T_is_section :=
  (ss_cons (s_if (HW.ht (w_or (t_not (t_val (fun _ _ => rfl) (x_isi1 "tuple" Z.z_isinstance (by decide +kernel) Z.z_tuple (by decide +kernel) rfl (v_ 0 (by decide +kernel))))) (w_or1 (t_cmp .ne rfl rfl (h_len Z.z_len (by decide +kernel) rfl (v_ 0 (by decide +kernel))) h_int))))
  (ss_one (s_ret h_bl)) ss_nil)
  (ss_cons (s_asgT (fun _ => rfl) (fun _ => rfl) (v_ 0 (by decide +kernel)) (g_tup (fun _ => rfl) (fun _ => rfl) (gs_cons' (fun _ => rfl) (g_ 2 (by decide +kernel)) (gs_cons' (fun _ => rfl) (g_ 3 (by decide +kernel)) (gs_cons' (fun _ => rfl) (g_ 4 (by decide +kernel)) gs_nil')))))
  (ss_cons (s_if (HW.ht (w_or (t_not (t_val (fun _ _ => rfl) (e_4 A _ _ _ _ _ _ (hr.mono (by decide)) rfl rfl (by decide +kernel) (fun z => (nomatch z)) rfl (a_cons rfl (v_ 2 (by decide +kernel)) a_nil)))) (w_or (t_not (t_val (fun _ _ => rfl) (e_5 A _ _ _ _ _ _ _ _ (hr.mono (by decide)) rfl rfl rfl (by decide +kernel) rfl rfl rfl (a_cons rfl (v_ 3 (by decide +kernel)) a_nil) (k_cons h_int k_nil)))) (w_or1 (t_not (t_val (fun _ _ => rfl) (e_6 A _ _ _ _ _ _ (hr.mono (by decide)) rfl rfl (by decide +kernel) (fun z => (nomatch z)) rfl (a_cons rfl (v_ 4 (by decide +kernel)) a_nil))))))))
  (ss_one (s_ret h_bl)) ss_nil)
  (ss_one (s_ret (h_cmp .lt rfl rfl (h_bin .add rfl (v_ 2 (by decide +kernel)) (v_ 3 (by decide +kernel))) (v_ 1 (by decide +kernel))))))))
def n_are_sections : List Str := ["thing", "most", "at", "other", "one"]
def T_are_sections : DL.T := (.seq (.cond (.or (.not (.isi (.var 0) [.b "tuple", .b "list"])) (.not (.bi .all (.cons (.comp [4] (.tname 4) (.it (.var 0)) .nil (.call 7 (.cons (.var 4) (.cons (.var 1) .nil)))) .nil)))) (.ret (.bl false)) .skip)
  (.ret (.bi .all (.cons (.comp2 [2, 3] [3] (.tname 2) (.rng1 (.bi .len (.cons (.var 0) .nil))) .nil (.tname 3) (.it (.sl (.var 0) .non (.prt (.var 2)))) .nil (.call 8 (.cons (.idx (.var 0) (.var 2)) (.cons (.var 3) .nil)))) .nil))))
abbrev k_are_sections : Kt := ⟨n_are_sections, defScope s_are_sections, fun _ => true, false⟩
theorem w_are_sections (Z : Facts ⟨P, w, K, mg, base, tab, N⟩) (e_8 : FnI ⟨P, w, K, mg, base, tab, N⟩ 4 "go_together" 2 (spN 8)) (e_7 : FnI ⟨P, w, K, mg, base, tab, N⟩ 4 "is_section" 2 (spN 7)) {A : Around} (hr : Room 6 A) : HSs ⟨P, w, K, mg, base, tab, N⟩ A k_are_sections (defBody s_are_sections) T_are_sections :=
  (ss_cons (s_if (HW.ht (w_or (t_not (t_val (fun _ _ => rfl) (x_isi2 "tuple" "list" Z.z_isinstance (by decide +kernel) Z.z_tuple Z.z_list (by decide +kernel) (by decide +kernel) rfl (v_ 0 (by decide +kernel))))) (w_or1 (t_not (t_val (fun _ _ => rfl) (h_all Z.z_all (by decide +kernel) rfl (HO.he (o_comp [("one", 4)] ⟨(by decide +kernel), (by decide +kernel)⟩ (fun _ _ => rfl) (i_seq (v_ 0 (by decide +kernel))) (g_ 4 (by decide +kernel)) c_nil (e_7 A _ _ _ _ _ _ (hr.mono (by decide)) rfl rfl (by decide +kernel) (fun z => (nomatch z)) rfl (a_cons rfl (v_ 4 (by decide +kernel)) (a_cons rfl (v_ 1 (by decide +kernel)) a_nil)))))))))))
  (ss_one (s_ret h_bl)) ss_nil)
  (ss_one (s_ret (h_all Z.z_all (by decide +kernel) rfl (HO.he (o_comp2 [("at", 2), ("other", 3)] [3] ⟨(by decide +kernel), (by decide +kernel), (by decide +kernel), (by decide +kernel)⟩ (fun _ _ => rfl) (fun _ _ => rfl) (i_rng1 Z.z_range (by decide +kernel) rfl (h_len Z.z_len (by decide +kernel) rfl (v_ 0 (by decide +kernel)))) (g_ 2 (by decide +kernel)) c_nil (i_seq (h_sl (v_ 0 (by decide +kernel)) p_none (p_some (v_ 2 (by decide +kernel))))) (g_ 3 (by decide +kernel)) c_nil (e_8 A _ _ _ _ _ _ (hr.mono (by decide)) rfl rfl (by decide +kernel) (fun z => (nomatch z)) rfl (a_cons rfl (h_idx (fun _ _ => rfl) (v_ 0 (by decide +kernel)) (v_ 2 (by decide +kernel))) (a_cons rfl (v_ 3 (by decide +kernel)) a_nil)))))))))
def n_bad_part : List Str := ["name", "rank", "gap", "most", "due", "wait", "sections", "part", "number"]
def T_bad_part : DL.T := (.seq (.cond (.not (.call 6 (.cons (.var 0) .nil))) (.ret (.str "name")) .skip)
  (.seq (.for (.ttup (.cons (.tname 7) (.cons (.tname 8) .nil))) (.it (.tup (.cons (.tup (.cons (.str "rank") (.cons (.var 1) .nil))) (.cons (.tup (.cons (.str "gap") (.cons (.var 2) .nil))) (.cons (.tup (.cons (.str "most") (.cons (.var 3) .nil))) .nil)))))
  (.cond (.not (.callK 5 (.cons (.var 8) .nil) (.cons (.int 1) .nil))) (.ret (.var 7)) .skip))
  (.seq (.cond (.and (.cmp .notN (.var 4) .non) (.not (.and (.callK 5 (.cons (.var 4) .nil) (.cons (.int 1) .nil)) (.cmp .le (.var 4) (.var 2))))) (.ret (.str "due")) .skip)
  (.seq (.cond (.not (.call 4 (.cons (.var 5) .nil))) (.ret (.str "wait")) .skip)
  (.ret (.ife (.call 9 (.cons (.var 6) (.cons (.var 3) .nil))) .non (.str "sections")))))))
abbrev k_bad_part : Kt := ⟨n_bad_part, defScope s_bad_part, fun _ => true, false⟩
theorem w_bad_part (Z : Facts ⟨P, w, K, mg, base, tab, N⟩) (e_9 : FnI ⟨P, w, K, mg, base, tab, N⟩ 7 "are_sections" 2 (spN 9)) (e_6 : FnI ⟨P, w, K, mg, base, tab, N⟩ 1 "is_name" 1 (spN 6)) (e_4 : FnI ⟨P, w, K, mg, base, tab, N⟩ 1 "is_whole" 1 (spN 4)) (e_5 : FnKI ⟨P, w, K, mg, base, tab, N⟩ 1 "is_whole" 1 ["least"] (spN 5)) {A : Around} (hr : Room 9 A) : HSs ⟨P, w, K, mg, base, tab, N⟩ A k_bad_part (defBody s_bad_part) T_bad_part :=
  (ss_cons (s_if (t_not (t_val (fun _ _ => rfl) (e_6 A _ _ _ _ _ _ (hr.mono (by decide)) rfl rfl (by decide +kernel) (fun z => (nomatch z)) rfl (a_cons rfl (v_ 0 (by decide +kernel)) a_nil))))
  (ss_one (s_ret h_str)) ss_nil)
  (ss_cons (s_for (fun _ _ => rfl) (i_seq (h_tup (a_cons rfl (h_tup (a_cons rfl h_str (a_cons rfl (v_ 1 (by decide +kernel)) a_nil))) (a_cons rfl (h_tup (a_cons rfl h_str (a_cons rfl (v_ 2 (by decide +kernel)) a_nil))) (a_cons rfl (h_tup (a_cons rfl h_str (a_cons rfl (v_ 3 (by decide +kernel)) a_nil))) a_nil))))) (g_tup (fun _ => rfl) (fun _ => rfl) (gs_cons' (fun _ => rfl) (g_ 7 (by decide +kernel)) (gs_cons' (fun _ => rfl) (g_ 8 (by decide +kernel)) gs_nil')))
  (ss_one (s_if (t_not (t_val (fun _ _ => rfl) (e_5 A _ _ _ _ _ _ _ _ (hr.mono (by decide)) rfl rfl rfl (by decide +kernel) rfl rfl rfl (a_cons rfl (v_ 8 (by decide +kernel)) a_nil) (k_cons h_int k_nil))))
  (ss_one (s_ret (v_ 7 (by decide +kernel)))) ss_nil)))
  (ss_cons (s_if (HW.ht (w_and (t_cmp .notN rfl rfl (v_ 4 (by decide +kernel)) h_non) (w_and1 (t_not (HW.ht (w_and (t_val (fun _ _ => rfl) (e_5 A _ _ _ _ _ _ _ _ (hr.mono (by decide)) rfl rfl rfl (by decide +kernel) rfl rfl rfl (a_cons rfl (v_ 4 (by decide +kernel)) a_nil) (k_cons h_int k_nil))) (w_and1 (t_cmp .le rfl rfl (v_ 4 (by decide +kernel)) (v_ 2 (by decide +kernel))))))))))
  (ss_one (s_ret h_str)) ss_nil)
  (ss_cons (s_if (t_not (t_val (fun _ _ => rfl) (e_4 A _ _ _ _ _ _ (hr.mono (by decide)) rfl rfl (by decide +kernel) (fun z => (nomatch z)) rfl (a_cons rfl (v_ 5 (by decide +kernel)) a_nil))))
  (ss_one (s_ret h_str)) ss_nil)
  (ss_one (s_ret (h_if (t_val (fun _ _ => rfl) (e_9 A _ _ _ _ _ _ (hr.mono (by decide)) rfl rfl (by decide +kernel) (fun z => (nomatch z)) rfl (a_cons rfl (v_ 6 (by decide +kernel)) (a_cons rfl (v_ 3 (by decide +kernel)) a_nil)))) h_non h_str)))))))
def n_written_place : List Str := ["section", "start", "length", "lock"]
def T_written_place : DL.T := (.seq (.asgT (.ttup (.cons (.tname 1) (.cons (.tname 2) (.cons (.tname 3) .nil)))) (.var 0))
  (.ret (.tup (.cons (.var 1) (.cons (.neg (.var 2)) (.cons (.var 3) .nil))))))
abbrev k_written_place : Kt := ⟨n_written_place, defScope s_written_place, fun _ => true, false⟩
theorem w_written_place (Z : Facts ⟨P, w, K, mg, base, tab, N⟩)  {A : Around} (hr : Room 0 A) : HSs ⟨P, w, K, mg, base, tab, N⟩ A k_written_place (defBody s_written_place) T_written_place :=
  (ss_cons (s_asgT (fun _ => rfl) (fun _ => rfl) (v_ 0 (by decide +kernel)) (g_tup (fun _ => rfl) (fun _ => rfl) (gs_cons' (fun _ => rfl) (g_ 1 (by decide +kernel)) (gs_cons' (fun _ => rfl) (g_ 2 (by decide +kernel)) (gs_cons' (fun _ => rfl) (g_ 3 (by decide +kernel)) gs_nil')))))
  (ss_one (s_ret (h_tup (a_cons rfl (v_ 1 (by decide +kernel)) (a_cons rfl (h_neg (v_ 2 (by decide +kernel))) (a_cons rfl (v_ 3 (by decide +kernel)) a_nil)))))))
def n_Task___init__ : List Str := ["self", "name", "rank", "gap", "most", "due", "wait", "sections", "bad"]
def T_Task___init__ : DL.T := (.seq (.set 8 (.call 10 (.cons (.var 1) (.cons (.var 2) (.cons (.var 3) (.cons (.var 4) (.cons (.var 5) (.cons (.var 6) (.cons (.var 7) .nil)))))))))
  (.seq (.cond (.cmp .notN (.var 8) .non) .never .skip)
  (.seq (.setAt (.var 0) 1 (.var 1))
  (.seq (.setAt (.var 0) 2 (.var 2))
  (.seq (.setAt (.var 0) 6 (.var 3))
  (.seq (.setAt (.var 0) 7 (.var 4))
  (.seq (.setAt (.var 0) 8 (.ife (.cmp .isN (.var 5) .non) (.var 3) (.var 5)))
  (.seq (.setAt (.var 0) 9 (.var 6))
  (.setAt (.var 0) 5 (.bi .tuple (.cons (.sortedK 11 (.var 7)) .nil)))))))))))
abbrev k_Task___init__ : Kt := ⟨n_Task___init__, defScope s_Task___init__, fun _ => true, false⟩
theorem w_Task___init__ (Z : Facts ⟨P, w, K, mg, base, tab, N⟩) (e_10 : FnI ⟨P, w, K, mg, base, tab, N⟩ 10 "bad_part" 7 (spN 10)) (r_11 : FnRaw ⟨P, w, K, mg, base, tab, N⟩ 1 "written_place" (spN 11)) {A : Around} (hr : Room 12 A) : HSs ⟨P, w, K, mg, base, tab, N⟩ A k_Task___init__ (defBody s_Task___init__) T_Task___init__ :=
  (ss_cons (x_set 8 (by decide +kernel) (fun _ => rfl) (e_10 A _ _ _ _ _ _ (hr.mono (by decide)) rfl rfl (by decide +kernel) (fun z => (nomatch z)) rfl (a_cons rfl (v_ 1 (by decide +kernel)) (a_cons rfl (v_ 2 (by decide +kernel)) (a_cons rfl (v_ 3 (by decide +kernel)) (a_cons rfl (v_ 4 (by decide +kernel)) (a_cons rfl (v_ 5 (by decide +kernel)) (a_cons rfl (v_ 6 (by decide +kernel)) (a_cons rfl (v_ 7 (by decide +kernel)) a_nil)))))))))
  (ss_cons (s_if (t_cmp .notN rfl rfl (v_ 8 (by decide +kernel)) h_non)
  (ss_one s_never) ss_nil)
  (ss_cons (s_setAt 1 rfl (fun _ => rfl) (v_ 0 (by decide +kernel)) (v_ 1 (by decide +kernel)))
  (ss_cons (s_setAt 2 rfl (fun _ => rfl) (v_ 0 (by decide +kernel)) (v_ 2 (by decide +kernel)))
  (ss_cons (s_setAt 6 rfl (fun _ => rfl) (v_ 0 (by decide +kernel)) (v_ 3 (by decide +kernel)))
  (ss_cons (s_setAt 7 rfl (fun _ => rfl) (v_ 0 (by decide +kernel)) (v_ 4 (by decide +kernel)))
  (ss_cons (s_setAt 8 rfl (fun _ => rfl) (v_ 0 (by decide +kernel)) (h_if (t_cmp .isN rfl rfl (v_ 5 (by decide +kernel)) h_non) (v_ 3 (by decide +kernel)) (v_ 5 (by decide +kernel))))
  (ss_cons (s_setAt 9 rfl (fun _ => rfl) (v_ 0 (by decide +kernel)) (v_ 6 (by decide +kernel)))
  (ss_one (s_setAt 5 rfl (fun _ => rfl) (v_ 0 (by decide +kernel)) (h_tuple Z.z_tuple (by decide +kernel) rfl (HO.he (h_sortedK r_11 (hr.mono (by decide)) rfl Z.z_sorted (by decide +kernel) (by decide +kernel) (by decide +kernel) rfl (v_ 7 (by decide +kernel)))))))))))))))
def n__law_plan : List Str := ["raw", "found", "one"]
def T__law_plan : DL.T := (.seq (.setO 1 (.lst .nil))
  (.seq (.for (.tname 2) (.it (.var 0))
  (.expr (.pmO .append 1 (.cons (.callK 12 (.cons (.idx (.var 2) (.int 0)) .nil) (.cons (.idx (.var 2) (.int 1)) (.cons (.idx (.var 2) (.int 2)) (.cons (.idx (.var 2) (.int 3)) (.cons (.idx (.var 2) (.int 4)) (.cons (.idx (.var 2) (.int 5)) (.cons (.idx (.var 2) (.int 6)) .nil))))))) .nil))))
  (.ret (.call 13 (.cons (.var 1) .nil)))))
abbrev k__law_plan : Kt := ⟨n__law_plan, defScope s__law_plan, fun _ => true, false⟩
theorem w__law_plan (Z : Facts ⟨P, w, K, mg, base, tab, N⟩) (e_13 : FnI ⟨P, w, K, mg, base, tab, N⟩ 2 "Plan" 1 (spN 13)) (e_12 : FnKI ⟨P, w, K, mg, base, tab, N⟩ 14 "Task" 1 ["rank", "gap", "most", "due", "wait", "sections"] (spN 12)) {A : Around} (hr : Room 15 A) : HSs ⟨P, w, K, mg, base, tab, N⟩ A k__law_plan (defBody s__law_plan) T__law_plan :=
  (ss_cons (x_setO 1 (by decide +kernel) (fun _ => rfl) (o_lst a_nil))
  (ss_cons (s_for (fun _ _ => rfl) (i_seq (v_ 0 (by decide +kernel))) (g_ 2 (by decide +kernel))
  (ss_one (s_expr (fun _ => rfl) (x_pmO 1 row_append (by decide +kernel) (few1 rfl) (by decide +kernel) rfl (a_cons rfl (e_12 A _ _ _ _ _ _ _ _ (hr.mono (by decide)) rfl rfl rfl (by decide +kernel) rfl rfl rfl (a_cons rfl (h_idx (fun _ _ => rfl) (v_ 2 (by decide +kernel)) h_int) a_nil) (k_cons (h_idx (fun _ _ => rfl) (v_ 2 (by decide +kernel)) h_int) (k_cons (h_idx (fun _ _ => rfl) (v_ 2 (by decide +kernel)) h_int) (k_cons (h_idx (fun _ _ => rfl) (v_ 2 (by decide +kernel)) h_int) (k_cons (h_idx (fun _ _ => rfl) (v_ 2 (by decide +kernel)) h_int) (k_cons (h_idx (fun _ _ => rfl) (v_ 2 (by decide +kernel)) h_int) (k_cons (h_idx (fun _ _ => rfl) (v_ 2 (by decide +kernel)) h_int) k_nil))))))) a_nil)))))
  (ss_one (s_ret (e_13 A _ _ _ _ _ _ (hr.mono (by decide)) rfl rfl (by decide +kernel) (fun z => (nomatch z)) rfl (a_cons rfl (v_ 1 (by decide +kernel)) a_nil))))))
def n__law_wishes : List Str := ["pen", "raw", "many", "wide", "found", "k", "one", "load"]
def T__law_wishes : DL.T := (.seq (.setO 4 (.lst .nil))
  (.seq (.for (.tname 5) (.rng1 (.var 2))
  (.seq (.set 6 (.idx (.var 1) (.call 0 (.cons (.var 0) (.cons (.bi .len (.cons (.var 1) .nil)) .nil)))))
  (.seq (.set 7 (.idx (.lst (.cons (.idx (.var 6) (.int 3)) (.cons (.bin .add (.int 1) (.call 0 (.cons (.var 0) (.cons (.idx (.var 6) (.int 3)) .nil)))) (.cons (.bin .add (.idx (.var 6) (.int 3)) (.call 0 (.cons (.var 0) (.cons (.int 4) .nil)))) .nil)))) (.call 0 (.cons (.var 0) (.cons (.int 3) .nil)))))
  (.expr (.pmO .append 4 (.cons (.tup (.cons (.call 0 (.cons (.var 0) (.cons (.var 3) .nil))) (.cons (.idx (.var 6) (.int 0)) (.cons (.var 7) .nil)))) .nil))))))
  (.ret (.var 4))))
abbrev k__law_wishes : Kt := ⟨n__law_wishes, defScope s__law_wishes, fun _ => true, false⟩
theorem w__law_wishes (Z : Facts ⟨P, w, K, mg, base, tab, N⟩) (e_0 : FnI ⟨P, w, K, mg, base, tab, N⟩ 1 "_law_draw" 2 (spN 0)) {A : Around} (hr : Room 3 A) : HSs ⟨P, w, K, mg, base, tab, N⟩ A k__law_wishes (defBody s__law_wishes) T__law_wishes :=
  (ss_cons (x_setO 4 (by decide +kernel) (fun _ => rfl) (o_lst a_nil))
  (ss_cons (s_for (fun _ _ => rfl) (i_rng1 Z.z_range (by decide +kernel) rfl (v_ 2 (by decide +kernel))) (g_ 5 (by decide +kernel))
  (ss_cons (x_set 6 (by decide +kernel) (fun _ => rfl) (h_idx (fun _ _ => rfl) (v_ 1 (by decide +kernel)) (e_0 A _ _ _ _ _ _ (hr.mono (by decide)) rfl rfl (by decide +kernel) (fun z => (nomatch z)) rfl (a_cons rfl (v_ 0 (by decide +kernel)) (a_cons rfl (h_len Z.z_len (by decide +kernel) rfl (v_ 1 (by decide +kernel))) a_nil)))))
  (ss_cons (x_set 7 (by decide +kernel) (fun _ => rfl) (h_idx (fun _ _ => rfl) (HO.he (o_lst (a_cons rfl (h_idx (fun _ _ => rfl) (v_ 6 (by decide +kernel)) h_int) (a_cons rfl (h_bin .add rfl h_int (e_0 A _ _ _ _ _ _ (hr.mono (by decide)) rfl rfl (by decide +kernel) (fun z => (nomatch z)) rfl (a_cons rfl (v_ 0 (by decide +kernel)) (a_cons rfl (h_idx (fun _ _ => rfl) (v_ 6 (by decide +kernel)) h_int) a_nil)))) (a_cons rfl (h_bin .add rfl (h_idx (fun _ _ => rfl) (v_ 6 (by decide +kernel)) h_int) (e_0 A _ _ _ _ _ _ (hr.mono (by decide)) rfl rfl (by decide +kernel) (fun z => (nomatch z)) rfl (a_cons rfl (v_ 0 (by decide +kernel)) (a_cons rfl h_int a_nil)))) a_nil))))) (e_0 A _ _ _ _ _ _ (hr.mono (by decide)) rfl rfl (by decide +kernel) (fun z => (nomatch z)) rfl (a_cons rfl (v_ 0 (by decide +kernel)) (a_cons rfl h_int a_nil)))))
  (ss_one (s_expr (fun _ => rfl) (x_pmO 4 row_append (by decide +kernel) (few1 rfl) (by decide +kernel) rfl (a_cons rfl (h_tup (a_cons rfl (e_0 A _ _ _ _ _ _ (hr.mono (by decide)) rfl rfl (by decide +kernel) (fun z => (nomatch z)) rfl (a_cons rfl (v_ 0 (by decide +kernel)) (a_cons rfl (v_ 3 (by decide +kernel)) a_nil))) (a_cons rfl (h_idx (fun _ _ => rfl) (v_ 6 (by decide +kernel)) h_int) (a_cons rfl (v_ 7 (by decide +kernel)) a_nil)))) a_nil)))))))
  (ss_one (s_ret (v_ 4 (by decide +kernel))))))
def n_Plan_tasks : List Str := ["self"]
def T_Plan_tasks : DL.T := (.ret (.bi .list (.cons (.attr (.var 0) 3) .nil)))
abbrev k_Plan_tasks : Kt := ⟨n_Plan_tasks, defScope s_Plan_tasks, fun _ => true, false⟩
theorem w_Plan_tasks (Z : Facts ⟨P, w, K, mg, base, tab, N⟩)  {A : Around} (hr : Room 0 A) : HSs ⟨P, w, K, mg, base, tab, N⟩ A k_Plan_tasks (defBody s_Plan_tasks) T_Plan_tasks :=
  (ss_one (s_ret (HO.he (o_list Z.z_list (by decide +kernel) rfl (h_attr 3 rfl (fun _ => rfl) (v_ 0 (by decide +kernel)))))))
def n_need_wish : List Str := ["plan", "task", "work", "one"]
def T_need_wish : DL.T := (.seq (.cond (.cmp .notin (.var 1) (.comp [3] (.tname 3) (.it (.meth 14 (.var 0) .nil)) .nil (.attr (.var 3) 1))) .never .skip)
  (.cond (.cmp .lt (.var 2) (.int 1)) .never .skip))
abbrev k_need_wish : Kt := ⟨n_need_wish, defScope s_need_wish, fun _ => true, false⟩
theorem w_need_wish (Z : Facts ⟨P, w, K, mg, base, tab, N⟩) (e_14 : MtI ⟨P, w, K, mg, base, tab, N⟩ 1 0 "tasks" 0 (spN 14)) {A : Around} (hr : Room 3 A) : HSs ⟨P, w, K, mg, base, tab, N⟩ A k_need_wish (defBody s_need_wish) T_need_wish :=
  (ss_cons (s_if (t_cmp .notin rfl rfl (v_ 1 (by decide +kernel)) (HO.he (o_comp [("one", 3)] ⟨(by decide +kernel), (by decide +kernel)⟩ (fun _ _ => rfl) (i_seq (e_14 A _ _ _ _ _ _ _ _ (hr.mono (by decide)) rfl rfl (fun _ => rfl) (fun _ => ⟨_, rfl⟩) rfl rfl (v_ 0 (by decide +kernel)) a_nil)) (g_ 3 (by decide +kernel)) c_nil (h_attr 1 rfl (fun _ => rfl) (v_ 3 (by decide +kernel))))))
  (ss_one s_never) ss_nil)
  (ss_one (s_if (t_cmp .lt rfl rfl (v_ 2 (by decide +kernel)) h_int)
  (ss_one s_never) ss_nil)))
def n_jobs_of : List Str := ["task", "rows", "gate", "found", "last", "number", "hour", "work", "arrival", "release"]
def T_jobs_of : DL.T := (.seq (.setO 3 (.lst .nil))
  (.seq (.set 4 .non)
  (.seq (.for (.ttup (.cons (.tname 5) (.cons (.ttup (.cons (.tname 6) (.cons (.tname 7) .nil))) .nil))) (.enum (.var 1))
  (.seq (.set 8 (.ife (.cmp .isN (.var 4) .non) (.bin .sub (.var 6) (.attr (.var 0) 9)) (.bi .max2 (.cons (.bin .sub (.var 6) (.attr (.var 0) 9)) (.cons (.bin .add (.var 4) (.attr (.var 0) 6)) .nil)))))
  (.seq (.set 9 (.ife (.var 2) (.bi .max2 (.cons (.var 6) (.cons (.var 8) .nil))) (.var 6)))
  (.seq (.expr (.pmO .append 3 (.cons (.tup (.cons (.attr (.var 0) 1) (.cons (.var 5) (.cons (.var 6) (.cons (.var 8) (.cons (.var 9) (.cons (.var 7) .nil))))))) .nil)))
  (.set 4 (.var 8))))))
  (.ret (.var 3)))))
abbrev k_jobs_of : Kt := ⟨n_jobs_of, defScope s_jobs_of, fun _ => true, false⟩
theorem w_jobs_of (Z : Facts ⟨P, w, K, mg, base, tab, N⟩)  {A : Around} (hr : Room 0 A) : HSs ⟨P, w, K, mg, base, tab, N⟩ A k_jobs_of (defBody s_jobs_of) T_jobs_of :=
  (ss_cons (x_setO 3 (by decide +kernel) (fun _ => rfl) (o_lst a_nil))
  (ss_cons (x_set 4 (by decide +kernel) (fun _ => rfl) h_non)
  (ss_cons (s_for (fun _ _ => rfl) (i_enum Z.z_enumerate (by decide +kernel) rfl (v_ 1 (by decide +kernel))) (g_tup (fun _ => rfl) (fun _ => rfl) (gs_cons' (fun _ => rfl) (g_ 5 (by decide +kernel)) (gs_cons' (fun _ => rfl) (g_tup (fun _ => rfl) (fun _ => rfl) (gs_cons' (fun _ => rfl) (g_ 6 (by decide +kernel)) (gs_cons' (fun _ => rfl) (g_ 7 (by decide +kernel)) gs_nil'))) gs_nil')))
  (ss_cons (x_set 8 (by decide +kernel) (fun _ => rfl) (h_if (t_cmp .isN rfl rfl (v_ 4 (by decide +kernel)) h_non) (h_bin .sub rfl (v_ 6 (by decide +kernel)) (h_attr 9 rfl (fun _ => rfl) (v_ 0 (by decide +kernel)))) (h_max2 Z.z_max (by decide +kernel) rfl rfl (h_bin .sub rfl (v_ 6 (by decide +kernel)) (h_attr 9 rfl (fun _ => rfl) (v_ 0 (by decide +kernel)))) (h_bin .add rfl (v_ 4 (by decide +kernel)) (h_attr 6 rfl (fun _ => rfl) (v_ 0 (by decide +kernel)))))))
  (ss_cons (x_set 9 (by decide +kernel) (fun _ => rfl) (h_if (t_val (fun _ _ => rfl) (v_ 2 (by decide +kernel))) (h_max2 Z.z_max (by decide +kernel) rfl rfl (v_ 6 (by decide +kernel)) (v_ 8 (by decide +kernel))) (v_ 6 (by decide +kernel))))
  (ss_cons (s_expr (fun _ => rfl) (x_pmO 3 row_append (by decide +kernel) (few1 rfl) (by decide +kernel) rfl (a_cons rfl (h_tup (a_cons rfl (h_attr 1 rfl (fun _ => rfl) (v_ 0 (by decide +kernel))) (a_cons rfl (v_ 5 (by decide +kernel)) (a_cons rfl (v_ 6 (by decide +kernel)) (a_cons rfl (v_ 8 (by decide +kernel)) (a_cons rfl (v_ 9 (by decide +kernel)) (a_cons rfl (v_ 7 (by decide +kernel)) a_nil))))))) a_nil)))
  (ss_one (x_set 4 (by decide +kernel) (fun _ => rfl) (v_ 8 (by decide +kernel))))))))
  (ss_one (s_ret (v_ 3 (by decide +kernel)))))))
def n_let_in : List Str := ["plan", "wishes", "gate", "hour", "task", "work", "found", "rows", "name"]
def T_let_in : DL.T := (.seq (.for (.ttup (.cons (.tname 3) (.cons (.tname 4) (.cons (.tname 5) .nil)))) (.it (.var 1))
  (.expr (.call 15 (.cons (.var 0) (.cons (.var 4) (.cons (.var 5) .nil))))))
  (.seq (.setM 6 (.lst .nil))
  (.seq (.for (.tname 4) (.it (.meth 14 (.var 0) .nil))
  (.seq (.set 7 (.bi .sortedD (.cons (.comp [3, 8, 5] (.ttup (.cons (.tname 3) (.cons (.tname 8) (.cons (.tname 5) .nil)))) (.it (.var 1)) (.cons (.cmp .eq (.var 8) (.attr (.var 4) 1)) .nil) (.tup (.cons (.var 3) (.cons (.var 5) .nil)))) .nil)))
  (.expr (.pm .extend (.var 6) (.cons (.call 16 (.cons (.var 4) (.cons (.var 7) (.cons (.var 2) .nil)))) .nil)))))
  (.ret (.var 6)))))
abbrev k_let_in : Kt := ⟨n_let_in, defScope s_let_in, fun _ => true, false⟩
theorem w_let_in (Z : Facts ⟨P, w, K, mg, base, tab, N⟩) (e_14 : MtI ⟨P, w, K, mg, base, tab, N⟩ 1 0 "tasks" 0 (spN 14)) (e_16 : FnI ⟨P, w, K, mg, base, tab, N⟩ 1 "jobs_of" 3 (spN 16)) (e_15 : FnI ⟨P, w, K, mg, base, tab, N⟩ 4 "need_wish" 3 (spN 15)) {A : Around} (hr : Room 6 A) : HSs ⟨P, w, K, mg, base, tab, N⟩ A k_let_in (defBody s_let_in) T_let_in :=
  (ss_cons (s_for (fun _ _ => rfl) (i_seq (v_ 1 (by decide +kernel))) (g_tup (fun _ => rfl) (fun _ => rfl) (gs_cons' (fun _ => rfl) (g_ 3 (by decide +kernel)) (gs_cons' (fun _ => rfl) (g_ 4 (by decide +kernel)) (gs_cons' (fun _ => rfl) (g_ 5 (by decide +kernel)) gs_nil'))))
  (ss_one (s_expr (fun _ => rfl) (e_15 A _ _ _ _ _ _ (hr.mono (by decide)) rfl rfl (by decide +kernel) (fun z => (nomatch z)) rfl (a_cons rfl (v_ 0 (by decide +kernel)) (a_cons rfl (v_ 4 (by decide +kernel)) (a_cons rfl (v_ 5 (by decide +kernel)) a_nil)))))))
  (ss_cons (x_setM 6 (by decide +kernel) (fun _ => rfl) (o_lst a_nil))
  (ss_cons (s_for (fun _ _ => rfl) (i_seq (e_14 A _ _ _ _ _ _ _ _ (hr.mono (by decide)) rfl rfl (fun _ => rfl) (fun _ => ⟨_, rfl⟩) rfl rfl (v_ 0 (by decide +kernel)) a_nil)) (g_ 4 (by decide +kernel))
  (ss_cons (x_set 7 (by decide +kernel) (fun _ => rfl) (HO.he (o_sortedD Z.z_sorted (by decide +kernel) rfl (HO.he (o_comp [("hour", 3), ("name", 8), ("work", 5)] ⟨(by decide +kernel), (by decide +kernel)⟩ (fun _ _ => rfl) (i_seq (v_ 1 (by decide +kernel))) (g_tup (fun _ => rfl) (fun _ => rfl) (gs_cons' (fun _ => rfl) (g_ 3 (by decide +kernel)) (gs_cons' (fun _ => rfl) (g_ 8 (by decide +kernel)) (gs_cons' (fun _ => rfl) (g_ 5 (by decide +kernel)) gs_nil')))) (c_one (t_cmp .eq rfl rfl (v_ 8 (by decide +kernel)) (h_attr 1 rfl (fun _ => rfl) (v_ 4 (by decide +kernel))))) (h_tup (a_cons rfl (v_ 3 (by decide +kernel)) (a_cons rfl (v_ 5 (by decide +kernel)) a_nil))))))))
  (ss_one (s_expr (fun _ => rfl) (h_pm row_extend (fun _ => rfl) (few1 rfl) (by decide +kernel) rfl (v_ 6 (by decide +kernel)) (a_cons rfl (e_16 A _ _ _ _ _ _ (hr.mono (by decide)) rfl rfl (by decide +kernel) (fun z => (nomatch z)) rfl (a_cons rfl (v_ 4 (by decide +kernel)) (a_cons rfl (v_ 7 (by decide +kernel)) (a_cons rfl (v_ 2 (by decide +kernel)) a_nil)))) a_nil))))))
  (ss_one (s_ret (v_ 6 (by decide +kernel)))))))
def n__law_jobs : List Str := ["raw", "rows", "shut", "found", "one", "each", "name", "level", "between", "limit", "last", "late", "spans", "some", "ahead", "k", "hour", "load", "arrival", "task"]
def T__law_jobs : DL.T := (.seq (.setO 3 (.lst .nil))
  (.seq (.for (.tname 4) (.it (.sortedL (.var 0) 5 (.idx (.var 5) (.int 1))))
  (.seq (.asgT (.ttup (.cons (.tname 6) (.cons (.tname 7) (.cons (.tname 8) (.cons (.tname 9) (.cons (.tname 10) (.cons (.tname 11) (.cons (.tname 12) .nil)))))))) (.var 4))
  (.seq (.set 13 (.bi .sortedD (.cons (.comp [16, 19, 17] (.ttup (.cons (.tname 16) (.cons (.tname 19) (.cons (.tname 17) .nil)))) (.it (.var 1)) (.cons (.cmp .eq (.var 19) (.var 6)) .nil) (.tup (.cons (.var 16) (.cons (.var 17) .nil)))) .nil)))
  (.seq (.set 14 .non)
  (.for (.tname 15) (.rng1 (.bi .len (.cons (.var 13) .nil)))
  (.seq (.asgT (.ttup (.cons (.tname 16) (.cons (.tname 17) .nil))) (.idx (.var 13) (.var 15)))
  (.seq (.set 18 (.ife (.cmp .isN (.var 14) .non) (.bin .sub (.var 16) (.var 11)) (.bi .max2 (.cons (.bin .sub (.var 16) (.var 11)) (.cons (.bin .add (.var 14) (.var 8)) .nil)))))
  (.seq (.expr (.pmO .append 3 (.cons (.lst (.cons (.var 6) (.cons (.var 15) (.cons (.var 16) (.cons (.var 18) (.cons (.ife (.var 2) (.bi .max2 (.cons (.var 16) (.cons (.var 18) .nil))) (.var 16)) (.cons (.var 17) .nil))))))) .nil)))
  (.set 14 (.var 18))))))))))
  (.ret (.var 3))))
abbrev k__law_jobs : Kt := ⟨n__law_jobs, defScope s__law_jobs, fun _ => true, true⟩
theorem w__law_jobs (Z : Facts ⟨P, w, K, mg, base, tab, N⟩)  {A : Around} (hr : Room 3 A) : HSs ⟨P, w, K, mg, base, tab, N⟩ A k__law_jobs (defBody s__law_jobs) T__law_jobs :=
  (ss_cons (x_setO 3 (by decide +kernel) (fun _ => rfl) (o_lst a_nil))
  (ss_cons (s_for (fun _ _ => rfl) (i_seq (HO.he (h_sortedL (k := 0) (hr.mono (by decide)) ⟨⟨"each", (by decide +kernel), (by decide +kernel), fun _ _ _ _ _ _ => rfl⟩, rfl, fun _ => rfl, fun A hr => (h_idx (fun _ _ => rfl) (v_ 5 (by decide +kernel)) h_int)⟩ Z.z_sorted (by decide +kernel) rfl (v_ 0 (by decide +kernel))))) (g_ 4 (by decide +kernel))
  (ss_cons (s_asgT (fun _ => rfl) (fun _ => rfl) (v_ 4 (by decide +kernel)) (g_tup (fun _ => rfl) (fun _ => rfl) (gs_cons' (fun _ => rfl) (g_ 6 (by decide +kernel)) (gs_cons' (fun _ => rfl) (g_ 7 (by decide +kernel)) (gs_cons' (fun _ => rfl) (g_ 8 (by decide +kernel)) (gs_cons' (fun _ => rfl) (g_ 9 (by decide +kernel)) (gs_cons' (fun _ => rfl) (g_ 10 (by decide +kernel)) (gs_cons' (fun _ => rfl) (g_ 11 (by decide +kernel)) (gs_cons' (fun _ => rfl) (g_ 12 (by decide +kernel)) gs_nil')))))))))
  (ss_cons (x_set 13 (by decide +kernel) (fun _ => rfl) (HO.he (o_sortedD Z.z_sorted (by decide +kernel) rfl (HO.he (o_comp [("hour", 16), ("task", 19), ("load", 17)] ⟨(by decide +kernel), (by decide +kernel)⟩ (fun _ _ => rfl) (i_seq (v_ 1 (by decide +kernel))) (g_tup (fun _ => rfl) (fun _ => rfl) (gs_cons' (fun _ => rfl) (g_ 16 (by decide +kernel)) (gs_cons' (fun _ => rfl) (g_ 19 (by decide +kernel)) (gs_cons' (fun _ => rfl) (g_ 17 (by decide +kernel)) gs_nil')))) (c_one (t_cmp .eq rfl rfl (v_ 19 (by decide +kernel)) (v_ 6 (by decide +kernel)))) (h_tup (a_cons rfl (v_ 16 (by decide +kernel)) (a_cons rfl (v_ 17 (by decide +kernel)) a_nil))))))))
  (ss_cons (x_set 14 (by decide +kernel) (fun _ => rfl) h_non)
  (ss_one (s_for (fun _ _ => rfl) (i_rng1 Z.z_range (by decide +kernel) rfl (h_len Z.z_len (by decide +kernel) rfl (v_ 13 (by decide +kernel)))) (g_ 15 (by decide +kernel))
  (ss_cons (s_asgT (fun _ => rfl) (fun _ => rfl) (h_idx (fun _ _ => rfl) (v_ 13 (by decide +kernel)) (v_ 15 (by decide +kernel))) (g_tup (fun _ => rfl) (fun _ => rfl) (gs_cons' (fun _ => rfl) (g_ 16 (by decide +kernel)) (gs_cons' (fun _ => rfl) (g_ 17 (by decide +kernel)) gs_nil'))))
  (ss_cons (x_set 18 (by decide +kernel) (fun _ => rfl) (h_if (t_cmp .isN rfl rfl (v_ 14 (by decide +kernel)) h_non) (h_bin .sub rfl (v_ 16 (by decide +kernel)) (v_ 11 (by decide +kernel))) (h_max2 Z.z_max (by decide +kernel) rfl rfl (h_bin .sub rfl (v_ 16 (by decide +kernel)) (v_ 11 (by decide +kernel))) (h_bin .add rfl (v_ 14 (by decide +kernel)) (v_ 8 (by decide +kernel))))))
  (ss_cons (s_expr (fun _ => rfl) (x_pmO 3 row_append (by decide +kernel) (few1 rfl) (by decide +kernel) rfl (a_cons rfl (HO.he (o_lst (a_cons rfl (v_ 6 (by decide +kernel)) (a_cons rfl (v_ 15 (by decide +kernel)) (a_cons rfl (v_ 16 (by decide +kernel)) (a_cons rfl (v_ 18 (by decide +kernel)) (a_cons rfl (h_if (t_val (fun _ _ => rfl) (v_ 2 (by decide +kernel))) (h_max2 Z.z_max (by decide +kernel) rfl rfl (v_ 16 (by decide +kernel)) (v_ 18 (by decide +kernel))) (v_ 16 (by decide +kernel))) (a_cons rfl (v_ 17 (by decide +kernel)) a_nil)))))))) a_nil)))
  (ss_one (x_set 14 (by decide +kernel) (fun _ => rfl) (v_ 18 (by decide +kernel)))))))))))))
  (ss_one (s_ret (v_ 3 (by decide +kernel))))))
def n_law : List Str := ["script", "pen", "turn", "raw", "plan", "rows", "kept", "shut", "a_due", "found", "job"]
def T_law : DL.T := (.seq (.set 1 (.call 17 (.cons (.var 0) .nil)))
  (.seq (.for (.tname 2) (.rng1 (.bin .add (.int 1) (.bi .min2 (.cons (.int 3) (.cons (.bin .fdiv (.bi .len (.cons (.var 0) .nil)) (.int 4)) .nil)))))
  (.seq (.set 3 (.call 18 (.cons (.var 1) (.cons (.bin .add (.int 1) (.call 0 (.cons (.var 1) (.cons (.int 5) .nil)))) (.cons (.int 9) .nil)))))
  (.seq (.set 4 (.call 19 (.cons (.var 3) .nil)))
  (.seq (.set 5 (.call 20 (.cons (.var 1) (.cons (.var 3) (.cons (.call 0 (.cons (.var 1) (.cons (.int 15) .nil))) (.cons (.idx (.lst (.cons (.int 4) (.cons (.int 40) (.cons (.bin .pow (.int 10) (.int 9)) .nil)))) (.call 0 (.cons (.var 1) (.cons (.int 3) .nil)))) .nil))))))
  (.seq (.set 6 (.bi .list (.cons (.var 5) .nil)))
  (.seq (.for (.tname 7) (.it (.tup (.cons (.bl true) (.cons (.bl false) .nil))))
  (.seq (.set 8 (.comp [10] (.tname 10) (.it (.call 21 (.cons (.var 3) (.cons (.var 5) (.cons (.var 7) .nil))))) .nil (.bi .tuple (.cons (.var 10) .nil))))
  (.seq (.set 9 (.callK 22 (.cons (.var 4) (.cons (.var 5) .nil)) (.cons (.var 7) .nil)))
  (.seq (.cond (.or (.cmp .ne (.var 9) (.var 8)) (.cmp .ne (.var 5) (.var 6))) (.ret (.bl false)) .skip)
  (.expr (.pm .append (.var 9) (.cons (.str "more") .nil)))))))
  (.cond (.cmp .ne (.call 23 (.cons (.var 4) (.cons (.bi .tuple (.cons (.rev (.var 5)) .nil)) .nil))) (.comp [10] (.tname 10) (.it (.call 21 (.cons (.var 3) (.cons (.var 5) (.cons (.bl true) .nil))))) .nil (.bi .tuple (.cons (.var 10) .nil)))) (.ret (.bl false)) .skip)))))))
  (.ret (.cmp .eq (.call 23 (.cons (.call 24 .nil) (.cons (.lst .nil) .nil))) (.lst .nil)))))
abbrev k_law : Kt := ⟨n_law, defScope s_law, fun _ => true, false⟩
theorem w_law (Z : Facts ⟨P, w, K, mg, base, tab, N⟩) (e_24 : FnI ⟨P, w, K, mg, base, tab, N⟩ 2 "Plan" 0 (spN 24)) (e_0 : FnI ⟨P, w, K, mg, base, tab, N⟩ 1 "_law_draw" 2 (spN 0)) (e_21 : FnI ⟨P, w, K, mg, base, tab, N⟩ 4 "_law_jobs" 3 (spN 21)) (e_17 : FnI ⟨P, w, K, mg, base, tab, N⟩ 1 "_law_pen" 1 (spN 17)) (e_19 : FnI ⟨P, w, K, mg, base, tab, N⟩ 16 "_law_plan" 1 (spN 19)) (e_18 : FnI ⟨P, w, K, mg, base, tab, N⟩ 7 "_law_raw" 3 (spN 18)) (e_20 : FnI ⟨P, w, K, mg, base, tab, N⟩ 4 "_law_wishes" 4 (spN 20)) (e_23 : FnI ⟨P, w, K, mg, base, tab, N⟩ 7 "let_in" 2 (spN 23)) (e_22 : FnKI ⟨P, w, K, mg, base, tab, N⟩ 7 "let_in" 2 ["gate"] (spN 22)) {A : Around} (hr : Room 18 A) : HSs ⟨P, w, K, mg, base, tab, N⟩ A k_law (defBody s_law) T_law :=
  (ss_cons (x_set 1 (by decide +kernel) (fun _ => rfl) (e_17 A _ _ _ _ _ _ (hr.mono (by decide)) rfl rfl (by decide +kernel) (fun z => (nomatch z)) rfl (a_cons rfl (v_ 0 (by decide +kernel)) a_nil)))
  (ss_cons (s_for (fun _ _ => rfl) (i_rng1 Z.z_range (by decide +kernel) rfl (h_bin .add rfl h_int (h_min2 Z.z_min (by decide +kernel) rfl rfl h_int (h_bin .fdiv rfl (h_len Z.z_len (by decide +kernel) rfl (v_ 0 (by decide +kernel))) h_int)))) (g_ 2 (by decide +kernel))
  (ss_cons (x_set 3 (by decide +kernel) (fun _ => rfl) (e_18 A _ _ _ _ _ _ (hr.mono (by decide)) rfl rfl (by decide +kernel) (fun z => (nomatch z)) rfl (a_cons rfl (v_ 1 (by decide +kernel)) (a_cons rfl (h_bin .add rfl h_int (e_0 A _ _ _ _ _ _ (hr.mono (by decide)) rfl rfl (by decide +kernel) (fun z => (nomatch z)) rfl (a_cons rfl (v_ 1 (by decide +kernel)) (a_cons rfl h_int a_nil)))) (a_cons rfl h_int a_nil)))))
  (ss_cons (x_set 4 (by decide +kernel) (fun _ => rfl) (e_19 A _ _ _ _ _ _ (hr.mono (by decide)) rfl rfl (by decide +kernel) (fun z => (nomatch z)) rfl (a_cons rfl (v_ 3 (by decide +kernel)) a_nil)))
  (ss_cons (x_set 5 (by decide +kernel) (fun _ => rfl) (e_20 A _ _ _ _ _ _ (hr.mono (by decide)) rfl rfl (by decide +kernel) (fun z => (nomatch z)) rfl (a_cons rfl (v_ 1 (by decide +kernel)) (a_cons rfl (v_ 3 (by decide +kernel)) (a_cons rfl (e_0 A _ _ _ _ _ _ (hr.mono (by decide)) rfl rfl (by decide +kernel) (fun z => (nomatch z)) rfl (a_cons rfl (v_ 1 (by decide +kernel)) (a_cons rfl h_int a_nil))) (a_cons rfl (h_idx (fun _ _ => rfl) (HO.he (o_lst (a_cons rfl h_int (a_cons rfl h_int (a_cons rfl (h_bin .pow rfl h_int h_int) a_nil))))) (e_0 A _ _ _ _ _ _ (hr.mono (by decide)) rfl rfl (by decide +kernel) (fun z => (nomatch z)) rfl (a_cons rfl (v_ 1 (by decide +kernel)) (a_cons rfl h_int a_nil)))) a_nil))))))
  (ss_cons (x_set 6 (by decide +kernel) (fun _ => rfl) (HO.he (o_list Z.z_list (by decide +kernel) rfl (v_ 5 (by decide +kernel)))))
  (ss_cons (s_for (fun _ _ => rfl) (i_seq (h_tup (a_cons rfl h_bl (a_cons rfl h_bl a_nil)))) (g_ 7 (by decide +kernel))
  (ss_cons (x_setC 8 [("job", 10)] (by decide +kernel) ⟨(by decide +kernel), (by decide +kernel)⟩ (fun _ _ => rfl) (i_seq (e_21 A _ _ _ _ _ _ (hr.mono (by decide)) rfl rfl (by decide +kernel) (fun z => (nomatch z)) rfl (a_cons rfl (v_ 3 (by decide +kernel)) (a_cons rfl (v_ 5 (by decide +kernel)) (a_cons rfl (v_ 7 (by decide +kernel)) a_nil))))) (g_ 10 (by decide +kernel)) c_nil (h_tuple Z.z_tuple (by decide +kernel) rfl (v_ 10 (by decide +kernel))))
  (ss_cons (x_set 9 (by decide +kernel) (fun _ => rfl) (e_22 A _ _ _ _ _ _ _ _ (hr.mono (by decide)) rfl rfl rfl (by decide +kernel) rfl rfl rfl (a_cons rfl (v_ 4 (by decide +kernel)) (a_cons rfl (v_ 5 (by decide +kernel)) a_nil)) (k_cons (v_ 7 (by decide +kernel)) k_nil)))
  (ss_cons (s_if (HW.ht (w_or (t_cmp .ne rfl rfl (v_ 9 (by decide +kernel)) (v_ 8 (by decide +kernel))) (w_or1 (t_cmp .ne rfl rfl (v_ 5 (by decide +kernel)) (v_ 6 (by decide +kernel))))))
  (ss_one (s_ret h_bl)) ss_nil)
  (ss_one (s_expr (fun _ => rfl) (h_pm row_append (fun _ => rfl) (few1 rfl) (by decide +kernel) rfl (v_ 9 (by decide +kernel)) (a_cons rfl h_str a_nil))))))))
  (ss_one (s_if (t_cmp .ne rfl rfl (e_23 A _ _ _ _ _ _ (hr.mono (by decide)) rfl rfl (by decide +kernel) (fun z => (nomatch z)) rfl (a_cons rfl (v_ 4 (by decide +kernel)) (a_cons rfl (h_tuple Z.z_tuple (by decide +kernel) rfl (HO.he (o_rev (v_ 5 (by decide +kernel))))) a_nil))) (HO.he (o_comp [("job", 10)] ⟨(by decide +kernel), (by decide +kernel)⟩ (fun _ _ => rfl) (i_seq (e_21 A _ _ _ _ _ _ (hr.mono (by decide)) rfl rfl (by decide +kernel) (fun z => (nomatch z)) rfl (a_cons rfl (v_ 3 (by decide +kernel)) (a_cons rfl (v_ 5 (by decide +kernel)) (a_cons rfl h_bl a_nil))))) (g_ 10 (by decide +kernel)) c_nil (h_tuple Z.z_tuple (by decide +kernel) rfl (v_ 10 (by decide +kernel))))))
  (ss_one (s_ret h_bl)) ss_nil))))))))
  (ss_one (s_ret (h_cmp .eq rfl rfl (e_23 A _ _ _ _ _ _ (hr.mono (by decide)) rfl rfl (by decide +kernel) (fun z => (nomatch z)) rfl (a_cons rfl (e_24 A _ _ _ _ _ _ (hr.mono (by decide)) rfl rfl (by decide +kernel) (fun _ => rfl) rfl a_nil) (a_cons rfl (HO.he (o_lst a_nil)) a_nil))) (HO.he (o_lst a_nil)))))))
end
end LawW

set_option Elab.async false
set_option linter.all false
set_option maxRecDepth 100000
namespace LawW
open PySem L2 DL
/-! ### small ones -/
theorem wide_ok {n g : Int} (h1 : 0 < g) (h2 : g < LIM) (h3 : -(3 * 1267650600228229401496703205376) < n) (h4 : n < 3 * 1267650600228229401496703205376) : (n + g - 1).natAbs < 2 ^ 200 ∧ g < 2 ^ 200 := by
  unfold LIM at h2
  have e1 : (2 : Nat) ^ 200 = 1606938044258990275541962092341162602522202993782792835301376 := by decide +kernel
  have e2 : (2 : Int) ^ 200 = 1606938044258990275541962092341162602522202993782792835301376 := by decide +kernel
  rw [e1, e2]
  omega
theorem fit_is_whole : Fits tab 2 T_is_whole spIsWhole := by
  rintro ds M Q ⟨i, l, rfl, q⟩
  conv => whnf
  refine ⟨true, isi1 rfl k_ii, true, rfl, ?_⟩
  conv => whnf
  refine ⟨false, isi1 rfl k_ib, false, rfl, true, rfl, ?_⟩
  conv => whnf
  exact q
theorem fit_written : Fits tab 4 T_written_place spWritten := by
  rintro ds M Q ⟨a, rfl, q⟩
  repeat ((conv => whnf); first | refine ⟨szL (by simp; done), ?_⟩ | refine ⟨_, rfl, ?_⟩ | refine ⟨rfl, ?_⟩)
  conv => whnf
  exact q
theorem fit_within : Fits tab 2 T_lies_within spWithin := by
  rintro ds M Q ⟨a, b, rfl, q⟩
  repeat ((conv => whnf); first | refine ⟨szL (by simp; done), ?_⟩ | refine ⟨_, rfl, ?_⟩ | refine ⟨rfl, ?_⟩)
  conv => whnf
  by_cases h : b.s ≤ a.s
  · rw [ibT (decide_eq_true h)]
    repeat ((conv => whnf); first | refine ⟨szL (by simp; done), ?_⟩ | refine ⟨_, rfl, ?_⟩ | refine ⟨rfl, ?_⟩)
    conv => whnf
    have e : decide (within a b) = decide (a.s + a.l ≤ b.s + b.l) := by
      by_cases h2 : a.s + a.l ≤ b.s + b.l
      · rw [decide_eq_true h2]; exact decide_eq_true ⟨h, h2⟩
      · rw [decide_eq_false h2]; exact decide_eq_false fun z => h2 z.2
    rw [e] at q
    exact q
  · rw [ibF (by rw [decide_eq_false h]; exact Bool.false_ne_true)]
    have e : decide (within a b) = false := decide_eq_false fun z => h z.1
    rw [e] at q
    conv => whnf
    exact q
theorem str_size {s : Str} (h : NmS s) : s.length ≤ 1000 := by
  have := h.2.1
  have e : s.length = s.cps.toList.length := by rw [Array.length_toList]; rfl
  omega
theorem fit_go : Fits tab 2 T_go_together spGo := by
  rintro ds M Q ⟨a, b, rfl, na, nb, h, q⟩
  repeat ((conv => whnf); first | refine ⟨szL (by simp; done), ?_⟩ | refine ⟨_, rfl, ?_⟩ | refine ⟨rfl, ?_⟩)
  conv => whnf
  by_cases h1 : a.s + a.l ≤ b.s
  · rw [ibT (decide_eq_true h1)]
    repeat ((conv => whnf); first | refine ⟨szL (by simp; done), ?_⟩ | refine ⟨_, rfl, ?_⟩ | refine ⟨rfl, ?_⟩)
    conv => whnf
    exact q
  rw [ibF (by rw [decide_eq_false h1]; exact Bool.false_ne_true)]
  repeat ((conv => whnf); first | refine ⟨szL (by simp; done), ?_⟩ | refine ⟨_, rfl, ?_⟩ | refine ⟨rfl, ?_⟩)
  conv => whnf
  by_cases h2 : b.s + b.l ≤ a.s
  · rw [ibT (decide_eq_true h2)]
    conv => whnf
    exact q
  rw [ibF (by rw [decide_eq_false h2]; exact Bool.false_ne_true)]
  have h3 : a.k ≠ b.k ∧ (within a b ∨ within b a) := by
    rcases h with h | h | h
    · exact absurd h h1
    · exact absurd h h2
    · exact h
  repeat ((conv => whnf); first | refine ⟨szL (by simp; done), ?_⟩ | refine ⟨_, rfl, ?_⟩ | refine ⟨rfl, ?_⟩)
  conv => whnf
  have e1 : (!deq (.str a.k) (.str b.k)) = true := by
    show (!decide (a.k = b.k)) = true
    rw [decide_eq_false h3.1]; rfl
  refine it_ e1 ?_
  conv => whnf
  refine ⟨a, b, rfl, ?_⟩
  refine ⟨_, rfl, ?_⟩
  by_cases h4 : within a b
  · rw [ibT (decide_eq_true h4)]
    conv => whnf
    exact q
  rw [ibF (by rw [decide_eq_false h4]; exact Bool.false_ne_true)]
  conv => whnf
  refine ⟨b, a, rfl, ?_⟩
  have h5 : within b a := h3.2.resolve_left h4
  rw [decide_eq_true h5]
  conv => whnf
  exact q
theorem in_letters : ∀ c : Nat, LetOk c → (!(Builtin.Str.occurrences (Str.ofString "abcdefghijklmnopqrstuvwxyz") ⟨#[c]⟩ 0 (Str.ofString "abcdefghijklmnopqrstuvwxyz").length 1).isEmpty) = true := by
  intro c h
  have e : c ∈ (List.range 26).map (· + 97) := List.mem_map.mpr ⟨c - 97, List.mem_range.mpr (by have := h.1; have := h.2; omega), by have := h.1; omega⟩
  have all : ((List.range 26).map (· + 97)).all (fun c => !(Builtin.Str.occurrences (Str.ofString "abcdefghijklmnopqrstuvwxyz") ⟨#[c]⟩ 0 (Str.ofString "abcdefghijklmnopqrstuvwxyz").length 1).isEmpty) = true := by decide +kernel
  exact List.all_eq_true.mp all c e
theorem all_true : ∀ {n : Nat}, (List.replicate n true).all id = true
  | 0 => rfl
  | n + 1 => by rw [List.replicate_succ, List.all_cons, all_true]; rfl
theorem fit_is_name : Fits tab 2 T_is_name spIsName := by
  rintro ds M Q ⟨s, rfl, h, q⟩
  have z := str_size h
  have e : s.length = s.cps.toList.length := by rw [Array.length_toList]; rfl
  conv => whnf
  refine ⟨true, isi1 rfl k_ss, true, rfl, false, rfl, ?_⟩
  repeat ((conv => whnf); first | refine ⟨szL (by simp; done), ?_⟩ | refine ⟨_, rfl, ?_⟩ | refine ⟨rfl, ?_⟩)
  conv => whnf
  refine ⟨szL z, ?_⟩
  conv => whnf
  have h1 : (1 : Int) ≤ (s.length : Int) := by have := h.1; omega
  have h2 : ((s.length : Nat) : Int) ≤ 12 := by have := h.2.1; omega
  rw [ibT (decide_eq_true h1)]
  conv => whnf
  refine ⟨_, rfl, ?_⟩
  have e2 : (!decide (((s.length : Nat) : Int) ≤ 12)) = false := by rw [decide_eq_true h2]; rfl
  refine ⟨_, rfl, ?_⟩
  rw [ibF (by show ¬ (!decide (((s.length : Nat) : Int) ≤ 12)) = true; rw [e2]; exact Bool.false_ne_true)]
  conv => whnf
  refine ⟨_, rfl, szL z, fun _ => ?_⟩
  refine compL_map (fun _ => .bl true) (fun d hd K k => ?_) ?_
  · obtain ⟨c, hc, rfl⟩ := List.mem_map.mp hd
    repeat ((conv => whnf); first | refine ⟨szL (by simp; done), ?_⟩ | refine ⟨_, rfl, ?_⟩ | refine ⟨rfl, ?_⟩)
    conv => whnf
    have k2 := in_letters c (h.2.2 c hc)
    rw [← k2] at k
    exact k
  · conv => whnf
    refine ⟨_, List.replicate s.cps.toList.length true, rfl, ?_, ?_⟩
    · rw [List.map_map, List.map_replicate]
      show s.cps.toList.map (fun _ => DL.D.bl true) = _
      rw [List.map_const']
    · rw [all_true]
      exact q
end LawW

set_option Elab.async false
set_option linter.all false
set_option maxRecDepth 100000
namespace LawW
open PySem L2 DL
theorem fit_is_section : Fits tab 5 T_is_section spIsSection := by
  rintro ds M Q ⟨a, m, rfl, h, q⟩
  conv => whnf
  refine ⟨true, isi1 rfl k_tt, true, rfl, false, rfl, ?_⟩
  repeat ((conv => whnf); first | refine ⟨szL (by simp; done), ?_⟩ | refine ⟨_, rfl, ?_⟩ | refine ⟨rfl, ?_⟩)
  refine ⟨_, _, rfl, ?_⟩
  rw [decide_eq_true h.s0]
  repeat ((conv => whnf); first | refine ⟨szL (by simp; done), ?_⟩ | refine ⟨_, rfl, ?_⟩ | refine ⟨rfl, ?_⟩)
  refine ⟨⟨rfl, rfl⟩, _, _, rfl, ?_⟩
  rw [decide_eq_true h.l1]
  repeat ((conv => whnf); first | refine ⟨szL (by simp; done), ?_⟩ | refine ⟨_, rfl, ?_⟩ | refine ⟨rfl, ?_⟩)
  refine ⟨h.nm, ?_⟩
  repeat ((conv => whnf); first | refine ⟨szL (by simp; done), ?_⟩ | refine ⟨_, rfl, ?_⟩ | refine ⟨rfl, ?_⟩)
  conv => whnf
  have q' := q
  rw [← decide_eq_true h.fit] at q'
  exact q'
theorem seq3 {x : Sec} : itemsOf (dSec x) = some [.int x.s, .int x.l, .str x.k] := rfl
theorem take_drop_pw {α : Type} {R : α → α → Prop} : ∀ {xs : List α} {i j : Nat} {a b : α}, xs.Pairwise R → j < i → xs[i]? = some a → xs[j]? = some b → R b a := by
  intro xs i j a b h hij ha hb
  obtain ⟨h1, e1⟩ := List.getElem?_eq_some_iff.mp ha
  obtain ⟨h2, e2⟩ := List.getElem?_eq_some_iff.mp hb
  have := List.pairwise_iff_getElem.mp h j i h2 h1 hij
  rw [e1, e2] at this
  exact this
theorem Together.symm {a b : Sec} (h : Together a b) : Together b a := by
  rcases h with h | h | ⟨h1, h2⟩
  · exact .inr (.inl h)
  · exact .inl h
  · exact .inr (.inr ⟨fun z => h1 z.symm, h2.symm⟩)
/-- a comprehension in a comprehension: by an invariant -/
theorem compM_inv {bd : DL.D → List DL.D → Mem → (List DL.D → Mem → Prop) → Prop} {Q : List DL.D → Mem → Prop} {M : Mem} (I : Nat → List DL.D → Prop) : ∀ {ds acc : List DL.D} {n : Nat}, I n acc → (∀ j d acc (K : List DL.D → Mem → Prop), ds[j]? = some d → I (n + j) acc → (∀ acc', I (n + j + 1) acc' → K acc' M) → bd d acc M K) → (∀ acc, I (n + ds.length) acc → Q acc M) → compM bd ds acc M Q
  | [], acc, n, i, _, done => by rw [compM_nilE]; exact done acc i
  | d :: ds, acc, n, i, step, done => by
    rw [compM_consE]
    exact step 0 d acc _ rfl i fun acc' i' => compM_inv I (n := n + 1) i' (fun j d' acc K h q k => by
      have e : n + 1 + j = n + (j + 1) := by omega
      rw [e] at q k
      exact step (j + 1) d' acc K (by simpa using h) q k) fun acc q => done acc (by
        have e : n + 1 + ds.length = n + (d :: ds).length := by rw [List.length_cons]; omega
        rwa [e] at q)
theorem cut_take {α : Type} {ds : List α} {i : Nat} (h : i ≤ ds.length) : cutD ds none (some (i : Int)) = ds.take i := by
  unfold cutD
  rw [HT.sIx_none, HT.sIx_nat, Nat.min_eq_left h]
  simp
theorem cut_drop {α : Type} {ds : List α} {i : Nat} (h : i ≤ ds.length) : cutD ds (some (i : Int)) none = ds.drop i := by
  unfold cutD
  rw [HT.sIx_none, HT.sIx_nat, Nat.min_eq_left h, List.take_of_length_le (by simp)]
theorem rng_get {n : Nat} {j : Nat} {d : DL.D} (h : ((List.range n).map fun k => DL.D.int (k : Nat))[j]? = some d) : j < n ∧ d = .int (j : Nat) := by
  rw [List.getElem?_map] at h
  by_cases hj : j < n
  · rw [List.getElem?_range hj] at h
    exact ⟨hj, (Option.some.inj h).symm⟩
  · rw [List.getElem?_eq_none (by simpa using hj)] at h
    cases h
theorem fit_are_sections : Fits tab 5 T_are_sections spAreSections := by
  rintro ds M Q ⟨xs, m, rfl, h1, h2, hz, q⟩
  conv => whnf
  refine ⟨true, isi2 rfl k_tt, true, rfl, false, rfl, ?_⟩
  conv => whnf
  refine ⟨_, rfl, trivial, fun _ => ?_⟩
  refine compL_map (fun _ => .bl true) (fun d hd K k => ?_) ?_
  · obtain ⟨x, hx, rfl⟩ := List.mem_map.mp hd
    conv => whnf
    refine ⟨rfl, x, m, rfl, h1 x hx, ?_⟩
    conv => whnf
    exact ⟨rfl, k⟩
  conv => whnf
  refine ⟨_, List.replicate xs.length true, rfl, ?_, ?_⟩
  · rw [List.map_map, List.map_replicate]
    show xs.map (fun _ => DL.D.bl true) = _
    rw [List.map_const']
  rw [all_true]
  conv => whnf
  refine ⟨_, rfl, ?_⟩
  conv => whnf
  refine ⟨_, rfl, ?_⟩
  refine if_ rfl ?_
  have hl : (xs.map dSec).length = xs.length := by rw [List.length_map]
  conv => whnf
  refine ⟨_, rfl, ?_⟩
  conv => whnf
  refine ⟨_, rfl, ⟨by omega, by omega⟩, ?_⟩
  rw [Int.toNat_natCast, hl]
  refine compM_inv (fun j acc => ∃ n, acc = List.replicate n (.bl true) ∧ n ≤ 8 * j) (n := 0) ⟨0, rfl, Nat.zero_le _⟩ (fun j d acc K hd ⟨n, e, hn⟩ k => ?_) fun acc ⟨n, e, hn⟩ => ?_
  · obtain ⟨hj, rfl⟩ := rng_get hd
    rw [Nat.zero_add] at hn k
    subst e
    conv => whnf
    refine ⟨rfl, ?_⟩
    conv => whnf
    refine ⟨_, rfl, ?_⟩
    conv => whnf
    refine ⟨_, rfl, trivial, fun _ => ⟨rfl, ?_, ?_⟩⟩
    · rw [cut_take (by omega), List.length_replicate, List.length_take, sizeLine_eq]
      have := Nat.min_le_right j (xs.map dSec).length
      omega
    rw [cut_take (by omega)]
    refine compL_pure (fun _ => some (.bl true)) (fun d hd K' k' => ?_) ?_
    · obtain ⟨i, hi⟩ := List.mem_iff_getElem?.mp hd
      rw [List.getElem?_take] at hi
      split at hi
      · rename_i hij
        rw [List.getElem?_map] at hi
        cases e2 : xs[i]? with
        | none => rw [e2] at hi; cases hi
        | some y =>
          rw [e2] at hi
          obtain rfl : dSec y = d := Option.some.inj hi
          obtain ⟨x, hx⟩ : ∃ x, xs[j]? = some x := ⟨_, List.getElem?_eq_getElem hj⟩
          conv => whnf
          refine ⟨rfl, ?_⟩
          conv => whnf
          refine ⟨dSec x, atI_nat (by rw [List.getElem?_map, hx]; rfl), ?_⟩
          have mx : x ∈ xs := List.mem_of_getElem? hx
          have my : y ∈ xs := List.mem_of_getElem? e2
          refine ⟨x, y, rfl, (h1 x mx).nm, (h1 y my).nm, (take_drop_pw h2 hij hx e2).symm, ?_⟩
          exact ⟨rfl, k'⟩
      · cases hi
    · refine k _ ⟨n + j, ?_, by omega⟩
      have e3 : (List.take j (xs.map dSec)).filterMap (fun _ => some (DL.D.bl true)) = List.replicate j (.bl true) := by
        rw [List.filterMap_eq_map']
        rw [List.map_const', List.length_take, hl, Nat.min_eq_left (Nat.le_of_lt hj)]
      rw [e3, List.replicate_append_replicate]
  · subst e
    conv => whnf
    refine ⟨_, List.replicate n true, rfl, by rw [List.map_replicate], ?_⟩
    rw [all_true]
    exact q
end LawW

set_option Elab.async false
set_option linter.all false
set_option maxRecDepth 100000
namespace LawW
open PySem L2 DL
theorem fit_bad_part : Fits tab 9 T_bad_part spBadPart := by
  rintro ds M Q ⟨r, rfl, h, q⟩
  conv => whnf
  refine ⟨_, rfl, h.nm, ?_⟩
  repeat ((conv => whnf); first | refine ⟨szL (by simp; done), ?_⟩ | refine ⟨_, rfl, ?_⟩ | refine ⟨rfl, ?_⟩)
  refine ⟨trivial, fun _ => ?_⟩
  have e1 : decide ((1 : Int) ≤ r.rk) = true := decide_eq_true h.rk1
  have e2 : decide ((1 : Int) ≤ r.gap) = true := decide_eq_true h.gap1
  have e3 : decide ((1 : Int) ≤ r.mst) = true := decide_eq_true h.mst1
  have e4 : decide ((1 : Int) ≤ r.due) = true := decide_eq_true h.due1
  have e5 : decide (r.due ≤ r.gap) = true := decide_eq_true h.dueG
  have e6 : decide ((0 : Int) ≤ r.wt) = true := decide_eq_true h.wt0
  repeat ((conv => whnf); first | refine ⟨szL (by simp; done), ?_⟩ | refine ⟨_, rfl, ?_⟩ | refine ⟨rfl, ?_⟩)
  conv => whnf
  rw [forL_consE]
  repeat ((conv => whnf); first | refine ⟨szL (by simp; done), ?_⟩ | refine ⟨_, rfl, ?_⟩ | refine ⟨rfl, ?_⟩)
  refine ⟨⟨rfl, rfl⟩, _, _, rfl, ?_⟩
  rw [e1]
  repeat ((conv => whnf); first | refine ⟨szL (by simp; done), ?_⟩ | refine ⟨_, rfl, ?_⟩ | refine ⟨rfl, ?_⟩)
  conv => whnf
  rw [forL_consE]
  repeat ((conv => whnf); first | refine ⟨szL (by simp; done), ?_⟩ | refine ⟨_, rfl, ?_⟩ | refine ⟨rfl, ?_⟩)
  refine ⟨⟨rfl, rfl⟩, _, _, rfl, ?_⟩
  rw [e2]
  repeat ((conv => whnf); first | refine ⟨szL (by simp; done), ?_⟩ | refine ⟨_, rfl, ?_⟩ | refine ⟨rfl, ?_⟩)
  conv => whnf
  rw [forL_consE]
  repeat ((conv => whnf); first | refine ⟨szL (by simp; done), ?_⟩ | refine ⟨_, rfl, ?_⟩ | refine ⟨rfl, ?_⟩)
  refine ⟨⟨rfl, rfl⟩, _, _, rfl, ?_⟩
  rw [e3]
  repeat ((conv => whnf); first | refine ⟨szL (by simp; done), ?_⟩ | refine ⟨_, rfl, ?_⟩ | refine ⟨rfl, ?_⟩)
  conv => whnf
  rw [forL_nilE]
  repeat ((conv => whnf); first | refine ⟨szL (by simp; done), ?_⟩ | refine ⟨_, rfl, ?_⟩ | refine ⟨rfl, ?_⟩)
  refine ⟨⟨rfl, rfl⟩, _, _, rfl, ?_⟩
  rw [e4]
  repeat ((conv => whnf); first | refine ⟨szL (by simp; done), ?_⟩ | refine ⟨_, rfl, ?_⟩ | refine ⟨rfl, ?_⟩)
  refine if_ (by rw [e5]; rfl) ?_
  repeat ((conv => whnf); first | refine ⟨szL (by simp; done), ?_⟩ | refine ⟨_, rfl, ?_⟩ | refine ⟨rfl, ?_⟩)
  refine ⟨_, _, rfl, ?_⟩
  rw [e6]
  repeat ((conv => whnf); first | refine ⟨szL (by simp; done), ?_⟩ | refine ⟨_, rfl, ?_⟩ | refine ⟨rfl, ?_⟩)
  refine ⟨r.secs, r.mst, rfl, h.secs, h.tog, h.few, ?_⟩
  repeat ((conv => whnf); first | refine ⟨szL (by simp; done), ?_⟩ | refine ⟨_, rfl, ?_⟩ | refine ⟨rfl, ?_⟩)
  conv => whnf
  exact q
theorem putAt_new {cfs : Nat → List Nat} {M : Mem} {a : Addr} {f c : Nat} {fs : List DL.D} {x : DL.D} {P : Mem → Prop} (h : M a = some (.obj c fs)) (hf : posOf (cfs c) f = some fs.length) (q : P (updM M a (.obj c (fs ++ [x])))) : DL.putAt cfs M a f x P := by
  unfold DL.putAt
  rw [h]
  exact ⟨_, hf, .inr ⟨rfl, q⟩⟩
theorem updM_updM {M : Mem} {a : Addr} {o u : MO} : updM (updM M a o) a u = updM M a u := by
  funext b
  by_cases hb : b = a
  · subst hb; rw [updM_same, updM_same]
  · rw [updM_ne hb, updM_ne hb, updM_ne hb]
def keyW : DL.D → DL.D
  | .tup [.int s, .int l, k] => .tup [.int s, .int (-l), k]
  | d => d
theorem keyW_sec (x : Sec) : keyW (dSec x) = wrt x := rfl
theorem map_keyW (xs : List Sec) : (xs.map dSec).map keyW = xs.map wrt := by rw [List.map_map]; rfl
theorem cps_lt {s : Str} (h : NmS s) : s.cps.all (· < 1114112) = true := by
  rw [← Array.all_toList, List.all_eq_true]
  intro c hc
  have := (h.2.2 c hc).2
  exact decide_eq_true (by omega)
theorem dats_all : ∀ {ds : List DL.D}, (∀ d ∈ ds, dat d = true) → dats ds = true
  | [], _ => by unfold dats; rfl
  | d :: ds, h => by unfold dats; rw [h d (List.mem_cons_self ..), dats_all fun x m => h x (List.mem_cons_of_mem _ m)]; rfl
theorem deps_all : ∀ {ds : List DL.D} {n : Nat}, (∀ d ∈ ds, dep d ≤ n) → deps ds ≤ n
  | [], n, _ => by unfold deps; exact Nat.zero_le _
  | d :: ds, n, h => by unfold deps; exact Nat.max_le.mpr ⟨h d (List.mem_cons_self ..), deps_all fun x m => h x (List.mem_cons_of_mem _ m)⟩
theorem sortOk_wrt {xs : List Sec} (h : ∀ x ∈ xs, NmS x.k) (hz : xs.length < 64) : SortOk (xs.map wrt) := by
  have py_wrt : ∀ x : Sec, py (wrt x) = .tuple [.int x.s, .int (-x.l), .str x.k] := fun x => by
    unfold wrt
    simp only [py, pys]
  refine ⟨by rw [List.length_map]; exact hz, dats_all fun d m => ?_, deps_all (n := 60) fun d m => ?_, fun d m d' m' => ?_, .inl fun d m => ?_⟩
  · obtain ⟨x, hx, rfl⟩ := List.mem_map.mp m
    unfold wrt
    simp only [dat, dats, cps_lt (h x hx), Bool.and_self]
  · obtain ⟨x, hx, rfl⟩ := List.mem_map.mp m
    unfold wrt
    simp only [dep, deps]
    decide
  · rw [pys_map, List.map_map] at m m'
    obtain ⟨x, hx, rfl⟩ := List.mem_map.mp m
    obtain ⟨y, hy, rfl⟩ := List.mem_map.mp m'
    show PySem.W.alike (py (wrt x)) (py (wrt y)) = true
    rw [py_wrt, py_wrt]
    simp only [PySem.W.alike, PySem.W.alikeAll, Bool.and_self]
  · rw [pys_map, List.map_map] at m
    obtain ⟨x, hx, rfl⟩ := List.mem_map.mp m
    exact ⟨_, _, py_wrt x⟩
def srt (xs : List Sec) : List Sec := xs.mergeSort fun a b => leD (wrt a) (wrt b)
theorem srt_map (xs : List Sec) : ((xs.map dSec).mergeSort fun a b => leD (keyW a) (keyW b)) = (srt xs).map dSec := by
  unfold srt
  exact (List.map_mergeSort (r := fun a b => leD (wrt a) (wrt b)) (s := fun a b => leD (keyW a) (keyW b)) (f := dSec) fun a _ b _ => rfl).symm
theorem fit_task_init : Fits tab 9 T_Task___init__ spTaskInit := by
  rintro ds M Q ⟨a, r, rfl, hM, h, q⟩
  conv => whnf
  refine ⟨r, rfl, h, ?_⟩
  repeat ((conv => whnf); first | refine ⟨szL (by simp; done), ?_⟩ | refine ⟨_, rfl, ?_⟩ | refine ⟨rfl, ?_⟩)
  refine putAt_new hM rfl ?_
  repeat ((conv => whnf); first | refine ⟨szL (by simp; done), ?_⟩ | refine ⟨_, rfl, ?_⟩ | refine ⟨rfl, ?_⟩)
  refine putAt_new updM_same rfl ?_
  rw [updM_updM]
  repeat ((conv => whnf); first | refine ⟨szL (by simp; done), ?_⟩ | refine ⟨_, rfl, ?_⟩ | refine ⟨rfl, ?_⟩)
  refine putAt_new updM_same rfl ?_
  rw [updM_updM]
  repeat ((conv => whnf); first | refine ⟨szL (by simp; done), ?_⟩ | refine ⟨_, rfl, ?_⟩ | refine ⟨rfl, ?_⟩)
  refine putAt_new updM_same rfl ?_
  rw [updM_updM]
  repeat ((conv => whnf); first | refine ⟨szL (by simp; done), ?_⟩ | refine ⟨_, rfl, ?_⟩ | refine ⟨rfl, ?_⟩)
  refine putAt_new updM_same rfl ?_
  rw [updM_updM]
  repeat ((conv => whnf); first | refine ⟨szL (by simp; done), ?_⟩ | refine ⟨_, rfl, ?_⟩ | refine ⟨rfl, ?_⟩)
  refine putAt_new updM_same rfl ?_
  rw [updM_updM]
  conv => whnf
  refine ⟨_, keyW, rfl, ?_, fun e he => ?_, ?_⟩
  · rw [map_keyW]
    exact sortOk_wrt (fun x hx => (h.secs x hx).nm) (by have := h.few; omega)
  · obtain ⟨x, hx, rfl⟩ := List.mem_map.mp he
    exact ⟨x, rfl, rfl, rfl⟩
  rw [srt_map]
  conv => whnf
  refine ⟨_, _, rfl, rfl, ?_⟩
  repeat ((conv => whnf); first | refine ⟨szL (by simp; done), ?_⟩ | refine ⟨_, rfl, ?_⟩ | refine ⟨rfl, ?_⟩)
  refine putAt_new updM_same rfl ?_
  rw [updM_updM]
  exact q { r with secs := srt r.secs } ⟨srt r.secs, List.mergeSort_perm .., rfl⟩
end LawW

set_option Elab.async false
set_option linter.all false
set_option maxRecDepth 100000
namespace LawW
open PySem L2 DL
theorem view_co {M : Mem} {a : Addr} {c : CO} (h : M a = some (.co c)) : view M (.loc a) = c.tree := by
  show (match M a with | some (.co c) => c.tree | _ => DL.D.loc a) = _
  rw [h]
theorem dget_mem : ∀ {ts : List Raw} {r : Raw}, (ts.map (·.nm)).Nodup → r ∈ ts → dget (ts.map fun t => (.inr t.nm : Key)) (ts.map dTask) (.inr r.nm) = some (dTask r)
  | t :: ts, r, nd, h => by
    unfold dget
    rw [List.map_cons, List.map_cons, List.zip_cons_cons, List.find?_cons]
    rcases List.mem_cons.mp h with rfl | h
    · rw [show decide ((Sum.inr r.nm : Key) = .inr r.nm) = true from decide_eq_true rfl]
      rfl
    · rw [List.map_cons, List.nodup_cons] at nd
      have hne : ¬ (Sum.inr t.nm : Key) = .inr r.nm := fun e => nd.1 (by rw [Sum.inr.inj e]; exact List.mem_map.mpr ⟨r, h, rfl⟩)
      rw [show decide ((Sum.inr t.nm : Key) = .inr r.nm) = false from decide_eq_false hne]
      exact dget_mem nd.2 h
theorem nm_inj {ts : List Raw} {a b : Raw} (nd : (ts.map (·.nm)).Nodup) (ha : a ∈ ts) (hb : b ∈ ts) (e : a.nm = b.nm) : a = b := by
  induction ts with
  | nil => cases ha
  | cons t ts ih =>
    rw [List.map_cons, List.nodup_cons] at nd
    rcases List.mem_cons.mp ha with ea | ha
    · rcases List.mem_cons.mp hb with eb | hb
      · rw [ea, eb]
      · exact absurd (List.mem_map.mpr ⟨b, hb, by rw [← e, ea]⟩) nd.1
    · rcases List.mem_cons.mp hb with eb | hb
      · exact absurd (List.mem_map.mpr ⟨a, ha, by rw [e, eb]⟩) nd.1
      · exact ih nd.2 ha hb
theorem filterMap_if {α β : Type} {xs : List α} {p : α → Bool} {f : α → β} : xs.filterMap (fun x => if p x then some (f x) else none) = (xs.filter p).map f := by
  induction xs with
  | nil => rfl
  | cons x xs ih =>
    rw [List.filterMap_cons, List.filter_cons]
    cases p x with
    | true => simp [ih]
    | false => simp [ih]
/-- a comprehension over what stands for xs, with a test -/
theorem compL_if {α : Type} {bd : DL.D → Mem → (Option DL.D → Mem → Prop) → Prop} {Q : List DL.D → Mem → Prop} {M : Mem} (g : α → DL.D) (p : α → Bool) (f : α → DL.D) : ∀ {xs : List α} {acc : List DL.D}, (∀ x ∈ xs, ∀ K : Option DL.D → Mem → Prop, K (if p x then some (f x) else none) M → bd (g x) M K) → Q (acc ++ (xs.filter p).map f) M → compL bd (xs.map g) acc M Q
  | [], acc, _, q => by
    have q : Q (acc ++ []) M := q
    rw [List.append_nil] at q
    rw [List.map_nil, compL_nilE]; exact q
  | x :: xs, acc, h, q => by
    rw [List.map_cons, compL_consE]
    refine h x (List.mem_cons_self ..) _ ?_
    rw [List.filter_cons] at q
    cases e : p x with
    | true =>
      rw [e] at q
      exact compL_if (acc := acc ++ [f x]) g p f (fun y m => h y (List.mem_cons_of_mem _ m)) (by simpa using q)
    | false =>
      rw [e] at q
      exact compL_if (acc := acc) g p f (fun y m => h y (List.mem_cons_of_mem _ m)) (by simpa using q)
theorem fit_tasks : Fits tab 1 T_Plan_tasks spTasks := by
  rintro ds M Q ⟨pl, ts, rfl, ⟨ps, ks, es, rfl, P⟩, q⟩
  conv => whnf
  refine ⟨1, _, rfl, rfl, ?_⟩
  conv => whnf
  exact ⟨_, _, rfl, rfl, q _ P.perm P.sorted⟩
end LawW

set_option Elab.async false
set_option linter.all false
set_option maxRecDepth 100000
namespace LawW
open PySem L2 DL
/-! ### sums -/
theorem minL_spec : ∀ {l : List Int}, l ≠ [] → minL l ∈ l ∧ ∀ y ∈ l, minL l ≤ y
  | [], h => absurd rfl h
  | a :: l, _ => foldl_min l a
theorem minL_perm {a b : List Int} (h : a.Perm b) : minL a = minL b := by
  by_cases ha : a = []
  · subst ha
    rw [List.nil_perm.mp h]
  · have hb : b ≠ [] := fun e => ha (by rw [e] at h; exact List.perm_nil.mp h)
    have h1 := minL_spec ha
    have h2 := minL_spec hb
    have e1 := h1.2 _ (h.mem_iff.mpr h2.1)
    have e2 := h2.2 _ (h.mem_iff.mp h1.1)
    omega
theorem ceil_perm {a b : List Raw} (h : a.Perm b) (k : Str) : ceil a k = ceil b k := minL_perm ((h.filter _).map _)
theorem backs_perm {a b : List Raw} (h : a.Perm b) (rk : Int) : (backs a rk).Perm (backs b rk) := by
  unfold backs
  rw [show (fun t : Raw => (t.secs.filter fun s => decide (ceil a s.k ≤ rk)).map fun s => s.l - 1) = fun t : Raw => (t.secs.filter fun s => decide (ceil b s.k ≤ rk)).map fun s => s.l - 1 by
    funext t
    congr 2
    funext s
    rw [ceil_perm h]]
  exact (h.filter _).flatMap_right _
theorem foldl_max_eq {l : List Int} {m : Int} (h1 : m ∈ l) (h2 : ∀ y ∈ l, y ≤ m) (h0 : 0 ≤ m) : l.foldl max 0 = m := by
  obtain ⟨a, b⟩ := foldl_max l 0
  have e1 := b m (List.mem_cons_of_mem _ h1)
  rcases List.mem_cons.mp a with e | e
  · rw [e] at e1 ⊢; omega
  · have := h2 _ e; omega
theorem foldl_max_perm {a b : List Int} (h : a.Perm b) : a.foldl max 0 = b.foldl max 0 := by
  obtain ⟨a1, b1⟩ := foldl_max a 0
  obtain ⟨a2, b2⟩ := foldl_max b 0
  have hh : ∀ x, x ∈ (0 : Int) :: a ↔ x ∈ (0 : Int) :: b := fun x => (List.Perm.cons 0 h).mem_iff
  have e1 := b2 _ ((hh _).mp a1)
  have e2 := b1 _ ((hh _).mpr a2)
  omega
theorem back_perm {a b : List Raw} (h : a.Perm b) (rk : Int) : back a rk = back b rk := foldl_max_perm (backs_perm h rk)
theorem back_nn (ts : List Raw) (rk : Int) : 0 ≤ back ts rk := (foldl_max (backs ts rk) 0).2 0 (List.mem_cons_self ..)
theorem sum_perm {a b : List Int} (h : a.Perm b) : a.sum = b.sum := by
  induction h with
  | nil => rfl
  | cons x _ ih => rw [List.sum_cons, List.sum_cons, ih]
  | swap x y l => simp only [List.sum_cons]; omega
  | trans _ _ h1 h2 => exact h1.trans h2
theorem upN_mono {t : Raw} (h : RawOk t) {x y : Int} (hxy : x ≤ y) : upN t x ≤ upN t y := by
  unfold upN
  have h1 := h.gap1
  have h2 := h.mst1
  exact Int.mul_le_mul_of_nonneg_left (Int.ediv_le_ediv (by omega) (by omega)) (by omega)
theorem upN_nn {t : Raw} (h : RawOk t) {x : Int} (hx : 0 ≤ x) : 0 ≤ upN t x := by
  unfold upN
  have h1 := h.gap1
  have h2 := h.mst1
  have h3 := h.wt0
  exact Int.mul_nonneg (by omega) (Int.ediv_nonneg (by omega) (by omega))
theorem sum_mono {l : List Raw} {f g : Raw → Int} (h : ∀ t ∈ l, f t ≤ g t) : (l.map f).sum ≤ (l.map g).sum := by
  induction l with
  | nil => exact Int.le_refl _
  | cons t l ih =>
    simp only [List.map_cons, List.sum_cons]
    have := h t (List.mem_cons_self ..)
    have := ih fun x m => h x (List.mem_cons_of_mem _ m)
    omega
theorem sum_nn {l : List Int} (h : ∀ t ∈ l, 0 ≤ t) : 0 ≤ l.sum := by
  induction l with
  | nil => exact Int.le_refl _
  | cons t l ih =>
    simp only [List.sum_cons]
    have := h t (List.mem_cons_self ..)
    have := ih fun x m => h x (List.mem_cons_of_mem _ m)
    omega
theorem side_mono {ts : List Raw} {r : Raw} (h : ∀ t ∈ ts, RawOk t) {x y : Int} (hxy : x ≤ y) : side ts r x ≤ side ts r y := by
  unfold side
  have := sum_mono (l := ts.filter fun t => decide (t.rk < r.rk)) (f := fun t => upN t x) (g := fun t => upN t y) fun t m => upN_mono (h t (List.mem_filter.mp m).1) hxy
  omega
theorem side_pos {ts : List Raw} {r : Raw} (h : ∀ t ∈ ts, RawOk t) (hr : RawOk r) {x : Int} (hx : 0 ≤ x) : 1 ≤ side ts r x := by
  unfold side
  have h1 := back_nn ts r.rk
  have h2 := hr.mst1
  have h3 : 0 ≤ ((ts.filter fun t => decide (t.rk < r.rk)).map fun t => upN t x).sum := sum_nn fun v m => by
    obtain ⟨t, mt, rfl⟩ := List.mem_map.mp m
    exact upN_nn (h t (List.mem_filter.mp mt).1) hx
  omega
theorem side_perm {a b : List Raw} (h : a.Perm b) (r : Raw) (x : Int) : side a r x = side b r x := by
  unfold side
  rw [back_perm h, sum_perm ((h.filter _).map _)]
/-! ### what holds back -/
def hold (cs : List Raw) (rk : Int) (qs : List Raw) : List (Raw × Sec) := (qs.filter fun t => decide (rk < t.rk)).flatMap fun t => (t.secs.filter fun s => decide (ceil cs s.k ≤ rk)).map fun s => (t, s)
theorem hold_backs (cs : List Raw) (rk : Int) : ((hold cs rk cs).map fun p => p.2.l - 1) = backs cs rk := by
  unfold hold backs
  rw [List.map_flatMap]
  congr 1
  funext t
  rw [List.map_map]
  rfl
theorem hold_len {cs qs : List Raw} {rk : Int} (h : ∀ t ∈ qs, t.secs.length ≤ 8) : (hold cs rk qs).length ≤ 8 * qs.length := by
  induction qs with
  | nil => exact Nat.le_refl _
  | cons t qs ih =>
    have h1 := ih fun x m => h x (List.mem_cons_of_mem _ m)
    have h2 := h t (List.mem_cons_self ..)
    unfold hold at h1 ⊢
    rw [List.filter_cons]
    have h3 : (t.secs.filter fun s => decide (ceil cs s.k ≤ rk)).length ≤ t.secs.length := List.length_filter_le ..
    split
    · rw [List.flatMap_cons, List.length_append, List.length_map, List.length_cons]; omega
    · rw [List.length_cons]; omega
theorem hold_snoc {cs qs : List Raw} {rk : Int} {t : Raw} : hold cs rk (qs ++ [t]) = hold cs rk qs ++ (if rk < t.rk then (t.secs.filter fun s => decide (ceil cs s.k ≤ rk)).map fun s => (t, s) else []) := by
  unfold hold
  rw [List.filter_append, List.flatMap_append]
  congr 1
  by_cases h : rk < t.rk
  · rw [if_pos h, List.filter_cons, if_pos (decide_eq_true h)]
    simp
  · rw [if_neg h, List.filter_cons, if_neg (ne_d h)]
    simp
def dPair (p : Raw × Sec) : DL.D := .tup [dTask p.1, dSec p.2]
end LawW

set_option Elab.async false
set_option linter.all false
set_option maxRecDepth 100000
namespace LawW
open PySem L2 DL
theorem p64 {x : Int} (h0 : 0 ≤ x) (h : x < LIM) : -(2 ^ 64 : Int) < x ∧ x < 2 ^ 64 := by
  unfold LIM at h
  have e : (2 : Int) ^ 64 = 18446744073709551616 := by decide
  rw [e]
  omega
end LawW

set_option Elab.async false
set_option linter.all false
set_option maxRecDepth 100000
namespace LawW
open PySem L2 DL
theorem dget_none' : ∀ {ks : List Key} {ds : List DL.D} {j : Key}, j ∉ ks → dget ks ds j = none
  | [], ds, j, _ => by unfold dget; simp
  | k :: ks, [], j, _ => by unfold dget; simp
  | k :: ks, d :: ds, j, h => by
    have h1 : ¬ k = j := fun e => h (by rw [e]; exact List.mem_cons_self ..)
    unfold dget
    rw [List.zip_cons_cons, List.find?_cons, show decide (k = j) = false from decide_eq_false h1]
    exact dget_none' fun m => h (List.mem_cons_of_mem _ m)
theorem dput_new : ∀ {ks : List Key} {ds : List DL.D} {j : Key} {x : DL.D}, j ∉ ks → ks.length = ds.length → dput ks ds j x = (ks ++ [j], ds ++ [x])
  | [], [], j, x, _, _ => by unfold dput; rfl
  | [], d :: ds, j, x, _, e => by cases e
  | k :: ks, [], j, x, _, e => by cases e
  | k :: ks, d :: ds, j, x, h, e => by
    have h1 : ¬ k = j := fun e => h (by rw [e]; exact List.mem_cons_self ..)
    unfold dput
    rw [if_neg h1, dput_new (fun m => h (List.mem_cons_of_mem _ m)) (by simpa using e)]
    rfl
theorem dget_snoc {ks : List Key} {ds : List DL.D} {j k : Key} {x : DL.D} (e : ks.length = ds.length) (h : dget ks ds j = none) : dget (ks ++ [j]) (ds ++ [x]) k = if j = k then some x else dget ks ds k := by
  unfold dget at h ⊢
  rw [List.zip_append e, List.find?_append]
  cases q : (ks.zip ds).find? (fun p => decide (p.1 = k)) with
  | some p =>
    have hk : j ≠ k := fun z => by
      subst z
      rw [q] at h
      cases h
    rw [if_neg hk]
    rfl
  | none =>
    by_cases hk : j = k
    · rw [if_pos hk]
      subst hk
      simp
    · rw [if_neg hk]
      simp [hk]
theorem dget_rk : ∀ {ts : List Raw} {r : Raw}, (ts.map (·.rk)).Nodup → r ∈ ts → dget (ts.map fun t => (.inl t.rk : Key)) (ts.map dTask) (.inl r.rk) = some (dTask r)
  | t :: ts, r, nd, h => by
    unfold dget
    rw [List.map_cons, List.map_cons, List.zip_cons_cons, List.find?_cons]
    rcases List.mem_cons.mp h with rfl | h
    · rw [show decide ((Sum.inl r.rk : Key) = .inl r.rk) = true from decide_eq_true rfl]
      rfl
    · rw [List.map_cons, List.nodup_cons] at nd
      have hne : ¬ (Sum.inl t.rk : Key) = .inl r.rk := fun e => nd.1 (by rw [Sum.inl.inj e]; exact List.mem_map.mpr ⟨r, h, rfl⟩)
      rw [show decide ((Sum.inl t.rk : Key) = .inl r.rk) = false from decide_eq_false hne]
      exact dget_rk nd.2 h
theorem perm_lift {α β : Type} {f : α → β} {l ms : List β} (h : l.Perm ms) : ∀ {ts : List α}, ts.map f = l → ∃ ps : List α, ps.Perm ts ∧ ps.map f = ms := by
  induction h with
  | nil => exact fun {ts} e => ⟨ts, .refl _, e⟩
  | cons x _ ih =>
    intro ts e
    cases ts with
    | nil => cases e
    | cons t ts =>
      rw [List.map_cons, List.cons.injEq] at e
      obtain ⟨ps, h1, h2⟩ := ih e.2
      exact ⟨t :: ps, h1.cons t, by rw [List.map_cons, e.1, h2]⟩
  | swap x y l =>
    intro ts e
    match ts, e with
    | a :: b :: ts, e =>
      simp only [List.map_cons, List.cons.injEq] at e
      exact ⟨b :: a :: ts, .swap a b ts, by simp only [List.map_cons, e.1, e.2.1, e.2.2]⟩
  | trans _ _ h1 h2 =>
    intro ts e
    obtain ⟨ps, a1, a2⟩ := h1 e
    obtain ⟨qs, b1, b2⟩ := h2 a2
    exact ⟨qs, b1.trans a1, b2⟩
def locksOf (t : Raw) : List (Int × Str) := t.secs.map fun s => (t.rk, s.k)
theorem minL_first {a : Int} {l : List Int} (h : ∀ y ∈ l, a ≤ y) : minL (a :: l) = a := by
  obtain ⟨h1, h2⟩ := minL_spec (l := a :: l) (by simp)
  have := h2 a (List.mem_cons_self ..)
  rcases List.mem_cons.mp h1 with e | m
  · exact e
  · have := h _ m; omega
theorem find_locks {t : Raw} {k : Str} : (locksOf t).find? (fun p => decide (p.2 = k)) = if t.secs.any (fun s => decide (s.k = k)) then some (t.rk, k) else none := by
  unfold locksOf
  induction t.secs with
  | nil => rfl
  | cons s ss ih =>
    rw [List.map_cons, List.find?_cons, List.any_cons]
    by_cases h : s.k = k
    · rw [show decide ((t.rk, s.k).2 = k) = true from decide_eq_true h]
      subst h
      rfl
    · rw [show decide ((t.rk, s.k).2 = k) = false from decide_eq_false h, Bool.false_or]
      exact ih
theorem first_ceil {k : Str} : ∀ {ps : List Raw}, (ps.Pairwise fun a b => a.rk < b.rk) → (∃ t ∈ ps, ∃ s ∈ t.secs, s.k = k) → (ps.flatMap locksOf).find? (fun p => decide (p.2 = k)) = some (ceil ps k, k)
  | [], _, h => by obtain ⟨t, m, _⟩ := h; cases m
  | t :: ps, hp, h => by
    rw [List.flatMap_cons, List.find?_append, find_locks]
    have hp' := List.pairwise_cons.mp hp
    by_cases e : t.secs.any (fun s => decide (s.k = k)) = true
    · rw [if_pos e]
      have : ceil (t :: ps) k = t.rk := by
        unfold ceil
        rw [List.filter_cons, if_pos e, List.map_cons]
        exact minL_first fun y m => by
          obtain ⟨x, mx, rfl⟩ := List.mem_map.mp m
          exact Int.le_of_lt (hp'.1 x (List.mem_filter.mp mx).1)
      rw [this]
      rfl
    · rw [if_neg e]
      have : ceil (t :: ps) k = ceil ps k := by
        unfold ceil
        rw [List.filter_cons, if_neg e]
      rw [this, Option.none_or]
      refine first_ceil hp'.2 ?_
      obtain ⟨x, mx, s, ms, hs⟩ := h
      rcases List.mem_cons.mp mx with rfl | mx
      · exact absurd (List.any_eq_true.mpr ⟨s, ms, decide_eq_true hs⟩) e
      · exact ⟨x, mx, s, ms, hs⟩
/-- what the ceilings' dict holds so far -/
def KsOk (ks : List Key) (done : List (Int × Str)) : Prop := ∃ ls : List Str, ks = ls.map .inr ∧ ls.Nodup ∧ ∀ k, k ∈ ls ↔ k ∈ done.map (·.2)
def CeilI (M : Mem) (p2 : Addr) (done : List (Int × Str)) : Prop := ∃ ks ds, M p2 = some (.co (.K ks ds)) ∧ ks.length = ds.length ∧ ds.length ≤ done.length ∧ KsOk ks done ∧ ∀ k : Str, dget ks ds (.inr k) = (done.find? fun p => decide (p.2 = k)).map fun p => .int p.1
theorem ceilI_step {done : List (Int × Str)} {rk : Int} {k : Str} {ks : List Key} {ds : List DL.D} (hl : ks.length = ds.length) (hd : ds.length ≤ done.length) (hL : KsOk ks done) (h : ∀ k : Str, dget ks ds (.inr k) = (done.find? fun p => decide (p.2 = k)).map fun p => .int p.1) (K : DL.D → CO → Prop)
    (hk : ∀ z ks' ds', ks'.length = ds'.length → ds'.length ≤ (done ++ [(rk, k)]).length → KsOk ks' (done ++ [(rk, k)]) → (∀ j : Str, dget ks' ds' (.inr j) = ((done ++ [(rk, k)]).find? fun p => decide (p.2 = j)).map fun p => .int p.1) → K z (.K ks' ds')) (hz : ds.length < sizeLine) : pmP .setdefault (.K ks ds) [.str k, .int rk] K := by
  refine ⟨.inr k, rfl, hz, ?_⟩
  have h0 := h k
  cases e : dget ks ds (.inr k) with
  | some x =>
    have kin : k ∈ done.map (·.2) := by
      cases q : done.find? (fun p => decide (p.2 = k)) with
      | none => rw [e, q] at h0; cases h0
      | some p => exact List.mem_map.mpr ⟨p, List.mem_of_find?_eq_some q, by have := List.find?_some q; simpa using this⟩
    refine hk x ks ds hl (by rw [List.length_append]; omega) ?_ fun j => ?_
    · obtain ⟨ls, e1, e2, e3⟩ := hL
      refine ⟨ls, e1, e2, fun j => ?_⟩
      rw [e3, List.map_append, List.mem_append]
      constructor
      · exact .inl
      · rintro (m | m)
        · exact m
        · obtain rfl : j = k := by simpa using m
          exact kin
    rw [h j, List.find?_append]
    cases q : done.find? (fun p => decide (p.2 = j)) with
    | some p => rfl
    | none =>
      have hj : ¬ k = j := fun z => by
        subst z
        rw [e, q] at h0
        cases h0
      simp [hj]
  | none =>
    have kin : k ∉ done.map (·.2) := fun m => by
      obtain ⟨p, mp, ep⟩ := List.mem_map.mp m
      rw [e] at h0
      cases q : done.find? (fun p => decide (p.2 = k)) with
      | none => exact absurd (decide_eq_true ep) (List.find?_eq_none.mp q p mp)
      | some p => rw [q] at h0; cases h0
    refine hk (.int rk) (ks ++ [.inr k]) (ds ++ [.int rk]) (by simp [hl]) (by simp only [List.length_append, List.length_singleton]; omega) ?_ fun j => ?_
    · obtain ⟨ls, e1, e2, e3⟩ := hL
      refine ⟨ls ++ [k], by rw [e1, List.map_append]; rfl, ?_, fun j => ?_⟩
      · rw [List.nodup_append]
        refine ⟨e2, List.nodup_cons.mpr ⟨by simp, List.nodup_nil⟩, fun a ma b mb => ?_⟩
        obtain rfl : b = k := by simpa using mb
        exact fun z => kin ((e3 _).mp (z ▸ ma))
      · rw [List.map_append, List.mem_append, List.mem_append, e3]
        exact Iff.rfl
    rw [dget_snoc hl e, List.find?_append, h j]
    rw [e] at h0
    by_cases hj : k = j
    · subst hj
      rw [if_pos rfl]
      cases q : done.find? (fun p => decide (p.2 = k)) with
      | some p => rw [q] at h0; cases h0
      | none => simp
    · rw [if_neg fun z => hj (Sum.inr.inj z)]
      cases q : done.find? (fun p => decide (p.2 = j)) with
      | some p => rfl
      | none => simp [hj]
end LawW

set_option Elab.async false
set_option linter.all false
set_option maxRecDepth 100000
namespace LawW
open PySem L2 DL
theorem locks_len {ps : List Raw} (h : ∀ t ∈ ps, t.secs.length ≤ 8) : (ps.flatMap locksOf).length ≤ 8 * ps.length := by
  induction ps with
  | nil => exact Nat.le_refl _
  | cons t ps ih =>
    have h1 := ih fun x m => h x (List.mem_cons_of_mem _ m)
    have h2 := h t (List.mem_cons_self ..)
    rw [List.flatMap_cons, List.length_append, List.length_cons]
    unfold locksOf at h1 ⊢
    rw [List.length_map]
    omega
theorem putAt_add {cfs : Nat → List Nat} {M : Mem} {a : Addr} {f c : Nat} {fs : List DL.D} {x : DL.D} {P : Mem → Prop} (h : M a = some (.obj c fs)) (hf : posOf (cfs c) f = some fs.length) (q : P (updM M a (.obj c (fs ++ [x])))) : DL.putAt cfs M a f x P := putAt_new h hf q
theorem fit_plan_init : Fits tab 8 T_Plan___init__ spPlanInit := by
  rintro ds M Q ⟨a, ts, dd, rfl, hit, hst, hM, nd1, nd2, few, ok, q⟩
  conv => whnf
  refine ⟨_, rfl, fun p1 hp1 => ?_⟩
  have n1 : p1 ≠ a := fun e => by rw [e, hM] at hp1; cases hp1
  conv => whnf
  refine ⟨_, rfl, ?_⟩
  refine putAt_new (by rw [updM_ne n1.symm]; exact hM) rfl ?_
  conv => whnf
  refine ⟨_, rfl, ?_⟩
  conv => whnf
  refine ⟨_, hit, hst, fun _ => ?_⟩
  refine forL_inv (fun j ρ M' => (∃ v3 v4 v5 v6 v7 : LV, ρ = [.val (.loc a), .val dd, .own (.K ((ts.take j).map fun t => .inl t.rk) ((ts.take j).map dTask)), v3, v4, v5, v6, v7]) ∧ M' a = some (.obj 0 [.loc p1]) ∧ M' p1 = some (.co (.K ((ts.take j).map fun t => .inr t.nm) ((ts.take j).map dTask))) ∧ ∀ b, b ≠ a → b ≠ p1 → M' b = M b)
    ⟨⟨_, _, _, _, _, rfl⟩, updM_same, by rw [updM_ne n1]; exact updM_same, fun b h1 h2 => by rw [updM_ne h1, updM_ne h2]⟩ ?_ ?_
  · rintro j d ρ M' K hd ⟨⟨v3, v4, v5, v6, v7, rfl⟩, m1, m2, m3⟩ k1 k2 k3 k4
    rw [List.getElem?_map] at hd
    cases ht : ts[j]? with
    | none => rw [ht] at hd; cases hd
    | some t =>
      rw [ht] at hd
      obtain rfl : dTask t = d := Option.some.inj hd
      have etk : ts.take (j + 1) = ts.take j ++ [t] := by rw [List.take_add_one, ht]; rfl
      have hj : j < ts.length := (List.getElem?_eq_some_iff.mp ht).1
      have notin : ∀ {β : Type} (f : Raw → β), (ts.map f).Nodup → f t ∉ (ts.take j).map f := fun f nd m => by
        have e : ts.map f = (ts.take (j + 1)).map f ++ (ts.drop (j + 1)).map f := by rw [← List.map_append, List.take_append_drop]
        rw [e, etk, List.map_append, List.nodup_append, List.nodup_append] at nd
        exact nd.1.2.2 _ m _ (List.mem_singleton.mpr rfl) rfl
      have k1n : (Sum.inr t.nm : Key) ∉ (ts.take j).map fun t => (.inr t.nm : Key) := fun m => by
        obtain ⟨x, mx, e⟩ := List.mem_map.mp m
        exact notin (·.nm) nd1 (List.mem_map.mpr ⟨x, mx, Sum.inr.inj e⟩)
      have k2n : (Sum.inl t.rk : Key) ∉ (ts.take j).map fun t => (.inl t.rk : Key) := fun m => by
        obtain ⟨x, mx, e⟩ := List.mem_map.mp m
        exact notin (·.rk) nd2 (List.mem_map.mpr ⟨x, mx, Sum.inl.inj e⟩)
      have sz : (ts.take j).length ≤ 64 := by rw [List.length_take]; omega
      conv => whnf
      refine ⟨0, _, rfl, rfl, ?_⟩
      conv => whnf
      rw [m1]
      refine ⟨0, _, rfl, rfl, ?_⟩
      conv => whnf
      rw [view_co m2]
      conv => whnf
      refine ⟨_, rfl, ?_⟩
      rw [dget_none' k1n]
      conv => whnf
      refine ⟨_, rfl, ?_⟩
      conv => whnf
      refine ⟨1, _, rfl, rfl, ?_⟩
      conv => whnf
      refine ⟨_, rfl, _, rfl, ?_⟩
      rw [dget_none' k2n]
      conv => whnf
      refine ⟨_, rfl, ?_⟩
      conv => whnf
      rw [m1]
      refine ⟨0, _, rfl, rfl, ?_⟩
      conv => whnf
      refine ⟨0, _, rfl, rfl, ?_⟩
      conv => whnf
      refine ⟨p1, _, rfl, m2, _, rfl, by rw [List.length_map, sizeLine_eq]; omega, ?_⟩
      rw [dput_new k1n (by simp)]
      conv => whnf
      refine ⟨⟨_, rfl⟩, ?_⟩
      conv => whnf
      refine ⟨1, _, rfl, rfl, ?_⟩
      conv => whnf
      refine ⟨_, rfl, _, rfl, by rw [List.length_map, sizeLine_eq]; omega, ?_⟩
      rw [dput_new k2n (by simp)]
      refine k1 _ _ ⟨⟨.val (dTask t), v4, v5, v6, v7, ?_⟩, ?_, ?_, fun b h1 h2 => ?_⟩
      · rw [etk, List.map_append, List.map_append]
        rfl
      · rw [updM_ne n1.symm]; exact m1
      · rw [updM_same, etk, List.map_append, List.map_append]
        rfl
      · rw [updM_ne h2]; exact m3 b h1 h2
  rintro ρ M1 ⟨⟨v3, v4, v5, v6, v7, rfl⟩, m1, m2, m3⟩
  rw [List.length_map, List.take_length] at *
  conv => whnf
  refine ⟨_, _, _, ts.map (·.rk), rfl, rfl, by rw [List.map_map]; rfl, by rw [List.length_map]; exact few, fun ms hms hsorted => ?_⟩
  obtain ⟨ps, hp, rfl⟩ := perm_lift hms.symm rfl
  have sorted : ps.Pairwise fun a b => a.rk < b.rk := by
    have h1 : (ps.map (·.rk)).Nodup := hms.nodup_iff.mpr nd2
    rw [List.pairwise_map] at hsorted
    rw [List.nodup_iff_pairwise_ne, List.pairwise_map] at h1
    exact (hsorted.and h1).imp fun ⟨h1, h2⟩ => by omega
  have lp : ps.length < 64 := by rw [hp.length_eq]; exact few
  conv => whnf
  refine ⟨_, rfl, trivial, fun _ => ?_⟩
  rw [List.map_map]
  refine compL_if (fun t : Raw => DL.D.int t.rk) (fun _ => true) dTask (fun t mt K k => ?_) ?_
  · conv => whnf
    refine ⟨rfl, ?_⟩
    conv => whnf
    refine ⟨_, _, rfl, dget_rk nd2 (hp.mem_iff.mp mt), ?_⟩
    exact ⟨rfl, k⟩
  have ef : (ps.filter fun _ => true) = ps := List.filter_eq_self.mpr fun _ _ => rfl
  rw [ef, List.nil_append]
  conv => whnf
  refine ⟨_, _, rfl, rfl, ?_⟩
  conv => whnf
  refine ⟨_, rfl, ?_⟩
  refine putAt_new m1 rfl ?_
  conv => whnf
  refine ⟨_, rfl, fun p2 hp2 => ?_⟩
  have n2 : p2 ≠ a := fun e => by rw [e, updM_same] at hp2; cases hp2
  have n3 : p2 ≠ p1 := fun e => by rw [e, updM_ne n1, m2] at hp2; cases hp2
  conv => whnf
  refine ⟨_, rfl, ?_⟩
  refine putAt_new (by rw [updM_ne n2.symm]; exact updM_same) rfl ?_
  have okp : ∀ t ∈ ps, RawOk t := fun t m => ok t (hp.mem_iff.mp m)
  have lk : ∀ j, ((ps.take j).flatMap locksOf).length ≤ 520 := fun j => by
    have z1 := locks_len (ps := ps.take j) fun t m => (okp t (List.mem_of_mem_take m)).few
    rw [List.length_take] at z1
    omega
  generalize hM3 : updM (updM (updM M1 a (.obj 0 ([.loc p1] ++ [.tup (ps.map dTask)]))) p2 (.co (.K [] []))) a (.obj 0 ([.loc p1] ++ [.tup (ps.map dTask)] ++ [.loc p2])) = M3
  have f1 : M3 a = some (.obj 0 [.loc p1, .tup (ps.map dTask), .loc p2]) := by rw [← hM3, updM_same]; rfl
  have f2 : M3 p1 = some (.co (.K (ts.map fun t => .inr t.nm) (ts.map dTask))) := by rw [← hM3, updM_ne n1, updM_ne n3.symm, updM_ne n1]; exact m2
  have f3 : M3 p2 = some (.co (.K [] [])) := by rw [← hM3, updM_ne n2, updM_same]
  have f4 : ∀ b, b ≠ a → b ≠ p1 → b ≠ p2 → M3 b = M b := fun b hb hb1 hb2 => by
    rw [← hM3, updM_ne hb, updM_ne hb2, updM_ne hb]
    exact m3 b hb hb1
  have f5 : M p2 = none := by
    have e1 : M1 p2 = none := by rw [updM_ne n2] at hp2; exact hp2
    rw [← m3 p2 n2 n3]
    exact e1
  conv => whnf
  rw [f1]
  refine ⟨1, _, rfl, rfl, ?_⟩
  conv => whnf
  refine ⟨_, rfl, trivial, fun _ => ?_⟩
  have I0 : CeilI M3 p2 ((ps.take 0).flatMap locksOf) := ⟨[], [], f3, rfl, Nat.zero_le _, ⟨[], rfl, List.nodup_nil, fun k => by simp⟩, fun k => by unfold dget; rfl⟩
  refine forL_inv (fun j ρ M' => (∃ v3 v4 v5 v6 v7 : LV, ρ = [.val (.loc a), .val dd, .val (.dct (ts.map fun t => .inl t.rk) (ts.map dTask)), v3, v4, v5, v6, v7]) ∧ CeilI M' p2 ((ps.take j).flatMap locksOf) ∧ ∀ b, b ≠ p2 → M' b = M3 b)
    ⟨⟨_, _, _, _, _, rfl⟩, I0, fun _ _ => rfl⟩ ?_ ?_
  · rintro j d ρ M' K hd ⟨⟨v3, v4, v5, v6, v7, rfl⟩, C, fr⟩ k1 k2 k3 k4
    rw [List.getElem?_map] at hd
    cases ht : ps[j]? with
    | none => rw [ht] at hd; cases hd
    | some t =>
      rw [ht] at hd
      obtain rfl : dTask t = d := Option.some.inj hd
      have etk : ps.take (j + 1) = ps.take j ++ [t] := by rw [List.take_add_one, ht]; rfl
      have mt : t ∈ ps := List.mem_of_getElem? ht
      conv => whnf
      refine ⟨6, _, rfl, rfl, ?_⟩
      conv => whnf
      refine ⟨_, rfl, trivial, fun _ => ?_⟩
      have e0 : (ps.take j).flatMap locksOf = (ps.take j).flatMap locksOf ++ (locksOf t).take 0 := by simp
      rw [e0] at C
      refine forL_inv (fun i ρ M' => (∃ v4 v5 v6 v7 : LV, ρ = [.val (.loc a), .val dd, .val (.dct (ts.map fun t => .inl t.rk) (ts.map dTask)), .val (dTask t), v4, v5, v6, v7]) ∧ CeilI M' p2 ((ps.take j).flatMap locksOf ++ (locksOf t).take i) ∧ ∀ b, b ≠ p2 → M' b = M3 b)
        ⟨⟨_, _, _, _, rfl⟩, C, fr⟩ ?_ ?_
      · rintro i d ρ M' K' hd ⟨⟨v4, v5, v6, v7, rfl⟩, C, fr⟩ l1 l2 l3 l4
        rw [List.getElem?_map] at hd
        cases hs : t.secs[i]? with
        | none => rw [hs] at hd; cases hd
        | some s =>
          rw [hs] at hd
          obtain rfl : dSec s = d := Option.some.inj hd
          obtain ⟨ks, es, c1, c2, c3, c5, c4⟩ := C
          have els : (locksOf t).take (i + 1) = (locksOf t).take i ++ [(t.rk, s.k)] := by
            unfold locksOf
            rw [List.take_add_one, List.getElem?_map, hs]
            rfl
          have g1 : M' a = some (.obj 0 [.loc p1, .tup (ps.map dTask), .loc p2]) := by rw [fr a n2.symm]; exact f1
          have z1 := lk j
          have z2 : ((locksOf t).take i).length ≤ 8 := by
            have := (okp t mt).few
            unfold locksOf
            rw [List.length_take, List.length_map]
            omega
          have zz : es.length ≤ 528 := by rw [List.length_append] at c3; omega
          conv => whnf
          refine ⟨rfl, ?_⟩
          conv => whnf
          rw [g1]
          refine ⟨2, _, rfl, rfl, ?_⟩
          conv => whnf
          refine ⟨p2, rfl, ⟨_, c1, trivial⟩, ?_⟩
          conv => whnf
          refine ⟨1, _, rfl, rfl, ?_⟩
          conv => whnf
          refine ⟨_, c1, ?_⟩
          refine ceilI_step c2 c3 c5 c4 _ (fun z ks' ds' h1 h2 h5 h3 => ?_) (by rw [sizeLine_eq]; omega)
          refine l1 _ _ ⟨⟨_, _, _, _, rfl⟩, ?_, fun b hb => ?_⟩
          · rw [els, ← List.append_assoc]
            exact ⟨ks', ds', updM_same, h1, h2, h5, h3⟩
          · rw [updM_ne hb]; exact fr b hb
      · rintro ρ M' ⟨⟨v4, v5, v6, v7, rfl⟩, C, fr⟩
        refine k1 _ _ ⟨⟨_, _, _, _, _, rfl⟩, ?_, fr⟩
        have e1 : (locksOf t).take (t.secs.map dSec).length = locksOf t := List.take_of_length_le (by unfold locksOf; rw [List.length_map, List.length_map]; exact Nat.le_refl _)
        rw [e1] at C
        rw [etk, List.flatMap_append]
        simpa using C
  · rintro ρ M' ⟨⟨v3, v4, v5, v6, v7, rfl⟩, C, fr⟩
    rw [List.length_map, List.take_length] at C
    obtain ⟨ks, es, c1, c2, c3, c5, c4⟩ := C
    refine q p1 p2 ps ks es M' (by rw [fr a n2.symm]; exact f1) (by rw [fr p1 n3.symm]; exact f2) c1 (fun b hb hb1 hb2 => by rw [fr b hb2]; exact f4 b hb hb1 hb2) n1 n2 hp1 f5 ⟨⟨fun k hk => ?_, ?_⟩, hp, sorted, nd1, few, ok⟩
    · rw [c4 k, first_ceil sorted hk]
      rfl
    · obtain ⟨ls, e1, e2, e3⟩ := c5
      refine ⟨ls, e1, e2, by rw [← c2, e1, List.length_map], fun k => ?_⟩
      rw [e3, List.mem_map]
      constructor
      · rintro ⟨p, mp, rfl⟩
        obtain ⟨t, mt, m⟩ := List.mem_flatMap.mp mp
        unfold locksOf at m
        obtain ⟨s, ms, rfl⟩ := List.mem_map.mp m
        exact ⟨t, mt, s, ms, rfl⟩
      · rintro ⟨t, mt, s, ms, rfl⟩
        exact ⟨(t.rk, s.k), List.mem_flatMap.mpr ⟨t, mt, List.mem_map.mpr ⟨s, ms, rfl⟩⟩, rfl⟩
end LawW

set_option Elab.async false
set_option linter.all false
set_option maxRecDepth 100000
namespace LawW
open PySem L2 DL
theorem TasksOf.snoc {rs ts : List Raw} {r t : Raw} (h : TasksOf rs ts) (h2 : TaskOf r t) : TasksOf (rs ++ [r]) (ts ++ [t]) := by
  induction h with
  | nil => exact .cons h2 .nil
  | cons a _ ih => exact .cons a ih
theorem TasksOf.maps {rs ts : List Raw} (h : TasksOf rs ts) : ts.map (·.nm) = rs.map (·.nm) ∧ ts.map (·.rk) = rs.map (·.rk) ∧ ts.length = rs.length := by
  induction h with
  | nil => exact ⟨rfl, rfl, rfl⟩
  | cons a _ ih =>
    obtain ⟨ss, _, rfl⟩ := a
    exact ⟨by rw [List.map_cons, List.map_cons, ih.1], by rw [List.map_cons, List.map_cons, ih.2.1], by rw [List.length_cons, List.length_cons, ih.2.2]⟩
theorem TaskOf.ok {r t : Raw} (h : TaskOf r t) (ok : RawOk r) : RawOk t := by
  obtain ⟨ss, hp, rfl⟩ := h
  exact ⟨ok.nm, ok.rk1, ok.rkL, ok.gap1, ok.gapL, ok.mst1, ok.mstL, ok.due1, ok.dueG, ok.wt0, ok.wtL, fun x m => ok.secs x (hp.mem_iff.mp m), (hp.pairwise_iff fun h => h.symm).mpr ok.tog, by show ss.length ≤ 8; rw [hp.length_eq]; exact ok.few⟩
theorem TasksOf.ok {rs ts : List Raw} (h : TasksOf rs ts) (ok : ∀ r ∈ rs, RawOk r) : ∀ t ∈ ts, RawOk t := by
  induction h with
  | nil => intro t m; cases m
  | cons a _ ih =>
    intro t m
    rcases List.mem_cons.mp m with rfl | m
    · exact a.ok (ok _ (List.mem_cons_self ..))
    · exact ih (fun r m => ok r (List.mem_cons_of_mem _ m)) t m
theorem filter_nm {rs : List Raw} {r : Raw} (nd : (rs.map (·.nm)).Nodup) (hr : r ∈ rs) : (rs.filter fun t => decide (t.nm = r.nm)) = [r] := by
  induction rs with
  | nil => cases hr
  | cons t rs ih =>
    have nd' := nd
    rw [List.map_cons, List.nodup_cons] at nd
    rw [List.filter_cons]
    rcases List.mem_cons.mp hr with e | hr
    · subst e
      rw [if_pos (decide_eq_true rfl)]
      have : (rs.filter fun t => decide (t.nm = r.nm)) = [] := List.filter_eq_nil_iff.mpr fun x m e => nd.1 (List.mem_map.mpr ⟨x, m, of_decide_eq_true e⟩)
      rw [this]
    · have hne : ¬ t.nm = r.nm := fun e => nd.1 (List.mem_map.mpr ⟨r, hr, e.symm⟩)
      rw [if_neg (ne_d hne)]
      exact ih nd.2 hr
theorem any_map {α : Type} {xs : List α} {f : α → DL.D} {p : DL.D → Bool} : (xs.map f).any p = xs.any fun x => p (f x) := by
  induction xs with
  | nil => rfl
  | cons x xs ih => rw [List.map_cons, List.any_cons, List.any_cons, ih]
end LawW

set_option Elab.async false
set_option linter.all false
set_option maxRecDepth 100000
namespace LawW
open PySem L2 DL
theorem foldl_max_cons (l : List Int) (m : Int) (h1 : m ∈ (0 : Int) :: l) (h2 : ∀ y ∈ (0 : Int) :: l, y ≤ m) : l.foldl max 0 = m := by
  obtain ⟨a, b⟩ := foldl_max l 0
  have e1 := b m h1
  have e2 := h2 _ a
  omega
theorem filter_snoc {α : Type} {p : α → Bool} {xs : List α} {t : α} : (xs ++ [t]).filter p = xs.filter p ++ (if p t then [t] else []) := by
  rw [List.filter_append, List.filter_cons, List.filter_nil]
end LawW

set_option Elab.async false
set_option linter.all false
set_option maxRecDepth 100000
namespace LawW
open PySem L2 DL
def pk : List Key := [.inr "cells", .inr "at", .inr "left"]
theorem n_cl : ¬ (("cells" : Str) = "left") := by decide +kernel
theorem n_ca : ¬ (("cells" : Str) = "at") := by decide +kernel
theorem n_al : ¬ (("at" : Str) = "left") := by decide +kernel
theorem gp_cells (x y z : DL.D) : dget pk [x, y, z] (.inr "cells") = some x := by
  unfold dget pk
  simp
theorem gp_at (x y z : DL.D) : dget pk [x, y, z] (.inr "at") = some y := by
  unfold dget pk
  simp [n_ca]
theorem gp_left (x y z : DL.D) : dget pk [x, y, z] (.inr "left") = some z := by
  unfold dget pk
  simp [n_cl, n_al]
theorem pp_at (x y z u : DL.D) : dput pk [x, y, z] (.inr "at") u = (pk, [x, u, z]) := by
  unfold pk
  simp only [dput, Sum.inr.injEq, n_ca, if_false, if_true]
theorem pp_left (x y z u : DL.D) : dput pk [x, y, z] (.inr "left") u = (pk, [x, y, u]) := by
  unfold pk
  simp only [dput, Sum.inr.injEq, n_cl, n_al, if_false, if_true]
theorem dats_ints : ∀ ns : List Int, dats (ns.map .int) = true
  | [] => by unfold dats; rfl
  | n :: ns => by rw [List.map_cons]; unfold dats; rw [dats_ints ns]; rfl
theorem deps_ints : ∀ ns : List Int, deps (ns.map .int) = 0
  | [] => by unfold deps; rfl
  | n :: ns => by rw [List.map_cons]; unfold deps; rw [deps_ints ns]; rfl
theorem eqOk_ints (xs ys : List Int) : eqOk (.lst (xs.map .int)) (.lst (ys.map .int)) = true := by
  have h : ∀ ns : List Int, dat (.lst (ns.map .int)) = true := fun ns => by unfold dat; exact dats_ints ns
  have h2 : ∀ ns : List Int, dep (.lst (ns.map .int)) = 1 := fun ns => by unfold dep; rw [deps_ints ns]
  show (dat (.lst (xs.map .int)) && dat (.lst (ys.map .int)) && decide (dep (.lst (xs.map .int)) ≤ 60) && decide (dep (.lst (ys.map .int)) ≤ 60)) = true
  rw [h, h, h2, h2]
  rfl
theorem cut_map {α β : Type} {f : α → β} {xs : List α} {lo hi : Option Int} : cutD (xs.map f) lo hi = (cutD xs lo hi).map f := by
  unfold cutD
  rw [List.length_map, List.map_take, List.map_drop]
theorem fit_pen : Fits tab 2 T__law_pen spPen := by
  rintro ds M Q ⟨ns, rfl, q⟩
  conv => whnf
  refine ⟨_, rfl, ?_⟩
  conv => whnf
  refine ⟨_, rfl, trivial, fun _ => ?_⟩
  rw [cut_map]
  refine compL_if DL.D.int (fun _ => true) DL.D.int (fun n _ K k => ?_) ?_
  · conv => whnf
    refine ⟨rfl, ?_⟩
    conv => whnf
    exact ⟨rfl, k⟩
  have ef : ((cutD ns none (some 63)).filter fun _ => true) = cutD ns none (some 63) := List.filter_eq_self.mpr fun _ _ => rfl
  rw [ef, List.nil_append]
  conv => whnf
  refine ⟨rfl, ⟨rfl, by decide +kernel, by decide⟩, ?_⟩
  conv => whnf
  refine ⟨_, rfl, fun p hp => ?_⟩
  exact q p _ hp (fun b hb => updM_ne hb) ⟨cutD ns none (some 63), 0, 0, updM_same, Int.le_refl _, Int.le_refl _, Int.le_refl _⟩
def P31 : Int := 4294967311
theorem fit_draw : Fits tab 7 T__law_draw spDraw := by
  rintro ds M Q ⟨a, n, c, rfl, hn, hn2, ⟨cs, i, l, hM, i0, ic, l0⟩, hc, q⟩
  have vM := view_co hM
  have fin : ∀ (r : Int) (M' : Mem) (i' l' : Int), 0 ≤ r → r < n → But a M M' → M' a = some (.co (.K pk [.lst (cs.map .int), .int i', .int l'])) → 0 ≤ i' → i' ≤ c + 1 → 0 ≤ l' → Q (.int r) M' := fun r M' i' l' h1 h2 h3 h4 h5 h6 h7 => q r M' h1 h2 h3 ⟨cs, i', l', h4, h5, h6, h7⟩
  have md : ∀ x : Int, 0 ≤ x % n ∧ x % n < n := fun x => ⟨Int.emod_nonneg _ (by omega), Int.emod_lt_of_pos _ hn⟩
  conv => whnf
  rw [vM]
  refine ⟨_, _, rfl, gp_left _ _ _, ?_⟩
  conv => whnf
  refine ⟨_, rfl, ?_⟩
  refine ic_ (fun h => ?_) fun h => ?_
  · conv => whnf
    rw [vM]
    refine ⟨_, _, rfl, gp_left _ _ _, ?_⟩
    conv => whnf
    refine ⟨hn, ?_⟩
    conv => whnf
    rw [vM]
    refine ⟨_, _, rfl, gp_left _ _ _, ?_⟩
    conv => whnf
    refine ⟨⟨hn, .inl hn2⟩, ?_⟩
    conv => whnf
    refine ⟨a, _, rfl, hM, _, rfl, by show 3 < sizeLine; rw [sizeLine_eq]; decide, ?_⟩
    rw [show dput [.inr "cells", .inr "at", .inr "left"] [.lst (cs.map .int), .int i, .int l] (.inr (Str.ofString "left")) (.int (l / n)) = (pk, [.lst (cs.map .int), .int i, .int (l / n)]) from pp_left _ _ _ _]
    conv => whnf
    exact fin _ _ i (l / n) (md l).1 (md l).2 (fun b hb => updM_ne hb) updM_same i0 (by omega) (Int.ediv_nonneg l0 (by omega))
  conv => whnf
  rw [vM]
  refine ⟨_, _, rfl, gp_at _ _ _, ?_⟩
  conv => whnf
  refine ⟨a, _, rfl, hM, _, rfl, by show 3 < sizeLine; rw [sizeLine_eq]; decide, ?_⟩
  rw [show dput [.inr "cells", .inr "at", .inr "left"] [.lst (cs.map .int), .int i, .int l] (.inr (Str.ofString "at")) (.int (i + 1)) = (pk, [.lst (cs.map .int), .int (i + 1), .int l]) from pp_at _ _ _ _]
  dsimp only
  generalize hM1 : updM M a (.co (.K pk [.lst (cs.map .int), .int (i + 1), .int l])) = M1
  have m1 : M1 a = some (.co (.K pk [.lst (cs.map .int), .int (i + 1), .int l])) := by rw [← hM1]; exact updM_same
  have but1 : But a M M1 := fun b hb => by rw [← hM1]; exact updM_ne hb
  have v1 := view_co m1
  have p64' : -(2 ^ 64 : Int) < i ∧ i < 2 ^ 64 := by
    have e : (2 : Int) ^ 64 = 18446744073709551616 := by decide
    rw [e]; omega
  conv => whnf
  refine ⟨.inl p64', ?_⟩
  conv => whnf
  rw [v1]
  refine ⟨_, _, rfl, gp_cells _ _ _, ?_⟩
  conv => whnf
  refine ⟨szL (by simp), ?_⟩
  -- pen['cells'] != []
  have step : ∀ cell : Int, wpS tab (.seq (.cond (.and (.cmp .lt (.var 2) (.bi .len (.cons (.idx (.var 0) (.str "cells")) .nil))) (.cmp .ge (.bi .abs (.cons (.var 3) .nil)) (.bin .pow (.int 10) (.int 18)))) (.seq (.setIx (.var 0) (.str "left") (.bin .fdiv (.bi .abs (.cons (.var 3) .nil)) (.var 1)))
  (.ret (.bin .mod (.bi .abs (.cons (.var 3) .nil)) (.var 1)))) .skip)
  (.seq (.set 4 (.bin .mod (.bin .mul (.bin .add (.bin .add (.bin .mod (.var 3) (.int 4294967311)) (.bin .mul (.int 65539) (.var 2))) (.int 17)) (.int 48271)) (.int 4294967311)))
  (.seq (.for (.tname 5) (.rng1 (.int 3))
  (.seq (.set 4 (.bin .add (.bin .add (.bin .add (.bin .mul (.var 4) (.var 4)) (.bin .mul (.int 69621) (.var 4))) (.var 2)) (.var 5)))
  (.set 4 (.bin .mod (.var 4) (.int 4294967311)))))
  (.ret (.bin .mod (.bin .fdiv (.var 4) (.int 32)) (.var 1)))))) [.val (.loc a), .val (.int n), .val (.int i), .val (.int cell), .no, .no, .no] M1 (enOf Q) := by
    intro cell
    have back : wpS tab (.seq (.set 4 (.bin .mod (.bin .mul (.bin .add (.bin .add (.bin .mod (.var 3) (.int 4294967311)) (.bin .mul (.int 65539) (.var 2))) (.int 17)) (.int 48271)) (.int 4294967311)))
  (.seq (.for (.tname 5) (.rng1 (.int 3))
  (.seq (.set 4 (.bin .add (.bin .add (.bin .add (.bin .mul (.var 4) (.var 4)) (.bin .mul (.int 69621) (.var 4))) (.var 2)) (.var 5)))
  (.set 4 (.bin .mod (.var 4) (.int 4294967311)))))
  (.ret (.bin .mod (.bin .fdiv (.var 4) (.int 32)) (.var 1))))) [.val (.loc a), .val (.int n), .val (.int i), .val (.int cell), .no, .no, .no] M1 (enOf Q) := by
      have q31 : ∀ x : Int, 0 ≤ x % 4294967311 ∧ x % 4294967311 < 4294967311 := fun x => ⟨Int.emod_nonneg _ (by omega), Int.emod_lt_of_pos _ (by omega)⟩
      have b64 : ∀ x : Int, 0 ≤ x → x < 4294967311 → -(2 ^ 64 : Int) < x ∧ x < 2 ^ 64 := fun x h1 h2 => by
        have e : (2 : Int) ^ 64 = 18446744073709551616 := by decide
        rw [e]; omega
      conv => whnf
      refine ⟨by decide, ?_⟩
      conv => whnf
      refine ⟨.inl (by decide), ?_⟩
      conv => whnf
      refine ⟨.inr (by decide), ?_⟩
      conv => whnf
      refine ⟨by decide, ?_⟩
      conv => whnf
      refine ⟨_, rfl, ⟨by decide, by decide⟩, ?_⟩
      refine forL_inv (fun j ρ M' => M' = M1 ∧ ∃ (x : Int) (v5 : LV), ρ = [.val (.loc a), .val (.int n), .val (.int i), .val (.int cell), .val (.int x), v5, .no] ∧ 0 ≤ x ∧ x < 4294967311) ⟨rfl, _, _, rfl, (q31 _).1, (q31 _).2⟩ ?_ ?_
      · rintro j d ρ M' K hd ⟨rfl, x, v5, rfl, x0, x1⟩ k1 k2 k3 k4
        obtain ⟨hj, rfl⟩ := rng_get hd
        conv => whnf
        refine ⟨.inl (b64 x x0 x1), ?_⟩
        conv => whnf
        refine ⟨.inl (by decide), ?_⟩
        conv => whnf
        refine ⟨by decide, ?_⟩
        conv => whnf
        exact k1 _ _ ⟨rfl, _, _, rfl, (q31 _).1, (q31 _).2⟩
      · rintro ρ M' ⟨rfl, x, v5, rfl, x0, x1⟩
        conv => whnf
        refine ⟨⟨by decide, .inl (by decide)⟩, ?_⟩
        conv => whnf
        refine ⟨hn, ?_⟩
        conv => whnf
        exact fin _ _ (i + 1) l (md _).1 (md _).2 but1 m1 (by omega) (by omega) l0
    conv => whnf
    rw [v1]
    refine ⟨_, _, rfl, gp_cells _ _ _, ?_⟩
    conv => whnf
    refine ⟨_, rfl, ?_⟩
    conv => whnf
    refine ⟨_, rfl, ?_⟩
    refine ic_ (fun h => ?_) fun h => ?_
    · conv => whnf
      refine ⟨_, rfl, ?_⟩
      conv => whnf
      refine ⟨⟨by decide, by decide, by decide⟩, ?_⟩
      conv => whnf
      refine ⟨_, rfl, ?_⟩
      refine ic_ (fun h => ?_) fun h => ?_
      · conv => whnf
        refine ⟨_, rfl, ?_⟩
        conv => whnf
        refine ⟨⟨hn, .inl hn2⟩, ?_⟩
        conv => whnf
        refine ⟨a, _, rfl, m1, _, rfl, by show 3 < sizeLine; rw [sizeLine_eq]; decide, ?_⟩
        rw [show dput pk [.lst (cs.map .int), .int (i + 1), .int l] (.inr (Str.ofString "left")) (.int ((if cell < 0 then -cell else cell) / n)) = (pk, [.lst (cs.map .int), .int (i + 1), .int ((if cell < 0 then -cell else cell) / n)]) from pp_left _ _ _ _]
        conv => whnf
        refine ⟨_, rfl, ?_⟩
        conv => whnf
        refine ⟨hn, ?_⟩
        have nn : 0 ≤ (if cell < 0 then -cell else cell) := by split <;> omega
        exact fin _ _ (i + 1) _ (md _).1 (md _).2 (fun b hb => by rw [updM_ne hb]; exact but1 b hb) updM_same (by omega) (by omega) (Int.ediv_nonneg nn (by omega))
      · exact back
    · conv => whnf
      exact ⟨_, rfl, back⟩
  have eo := eqOk_ints cs []
  conv => whnf
  refine ⟨eo, ?_⟩
  conv => whnf
  refine ⟨_, rfl, ?_⟩
  cases cs with
  | nil =>
    refine if_ (by simp only [List.map_nil, deq, deqs]; rfl) ?_
    exact step _
  | cons x xs =>
    refine it_ (by simp only [List.map_cons, List.map_nil, deq, deqs]; rfl) ?_
    conv => whnf
    rw [v1]
    refine ⟨_, _, rfl, gp_cells _ _ _, ?_⟩
    conv => whnf
    rw [v1]
    refine ⟨_, _, rfl, gp_cells _ _ _, ?_⟩
    conv => whnf
    refine ⟨_, rfl, ?_⟩
    have hl : (((x :: xs).map DL.D.int).length : Int) = (xs.length + 1 : Nat) := by rw [List.length_map, List.length_cons]
    conv => whnf
    refine ⟨by rw [hl]; omega, ?_⟩
    conv => whnf
    obtain ⟨j, hj, ej⟩ : ∃ j : Nat, j < xs.length + 1 ∧ i % (((x :: xs).map DL.D.int).length : Int) = (j : Int) := by
      have h1 : 0 ≤ i % ((xs.length + 1 : Nat) : Int) := Int.emod_nonneg _ (by omega)
      have h2 : i % ((xs.length + 1 : Nat) : Int) < ((xs.length + 1 : Nat) : Int) := Int.emod_lt_of_pos _ (by omega)
      rw [hl]
      exact ⟨(i % ((xs.length + 1 : Nat) : Int)).toNat, by omega, by omega⟩
    rw [ej]
    obtain ⟨y, hy⟩ : ∃ y, (x :: xs)[j]? = some y := ⟨_, List.getElem?_eq_getElem hj⟩
    refine ⟨.int y, atI_nat (by rw [List.getElem?_map, hy]; rfl), ?_⟩
    exact step y
end LawW

set_option Elab.async false
set_option linter.all false
set_option maxRecDepth 100000
namespace LawW
open PySem L2 DL
def alpha : Str := Str.ofString "abcdefghijklmnopqrstuvwxyz"
def sgn (c : Nat) : Str := ⟨#[c]⟩
theorem alpha_at {i : Int} (h0 : 0 ≤ i) (h1 : i < 26) : atI alpha.cps.toList i = some (97 + i.toNat) := by
  have e : i = (i.toNat : Int) := by omega
  have all : (List.range 26).all (fun j => alpha.cps.toList[j]? == some (97 + j)) = true := by decide +kernel
  have := List.all_eq_true.mp all i.toNat (List.mem_range.mpr (by omega))
  rw [e]
  rw [Int.toNat_natCast]
  exact atI_nat (beq_iff_eq.mp this)
theorem alpha_len : alpha.length ≤ sizeLine := szL (by decide +kernel)
def cl (s : Str) : List Nat := s.cps.toList
theorem cl_append (a b : Str) : cl (a ++ b) = cl a ++ cl b := by
  show (a.cps ++ b.cps).toList = _
  rw [Array.toList_append]
  rfl
theorem cl_inj {a b : Str} (h : cl a = cl b) : a = b := by
  cases a; cases b
  simp only [cl] at h
  rw [Array.toList_inj.mp h]
theorem cl_join (ys : List Str) : cl (Txt.join ⟨#[]⟩ ys) = (ys.map cl).flatten := by
  rw [TL.join_eq]
  induction ys with
  | nil => rfl
  | cons x r ih =>
    cases r with
    | nil => simp [Str.join]
    | cons z r =>
      show cl (x ++ ⟨#[]⟩ ++ Str.join ⟨#[]⟩ (z :: r)) = _
      rw [cl_append, cl_append, ih]
      simp [cl]
theorem empty_eq : Str.ofString "" = ⟨#[]⟩ := by decide +kernel
theorem PenM.mono {c c' : Int} {M : Mem} {a : Addr} (h : PenM c M a) (hc : c ≤ c') : PenM c' M a := by
  obtain ⟨cs, i, l, e, h1, h2, h3⟩ := h
  exact ⟨cs, i, l, e, h1, by omega, h3⟩
theorem But.trans {a : Addr} {M1 M2 M3 : Mem} (h : But a M1 M2) (h' : But a M2 M3) : But a M1 M3 := fun b hb => (h' b hb).trans (h b hb)
theorem But.refl (a : Addr) (M : Mem) : But a M M := fun _ _ => rfl
theorem six (r : Int) (h0 : 0 ≤ r) (h1 : r < 6) : ∃ b : Int, atI ([.int 3, .int 5, .int 7, .int 9, .int 11, .int 15] : List DL.D) r = some (.int b) ∧ (b = 3 ∨ b = 5 ∨ b = 7 ∨ b = 9 ∨ b = 11 ∨ b = 15) := by
  have : r = 0 ∨ r = 1 ∨ r = 2 ∨ r = 3 ∨ r = 4 ∨ r = 5 := by omega
  rcases this with rfl | rfl | rfl | rfl | rfl | rfl
  · exact ⟨3, rfl, by simp⟩
  · exact ⟨5, rfl, by simp⟩
  · exact ⟨7, rfl, by simp⟩
  · exact ⟨9, rfl, by simp⟩
  · exact ⟨11, rfl, by simp⟩
  · exact ⟨15, rfl, by simp⟩
theorem spread {f b k j : Int} (hb : b = 3 ∨ b = 5 ∨ b = 7 ∨ b = 9 ∨ b = 11 ∨ b = 15) (k0 : 0 ≤ k) (k1 : k < 26) (j0 : 0 ≤ j) (j1 : j < 26) (e : (f + b * k) % 26 = (f + b * j) % 26) : k = j := by
  rcases hb with rfl | rfl | rfl | rfl | rfl | rfl <;> omega
def letAt (f b : Int) (k : Nat) : Str := sgn (97 + ((f + b * (k : Int)) % 26).toNat)
theorem letAt_ok (f b : Int) (k : Nat) : ∀ c ∈ cl (letAt f b k), LetOk c := by
  intro c m
  have h1 : 0 ≤ (f + b * (k : Int)) % 26 := Int.emod_nonneg _ (by omega)
  have h2 : (f + b * (k : Int)) % 26 < 26 := Int.emod_lt_of_pos _ (by omega)
  have e : c = 97 + ((f + b * (k : Int)) % 26).toNat := by simpa [cl, letAt, sgn] using m
  exact ⟨by omega, by omega⟩
theorem letAt_inj {f b : Int} (hb : b = 3 ∨ b = 5 ∨ b = 7 ∨ b = 9 ∨ b = 11 ∨ b = 15) {k j : Nat} (hk : k < 26) (hj : j < 26) (e : cl (letAt f b k) = cl (letAt f b j)) : k = j := by
  have h1 : 0 ≤ (f + b * (k : Int)) % 26 := Int.emod_nonneg _ (by omega)
  have h2 : 0 ≤ (f + b * (j : Int)) % 26 := Int.emod_nonneg _ (by omega)
  have e : 97 + ((f + b * (k : Int)) % 26).toNat = 97 + ((f + b * (j : Int)) % 26).toNat := by simpa [cl, letAt, sgn] using e
  have := spread (f := f) hb (k := k) (j := j) (by omega) (by omega) (by omega) (by omega) (by omega)
  omega
theorem len_cl (s : Str) : s.length = (cl s).length := by unfold cl; rw [Array.length_toList]; rfl
theorem nodup_range {n : Nat} {g : Nat → Str} (h : ∀ k j, k < n → j < n → g k = g j → k = j) : ((List.range n).map g).Nodup := by
  rw [List.nodup_iff_pairwise_ne, List.pairwise_map]
  refine List.Pairwise.imp_of_mem ?_ (List.nodup_iff_pairwise_ne.mp List.nodup_range)
  intro x y hx hy hne e
  exact hne (h x y (List.mem_range.mp hx) (List.mem_range.mp hy) e)
end LawW

set_option Elab.async false
set_option linter.all false
set_option maxRecDepth 100000
namespace LawW
open PySem L2 DL
theorem at3 {ls : List Str} (h : 3 ≤ ls.length) {i : Int} (h0 : 0 ≤ i) (h1 : i < 3) : ∃ k : Str, ls[i.toNat]? = some k ∧ k ∈ ls ∧ atI (ls.map DL.D.str) i = some (.str k) := by
  obtain ⟨j, rfl⟩ : ∃ j : Nat, i = (j : Int) := ⟨i.toNat, by omega⟩
  have hi : j < ls.length := by omega
  refine ⟨ls[j], List.getElem?_eq_getElem hi, List.getElem_mem hi, atI_nat ?_⟩
  rw [List.getElem?_map, List.getElem?_eq_getElem hi]
  rfl
theorem at_ne {ls : List Str} (nd : ls.Nodup) {i j : Nat} {a b : Str} (hi : ls[i]? = some a) (hj : ls[j]? = some b) (h : i ≠ j) : a ≠ b := by
  obtain ⟨h1, e1⟩ := List.getElem?_eq_some_iff.mp hi
  obtain ⟨h2, e2⟩ := List.getElem?_eq_some_iff.mp hj
  have pw := List.pairwise_iff_getElem.mp (List.nodup_iff_pairwise_ne.mp nd)
  rcases Nat.lt_or_gt_of_ne h with h | h
  · have := pw i j h1 h2 h
    rw [e1, e2] at this
    exact this
  · have := pw j i h2 h1 h
    rw [e1, e2] at this
    exact fun e => this e.symm
end LawW

set_option Elab.async false
set_option linter.all false
set_option maxRecDepth 100000
namespace LawW
open PySem L2 DL
theorem four (x y z u : Int) (r : Int) (h0 : 0 ≤ r) (h1 : r < 4) : ∃ b : Int, atI ([.int x, .int y, .int z, .int u] : List DL.D) r = some (.int b) ∧ (b = x ∨ b = y ∨ b = z ∨ b = u) := by
  have : r = 0 ∨ r = 1 ∨ r = 2 ∨ r = 3 := by omega
  rcases this with rfl | rfl | rfl | rfl
  · exact ⟨x, rfl, by simp⟩
  · exact ⟨y, rfl, by simp⟩
  · exact ⟨z, rfl, by simp⟩
  · exact ⟨u, rfl, by simp⟩
theorem dedup_mem : ∀ (ns acc : List Int) (x : Int), x ∈ ns.foldl PyProof.Rows.step_dedup acc → x ∈ acc ∨ x ∈ ns
  | [], acc, x, h => .inl h
  | n :: ns, acc, x, h => by
    rcases dedup_mem ns _ x h with h | h
    · unfold PyProof.Rows.step_dedup at h
      split at h
      · exact .inl h
      · rcases List.mem_append.mp h with h | h
        · exact .inl h
        · rw [List.mem_singleton.mp h]; exact .inr (List.mem_cons_self ..)
    · exact .inr (List.mem_cons_of_mem _ h)
theorem dedup_len : ∀ (ns acc : List Int), acc.Nodup → (ns.foldl PyProof.Rows.step_dedup acc).length ≤ acc.length + ns.length ∧ ((ns.foldl PyProof.Rows.step_dedup acc).length = acc.length + ns.length → (acc ++ ns).Nodup)
  | [], acc, h => ⟨Nat.le_refl _, fun _ => by rw [List.append_nil]; exact h⟩
  | n :: ns, acc, h => by
    rw [List.foldl_cons, List.length_cons]
    by_cases hn : acc.any (· == n) = true
    · have e : PyProof.Rows.step_dedup acc n = acc := by unfold PyProof.Rows.step_dedup; rw [if_pos hn]
      rw [e]
      have h1 := dedup_len ns acc h
      exact ⟨by omega, fun z => by omega⟩
    · have e : PyProof.Rows.step_dedup acc n = acc ++ [n] := by unfold PyProof.Rows.step_dedup; rw [if_neg hn]
      have hm : n ∉ acc := fun m => hn (List.any_eq_true.mpr ⟨n, m, by simp⟩)
      have nd : (acc ++ [n]).Nodup := by
        rw [List.nodup_append]
        exact ⟨h, by simp, fun x mx y my => by rw [List.mem_singleton.mp my]; exact fun z => hm (z ▸ mx)⟩
      rw [e]
      have h1 := dedup_len ns (acc ++ [n]) nd
      rw [List.length_append, List.length_singleton] at h1
      refine ⟨by omega, fun z => ?_⟩
      have := h1.2 (by omega)
      rwa [List.append_assoc] at this
theorem eraseIdx_perm {α : Type} : ∀ {xs : List α} {k : Nat} {x : α}, xs[k]? = some x → xs.Perm (x :: xs.eraseIdx k)
  | [], k, x, h => by simp at h
  | y :: xs, 0, x, h => by simp at h; subst h; exact .refl _
  | y :: xs, k + 1, x, h => by
    have h : xs[k]? = some x := by simpa using h
    exact ((eraseIdx_perm h).cons y).trans (.swap x y _)
theorem erase_map {α β : Type} {f : α → β} : ∀ {l : List α} {k : Nat}, (l.map f).eraseIdx k = (l.eraseIdx k).map f
  | [], k => by simp
  | x :: l, 0 => rfl
  | x :: l, k + 1 => by rw [List.map_cons, List.eraseIdx_cons_succ, List.eraseIdx_cons_succ, List.map_cons, erase_map]
end LawW

set_option Elab.async false
set_option linter.all false
set_option maxRecDepth 100000
namespace LawW
open PySem L2 DL
theorem any_perm {a b : List Sec} (h : a.Perm b) (p : Sec → Bool) : a.any p = b.any p := by
  cases e : b.any p with
  | true =>
    obtain ⟨x, m, e⟩ := List.any_eq_true.mp e
    exact List.any_eq_true.mpr ⟨x, h.mem_iff.mpr m, e⟩
  | false =>
    rw [List.any_eq_false] at e ⊢
    exact fun x m => e x (h.mem_iff.mp m)
theorem ceil_tasks {rs ts : List Raw} (h : TasksOf rs ts) (k : Str) : ceil rs k = ceil ts k := by
  unfold ceil
  congr 1
  induction h with
  | nil => rfl
  | cons a _ ih =>
    obtain ⟨ss, hp, rfl⟩ := a
    rw [List.filter_cons, List.filter_cons, any_perm hp]
    split
    · rw [List.map_cons, List.map_cons, ih]
    · exact ih
theorem backs_tasks {rs ts : List Raw} (h : TasksOf rs ts) (rk : Int) : (backs rs rk).Perm (backs ts rk) := by
  unfold backs
  rw [show (fun t : Raw => (t.secs.filter fun s => decide (ceil rs s.k ≤ rk)).map fun s => s.l - 1) = fun t : Raw => (t.secs.filter fun s => decide (ceil ts s.k ≤ rk)).map fun s => s.l - 1 by
    funext t
    congr 2
    funext s
    rw [ceil_tasks h]]
  generalize ceil ts = cf
  induction h with
  | nil => exact .nil
  | cons a _ ih =>
    obtain ⟨ss, hp, rfl⟩ := a
    rw [List.filter_cons, List.filter_cons]
    dsimp only
    split
    · rw [List.flatMap_cons, List.flatMap_cons]
      exact ((hp.symm.filter _).map _).append ih
    · exact ih
theorem sum_tasks {rs ts : List Raw} (h : TasksOf rs ts) (rk x : Int) : ((rs.filter fun t => decide (t.rk < rk)).map fun t => upN t x).sum = ((ts.filter fun t => decide (t.rk < rk)).map fun t => upN t x).sum := by
  induction h with
  | nil => rfl
  | cons a _ ih =>
    obtain ⟨ss, hp, rfl⟩ := a
    rw [List.filter_cons, List.filter_cons]
    dsimp only
    split
    · rw [List.map_cons, List.map_cons, List.sum_cons, List.sum_cons, ih]
      rfl
    · exact ih
theorem side_tasks {rs ts : List Raw} (h : TasksOf rs ts) {r t : Raw} (hrt : TaskOf r t) (x : Int) : side ts t x = side rs r x := by
  obtain ⟨ss, hp, rfl⟩ := hrt
  unfold side
  rw [show back ts r.rk = back rs r.rk from (foldl_max_perm (backs_tasks h r.rk)).symm]
  show back rs r.rk + r.mst + ((ts.filter fun t => decide (t.rk < r.rk)).map fun t => upN t x).sum = _
  rw [sum_tasks h]
theorem TasksOf.get {rs ts : List Raw} (h : TasksOf rs ts) : ∀ {j : Nat} {r : Raw}, rs[j]? = some r → ∃ t, ts[j]? = some t ∧ TaskOf r t := by
  induction h with
  | nil => intro j r e; simp at e
  | cons a _ ih =>
    intro j r e
    cases j with
    | zero => simp at e; subst e; exact ⟨_, rfl, a⟩
    | succ j => obtain ⟨t, h1, h2⟩ := ih (by simpa using e); exact ⟨t, by simpa using h1, h2⟩
theorem TasksOf.get' {rs ts : List Raw} (h : TasksOf rs ts) : ∀ {t : Raw}, t ∈ ts → ∃ r ∈ rs, TaskOf r t := by
  induction h with
  | nil => intro t m; cases m
  | cons a _ ih =>
    intro t m
    rcases List.mem_cons.mp m with rfl | m
    · exact ⟨_, List.mem_cons_self .., a⟩
    · obtain ⟨r, h1, h2⟩ := ih m; exact ⟨r, List.mem_cons_of_mem _ h1, h2⟩
theorem HasB_tasks {rs ts : List Raw} (h : TasksOf rs ts) {r t : Raw} (hrt : TaskOf r t) : HasB ts t ↔ HasB rs r := by
  have e : side ts t = side rs r := funext fun x => side_tasks h hrt x
  obtain ⟨ss, hp, rfl⟩ := hrt
  unfold HasB
  rw [e]
/-- the numbers that are their own right sides, gone up to from 1 on -/
def fixs (rs : List Raw) (r : Raw) : List Nat := (List.range (r.due - r.wt).toNat).filter fun k : Nat => decide (side rs r (1 + (k : Int)) = 1 + (k : Int))
theorem fixs_mem {rs : List Raw} {r : Raw} (ok : ∀ t ∈ rs, RawOk t) (hr : RawOk r) {k : Int} (h0 : 0 ≤ k) (h1 : side rs r k = k) (h2 : k ≤ r.due - r.wt) : (k - 1).toNat ∈ fixs rs r ∧ 1 ≤ k := by
  have := side_pos ok hr h0
  refine ⟨List.mem_filter.mpr ⟨List.mem_range.mpr (by omega), decide_eq_true ?_⟩, by omega⟩
  have e : 1 + ((k - 1).toNat : Int) = k := by omega
  rw [e]
  exact h1
theorem fixs_head {rs : List Raw} {r : Raw} (ok : ∀ t ∈ rs, RawOk t) (hr : RawOk r) {k0 : Nat} {ks : List Nat} (e : fixs rs r = k0 :: ks) : LFix (side rs r) (1 + (k0 : Int)) ∧ 1 + (k0 : Int) ≤ r.due - r.wt := by
  have m0 : k0 ∈ fixs rs r := by rw [e]; exact List.mem_cons_self ..
  have m1 := List.mem_filter.mp m0
  have m2 := List.mem_range.mp m1.1
  refine ⟨⟨by omega, of_decide_eq_true m1.2, fun j j0 je => ?_⟩, by omega⟩
  by_cases hj : j ≤ r.due - r.wt
  · obtain ⟨mj, j1⟩ := fixs_mem ok hr j0 je hj
    have pw : (fixs rs r).Pairwise (· < ·) := List.pairwise_lt_range.filter _
    rw [e] at pw mj
    rcases List.mem_cons.mp mj with h | h
    · omega
    · have := (List.pairwise_cons.mp pw).1 _ h
      omega
  · omega
end LawW

set_option Elab.async false
set_option linter.all false
set_option maxRecDepth 100000
set_option maxHeartbeats 0
namespace LawW
open PySem L2 PySem.W DL PySem.Spec PyProof.Rows
theorem task_mk : ∀ ds M Q, spTask ds M Q → mkSpF 1 7 spTaskInit ds M Q := by
  rintro ds M Q ⟨r, rfl, ok, q⟩ a ha
  refine ⟨a, r, rfl, by simp [updM], ok, fun r' h => ⟨rfl, fldsR r', by simp [updM], rfl, ?_⟩⟩
  rw [rmM_upd ha]
  exact q r' h
theorem plan_mk : ∀ ds M Q, spPlan ds M Q → mkSpFF 0 3 spPlanInit ds M Q := by
  rintro ds M Q ⟨ts, d, rfl, hs, hst, nd1, nd2, few, ok, q⟩ a ha
  refine ⟨a, ts, d, rfl, hs, hst, by simp [updM], nd1, nd2, few, ok, fun d1 d2 ps ks es M' h1 h2 h3 h4 n1 n2 m1 m2 pp => ⟨rfl, _, h1, rfl, ?_⟩⟩
  have n3 : d1 ≠ a := n1
  have em : clr (rmM M' a) [.loc d1, .tup (ps.map dTask), .loc d2] = M := by
    funext b
    show rmM (rmM (rmM M' a) d1) d2 b = M b
    by_cases b2 : b = d2
    · subst b2
      have m2 : updM M a (.obj 0 []) b = none := m2
      rw [show rmM (rmM (rmM M' a) d1) b b = none from by simp [rmM]]
      by_cases e : b = a
      · exact absurd e n2
      · rw [updM, if_neg e] at m2; exact m2.symm
    · rw [rmM_ne b2]
      by_cases b1 : b = d1
      · subst b1
        rw [show rmM (rmM M' a) b b = none from by simp [rmM]]
        rw [updM, if_neg n1] at m1; exact m1.symm
      · rw [rmM_ne b1]
        by_cases b0 : b = a
        · subst b0; rw [ha]; simp [rmM]
        · rw [rmM_ne b0, h4 b b0 b1 b2]; simp [updM, b0]
  have ev : [DL.D.loc d1, .tup (ps.map dTask), .loc d2].map (view M') = [.dct (ts.map fun t => .inr t.nm) (ts.map dTask), .tup (ps.map dTask), .dct ks es] := by
    show [view M' (.loc d1), .tup (ps.map dTask), view M' (.loc d2)] = _
    rw [view_co h2, view_co h3]; rfl
  rw [em, ev]
  exact q _ ⟨ps, ks, es, rfl, pp⟩
end LawW

set_option Elab.async false
set_option linter.all false
set_option maxRecDepth 100000
namespace LawW
open PySem L2 DL
theorem PenM.keep {c : Int} {M M' : Mem} {a : Addr} (h : PenM c M a) (k : Keeps M M') : PenM c M' a := by
  obtain ⟨cs, i, l, e, r⟩ := h
  exact ⟨cs, i, l, k _ _ e, r⟩
theorem deq_ii (x y : Int) : deq (.int x) (.int y) = decide (x = y) := by simp only [deq]
theorem deq_bb (x y : Bool) : deq (.bl x) (.bl y) = (x == y) := by simp only [deq]
theorem deq_ss (x y : Str) : deq (.str x) (.str y) = decide (x = y) := by simp only [deq]
end LawW

set_option Elab.async false
set_option linter.all false
set_option maxRecDepth 100000
namespace LawW
open PySem L2 DL
theorem cl_take (z : Str) (k : Nat) : cl (cutS z none (some (k : Int))) = (cl z).take k := by
  unfold cutS cl
  have e1 : HT.sIx z.length 0 none = 0 := rfl
  rw [e1, HT.sIx_nat, List.drop_zero, Nat.sub_zero]
  show (z.cps.toList.take _).toArray.toList = _
  have ez : z.length = z.cps.toList.length := by rw [Array.length_toList]; rfl
  rw [ez, List.toList_toArray]
  apply List.ext_getElem?
  intro i
  rw [List.getElem?_take, List.getElem?_take]
  by_cases h : i < k
  · rw [if_pos h]
    by_cases h2 : i < z.cps.toList.length
    · rw [if_pos (by omega)]
    · rw [if_neg (by omega), List.getElem?_eq_none (by omega)]
  · rw [if_neg h, if_neg (by omega)]
theorem cl_drop (z : Str) (k : Nat) : cl (cutS z (some (k : Int)) none) = (cl z).drop k := by
  unfold cutS cl
  have e1 : HT.sIx z.length z.length none = z.length := rfl
  rw [e1, HT.sIx_nat]
  have ez : z.length = z.cps.toList.length := by rw [Array.length_toList]; rfl
  rw [ez, List.toList_toArray]
  by_cases h : k ≤ z.cps.toList.length
  · rw [Nat.min_eq_left h, List.take_of_length_le (by rw [List.length_drop]; omega)]
  · rw [Nat.min_eq_right (by omega), List.drop_of_length_le (by omega : z.cps.toList.length ≤ k), List.drop_of_length_le (Nat.le_refl _)]
    simp
theorem alpha_index {c : Nat} (h : LetOk c) : ∃ (i : Nat) (rest : List Nat), Builtin.Str.occurrences (Str.ofString "abcdefghijklmnopqrstuvwxyz") ⟨#[c]⟩ 0 (Str.ofString "abcdefghijklmnopqrstuvwxyz").length 1 = i :: rest ∧ i < 26 := by
  have e : c ∈ (List.range 26).map (· + 97) := List.mem_map.mpr ⟨c - 97, List.mem_range.mpr (by have := h.1; have := h.2; omega), by have := h.1; omega⟩
  have all : ((List.range 26).map (· + 97)).all (fun c => match Builtin.Str.occurrences (Str.ofString "abcdefghijklmnopqrstuvwxyz") ⟨#[c]⟩ 0 (Str.ofString "abcdefghijklmnopqrstuvwxyz").length 1 with
    | i :: _ => decide (i < 26)
    | [] => false) = true := by decide +kernel
  have q := List.all_eq_true.mp all c e
  cases z : Builtin.Str.occurrences (Str.ofString "abcdefghijklmnopqrstuvwxyz") ⟨#[c]⟩ 0 (Str.ofString "abcdefghijklmnopqrstuvwxyz").length 1 with
  | nil => simp only [z] at q; exact absurd q Bool.false_ne_true
  | cons i rest => simp only [z] at q; exact ⟨i, rest, rfl, of_decide_eq_true q⟩
theorem two_of {r : Int} (h0 : 0 ≤ r) (h1 : r < 2) {x y : DL.D} : ∃ d, atI [x, y] r = some d ∧ (d = x ∨ d = y) := by
  have : r = 0 ∨ r = 1 := by omega
  rcases this with rfl | rfl
  · exact ⟨x, rfl, .inl rfl⟩
  · exact ⟨y, rfl, .inr rfl⟩
/-- the k-th name: the word's beginning, a letter of its own, some of what is behind -/
def NamesAt (wd : List Nat) (w : Nat) (f b : Int) (xs : List Str) : Prop := ∀ (k : Nat) (s : Str), xs[k]? = some s → ∃ t : List Nat, cl s = wd.take w ++ [97 + ((f + b * (k : Int)) % 26).toNat] ++ t ∧ t.length + (w + 1) ≤ wd.length ∧ ∀ x ∈ t, x ∈ wd
theorem fit_names3 : Fits tab 11 T__law_names spNames := by
  rintro ds M Q ⟨a, n, c, rfl, n0, n26, hp, hc, q⟩
  conv => whnf
  refine ⟨trivial, ?_⟩
  conv => whnf
  refine ⟨a, 12, c, rfl, by decide, by decide, hp, by omega, fun r M1 r0 r1 b1 p1 => ?_⟩
  conv => whnf
  refine ⟨_, rfl, ⟨by omega, by omega⟩, ?_⟩
  refine compL_inv (fun j acc M' => But a M M' ∧ PenM (c + 1 + j) M' a ∧ ∃ ys : List Str, acc = ys.map .str ∧ ys.length = j ∧ ∀ y ∈ ys, ∃ x, cl y = [x] ∧ LetOk x) ⟨b1, by simpa using p1, [], rfl, rfl, by simp⟩ ?_ ?_
  · rintro j d acc M' K hd ⟨bt, pt, ys, rfl, hy, hl⟩ k1 k2
    obtain ⟨hj, rfl⟩ := rng_get hd
    conv => whnf
    refine ⟨rfl, ?_⟩
    conv => whnf
    refine ⟨a, 26, c + 1 + j, rfl, by decide, by decide, pt, by omega, fun r' M2 s0 s1 b2 p2 => ?_⟩
    conv => whnf
    refine ⟨_, alpha_len, alpha_at s0 s1, ?_⟩
    refine ⟨rfl, k1 _ _ ⟨bt.trans b2, p2.mono (by omega), ys ++ [sgn (97 + r'.toNat)], by rw [List.map_append]; rfl, by rw [List.length_append, hy]; rfl, fun y m => ?_⟩⟩
    rcases List.mem_append.mp m with m | m
    · exact hl y m
    · rw [List.mem_singleton.mp m]
      exact ⟨_, rfl, by omega, by omega⟩
  rintro acc M2 ⟨b2, p2, ys, rfl, hy, hl⟩
  rw [List.length_map, List.length_range] at hy p2
  have hy12 : 1 ≤ ys.length ∧ ys.length ≤ 12 := by omega
  have ylen : ∀ y ∈ ys, y.length = 1 := fun y m => by
    obtain ⟨x, e, _⟩ := hl y m
    rw [len_cl, e]; rfl
  have sum1 : (ys.map (·.length)).sum = ys.length := by
    have : ∀ zs : List Str, (∀ y ∈ zs, y.length = 1) → (zs.map (·.length)).sum = zs.length := by
      intro zs
      induction zs with
      | nil => intro _; rfl
      | cons z zs ih => intro h; rw [List.map_cons, List.sum_cons, ih fun y m => h y (List.mem_cons_of_mem _ m), h z (List.mem_cons_self ..), List.length_cons]; omega
    exact this ys ylen
  conv => whnf
  refine ⟨ys, rfl, ?_, ?_⟩
  · have e0 : (Str.ofString "").length = 0 := by decide +kernel
    rw [e0]; omega
  generalize htl : Txt.join (Str.ofString "") ys = tl
  have tlc : cl tl = (ys.map cl).flatten := by rw [← htl, empty_eq, cl_join]
  have tll : (cl tl).length = ys.length := by
    rw [tlc]
    have : ∀ zs : List Str, (∀ y ∈ zs, ∃ x, cl y = [x] ∧ LetOk x) → (zs.map cl).flatten.length = zs.length := by
      intro zs
      induction zs with
      | nil => intro _; rfl
      | cons z zs ih =>
        intro h
        obtain ⟨x, e, _⟩ := h z (List.mem_cons_self ..)
        rw [List.map_cons, List.flatten_cons, List.length_append, ih fun y m => h y (List.mem_cons_of_mem _ m), e, List.length_cons, List.length_cons, List.length_nil]; omega
    exact this ys hl
  have tlo : ∀ x ∈ cl tl, LetOk x := fun x m => by
    rw [tlc] at m
    obtain ⟨l, ml, mx⟩ := List.mem_flatten.mp m
    obtain ⟨y, my, rfl⟩ := List.mem_map.mp ml
    obtain ⟨z, e, hz⟩ := hl y my
    rw [e] at mx
    rw [List.mem_singleton.mp mx]; exact hz
  have tlen : tl.length = ys.length := by rw [len_cl]; exact tll
  conv => whnf
  refine ⟨_, rfl, ?_⟩
  conv => whnf
  refine ⟨szL (by omega), ?_⟩
  conv => whnf
  refine ⟨a, _, c + 1 + ys.length, rfl, by rw [tlen]; omega, by rw [tlen]; omega, p2.mono (by omega), by omega, fun at' M3 a0 a1 b3 p3 => ?_⟩
  rw [tlen] at a1
  obtain ⟨w, rfl⟩ : ∃ w : Nat, at' = (w : Int) := ⟨at'.toNat, by omega⟩
  conv => whnf
  refine ⟨a, 26, _, rfl, by decide, by decide, p3, by omega, fun f M4 f0 f1 b4 p4 => ?_⟩
  conv => whnf
  refine ⟨szL (by simp), ?_⟩
  conv => whnf
  refine ⟨a, 6, _, rfl, by decide, by decide, p4, by omega, fun g M5 g0 g1 b5 p5 => ?_⟩
  obtain ⟨by', e6, hby⟩ := six g g0 g1
  have bt : But a M M5 := ((b2.trans b3).trans b4).trans b5
  conv => whnf
  refine ⟨_, e6, ?_⟩
  have hw : w < (cl tl).length := by omega
  obtain ⟨ch, hch⟩ : ∃ ch, (cl tl)[w]? = some ch := ⟨_, List.getElem?_eq_getElem hw⟩
  obtain ⟨lot, rest, hocc, hlot⟩ := alpha_index (tlo ch (List.mem_of_getElem? hch))
  conv => whnf
  refine ⟨_, _, rfl, trivial, ?_⟩
  conv => whnf
  refine ⟨ch, szL (by omega), atI_nat hch, ?_⟩
  conv => whnf
  refine ⟨lot, rest, hocc, ?_⟩
  conv => whnf
  refine ⟨szL (by simp), _, rfl, fun p hp0 => ?_⟩
  have hpa : p ≠ a := fun e => by
    obtain ⟨cs, i, l, e2, _⟩ := p5
    rw [← e, hp0] at e2
    cases e2
  conv => whnf
  refine ⟨_, _, rfl, ?_⟩
  conv => whnf
  refine ⟨_, rfl, ⟨by omega, by omega⟩, ?_⟩
  refine forL_inv (fun j ρ M' => ∃ (xs : List Str) (v9 v10 : LV), M' = updM M5 p (.co (.L (xs.map .str))) ∧ xs.length = j ∧ NamesAt (cl tl) w f by' xs ∧ ρ = [.val (.loc a), .val (.int n), .val (.str "abcdefghijklmnopqrstuvwxyz"), .val (.str tl), .val (.int (w : Nat)), .val (.int f), .val (.int by'), .val (.int (lot : Nat)), .val (.loc p), v9, v10]) ⟨[], _, _, rfl, rfl, fun _ _ h => (nomatch h), rfl⟩ ?_ ?_
  · rintro j d ρ M' K hd ⟨xs, v9, v10, rfl, hx, hN, rfl⟩ k1 k2 k3 k4
    obtain ⟨hj, rfl⟩ := rng_get hd
    conv => whnf
    refine ⟨_, rfl, ?_⟩
    conv => whnf
    refine ⟨szL (by omega), ?_⟩
    conv => whnf
    refine ⟨by decide, ?_⟩
    conv => whnf
    refine ⟨szL (by simp), ?_⟩
    conv => whnf
    refine ⟨by decide, ?_⟩
    obtain ⟨m, em⟩ : ∃ m : Nat, atI [DL.D.int 12, DL.D.int ((j : Int) % 4)] ((lot : Int) % 2) = some (.int (m : Nat)) := by
      obtain ⟨d, e1, e2⟩ := two_of (x := DL.D.int 12) (y := DL.D.int ((j : Int) % 4)) (r := (lot : Int) % 2) (by omega) (by omega)
      rcases e2 with rfl | rfl
      · exact ⟨12, e1⟩
      · exact ⟨j % 4, by rw [e1]; rfl⟩
    conv => whnf
    refine ⟨_, em, ?_⟩
    conv => whnf
    refine ⟨_, rfl, ?_⟩
    have ew : cutS tl (some ((w : Int) + 1)) none = cutS tl (some ((w + 1 : Nat) : Int)) none := rfl
    have c1 : cl (cutS tl (some ((w : Int) + 1)) none) = (cl tl).drop (w + 1) := by rw [ew, cl_drop]
    have l1 : (cutS tl (some ((w : Int) + 1)) none).length = (cl tl).length - (w + 1) := by rw [len_cl, c1, List.length_drop]
    generalize hT1 : cutS tl (some ((w : Int) + 1)) none = T1 at c1 l1
    conv => whnf
    refine ⟨szL (by omega), ?_⟩
    have c2 : cl (cutS T1 none (some (m : Int))) = ((cl tl).drop (w + 1)).take m := by rw [cl_take, c1]
    have l2 : (cutS T1 none (some (m : Int))).length + (w + 1) ≤ (cl tl).length := by rw [len_cl, c2, List.length_take, List.length_drop]; omega
    generalize hT2 : cutS T1 none (some (m : Int)) = T2 at c2 l2
    conv => whnf
    refine ⟨p, rfl, ⟨_, updM_same, trivial⟩, ?_⟩
    conv => whnf
    refine ⟨_, rfl, ?_⟩
    conv => whnf
    refine ⟨szL (by omega), ?_⟩
    have c3 : cl (cutS tl none (some (w : Int))) = (cl tl).take w := cl_take tl w
    have l3 : (cutS tl none (some (w : Int))).length = w := by rw [len_cl, c3, List.length_take]; omega
    generalize hT3 : cutS tl none (some (w : Int)) = T3 at c3 l3
    conv => whnf
    refine ⟨.inl ⟨by have e : (2 : Int) ^ 64 = 18446744073709551616 := by decide
                     rw [e]; omega, by have e : (2 : Int) ^ 64 = 18446744073709551616 := by decide
                                       rw [e]; omega⟩, ?_⟩
    conv => whnf
    refine ⟨by decide, ?_⟩
    conv => whnf
    refine ⟨_, alpha_len, alpha_at (Int.emod_nonneg _ (by omega)) (Int.emod_lt_of_pos _ (by omega)), ?_⟩
    conv => whnf
    refine ⟨szL (by rw [l3]; show w + 1 ≤ 1000; omega), ?_⟩
    conv => whnf
    have l4 : (T3 ++ sgn (97 + ((f + by' * (j : Int)) % 26).toNat)).length = w + 1 := by rw [len_cl, cl_append, List.length_append, c3, List.length_take]; show min w _ + 1 = _; omega
    refine ⟨szL (by show (T3 ++ sgn (97 + ((f + by' * (j : Int)) % 26).toNat)).length + T2.length ≤ 1000; rw [l4]; omega), ?_⟩
    conv => whnf
    refine ⟨_, updM_same, by rw [List.length_map, sizeLine_eq]; omega, ?_⟩
    conv => whnf
    rw [updM_updM]
    refine k1 _ _ ⟨xs ++ [T3 ++ sgn (97 + ((f + by' * (j : Int)) % 26).toNat) ++ T2], _, _, by rw [List.map_append]; rfl, by rw [List.length_append, hx]; rfl, fun k s hk => ?_, rfl⟩
    by_cases hkj : k < xs.length
    · rw [List.getElem?_append_left hkj] at hk
      exact hN k s hk
    · rw [List.getElem?_append_right (by omega)] at hk
      have hk0 : k - xs.length = 0 := by
        by_cases z : k - xs.length = 0
        · exact z
        · rw [List.getElem?_eq_none (by simp; omega)] at hk; cases hk
      rw [hk0] at hk
      have es : T3 ++ sgn (97 + ((f + by' * (j : Int)) % 26).toNat) ++ T2 = s := Option.some.inj hk
      obtain rfl : k = j := by omega
      refine ⟨cl T2, ?_, ?_, fun x m => ?_⟩
      · rw [← es, cl_append, cl_append, c3]; rfl
      · rw [← len_cl]; exact l2
      · rw [c2] at m
        exact List.mem_of_mem_drop (List.mem_of_mem_take m)
  · rintro ρ M' ⟨xs, v9, v10, rfl, hx, hN, rfl⟩
    rw [List.length_map, List.length_range] at hx
    have nOk : ∀ s ∈ xs, NmS s := fun s ms => by
      obtain ⟨k, hk⟩ := List.getElem?_of_mem ms
      obtain ⟨t, e1, e2, e3⟩ := hN k s hk
      have hl : (cl s).length = w + 1 + t.length := by rw [e1, List.length_append, List.length_append, List.length_take]; simp; omega
      refine ⟨by show 1 ≤ (cl s).length; omega, by show (cl s).length ≤ 12; omega, fun c mc => ?_⟩
      have mc : c ∈ cl s := mc
      rw [e1] at mc
      rcases List.mem_append.mp mc with mc | mc
      · rcases List.mem_append.mp mc with mc | mc
        · exact tlo c (List.mem_of_mem_take mc)
        · rw [List.mem_singleton.mp mc]
          have h1 : 0 ≤ (f + by' * (k : Int)) % 26 := Int.emod_nonneg _ (by omega)
          have h2 : (f + by' * (k : Int)) % 26 < 26 := Int.emod_lt_of_pos _ (by omega)
          exact ⟨by omega, by omega⟩
      · exact tlo c (e3 c mc)
    have atw : ∀ (k : Nat) (s : Str), xs[k]? = some s → (cl s)[w]? = some (97 + ((f + by' * (k : Int)) % 26).toNat) := fun k s hk => by
      obtain ⟨t, e1, _, _⟩ := hN k s hk
      rw [e1, List.append_assoc, List.getElem?_append_right (by rw [List.length_take]; omega)]
      have z : w - ((cl tl).take w).length = 0 := by rw [List.length_take]; omega
      rw [z]; rfl
    have hlen : (xs.length : Int) = n := by omega
    have nd : xs.Nodup := by
      rw [List.nodup_iff_pairwise_ne, List.pairwise_iff_getElem]
      intro i k hi hk hik e
      have a1 := atw i _ (List.getElem?_eq_getElem hi)
      have a2 := atw k _ (List.getElem?_eq_getElem hk)
      rw [e, a2] at a1
      have a1 := Option.some.inj a1
      have h1 : 0 ≤ (f + by' * (k : Int)) % 26 := Int.emod_nonneg _ (by omega)
      have h2 : 0 ≤ (f + by' * (i : Int)) % 26 := Int.emod_nonneg _ (by omega)
      have := spread (f := f) hby (k := k) (j := i) (by omega) (by omega) (by omega) (by omega) (by omega)
      omega
    have fin : ∀ ys : List Str, ys.length = n.toNat → ys.Nodup → (∀ y ∈ ys, NmS y) → Q (.lst (ys.map .str)) (rmM (updM M5 p (.co (.L (ys.map .str)))) p) := fun ys h1 h2 h3 => by
      refine q ys _ h1 h2 h3 (fun b hb => ?_) ?_
      · unfold rmM
        split
        · rename_i e; rw [e, ← bt p hpa]; exact hp0.symm
        · rename_i e; rw [updM_ne e]; exact bt b hb
      · obtain ⟨cs, i, l, e2, z1, z2, z3⟩ := p5
        exact ⟨cs, i, l, by unfold rmM; rw [if_neg (fun e => hpa e.symm), updM_ne (fun e => hpa e.symm)]; exact e2, z1, by omega, z3⟩
    have done : ∀ (ys : List Str) (M6 : Mem), M6 = updM M5 p (.co (.L (ys.map .str))) → ys.length = n.toNat → ys.Nodup → (∀ y ∈ ys, NmS y) → wpS tab (.ret (.frz (.var 8))) [.val (.loc a), .val (.int n), .val (.str "abcdefghijklmnopqrstuvwxyz"), .val (.str tl), .val (.int (w : Nat)), .val (.int f), .val (.int by'), .val (.int (lot : Nat)), .val (.loc p), v9, v10] M6 (enOf Q) := fun ys M6 e h1 h2 h3 => by
      subst e
      conv => whnf
      exact ⟨p, _, rfl, updM_same, fin ys h1 h2 h3⟩
    have skip := done xs _ rfl hx nd nOk
    conv => whnf
    refine ⟨_, rfl, ?_⟩
    refine ic_ (fun h0 => ?_) fun _ => ?_
    rotate_left
    · conv => whnf
      exact ⟨_, rfl, skip⟩
    have hw0 : 0 < w := by have := of_decide_eq_true h0; omega
    conv => whnf
    refine ⟨_, rfl, ?_⟩
    refine ic_ (fun h1 => ?_) fun _ => ?_
    rotate_left
    · conv => whnf
      exact ⟨_, rfl, skip⟩
    have hn0 : 0 < n := of_decide_eq_true h1
    conv => whnf
    refine ⟨⟨by decide, .inl (by decide)⟩, ?_⟩
    conv => whnf
    refine ⟨by decide, ?_⟩
    conv => whnf
    refine ⟨rfl, ?_⟩
    conv => whnf
    refine ⟨_, rfl, ?_⟩
    refine ic_ (fun _ => ?_) fun _ => ?_
    rotate_left
    · conv => whnf
      exact skip
    conv => whnf
    refine ⟨_, rfl, ?_⟩
    conv => whnf
    refine ⟨szL (by omega), ?_⟩
    have c3 : cl (cutS tl none (some (w : Int))) = (cl tl).take w := cl_take tl w
    generalize hT3 : cutS tl none (some (w : Int)) = T3 at c3
    conv => whnf
    refine ⟨⟨by decide, .inl (by decide)⟩, ?_⟩
    conv => whnf
    refine ⟨hn0, ?_⟩
    conv => whnf
    have hi0 : 0 ≤ (lot : Int) / 6 % n := Int.emod_nonneg _ (by omega)
    have hi1 : (lot : Int) / 6 % n < n := Int.emod_lt_of_pos _ hn0
    obtain ⟨i, ei⟩ : ∃ i : Nat, (lot : Int) / 6 % n = (i : Int) := ⟨((lot : Int) / 6 % n).toNat, by omega⟩
    rw [ei] at hi1
    rw [ei]
    have hi : i < xs.length := by omega
    refine ⟨p, _, rfl, updM_same, i, ?_, ?_⟩
    · rw [List.length_map]
      unfold ixN
      rw [if_pos (by omega), if_pos (by omega), Int.toNat_natCast]
    conv => whnf
    rw [updM_updM, show (xs.map DL.D.str).set i (DL.D.str T3) = (xs.set i T3).map DL.D.str from by rw [List.map_set]]
    have l3 : (cl T3).length = w := by rw [c3, List.length_take]; omega
    refine done _ _ rfl (by rw [List.length_set]; exact hx) ?_ fun y my => ?_
    · have no : ∀ s ∈ xs, s ≠ T3 := fun s ms e => by
        obtain ⟨k, hk⟩ := List.getElem?_of_mem ms
        have := atw k s hk
        rw [e, List.getElem?_eq_none (by omega)] at this
        cases this
      rw [List.nodup_iff_pairwise_ne, List.pairwise_iff_getElem]
      intro i1 i2 h1 h2 h12 e
      rw [List.length_set] at h1 h2
      rw [List.getElem_set, List.getElem_set] at e
      by_cases z1 : i = i1
      · rw [if_pos z1, if_neg (by omega)] at e
        exact no _ (List.getElem_mem h2) e.symm
      · rw [if_neg z1] at e
        by_cases z2 : i = i2
        · rw [if_pos z2] at e
          exact no _ (List.getElem_mem h1) e
        · rw [if_neg z2] at e
          exact List.pairwise_iff_getElem.mp (List.nodup_iff_pairwise_ne.mp nd) i1 i2 h1 h2 h12 e
    · rcases List.mem_or_eq_of_mem_set my with my | rfl
      · exact nOk y my
      · refine ⟨by show 1 ≤ (cl y).length; omega, by show (cl y).length ≤ 12; omega, fun c mc => ?_⟩
        have mc : c ∈ cl y := mc
        rw [c3] at mc
        exact tlo c (List.mem_of_mem_take mc)
end LawW

set_option Elab.async false
set_option linter.all false
set_option maxRecDepth 100000
namespace LawW
open PySem L2 DL
theorem KeepB.refl (a : Addr) (M : Mem) : KeepB a M M := fun _ _ _ h => h
theorem KeepB.trans {a : Addr} {M1 M2 M3 : Mem} (h : KeepB a M1 M2) (h' : KeepB a M2 M3) : KeepB a M1 M3 := fun b mo hb e => h' b mo hb (h b mo hb e)
theorem But.keepB {a : Addr} {M M' : Mem} (h : But a M M') : KeepB a M M' := fun b mo hb e => (h b hb).trans e
theorem KeepB.new {a p : Addr} {M M' : Mem} {mo : MO} (h : KeepB a M M') (hp : M p = none) : KeepB a M (updM M' p mo) := fun b mo' hb e => by
  rw [updM_ne (fun z => by rw [z, hp] at e; cases e)]
  exact h b mo' hb e
theorem PenM.upd {c : Int} {a p : Addr} {M : Mem} {mo : MO} (h : PenM c M a) (hp : p ≠ a) : PenM c (updM M p mo) a := by
  obtain ⟨cs, i, l, e, h1, h2, h3⟩ := h
  exact ⟨cs, i, l, by rw [updM_ne (fun z => hp z.symm)]; exact e, h1, h2, h3⟩
/-- a list in memory, that is grown -/
structure Grown (a p : Addr) (M : Mem) (xs : List DL.D) (M' : Mem) (c : Int) : Prop where
  k : KeepB a M M'
  pen : PenM c M' a
  at_ : M' p = some (.co (.L xs))
theorem Grown.drawn {a p : Addr} {M M' M'' : Mem} {xs : List DL.D} {c c' : Int} (g : Grown a p M xs M' c) (hp : p ≠ a) (b : But a M' M'') (q : PenM c' M'' a) : Grown a p M xs M'' c' := ⟨g.k.trans b.keepB, q, (b p hp).trans g.at_⟩
theorem Grown.put {a p : Addr} {M M' : Mem} {xs ys : List DL.D} {c : Int} (g : Grown a p M xs M' c) (hp : p ≠ a) (h0 : M p = none) : Grown a p M ys (updM M' p (.co (.L ys))) c := ⟨g.k.new h0, g.pen.upd hp, updM_same⟩
theorem Grown.view {a p : Addr} {M M' : Mem} {xs : List DL.D} {c : Int} (g : Grown a p M xs M' c) : DL.view M' (.loc p) = .lst xs := view_co g.at_
theorem three {ls : List Str} (h : ls.length = 3) : ∃ x y z, ls = [x, y, z] := by
  match ls, h with
  | [x, y, z], _ => exact ⟨x, y, z, rfl⟩
theorem eq_false_self (k : Str) : (!deq (.str k) (.str k)) = false := by
  have : deq (.str k) (.str k) = true := by show decide (k = k) = true; exact decide_eq_true rfl
  rw [this]; rfl
theorem others {ls : List Str} (h : ls.length = 3) (nd : ls.Nodup) {k : Str} (hk : k ∈ ls) : (ls.filter fun s => !decide (s = k)).length = 2 := by
  obtain ⟨x, y, z, rfl⟩ := three h
  simp only [List.nodup_cons, List.mem_cons, List.not_mem_nil, or_false, not_or, not_false_eq_true, List.nodup_nil, and_true] at nd
  obtain ⟨⟨n1, n2⟩, n3⟩ := nd
  simp only [List.mem_cons, List.not_mem_nil, or_false] at hk
  rcases hk with rfl | rfl | rfl
  · simp [List.filter_cons, n1, n2, Ne.symm n1, Ne.symm n2]
  · simp [List.filter_cons, n1, n3, Ne.symm n1, Ne.symm n3]
  · simp [List.filter_cons, n2, n3, Ne.symm n2, Ne.symm n3]
theorem third {ls : List Str} (h : ls.length = 3) (nd : ls.Nodup) (k j : Str) : (ls.filter fun s => !(decide (k = s) || decide (j = s))) ≠ [] := by
  obtain ⟨x, y, z, rfl⟩ := three h
  simp only [List.nodup_cons, List.mem_cons, List.not_mem_nil, or_false, not_or, not_false_eq_true, List.nodup_nil, and_true] at nd
  obtain ⟨⟨n1, n2⟩, n3⟩ := nd
  intro e
  have hx := List.filter_eq_nil_iff.mp e
  have a1 := hx x (by simp)
  have a2 := hx y (by simp)
  have a3 := hx z (by simp)
  simp only [Bool.not_eq_true', Bool.or_eq_false_iff, decide_eq_false_iff_not, not_and, Decidable.not_not] at a1 a2 a3
  by_cases z1 : k = x
  · by_cases z2 : k = y
    · exact n1 (z1.symm.trans z2)
    · by_cases z3 : k = z
      · exact n2 (z1.symm.trans z3)
      · exact n3 ((a2 z2).symm.trans (a3 z3))
  · have e1 := a1 z1
    by_cases z2 : k = y
    · by_cases z3 : k = z
      · exact n3 (z2.symm.trans z3)
      · exact n2 (e1.symm.trans (a3 z3))
    · exact n1 (e1.symm.trans (a2 z2))
set_option maxHeartbeats 2000000 in
theorem fit_sect3 : Fits tab 12 T__law_sections spSect3 := by
  rintro ds M Q ⟨a, full, ls, c, rfl, f1, fL, l3, nd, nok, hp, hc, q⟩
  conv => whnf
  refine ⟨szL (by simp), _, rfl, fun p hp0 => ?_⟩
  have hpa : p ≠ a := fun e => by
    obtain ⟨cs, i, l, e2, _⟩ := hp
    rw [← e, hp0] at e2
    cases e2
  have G0 : Grown a p M ([] : List DL.D) (updM M p (.co (.L []))) c := ⟨(KeepB.refl a M).new hp0, hp.upd hpa, updM_same⟩
  have fin : ∀ (ys : List Sec) (M6 : Mem) (c6 : Int) (v4 v5 v6 v7 v8 v9 v10 v11 : LV), (∀ x ∈ ys, SecOk full x) → ys.Pairwise Together → ys.length ≤ 3 → Grown a p M (ys.map dSec) M6 c6 → c6 ≤ c + 40 →
      wpS tab (.ret (.bi .tuple (.cons (.stp (.var 3) (.idx (.lst (.cons (.int 1) (.cons (.neg (.int 1)) .nil))) (.call 0 (.cons (.var 0) (.cons (.int 2) .nil))))) .nil)))
        [.val (.loc a), .val (.int full), .val (.lst (ls.map .str)), .val (.loc p), v4, v5, v6, v7, v8, v9, v10, v11] M6 (enOf Q) := by
    intro ys M6 c6 v4 v5 v6 v7 v8 v9 v10 v11 ok pw ly g hc6
    conv => whnf
    refine ⟨_, rfl, ?_⟩
    conv => whnf
    refine ⟨szL (by simp), ?_⟩
    conv => whnf
    refine ⟨a, 2, c6, rfl, by decide, by decide, g.pen, by omega, fun w M7 w0 w1 b7 p7 => ?_⟩
    have g7 := g.drawn hpa b7 p7
    conv => whnf
    obtain ⟨d, ed, hd⟩ := two_of (x := DL.D.int 1) (y := DL.D.int (-1)) w0 w1
    rcases hd with rfl | rfl
    · refine ⟨_, ed, _, g7.view, .inl ⟨rfl, ?_⟩⟩
      conv => whnf
      exact ⟨_, _, rfl, rfl, q ys M7 ok pw (by omega) g7.k (p7.mono (by omega))⟩
    · refine ⟨_, ed, _, g7.view, .inr ⟨rfl, ?_⟩⟩
      conv => whnf
      refine ⟨_, _, rfl, rfl, ?_⟩
      rw [← List.map_reverse]
      exact q ys.reverse M7 (fun x m => ok x (List.mem_reverse.mp m)) (List.pairwise_reverse.mpr (pw.imp fun h => h.symm)) (by rw [List.length_reverse]; omega) g7.k (p7.mono (by omega))
  generalize hM1 : updM M p (.co (.L [])) = M1 at G0
  conv => whnf
  refine ⟨_, rfl, ?_⟩
  refine ic_ (fun h0 => ?_) fun _ => ?_
  rotate_left
  · conv => whnf
    refine ⟨_, rfl, ?_⟩
    conv => whnf
    exact fin [] _ _ _ _ _ _ _ _ _ _ (fun _ m => nomatch m) .nil (Nat.zero_le _) G0 (by omega)
  have f2 : 1 < full := of_decide_eq_true h0
  conv => whnf
  refine ⟨a, 3, c, rfl, by decide, by decide, G0.pen, by omega, fun r0 M2 _ _ b2 p2 => ?_⟩
  have G2 := G0.drawn hpa b2 p2
  conv => whnf
  refine ⟨_, rfl, ?_⟩
  refine ic_ (fun _ => ?_) fun _ => ?_
  rotate_left
  · conv => whnf
    exact fin [] _ _ _ _ _ _ _ _ _ _ (fun _ m => nomatch m) .nil (Nat.zero_le _) G2 (by omega)
  conv => whnf
  refine ⟨a, full - 1, c + 1, rfl, by omega, by omega, G2.pen, by omega, fun st M3 s0 s1 b3 p3 => ?_⟩
  have G3 := G2.drawn hpa b3 p3
  conv => whnf
  refine ⟨a, full - 1 - st, _, rfl, by omega, by omega, G3.pen, by omega, fun d1 M4 d0 d1' b4 p4 => ?_⟩
  have G4 := G3.drawn hpa b4 p4
  conv => whnf
  refine ⟨p, rfl, ⟨_, G4.at_, trivial⟩, ?_⟩
  conv => whnf
  refine ⟨_, rfl, ?_⟩
  conv => whnf
  have ml : ((ls.map DL.D.str).length : Int) = 3 := by rw [List.length_map, l3]; rfl
  refine ⟨a, _, _, rfl, by rw [ml]; decide, by rw [ml]; decide, G4.pen, by omega, fun at' M5 a0 a1 b5 p5 => ?_⟩
  rw [ml] at a1
  have G5 := G4.drawn hpa b5 p5
  obtain ⟨k1, hk1, mk1, ek1⟩ := at3 (by omega : 3 ≤ ls.length) a0 a1
  conv => whnf
  refine ⟨_, ek1, ?_⟩
  conv => whnf
  refine ⟨szL (by simp), ?_⟩
  conv => whnf
  refine ⟨_, G5.at_, by simp [sizeLine_eq], ?_⟩
  let S1 : Sec := ⟨st, 1 + d1, k1⟩
  have S1ok : SecOk full S1 := ⟨s0, by show (1 : Int) ≤ 1 + d1; omega, nok k1 mk1, by show st + (1 + d1) < full; omega⟩
  have G6 : Grown a p M (([S1] : List Sec).map dSec) (updM M5 p (.co (.L (([S1] : List Sec).map dSec)))) _ := G5.put hpa hp0
  conv => whnf
  refine ⟨a, 3, _, rfl, by decide, by decide, G6.pen, by omega, fun way M7 _ _ b7 p7 => ?_⟩
  have G7 := G6.drawn hpa b7 p7
  -- the second way
  have two : ∀ (xs : List Sec) (M8 : Mem) (c8 : Int) (v7 v8 v9 v10 v11 : LV), (∀ x ∈ xs, SecOk full x) → xs.Pairwise Together → xs.length ≤ 3 → (way = 2 → xs = [S1]) → Grown a p M (xs.map dSec) M8 c8 → c8 ≤ c + 20 →
      wpS tab (.cond (.and (.cmp .eq (.var 6) (.int 2)) (.cmp .lt (.bin .add (.var 4) (.var 5)) (.bin .sub (.var 1) (.int 1)))) (.seq (.set 7 (.bin .add (.bin .add (.var 4) (.var 5)) (.call 0 (.cons (.var 0) (.cons (.bin .sub (.bin .sub (.bin .sub (.var 1) (.int 1)) (.var 4)) (.var 5)) .nil)))))
  (.expr (.pm .append (.var 3) (.cons (.tup (.cons (.var 7) (.cons (.bin .add (.int 1) (.call 0 (.cons (.var 0) (.cons (.bin .sub (.bin .sub (.var 1) (.int 1)) (.var 7)) .nil)))) (.cons (.idx (.var 2) (.call 0 (.cons (.var 0) (.cons (.bi .len (.cons (.var 2) .nil)) .nil)))) .nil)))) .nil)))) .skip)
        [.val (.loc a), .val (.int full), .val (.lst (ls.map .str)), .val (.loc p), .val (.int st), .val (.int (1 + d1)), .val (.int way), v7, v8, v9, v10, v11] M8
        { (enOf Q) with nx := fun ρ M => wpS tab (.ret (.bi .tuple (.cons (.stp (.var 3) (.idx (.lst (.cons (.int 1) (.cons (.neg (.int 1)) .nil))) (.call 0 (.cons (.var 0) (.cons (.int 2) .nil))))) .nil))) ρ M (enOf Q) } := by
    intro xs M8 c8 v7 v8 v9 v10 v11 ok pw lx e2 g hc8
    conv => whnf
    refine ⟨rfl, ?_⟩
    conv => whnf
    refine ⟨_, rfl, ?_⟩
    refine ic_ (fun h => ?_) fun _ => ?_
    rotate_left
    · conv => whnf
      exact ⟨_, rfl, fin xs _ _ _ _ _ _ _ _ _ _ ok pw lx g (by omega)⟩
    have hw2 : way = 2 := of_decide_eq_true (show decide (way = 2) = true from h)
    obtain rfl := e2 hw2
    conv => whnf
    refine ⟨_, rfl, ?_⟩
    refine ic_ (fun h => ?_) fun _ => ?_
    rotate_left
    · conv => whnf
      exact fin [S1] _ _ _ _ _ _ _ _ _ _ ok pw lx g (by omega)
    have hlt : st + (1 + d1) < full - 1 := of_decide_eq_true h
    conv => whnf
    refine ⟨a, full - 1 - st - (1 + d1), _, rfl, by omega, by omega, g.pen, by omega, fun d2 M9 e0 e1 b9 p9 => ?_⟩
    have g9 := g.drawn hpa b9 p9
    conv => whnf
    refine ⟨p, rfl, ⟨_, g9.at_, trivial⟩, ?_⟩
    conv => whnf
    refine ⟨a, full - 1 - (st + (1 + d1) + d2), _, rfl, by omega, by omega, g9.pen, by omega, fun d3 M10 u0 u1 b10 p10 => ?_⟩
    have g10 := g9.drawn hpa b10 p10
    conv => whnf
    refine ⟨_, rfl, ?_⟩
    conv => whnf
    refine ⟨a, _, _, rfl, by rw [ml]; decide, by rw [ml]; decide, g10.pen, by omega, fun at2 M11 v0 v1 b11 p11 => ?_⟩
    rw [ml] at v1
    have g11 := g10.drawn hpa b11 p11
    obtain ⟨k2, hk2, mk2, ek2⟩ := at3 (by omega : 3 ≤ ls.length) v0 v1
    conv => whnf
    refine ⟨_, ek2, ?_⟩
    conv => whnf
    refine ⟨szL (by simp), ?_⟩
    conv => whnf
    refine ⟨_, g11.at_, by simp [sizeLine_eq], ?_⟩
    let S2 : Sec := ⟨st + (1 + d1) + d2, 1 + d3, k2⟩
    have G12 : Grown a p M (([S1, S2] : List Sec).map dSec) (updM M11 p (.co (.L (([S1, S2] : List Sec).map dSec)))) _ := g11.put hpa hp0
    refine fin [S1, S2] _ _ _ _ _ _ _ _ _ _ (fun x mx => ?_) (List.pairwise_cons.mpr ⟨fun y my => ?_, List.pairwise_singleton ..⟩) (by simp) G12 (by omega)
    · rcases List.mem_cons.mp mx with rfl | mx
      · exact S1ok
      · rw [List.mem_singleton.mp mx]
        exact ⟨by show 0 ≤ st + (1 + d1) + d2; omega, by show 1 ≤ 1 + d3; omega, nok k2 mk2, by show st + (1 + d1) + d2 + (1 + d3) < full; omega⟩
    · rw [List.mem_singleton.mp my]
      exact .inl (by show st + (1 + d1) ≤ st + (1 + d1) + d2; omega)
  conv => whnf
  refine ⟨rfl, ?_⟩
  conv => whnf
  refine ⟨_, rfl, ?_⟩
  refine ic_ (fun h => ?_) fun _ => ?_
  rotate_left
  · exact two [S1] _ _ _ _ _ _ _ (fun x mx => by rw [List.mem_singleton.mp mx]; exact S1ok) (List.pairwise_singleton ..) (by simp) (fun _ => rfl) G7 (by omega)
  have hw1 : way = 1 := of_decide_eq_true (show decide (way = 1) = true from h)
  conv => whnf
  refine ⟨a, 1 + d1, _, rfl, by omega, by omega, G7.pen, by omega, fun e M8 e0 e1 b8 p8 => ?_⟩
  have G8 := G7.drawn hpa b8 p8
  conv => whnf
  refine ⟨_, rfl, trivial, fun _ => ?_⟩
  refine compL_if DL.D.str (fun s => !decide (s = k1)) DL.D.str (fun s ms K kk => ?_) ?_
  · conv => whnf
    rw [G8.view]
    refine ⟨_, rfl, ?_⟩
    conv => whnf
    refine ⟨_, rfl, ?_⟩
    conv => whnf
    refine ⟨rfl, ?_⟩
    conv => whnf
    refine ⟨_, rfl, rfl, ?_⟩
    by_cases h : s = k1
    · refine if_ (by rw [h]; exact eq_false_self k1) ?_
      rw [decide_eq_true h] at kk
      exact kk
    · refine it_ ?_ ?_
      · show (!decide (s = k1)) = true
        rw [decide_eq_false h]; rfl
      rw [decide_eq_false h] at kk
      conv => whnf
      exact ⟨rfl, kk⟩
  rw [List.nil_append]
  conv => whnf
  refine ⟨p, rfl, ⟨_, G8.at_, trivial⟩, ?_⟩
  conv => whnf
  refine ⟨a, st + (1 + d1) - (st + e), _, rfl, by omega, by omega, G8.pen, by omega, fun d2 M9 u0 u1 b9 p9 => ?_⟩
  have G9 := G8.drawn hpa b9 p9
  conv => whnf
  refine ⟨_, rfl, ?_⟩
  conv => whnf
  have lo : ((((ls.filter fun s => !decide (s = k1)).map DL.D.str).length : Nat) : Int) = 2 := by rw [List.length_map, others l3 nd mk1]; rfl
  refine ⟨a, _, _, rfl, by rw [lo]; decide, by rw [lo]; decide, G9.pen, by omega, fun at2 M10 v0 v1 b10 p10 => ?_⟩
  rw [lo] at v1
  have G10 := G9.drawn hpa b10 p10
  obtain ⟨k2, mk2, ek2⟩ : ∃ k2 : Str, k2 ∈ (ls.filter fun s => !decide (s = k1)) ∧ atI ((ls.filter fun s => !decide (s = k1)).map DL.D.str) at2 = some (.str k2) := by
    obtain ⟨j, rfl⟩ : ∃ j : Nat, at2 = (j : Int) := ⟨at2.toNat, by omega⟩
    have hj : j < (ls.filter fun s => !decide (s = k1)).length := by rw [others l3 nd mk1]; omega
    refine ⟨_, List.getElem_mem hj, atI_nat ?_⟩
    rw [List.getElem?_map, List.getElem?_eq_getElem hj]
    rfl
  obtain ⟨mk2, nk2⟩ := List.mem_filter.mp mk2
  have nk2 : k2 ≠ k1 := by simpa using nk2
  conv => whnf
  refine ⟨_, ek2, ?_⟩
  conv => whnf
  refine ⟨szL (by simp), ?_⟩
  conv => whnf
  refine ⟨_, G10.at_, by simp [sizeLine_eq], ?_⟩
  let S2 : Sec := ⟨st + e, 1 + d2, k2⟩
  have G11 : Grown a p M (([S1, S2] : List Sec).map dSec) (updM M10 p (.co (.L (([S1, S2] : List Sec).map dSec)))) _ := G10.put hpa hp0
  have ok2 : ∀ x ∈ [S1, S2], SecOk full x := fun x mx => by
    rcases List.mem_cons.mp mx with rfl | mx
    · exact S1ok
    · rw [List.mem_singleton.mp mx]
      exact ⟨by show 0 ≤ st + e; omega, by show 1 ≤ 1 + d2; omega, nok k2 mk2, by show st + e + (1 + d2) < full; omega⟩
  have tog12 : Together S1 S2 := .inr (.inr ⟨fun z => nk2 z.symm, .inr ⟨by show st ≤ st + e; omega, by show st + e + (1 + d2) ≤ st + (1 + d1); omega⟩⟩)
  have pw2 : ([S1, S2] : List Sec).Pairwise Together := List.pairwise_cons.mpr ⟨fun y my => by rw [List.mem_singleton.mp my]; exact tog12, List.pairwise_singleton ..⟩
  conv => whnf
  refine ⟨a, 2, _, rfl, by decide, by decide, G11.pen, by omega, fun z M12 z0 z1 b12 p12 => ?_⟩
  have G12 := G11.drawn hpa b12 p12
  conv => whnf
  refine ⟨rfl, ?_⟩
  conv => whnf
  refine ⟨_, rfl, ?_⟩
  refine ic_ (fun _ => ?_) fun _ => ?_
  rotate_left
  · exact two [S1, S2] _ _ _ _ _ _ _ ok2 pw2 (by simp) (fun z => by omega) G12 (by omega)
  conv => whnf
  refine ⟨_, rfl, trivial, fun _ => ?_⟩
  refine compL_if DL.D.str (fun s => !(decide (k1 = s) || decide (k2 = s))) DL.D.str (fun s ms K kk => ?_) ?_
  · conv => whnf
    rw [G12.view]
    refine ⟨_, rfl, ?_⟩
    conv => whnf
    refine ⟨_, rfl, ?_⟩
    conv => whnf
    rw [G12.view]
    refine ⟨_, rfl, ?_⟩
    conv => whnf
    refine ⟨_, rfl, ?_⟩
    conv => whnf
    refine ⟨szL (by simp), ?_⟩
    conv => whnf
    refine ⟨rfl, ?_⟩
    conv => whnf
    refine ⟨_, rfl, rfl, ?_⟩
    have eb : (!([DL.D.str k1, DL.D.str k2].any fun d => deq d (.str s))) = !(decide (k1 = s) || decide (k2 = s)) := by
      show (!((decide (k1 = s)) || ((decide (k2 = s)) || false))) = _
      rw [Bool.or_false]
    refine ic_ (fun h => ?_) fun h => ?_
    · have h : (!(decide (k1 = s) || decide (k2 = s))) = true := eb.symm.trans h
      rw [h] at kk
      conv => whnf
      exact ⟨rfl, kk⟩
    · have h : (!(decide (k1 = s) || decide (k2 = s))) = false := eb.symm.trans h
      rw [h] at kk
      exact kk
  rw [List.nil_append]
  obtain ⟨k3, r3, e3⟩ : ∃ k3 r3, (ls.filter fun s => !(decide (k1 = s) || decide (k2 = s))) = k3 :: r3 := List.exists_cons_of_ne_nil (third l3 nd k1 k2)
  have m3 : k3 ∈ ls.filter fun s => !(decide (k1 = s) || decide (k2 = s)) := by rw [e3]; exact List.mem_cons_self
  obtain ⟨mk3, nk3⟩ := List.mem_filter.mp m3
  have nk3 : k1 ≠ k3 ∧ k2 ≠ k3 := by simpa using nk3
  rw [e3]
  have e0 : atI ((k3 :: r3).map DL.D.str) 0 = some (.str k3) := atI_nat (xs := (k3 :: r3).map DL.D.str) (j := 0) rfl
  conv => whnf
  refine ⟨_, e0, ?_⟩
  conv => whnf
  rw [G12.view]
  refine ⟨_, rfl, ?_⟩
  conv => whnf
  refine ⟨_, rfl, ?_⟩
  conv => whnf
  refine ⟨a, 1 + d2, _, rfl, by omega, by omega, G12.pen, by omega, fun g M13 g0 g1 b13 p13 => ?_⟩
  have G13 := G12.drawn hpa b13 p13
  conv => whnf
  refine ⟨p, rfl, ⟨_, G13.at_, trivial⟩, ?_⟩
  conv => whnf
  rw [G13.view]
  refine ⟨_, rfl, ?_⟩
  conv => whnf
  refine ⟨_, rfl, ?_⟩
  conv => whnf
  refine ⟨a, st + e + (1 + d2) - (st + e + g), _, rfl, by omega, by omega, G13.pen, by omega, fun d3 M14 t0 t1 b14 p14 => ?_⟩
  have G14 := G13.drawn hpa b14 p14
  conv => whnf
  refine ⟨szL (by simp), ?_⟩
  conv => whnf
  refine ⟨_, G14.at_, by simp [sizeLine_eq], ?_⟩
  let S3 : Sec := ⟨st + e + g, 1 + d3, k3⟩
  have G15 : Grown a p M (([S1, S2, S3] : List Sec).map dSec) (updM M14 p (.co (.L (([S1, S2, S3] : List Sec).map dSec)))) _ := G14.put hpa hp0
  refine two [S1, S2, S3] _ _ _ _ _ _ _ (fun x mx => ?_) (List.pairwise_cons.mpr ⟨fun y my => ?_, List.pairwise_cons.mpr ⟨fun y my => ?_, List.pairwise_singleton ..⟩⟩) (by simp) (fun z => by omega) G15 (by omega)
  · rcases List.mem_cons.mp mx with rfl | mx
    · exact S1ok
    · rcases List.mem_cons.mp mx with rfl | mx
      · exact ok2 _ (by simp)
      · rw [List.mem_singleton.mp mx]
        exact ⟨by show 0 ≤ st + e + g; omega, by show 1 ≤ 1 + d3; omega, nok k3 mk3, by show st + e + g + (1 + d3) < full; omega⟩
  · rcases List.mem_cons.mp my with rfl | my
    · exact tog12
    · rw [List.mem_singleton.mp my]
      exact .inr (.inr ⟨nk3.1, .inr ⟨by show st ≤ st + e + g; omega, by show st + e + g + (1 + d3) ≤ st + (1 + d1); omega⟩⟩)
  · rw [List.mem_singleton.mp my]
    exact .inr (.inr ⟨nk3.2, .inr ⟨by show st + e ≤ st + e + g; omega, by show st + e + g + (1 + d3) ≤ st + e + (1 + d2); omega⟩⟩)
end LawW

set_option Elab.async false
set_option linter.all false
set_option maxRecDepth 100000
namespace LawW
open PySem L2 DL
theorem nodup_of_map {α β : Type} {f : α → β} : ∀ {l : List α}, (l.map f).Nodup → l.Nodup := fun {l} h => by
  rw [List.nodup_iff_pairwise_ne] at h ⊢
  rw [List.pairwise_map] at h
  exact h.imp fun hne e => hne (by rw [e])
theorem range_ints {n : Nat} : ((List.range n).map fun k => DL.D.int (k : Nat)) = ((List.range n).map fun (k : Nat) => (k : Int)).map DL.D.int := by rw [List.map_map]; rfl
theorem fit_raws3 : Fits tab 12 T__law_raw spRaws3 := by
  rintro ds M Q ⟨a, many, wide, c, rfl, m1, m20, w1, wL, hp, hc, q⟩
  conv => whnf
  refine ⟨a, _, c, rfl, by omega, by omega, hp, by omega, fun xs M1 xl xnd xok b1 p1 => ?_⟩
  conv => whnf
  refine ⟨_, rfl, ⟨by omega, by omega⟩, ?_⟩
  conv => whnf
  refine ⟨_, rfl, ?_⟩
  rw [range_ints]
  conv => whnf
  refine ⟨szL (by simp), _, rfl, ?_⟩
  conv => whnf
  refine ⟨_, rfl, ⟨by omega, by omega⟩, ?_⟩
  refine forL_inv (fun j ρ M' => KeepB a M M' ∧ PenM (c + 100 + 200 * j) M' a ∧ ∃ (rs : List Raw) (left : List Int) (v6 v7 v8 v9 v10 v11 : LV), ρ = [.val (.loc a), .val (.int many), .val (.int wide), .val (.lst (xs.map .str)), .own (.L (left.map .int)), .own (.L (rs.map dRaw)), v6, v7, v8, v9, v10, v11] ∧ rs.length = j ∧ rs.map (·.nm) = xs.take j ∧ (rs.map (fun r : Raw => (r.rk - 1) / 3) ++ left).Perm ((List.range many.toNat).map fun (k : Nat) => (k : Int)) ∧ ∀ r ∈ rs, RawOk r ∧ RawS r ∧ r.rk < 400)
    ⟨b1.keepB, by simpa using p1, [], _, _, _, _, _, _, _, rfl, rfl, by simp, by simp, by simp⟩ ?_ ?_
  · rintro j d ρ M' K hd ⟨bt, pt, rs, left, v6, v7, v8, v9, v10, v11, rfl, hj, hn, hpm, hok⟩ k1 k2 k3 k4
    obtain ⟨hjl, rfl⟩ := rng_get hd
    have hl : left.length = many.toNat - j := by
      have := hpm.length_eq
      rw [List.length_append, List.length_map, hj, List.length_map, List.length_range] at this
      omega
    conv => whnf
    refine ⟨⟨_, rfl, trivial⟩, ?_⟩
    conv => whnf
    refine ⟨_, rfl, ?_⟩
    conv => whnf
    have hlm : ((left.map DL.D.int).length : Int) = (left.length : Int) := by rw [List.length_map]
    refine ⟨a, _, _, rfl, by rw [hlm]; omega, by rw [hlm]; omega, pt, by omega, fun g M6 g0 g1 b6 p6 => ?_⟩
    rw [hlm] at g1
    obtain ⟨k, rfl⟩ : ∃ k : Nat, g = (k : Int) := ⟨g.toNat, by omega⟩
    have hk : k < left.length := by omega
    obtain ⟨y, hy⟩ : ∃ y, left[k]? = some y := ⟨_, List.getElem?_eq_getElem hk⟩
    conv => whnf
    refine ⟨_, rfl, k, .int y, by omega, rfl, by rw [List.getElem?_map, hy]; rfl, ?_⟩
    have my : y ∈ (List.range many.toNat).map fun (k : Nat) => (k : Int) := hpm.mem_iff.mp (List.mem_append_right _ (List.mem_of_getElem? hy))
    have hy1 : 0 ≤ y ∧ y < many := by
      obtain ⟨z, mz, rfl⟩ := List.mem_map.mp my
      have := List.mem_range.mp mz
      omega
    conv => whnf
    refine ⟨.inl (by decide), ?_⟩
    conv => whnf
    refine ⟨a, 3, _, rfl, by decide, by decide, p6, by omega, fun e3 M7 e30 e31 b7 p7 => ?_⟩
    conv => whnf
    refine ⟨szL (by simp), ?_⟩
    conv => whnf
    refine ⟨a, 2, _, rfl, by decide, by decide, p7, by omega, fun f2 M8 f20 f21 b8 p8 => ?_⟩
    obtain ⟨lim, elim, hlim⟩ : ∃ lim : Int, atI [DL.D.int 3, DL.D.int 6] f2 = some (.int lim) ∧ 1 ≤ lim ∧ lim ≤ 6 := by
      obtain ⟨d, e1, e2⟩ := two_of (x := DL.D.int 3) (y := DL.D.int 6) f20 f21
      rcases e2 with rfl | rfl
      · exact ⟨3, e1, by omega⟩
      · exact ⟨6, e1, by omega⟩
    conv => whnf
    refine ⟨_, elim, ?_⟩
    conv => whnf
    refine ⟨a, lim, _, rfl, by omega, by omega, p8, by omega, fun dl M9 dl0 dl1 b9 p9 => ?_⟩
    conv => whnf
    refine ⟨a, wide, _, rfl, by omega, by omega, p9, by omega, fun db M10 db0 db1 b10 p10 => ?_⟩
    conv => whnf
    refine ⟨a, 1 + dl + db, _, rfl, by omega, by omega, p10, by omega, fun du M11 du0 du1 b11 p11 => ?_⟩
    conv => whnf
    refine ⟨szL (by simp), ?_⟩
    conv => whnf
    refine ⟨a, 2, _, rfl, by decide, by decide, p11, by omega, fun f3 M12 f30 f31 b12 p12 => ?_⟩
    obtain ⟨due, edue, hdue⟩ : ∃ due : Int, atI [DL.D.int (1 + dl + db), DL.D.int (1 + du)] f3 = some (.int due) ∧ 1 ≤ due ∧ due ≤ 1 + dl + db := by
      obtain ⟨d, e1, e2⟩ := two_of (x := DL.D.int (1 + dl + db)) (y := DL.D.int (1 + du)) f30 f31
      rcases e2 with rfl | rfl
      · exact ⟨_, e1, by omega⟩
      · exact ⟨_, e1, by omega⟩
    conv => whnf
    refine ⟨_, edue, ?_⟩
    conv => whnf
    refine ⟨a, 4, _, rfl, by decide, by decide, p12, by omega, fun dw M13 dw0 dw1 b13 p13 => ?_⟩
    conv => whnf
    refine ⟨szL (by simp), ?_⟩
    conv => whnf
    refine ⟨a, 3, _, rfl, by decide, by decide, p13, by omega, fun f4 M14 f40 f41 b14 p14 => ?_⟩
    obtain ⟨wt, ewt, hwt⟩ : ∃ wt : Int, atI [DL.D.int 0, DL.D.int 0, DL.D.int dw] f4 = some (.int wt) ∧ 0 ≤ wt ∧ wt < 4 := by
      have : f4 = 0 ∨ f4 = 1 ∨ f4 = 2 := by omega
      rcases this with rfl | rfl | rfl
      · exact ⟨0, rfl, by omega⟩
      · exact ⟨0, rfl, by omega⟩
      · exact ⟨dw, rfl, by omega⟩
    conv => whnf
    refine ⟨_, ewt, ?_⟩
    conv => whnf
    refine ⟨⟨_, rfl, trivial⟩, ?_⟩
    obtain ⟨x, hxj⟩ : ∃ x, xs[j]? = some x := ⟨_, List.getElem?_eq_getElem (by omega)⟩
    have mx : x ∈ xs := List.mem_of_getElem? hxj
    conv => whnf
    refine ⟨.str x, atI_nat (by rw [List.getElem?_map, hxj]; rfl), ?_⟩
    conv => whnf
    refine ⟨_, rfl, ?_⟩
    conv => whnf
    have ecut : cutD (xs.map DL.D.str) (some many) none = (xs.drop many.toNat).map .str := by
      have em : many = (many.toNat : Int) := by omega
      rw [em, Int.toNat_natCast, cut_drop (by rw [List.length_map]; omega), List.map_drop]
    rw [ecut]
    refine ⟨a, 1 + dl, xs.drop many.toNat, _, rfl, by omega, by omega, by rw [List.length_drop]; omega, xnd.sublist (List.drop_sublist ..), fun z mz => xok z (List.mem_of_mem_drop mz), p14, by omega, fun ss M15 s1 s2 s3 b15 p15 => ?_⟩
    conv => whnf
    refine ⟨szL (by simp), ?_⟩
    conv => whnf
    refine ⟨_, rfl, by rw [List.length_map, sizeLine_eq]; omega, ?_⟩
    let r : Raw := ⟨x, 1 + 3 * y + e3, 1 + dl + db, 1 + dl, due, wt, ss⟩
    have rok : RawOk r := ⟨xok x mx, by show 1 ≤ 1 + 3 * y + e3; omega, by show 1 + 3 * y + e3 < LIM; unfold LIM; omega, by show 1 ≤ 1 + dl + db; omega, by show 1 + dl + db < LIM; unfold LIM; omega, by show 1 ≤ 1 + dl; omega, by show 1 + dl < LIM; unfold LIM; omega, hdue.1, hdue.2, hwt.1, by show wt < LIM; unfold LIM; omega, s1, s2, s3⟩
    have rs' : RawS r := ⟨by show 1 + dl < 100000; omega, by show wt < 100000; omega, by show 1 + dl + db < 100000; omega⟩
    refine k1 _ _ ⟨(bt.trans (((((((((b6.trans b7).trans b8).trans b9).trans b10).trans b11).trans b12).trans b13).trans b14).keepB)).trans b15, p15.mono (by omega), rs ++ [r], left.eraseIdx k, .val (.int (j : Nat)), .val (.int (1 + 3 * y + e3)), .val (.int (1 + dl)), .val (.int (1 + dl + db)), .val (.int due), .val (.int wt), ?_, by rw [List.length_append, hj]; rfl, ?_, ?_, fun z mz => ?_⟩
    rotate_left
    · rw [List.map_append, hn, List.take_add_one, hxj]; rfl
    · rw [List.map_append, List.append_assoc]
      refine List.Perm.trans ?_ hpm
      refine List.Perm.append_left _ ?_
      have er : (r.rk - 1) / 3 = y := by show (1 + 3 * y + e3 - 1) / 3 = y; omega
      show ([(r.rk - 1) / 3] ++ left.eraseIdx k).Perm left
      rw [er]
      exact (eraseIdx_perm hy).symm
    · rcases List.mem_append.mp mz with mz | mz
      · exact hok z mz
      · rw [List.mem_singleton.mp mz]; exact ⟨rok, rs', by show 1 + 3 * y + e3 < 400; omega⟩
    · rw [List.map_append, erase_map]
      rfl
  · rintro ρ M' ⟨bt, pt, rs, left, v6, v7, v8, v9, v10, v11, rfl, hj, hn, hpm, hok⟩
    rw [List.length_map, List.length_range] at hj hn pt
    have hl : left = [] := by
      have := hpm.length_eq
      rw [List.length_append, List.length_map, hj, List.length_map, List.length_range] at this
      exact List.length_eq_zero_iff.mp (by omega)
    subst hl
    rw [List.append_nil] at hpm
    have nd : ((List.range many.toNat).map fun (k : Nat) => (k : Int)).Nodup := by
      rw [List.nodup_iff_pairwise_ne, List.pairwise_map]
      exact (List.nodup_iff_pairwise_ne.mp List.nodup_range).imp fun h => by omega
    have nd2 : (rs.map (·.rk)).Nodup := by
      refine nodup_of_map (f := fun z : Int => (z - 1) / 3) ?_
      rw [List.map_map]
      exact hpm.nodup_iff.mpr nd
    conv => whnf
    exact q rs M' ⟨⟨by rw [hn]; exact xnd.sublist (List.take_sublist ..), nd2, fun r hr => (hok r hr).1, by omega⟩, by omega, fun r hr => ⟨(hok r hr).2.2, (hok r hr).2.1⟩⟩ bt (pt.mono (by omega))
theorem fit_plan3 : Fits tab 3 T__law_plan spMade := by
  rintro ds M Q ⟨rs, rfl, h, q⟩
  conv => whnf
  refine ⟨szL (by simp), _, rfl, ?_⟩
  conv => whnf
  refine ⟨_, rfl, trivial, fun _ => ?_⟩
  refine forL_inv (fun j ρ M' => M' = M ∧ ∃ (ts : List Raw) (v2 : LV), ρ = [.val (.lst (rs.map dRaw)), .own (.L (ts.map dTask)), v2] ∧ TasksOf (rs.take j) ts) ⟨rfl, [], _, rfl, .nil⟩ ?_ ?_
  · rintro j d ρ M' K hd ⟨rfl, ts, v2, rfl, ht⟩ k1 k2 k3 k4
    rw [List.getElem?_map] at hd
    cases hr : rs[j]? with
    | none => rw [hr] at hd; cases hd
    | some r =>
      rw [hr] at hd
      obtain rfl : dRaw r = d := Option.some.inj hd
      have etk : rs.take (j + 1) = rs.take j ++ [r] := by rw [List.take_add_one, hr]; rfl
      have hlt : ts.length ≤ j := by
        have := ht.maps.2.2
        rw [List.length_take] at this
        omega
      have hj : j < rs.length := (List.getElem?_eq_some_iff.mp hr).1
      have hf := h.few
      repeat ((conv => whnf); first | refine ⟨⟨_, rfl, trivial⟩, ?_⟩ | refine ⟨_, rfl, ?_⟩)
      refine ⟨⟨rfl, rfl⟩, r, rfl, h.ok r (List.mem_of_getElem? hr), fun t htt => ?_⟩
      conv => whnf
      refine ⟨_, rfl, by rw [List.length_map, sizeLine_eq]; omega, ?_⟩
      refine k1 _ _ ⟨rfl, ts ++ [t], _, by rw [List.map_append]; rfl, ?_⟩
      rw [etk]
      exact ht.snoc htt
  · rintro ρ M' ⟨rfl, ts, v2, rfl, ht⟩
    rw [List.length_map, List.take_length] at ht
    obtain ⟨e1, e2, e3⟩ := ht.maps
    conv => whnf
    refine ⟨ts, _, rfl, rfl, trivial, by rw [e1]; exact h.nms, by rw [e2]; exact h.rks, by rw [e3]; exact h.few, ht.ok h.ok, fun pl hp => ?_⟩
    exact q ts pl ht hp
end LawW

set_option Elab.async false
set_option linter.all false
set_option maxRecDepth 100000
namespace LawW
open PySem L2 DL
/-! ### orders -/
theorem leD_tot : PySem.W.TotalLe leD := PySem.W.sortLe_total _ false _
theorem leR_iff (a b : Raw) : leR a b = true ↔ a.rk ≤ b.rk := by
  have : leR a b = !decide (b.rk < a.rk) := by
    show (!(PyProof.Rows.lexLt PyProof.Rows.itemOrd (PySem.W.keyToks (py (.int b.rk))) (PySem.W.keyToks (py (.int a.rk))))) = _
    simp only [py, PySem.W.keyToks, PyProof.Rows.lexLt, PyProof.Rows.itemLt, Bool.and_false, Bool.or_false]
  rw [this, Bool.not_eq_true', decide_eq_false_iff_not]
  omega
theorem leP_iff (a b : Int × Int) : leP a b = true ↔ a.1 < b.1 ∨ (a.1 = b.1 ∧ a.2 ≤ b.2) := by
  have e : ∀ x : Int × Int, PySem.W.keyToks (py (pairD x)) = [.inl 1, .inl x.1, .inl 1, .inl x.2, .inl 0] := fun x => by
    unfold pairD
    simp only [py, pys, PySem.W.keyToks, PySem.W.keyToksAll, List.cons_append, List.nil_append]
  have : leP a b = !(decide (b.1 < a.1) || (!decide (a.1 < b.1) && decide (b.2 < a.2))) := by
    show (!(PyProof.Rows.lexLt PyProof.Rows.itemOrd (PySem.W.keyToks (py (pairD b))) (PySem.W.keyToks (py (pairD a))))) = _
    rw [e, e]
    simp only [PyProof.Rows.lexLt, PyProof.Rows.itemLt, Int.lt_irrefl, decide_false, Bool.false_or, Bool.not_false, Bool.true_and, Bool.and_false, Bool.or_false]
  rw [this]
  simp only [Bool.not_eq_true', Bool.or_eq_false_iff, Bool.and_eq_false_iff, decide_eq_false_iff_not, Bool.not_eq_false', decide_eq_true_eq]
  omega
theorem msort_pw {α : Type} {f : α → DL.D} (l : List α) : (l.mergeSort fun a b => leD (f a) (f b)).Pairwise fun a b => leD (f a) (f b) = true :=
  List.pairwise_mergeSort (fun a b c => leD_tot.trans (f a) (f b) (f c)) (fun a b => by rw [Bool.or_eq_true]; exact leD_tot.total (f a) (f b)) l
/-- the tasks by rank: there is one way alone -/
theorem by_rank {xs ts : List Raw} (hp : xs.Perm ts) (hx : xs.Pairwise fun a b => a.rk < b.rk) (nd : (ts.map (·.rk)).Nodup) : xs = ts.mergeSort leR := by
  refine List.Perm.eq_of_pairwise (le := fun a b => leR a b = true) (fun a b ma mb h1 h2 => ?_) (hx.imp fun h => (leR_iff _ _).mpr (by omega)) (msort_pw (f := fun r : Raw => DL.D.int r.rk) ts) (hp.trans (List.mergeSort_perm ts leR).symm)
  have e : a.rk = b.rk := by have := (leR_iff a b).mp h1; have := (leR_iff b a).mp h2; omega
  have mb : b ∈ ts := (List.mergeSort_perm ts leR).mem_iff.mp mb
  have ma : a ∈ ts := hp.mem_iff.mp ma
  have : ∀ {l : List Raw}, (l.map (·.rk)).Nodup → a ∈ l → b ∈ l → a = b := by
    intro l nd ha hb
    induction l with
    | nil => cases ha
    | cons y l ih =>
      rw [List.map_cons, List.nodup_cons] at nd
      rcases List.mem_cons.mp ha with rfl | ha2
      · rcases List.mem_cons.mp hb with rfl | hb2
        · rfl
        · exact absurd (List.mem_map.mpr ⟨b, hb2, e.symm⟩) nd.1
      · rcases List.mem_cons.mp hb with rfl | hb2
        · exact absurd (List.mem_map.mpr ⟨a, ha2, e⟩) nd.1
        · exact ih nd.2 ha2 hb2
  exact this nd ma mb
/-- rows that are the same but for their order -/
theorem rows_perm {l l' : List (Int × Int)} (h : l.Perm l') : l.mergeSort leP = l'.mergeSort leP := by
  refine List.Perm.eq_of_pairwise (le := fun a b => leP a b = true) (fun a b _ _ h1 h2 => ?_) (msort_pw (f := pairD) l) (msort_pw (f := pairD) l') ((List.mergeSort_perm l leP).trans (h.trans (List.mergeSort_perm l' leP).symm))
  have e1 := (leP_iff a b).mp h1
  have e2 := (leP_iff b a).mp h2
  exact Prod.ext (by omega) (by omega)
theorem jobsIn_perm (rs : List Raw) {ws ws' : List Wish} (h : ws.Perm ws') (g : Bool) : jobsIn rs ws g = jobsIn rs ws' g := by
  unfold jobsIn
  congr 1
  funext r
  unfold rowsFor
  rw [rows_perm ((h.filter _).map _)]
/-- a task without its sections -/
def bare (r : Raw) : Raw := { r with secs := [] }
theorem jobsA_bare (r : Raw) (g : Bool) : ∀ (ps : List (Int × Int)) (k : Nat) (la : Option Int), jobsA (bare r) g k la ps = jobsA r g k la ps
  | [], _, _ => rfl
  | (h, w) :: ps, k, la => by
    unfold jobsA
    rw [show arrOf (bare r) la h = arrOf r la h from rfl, jobsA_bare r g ps]
    rfl
theorem jobsIn_bare (rs : List Raw) (ws : List Wish) (g : Bool) : jobsIn (rs.map bare) ws g = jobsIn rs ws g := by
  unfold jobsIn
  rw [← List.map_mergeSort (r := leR) (s := leR) (f := bare) fun a _ b _ => rfl, List.flatMap_map]
  congr 1
  funext r
  exact jobsA_bare r g _ 0 none
theorem TasksOf.bare {rs ts : List Raw} (h : TasksOf rs ts) : ts.map LawW.bare = rs.map LawW.bare := by
  induction h with
  | nil => rfl
  | cons a _ ih =>
    obtain ⟨ss, _, rfl⟩ := a
    rw [List.map_cons, List.map_cons, ih]
    rfl
theorem jobsIn_tasks {rs ts : List Raw} (h : TasksOf rs ts) (ws : List Wish) (g : Bool) : jobsIn ts ws g = jobsIn rs ws g := by
  rw [← jobsIn_bare ts, h.bare, jobsIn_bare]
/-- the rows can be sorted -/
theorem sortOk_pairs {xs : List (Int × Int)} (hz : xs.length < 64) : SortOk (xs.map pairD) := by
  have py_p : ∀ x : Int × Int, py (pairD x) = .tuple [.int x.1, .int x.2] := fun x => by
    unfold pairD
    simp only [py, pys]
  refine ⟨by rw [List.length_map]; exact hz, dats_all fun d m => ?_, deps_all (n := 60) fun d m => ?_, fun d m d' m' => ?_, .inl fun d m => ?_⟩
  · obtain ⟨x, hx, rfl⟩ := List.mem_map.mp m
    unfold pairD
    simp only [dat, dats, Bool.and_self]
  · obtain ⟨x, hx, rfl⟩ := List.mem_map.mp m
    unfold pairD
    simp only [dep, deps]
    decide
  · rw [pys_map, List.map_map] at m m'
    obtain ⟨x, hx, rfl⟩ := List.mem_map.mp m
    obtain ⟨y, hy, rfl⟩ := List.mem_map.mp m'
    show PySem.W.alike (py (pairD x)) (py (pairD y)) = true
    rw [py_p, py_p]
    simp only [PySem.W.alike, PySem.W.alikeAll, Bool.and_self]
  · rw [pys_map, List.map_map] at m
    obtain ⟨x, hx, rfl⟩ := List.mem_map.mp m
    exact ⟨_, _, py_p x⟩
theorem pairs_sorted (xs : List (Int × Int)) : (xs.map pairD).mergeSort leD = (xs.mergeSort leP).map pairD :=
  (List.map_mergeSort (r := leP) (s := leD) (f := pairD) fun a _ b _ => rfl).symm
theorem raws_sorted (rs : List Raw) {kf : DL.D → DL.D} (hk : ∀ r ∈ rs, kf (dRaw r) = .int r.rk) : ((rs.map dRaw).mergeSort fun a b => leD (kf a) (kf b)) = (rs.mergeSort leR).map dRaw :=
  (List.map_mergeSort (r := leR) (s := fun a b => leD (kf a) (kf b)) (f := dRaw) fun a ma b mb => by rw [hk a ma, hk b mb]; rfl).symm
theorem sortOk_ranks {rs : List Raw} (hz : rs.length < 64) : SortOk (rs.map fun r => DL.D.int r.rk) := by
  refine ⟨by rw [List.length_map]; exact hz, dats_all fun d m => ?_, deps_all (n := 60) fun d m => ?_, fun d m d' m' => ?_, .inr fun d m => ?_⟩
  · obtain ⟨x, hx, rfl⟩ := List.mem_map.mp m
    simp only [dat]
  · obtain ⟨x, hx, rfl⟩ := List.mem_map.mp m
    simp only [dep]
    decide
  · rw [pys_map, List.map_map] at m m'
    obtain ⟨x, hx, rfl⟩ := List.mem_map.mp m
    obtain ⟨y, hy, rfl⟩ := List.mem_map.mp m'
    show PySem.W.alike (py (.int x.rk)) (py (.int y.rk)) = true
    simp only [py, PySem.W.alike]
  · rw [pys_map, List.map_map] at m
    obtain ⟨x, hx, rfl⟩ := List.mem_map.mp m
    show py (.int x.rk) ≠ .none ∧ ∀ xs, py (.int x.rk) ≠ .tuple xs
    simp only [py]
    exact ⟨by simp, fun _ => by simp⟩
end LawW

set_option Elab.async false
set_option linter.all false
set_option maxRecDepth 100000
namespace LawW
open PySem L2 DL
def laD : Option Int → DL.D
  | none => .non
  | some l => .int l
theorem fit_need : Fits tab 4 T_need_wish spNeed := by
  rintro ds M Q ⟨pl, ts, r, w, rfl, hpl, hr, hw, q⟩
  obtain ⟨ps, ks, es, rfl, P⟩ := id hpl
  conv => whnf
  refine ⟨.inl ⟨_, rfl⟩, ?_⟩
  conv => whnf
  refine ⟨_, ts, rfl, hpl, fun xs hp hs => ?_⟩
  conv => whnf
  refine ⟨_, rfl, trivial, fun _ => ?_⟩
  refine compL_if dTask (fun _ => true) (fun t => .str t.nm) (fun t mt K kk => ?_) ?_
  · conv => whnf
    refine ⟨rfl, ?_⟩
    conv => whnf
    exact ⟨_, _, rfl, rfl, rfl, kk⟩
  have ef : (xs.filter fun _ => true) = xs := List.filter_eq_self.mpr fun _ _ => rfl
  rw [ef, List.nil_append]
  have hany : ((xs.map fun t => DL.D.str t.nm).any fun d => deq d (.str r.nm)) = true := List.any_eq_true.mpr ⟨.str r.nm, List.mem_map.mpr ⟨r, hp.mem_iff.mpr hr, rfl⟩, decide_eq_true rfl⟩
  have hany2 : (!((xs.map fun t => DL.D.str t.nm).any fun d => deq d (.str r.nm))) = false := by rw [hany]; rfl
  conv => whnf
  refine ⟨?_, ?_⟩
  · rw [Bool.and_eq_true]
    refine ⟨rfl, List.all_eq_true.mpr fun d md => ?_⟩
    obtain ⟨s, _, rfl⟩ := List.mem_map.mp md
    rfl
  conv => whnf
  refine ⟨_, rfl, ?_⟩
  refine if_ hany2 ?_
  conv => whnf
  refine ⟨_, rfl, ?_⟩
  refine if_ (decide_eq_false (by omega)) ?_
  conv => whnf
  exact q
theorem fit_jobs_of : Fits tab 10 T_jobs_of spJobsOf := by
  rintro ds M Q ⟨r, ps, g, rfl, hr, hps, q⟩
  conv => whnf
  refine ⟨szL (by simp), _, rfl, ?_⟩
  conv => whnf
  refine ⟨_, rfl, fun _ => ?_⟩
  refine forL_inv (fun j ρ M' => M' = M ∧ ∃ (acc : List Jb) (la : Option Int) (v5 v6 v7 v8 v9 : LV), ρ = [.val (dTask r), .val (.lst (ps.map pairD)), .val (.bl g), .own (.L (acc.map dJob)), .val (laD la), v5, v6, v7, v8, v9] ∧ acc.length = j ∧ jobsOf r g ps = acc ++ jobsA r g j la (ps.drop j))
    ⟨rfl, [], none, _, _, _, _, _, rfl, rfl, rfl⟩ ?_ ?_
  · rintro j d ρ M' K hd ⟨rfl, acc, la, v5, v6, v7, v8, v9, rfl, hj, hja⟩ k1 k2 k3 k4
    obtain ⟨h, w, hpj, rfl⟩ : ∃ h w, ps[j]? = some (h, w) ∧ d = .tup [.int (j : Nat), pairD (h, w)] := by
      rw [List.getElem?_map, List.getElem?_zipIdx, List.getElem?_map] at hd
      cases e : ps[j]? with
      | none => rw [e] at hd; cases hd
      | some p => rw [e] at hd; exact ⟨p.1, p.2, rfl, by rw [Nat.zero_add] at hd; exact (Option.some.inj hd).symm⟩
    have ed : ps.drop j = (h, w) :: ps.drop (j + 1) := by
      obtain ⟨h1, h2⟩ := List.getElem?_eq_some_iff.mp hpj
      rw [List.drop_eq_getElem_cons h1, h2]
    rw [ed] at hja
    have hj64 : j < 64 := by have := (List.getElem?_eq_some_iff.mp hpj).1; omega
    -- behind the arrival
    have rest : ∀ (ar : Int) (v8 v9 : LV), ar = arrOf r la h → wpS tab (.seq (.set 9 (.ife (.var 2) (.bi .max2 (.cons (.var 6) (.cons (.var 8) .nil))) (.var 6)))
  (.seq (.expr (.pmO .append 3 (.cons (.tup (.cons (.attr (.var 0) 1) (.cons (.var 5) (.cons (.var 6) (.cons (.var 8) (.cons (.var 9) (.cons (.var 7) .nil))))))) .nil)))
  (.set 4 (.var 8)))) [.val (dTask r), .val (.lst (ps.map pairD)), .val (.bl g), .own (.L (acc.map dJob)), .val (laD la), .val (.int (j : Nat)), .val (.int h), .val (.int w), .val (.int ar), v9] M' K := by
      intro ar v8 v9 ear
      have fin : ∀ rel : Int, rel = relOf g h ar → wpS tab (.seq (.expr (.pmO .append 3 (.cons (.tup (.cons (.attr (.var 0) 1) (.cons (.var 5) (.cons (.var 6) (.cons (.var 8) (.cons (.var 9) (.cons (.var 7) .nil))))))) .nil)))
  (.set 4 (.var 8))) [.val (dTask r), .val (.lst (ps.map pairD)), .val (.bl g), .own (.L (acc.map dJob)), .val (laD la), .val (.int (j : Nat)), .val (.int h), .val (.int w), .val (.int ar), .val (.int rel)] M' K := by
        intro rel erel
        conv => whnf
        refine ⟨⟨_, rfl, trivial⟩, ?_⟩
        conv => whnf
        refine ⟨_, _, rfl, rfl, ?_⟩
        conv => whnf
        refine ⟨szL (by simp), ?_⟩
        conv => whnf
        refine ⟨_, rfl, by rw [List.length_map, sizeLine_eq]; omega, ?_⟩
        subst erel ear
        refine k1 _ _ ⟨rfl, acc ++ [⟨r.nm, j, h, arrOf r la h, relOf g h (arrOf r la h), w⟩], some (arrOf r la h), _, _, _, _, _, by rw [List.map_append]; rfl, by rw [List.length_append, hj]; rfl, ?_⟩
        rw [List.append_assoc]
        exact hja
      cases g with
      | false =>
        conv => whnf
        refine ⟨_, rfl, ?_⟩
        exact fin h rfl
      | true =>
        conv => whnf
        refine ⟨_, rfl, ?_⟩
        conv => whnf
        refine ⟨_, _, rfl, ?_⟩
        exact fin _ rfl
    conv => whnf
    refine ⟨rfl, ?_⟩
    conv => whnf
    refine ⟨rfl, ?_⟩
    cases la with
    | none =>
      conv => whnf
      refine ⟨_, rfl, ?_⟩
      conv => whnf
      refine ⟨_, _, rfl, rfl, ?_⟩
      exact rest (h - r.wt) .no _ rfl
    | some l =>
      conv => whnf
      refine ⟨_, rfl, ?_⟩
      conv => whnf
      refine ⟨_, _, rfl, rfl, ?_⟩
      conv => whnf
      refine ⟨_, _, rfl, rfl, ?_⟩
      conv => whnf
      refine ⟨_, _, rfl, ?_⟩
      exact rest (arrOf r (some l) h) .no _ rfl
  · rintro ρ M' ⟨rfl, acc, la, v5, v6, v7, v8, v9, rfl, hj, hja⟩
    rw [List.length_map, List.length_zipIdx, List.length_map] at hj hja
    rw [List.drop_length] at hja
    have hja : jobsOf r g ps = acc ++ [] := hja
    rw [List.append_nil] at hja
    rw [hja] at q
    conv => whnf
    exact q
end LawW

set_option Elab.async false
set_option linter.all false
set_option maxRecDepth 100000
namespace LawW
open PySem L2 DL
theorem jobsA_len (r : Raw) (g : Bool) : ∀ (ps : List (Int × Int)) (k : Nat) (la : Option Int), (jobsA r g k la ps).length = ps.length
  | [], _, _ => rfl
  | (h, w) :: ps, k, la => by unfold jobsA; rw [List.length_cons, List.length_cons, jobsA_len r g ps]
theorem rowsFor_len (ws : List Wish) (nm : Str) : (rowsFor ws nm).length ≤ ws.length := by
  unfold rowsFor
  rw [List.length_map]
  exact List.length_filter_le ..
def rowsS (ws : List Wish) (nm : Str) : List (Int × Int) := (rowsFor ws nm).mergeSort leP
theorem rowsS_len {ws : List Wish} {nm : Str} (h : ws.length < 40) : (rowsS ws nm).length < 40 := by
  unfold rowsS
  rw [List.length_mergeSort]
  have := rowsFor_len ws nm
  omega
theorem flat_len {xs : List Raw} {ws : List Wish} {g : Bool} (h : ws.length < 40) : (xs.flatMap fun t => jobsOf t g (rowsS ws t.nm)).length ≤ 40 * xs.length := by
  induction xs with
  | nil => simp
  | cons t xs ih =>
    rw [List.flatMap_cons, List.length_append, List.length_cons]
    have : (jobsOf t g (rowsS ws t.nm)).length < 40 := by unfold jobsOf; rw [jobsA_len]; exact rowsS_len h
    omega
set_option maxHeartbeats 2000000 in
theorem fit_let_in : Fits tab 9 T_let_in spLetIn := by
  rintro ds M Q ⟨pl, d, ts, ws, g, rfl, hd, hsz, hpl, hws, q⟩
  obtain ⟨ps, ks, es, rfl, P⟩ := id hpl
  conv => whnf
  refine ⟨_, hd, hsz, fun _ => ?_⟩
  refine forL_inv (fun j ρ M' => M' = M ∧ ∃ (v3 v4 v5 : LV), ρ = [.val (PlanD ts ps ks es), .val d, .val (.bl g), v3, v4, v5, .no, .no, .no]) ⟨rfl, _, _, _, rfl⟩ ?_ ?_
  · rintro j d' ρ M' K hdj ⟨rfl, v3, v4, v5, rfl⟩ k1 k2 k3 k4
    rw [List.getElem?_map] at hdj
    cases hx : ws[j]? with
    | none => rw [hx] at hdj; cases hdj
    | some x =>
      rw [hx] at hdj
      obtain rfl : dWish x = d' := Option.some.inj hdj
      obtain ⟨xb, r, mr, er⟩ := hws.2 x (List.mem_of_getElem? hx)
      conv => whnf
      refine ⟨rfl, ?_⟩
      conv => whnf
      refine ⟨_, ts, r, _, by rw [er], hpl, mr, xb.2.2.1, ?_⟩
      exact k1 _ _ ⟨rfl, _, _, _, rfl⟩
  rintro ρ M1 ⟨eM, v3, v4, v5, rfl⟩
  subst M1
  conv => whnf
  refine ⟨szL (by simp), _, rfl, fun p hp0 => ?_⟩
  conv => whnf
  refine ⟨.inl ⟨_, rfl⟩, ?_⟩
  conv => whnf
  refine ⟨_, ts, rfl, hpl, fun xs hp hs => ?_⟩
  conv => whnf
  refine ⟨_, rfl, trivial, fun _ => ?_⟩
  have hx64 : xs.length < 64 := by rw [hp.length_eq]; exact P.few
  refine forL_inv (fun j ρ M' => M' = updM M p (.co (.L (((xs.take j).flatMap fun t => jobsOf t g (rowsS ws t.nm)).map dJob))) ∧ ∃ (v3 v4 v5 v7 v8 : LV), ρ = [.val (PlanD ts ps ks es), .val d, .val (.bl g), v3, v4, v5, .val (.loc p), v7, v8]) ⟨rfl, _, _, _, _, _, rfl⟩ ?_ ?_
  · rintro j d' ρ M' K hdj ⟨rfl, v3, v4, v5, v7, v8, rfl⟩ k1 k2 k3 k4
    rw [List.getElem?_map] at hdj
    cases ht : xs[j]? with
    | none => rw [ht] at hdj; cases hdj
    | some t =>
      rw [ht] at hdj
      obtain rfl : dTask t = d' := Option.some.inj hdj
      have mt : t ∈ ts := hp.mem_iff.mp (List.mem_of_getElem? ht)
      have hjl := (List.getElem?_eq_some_iff.mp ht).1
      conv => whnf
      refine ⟨_, hd, hsz, fun _ => ?_⟩
      refine compL_if dWish (fun x => decide (x.nm = t.nm)) (fun x => pairD (x.h, x.w)) (fun x mx K' kk => ?_) ?_
      · conv => whnf
        refine ⟨rfl, ?_⟩
        conv => whnf
        refine ⟨_, _, rfl, rfl, ?_⟩
        conv => whnf
        refine ⟨rfl, ?_⟩
        conv => whnf
        refine ⟨_, rfl, rfl, ?_⟩
        refine ic_ (fun h => ?_) fun h => ?_
        · have h : decide (x.nm = t.nm) = true := h
          rw [h] at kk
          conv => whnf
          refine ⟨szL (by simp), ?_⟩
          exact ⟨rfl, kk⟩
        · have h : decide (x.nm = t.nm) = false := h
          rw [h] at kk
          exact kk
      rw [List.nil_append]
      have erw : (ws.filter fun x => decide (x.nm = t.nm)).map (fun x => pairD (x.h, x.w)) = (rowsFor ws t.nm).map pairD := by unfold rowsFor; rw [List.map_map]; rfl
      rw [erw]
      conv => whnf
      refine ⟨_, rfl, sortOk_pairs (by have := rowsFor_len ws t.nm; have := hws.1; omega), ?_⟩
      rw [pairs_sorted]
      conv => whnf
      refine ⟨p, rfl, ⟨_, updM_same, trivial⟩, ?_⟩
      have hl := rowsS_len (nm := t.nm) hws.1
      conv => whnf
      refine ⟨t, rowsS ws t.nm, g, rfl, P.ok t mt, by omega, ?_⟩
      conv => whnf
      have fl := flat_len (xs := xs.take j) (g := g) hws.1
      have jl : (jobsOf t g (rowsS ws t.nm)).length < 40 := by unfold jobsOf; rw [jobsA_len]; exact hl
      refine ⟨_, updM_same, ?_, ?_⟩
      · rw [List.length_map, List.length_map, sizeLine_eq]
        rw [List.length_take] at fl
        omega
      conv => whnf
      rw [updM_updM, ← List.map_append]
      refine k1 _ _ ⟨?_, _, _, _, _, _, rfl⟩
      rw [List.take_add_one, ht, List.flatMap_append]
      simp
  · rintro ρ M' ⟨rfl, v3, v4, v5, v7, v8, rfl⟩
    rw [List.length_map, List.take_length]
    conv => whnf
    have e := by_rank hp hs (P.perm.map (·.rk) |>.nodup_iff.mp (by
      rw [List.nodup_iff_pairwise_ne, List.pairwise_map]
      exact P.sorted.imp fun h => by omega))
    have := q p hp0
    unfold jobsIn at this
    rw [← e] at this
    exact this
end LawW

set_option Elab.async false
set_option linter.all false
set_option maxRecDepth 100000
namespace LawW
open PySem L2 DL
def rkOf : DL.D → DL.D
  | .tup (_ :: r :: _) => r
  | d => d
set_option maxHeartbeats 2000000 in
theorem fit_law_jobs : Fits tab 20 T__law_jobs spLawJobs := by
  rintro ds M Q ⟨rs, ws, g, rfl, hrs, hws, q⟩
  conv => whnf
  refine ⟨szL (by simp), _, rfl, ?_⟩
  conv => whnf
  refine ⟨rs.map dRaw, rkOf, rfl, ?_, ?_, ?_⟩
  · rw [List.map_map]
    exact sortOk_ranks hrs.few
  · intro e me
    obtain ⟨r, mr, rfl⟩ := List.mem_map.mp me
    conv => whnf
    exact ⟨_, rfl, rfl, rfl⟩
  rw [raws_sorted rs (kf := rkOf) fun r _ => rfl]
  conv => whnf
  refine ⟨_, rfl, trivial, fun _ => ?_⟩
  generalize hxs : rs.mergeSort leR = xs
  have hxl : xs.length = rs.length := by rw [← hxs, List.length_mergeSort]
  have hfew := hrs.few
  let R : List LV → DL.Env := fun vs => [.val (.lst (rs.map dRaw)), .val (.lst (ws.map dWish)), .val (.bl g)] ++ vs
  refine forL_inv (fun j ρ M' => M' = M ∧ ∃ (v4 v5 v6 v7 v8 v9 v10 v11 v12 v13 v14 v15 v16 v17 v18 v19 : LV), ρ = [.val (.lst (rs.map dRaw)), .val (.lst (ws.map dWish)), .val (.bl g), .own (.L (((xs.take j).flatMap fun t => jobsOf t g (rowsS ws t.nm)).map dJobL)), v4, v5, v6, v7, v8, v9, v10, v11, v12, v13, v14, v15, v16, v17, v18, v19]) ⟨rfl, _, _, _, _, _, _, _, _, _, _, _, _, _, _, _, _, rfl⟩ ?_ ?_
  · rintro j d' ρ M' K hdj ⟨rfl, v4, v5, v6, v7, v8, v9, v10, v11, v12, v13, v14, v15, v16, v17, v18, v19, rfl⟩ k1 k2 k3 k4
    rw [List.getElem?_map] at hdj
    cases ht : xs[j]? with
    | none => rw [ht] at hdj; cases hdj
    | some t =>
      rw [ht] at hdj
      obtain rfl : dRaw t = d' := Option.some.inj hdj
      have hjl := (List.getElem?_eq_some_iff.mp ht).1
      have fl := flat_len (xs := xs.take j) (g := g) hws.1
      rw [List.length_take] at fl
      generalize hacc : ((xs.take j).flatMap fun t => jobsOf t g (rowsS ws t.nm)) = acc at fl
      conv => whnf
      refine ⟨rfl, ?_⟩
      conv => whnf
      refine ⟨_, rfl, trivial, fun _ => ?_⟩
      refine compL_if dWish (fun x => decide (x.nm = t.nm)) (fun x => pairD (x.h, x.w)) (fun x mx K' kk => ?_) ?_
      · conv => whnf
        refine ⟨rfl, ?_⟩
        conv => whnf
        refine ⟨rfl, ?_⟩
        conv => whnf
        refine ⟨_, rfl, rfl, ?_⟩
        refine ic_ (fun h => ?_) fun h => ?_
        · have h : decide (x.nm = t.nm) = true := h
          rw [h] at kk
          conv => whnf
          refine ⟨szL (by simp), ?_⟩
          exact ⟨rfl, kk⟩
        · have h : decide (x.nm = t.nm) = false := h
          rw [h] at kk
          exact kk
      rw [List.nil_append]
      have erw : (ws.filter fun x => decide (x.nm = t.nm)).map (fun x => pairD (x.h, x.w)) = (rowsFor ws t.nm).map pairD := by unfold rowsFor; rw [List.map_map]; rfl
      rw [erw]
      conv => whnf
      refine ⟨_, rfl, sortOk_pairs (by have := rowsFor_len ws t.nm; have := hws.1; omega), ?_⟩
      rw [pairs_sorted]
      have hl : ((rowsFor ws t.nm).mergeSort leP).length < 40 := rowsS_len (nm := t.nm) hws.1
      have kj : ∀ (v4 v5 v6 v7 v8 v9 v10 v11 v12 v13 v14 v15 v16 v17 v18 v19 : LV), K.nx [.val (.lst (rs.map dRaw)), .val (.lst (ws.map dWish)), .val (.bl g), .own (.L ((acc ++ jobsOf t g ((rowsFor ws t.nm).mergeSort leP)).map dJobL)), v4, v5, v6, v7, v8, v9, v10, v11, v12, v13, v14, v15, v16, v17, v18, v19] M' := fun u4 u5 u6 u7 u8 u9 u10 u11 u12 u13 u14 u15 u16 u17 u18 u19 => by
        refine k1 _ _ ⟨rfl, u4, u5, u6, u7, u8, u9, u10, u11, u12, u13, u14, u15, u16, u17, u18, u19, ?_⟩
        rw [List.take_add_one, ht, List.flatMap_append, hacc]
        simp [rowsS]
      generalize hpz : (rowsFor ws t.nm).mergeSort leP = pz at hl kj
      conv => whnf
      refine ⟨_, rfl, ?_⟩
      conv => whnf
      have ml : ((pz.map pairD).length : Int) = (pz.length : Int) := by rw [List.length_map]
      refine ⟨_, rfl, ⟨by rw [ml]; omega, by rw [ml]; omega⟩, ?_⟩
      refine forL_inv (fun i ρ M2 => M2 = M' ∧ ∃ (ac : List Jb) (la : Option Int) (v5 v15 v16 v17 v18 v19 : LV), ρ = [.val (.lst (rs.map dRaw)), .val (.lst (ws.map dWish)), .val (.bl g), .own (.L ((acc ++ ac).map dJobL)), .val (dRaw t), v5, .val (.str t.nm), .val (.int t.rk), .val (.int t.gap), .val (.int t.mst), .val (.int t.due), .val (.int t.wt), .val (.tup (t.secs.map dSec)), .val (.lst (pz.map pairD)), .val (laD la), v15, v16, v17, v18, v19] ∧ ac.length = i ∧ jobsOf t g pz = ac ++ jobsA t g i la (pz.drop i))
        ⟨rfl, [], none, _, _, _, _, _, _, by rw [List.append_nil]; rfl, rfl, rfl⟩ ?_ ?_
      · rintro i d2 ρ M2 K2 hd2 ⟨eM2, ac, la, v5, v15, v16, v17, v18, v19, rfl, hi, hja⟩ l1 l2 l3 l4
        subst M2
        obtain ⟨hil, rfl⟩ := rng_get hd2
        have hil : i < pz.length := by rw [ml] at hil; omega
        obtain ⟨⟨h, w⟩, hpi⟩ : ∃ hw, pz[i]? = some hw := ⟨_, List.getElem?_eq_getElem hil⟩
        have ed : pz.drop i = (h, w) :: pz.drop (i + 1) := by
          obtain ⟨h1, h2⟩ := List.getElem?_eq_some_iff.mp hpi
          rw [List.drop_eq_getElem_cons h1, h2]
        rw [ed] at hja
        conv => whnf
        refine ⟨pairD (h, w), atI_nat (by rw [List.getElem?_map, hpi]; rfl), ?_⟩
        conv => whnf
        refine ⟨rfl, ?_⟩
        -- behind the arrival
        have rest : ∀ (ar : Int), ar = arrOf t la h → wpS tab (.seq (.expr (.pmO .append 3 (.cons (.lst (.cons (.var 6) (.cons (.var 15) (.cons (.var 16) (.cons (.var 18) (.cons (.ife (.var 2) (.bi .max2 (.cons (.var 16) (.cons (.var 18) .nil))) (.var 16)) (.cons (.var 17) .nil))))))) .nil)))
  (.set 14 (.var 18))) [.val (.lst (rs.map dRaw)), .val (.lst (ws.map dWish)), .val (.bl g), .own (.L ((acc ++ ac).map dJobL)), .val (dRaw t), v5, .val (.str t.nm), .val (.int t.rk), .val (.int t.gap), .val (.int t.mst), .val (.int t.due), .val (.int t.wt), .val (.tup (t.secs.map dSec)), .val (.lst (pz.map pairD)), .val (laD la), .val (.int (i : Nat)), .val (.int h), .val (.int w), .val (.int ar), v19] M' K2 := by
          intro ar ear
          have step : ∀ rel : Int, rel = relOf g h ar → K2.nx [.val (.lst (rs.map dRaw)), .val (.lst (ws.map dWish)), .val (.bl g), .own (.L (((acc ++ ac).map dJobL) ++ [.lst [.str t.nm, .int (i : Nat), .int h, .int ar, .int rel, .int w]])), .val (dRaw t), v5, .val (.str t.nm), .val (.int t.rk), .val (.int t.gap), .val (.int t.mst), .val (.int t.due), .val (.int t.wt), .val (.tup (t.secs.map dSec)), .val (.lst (pz.map pairD)), .val (.int ar), .val (.int (i : Nat)), .val (.int h), .val (.int w), .val (.int ar), v19] M' := fun rel erel => by
            subst erel ear
            refine l1 _ _ ⟨rfl, ac ++ [⟨t.nm, i, h, arrOf t la h, relOf g h (arrOf t la h), w⟩], some (arrOf t la h), _, _, _, _, _, _, by rw [← List.append_assoc, List.map_append (l₁ := acc ++ ac)]; rfl, by rw [List.length_append, hi]; rfl, ?_⟩
            rw [List.append_assoc]
            exact hja
          conv => whnf
          refine ⟨⟨_, rfl, trivial⟩, ?_⟩
          have len : ((acc ++ ac).map dJobL).length < sizeLine := by
            rw [List.length_map, List.length_append, sizeLine_eq, hi]
            omega
          cases g with
          | false =>
            conv => whnf
            refine ⟨_, rfl, ?_⟩
            conv => whnf
            refine ⟨szL (by simp), ?_⟩
            conv => whnf
            refine ⟨_, rfl, len, ?_⟩
            exact step h rfl
          | true =>
            conv => whnf
            refine ⟨_, rfl, ?_⟩
            conv => whnf
            refine ⟨_, _, rfl, ?_⟩
            conv => whnf
            refine ⟨szL (by simp), ?_⟩
            conv => whnf
            refine ⟨_, rfl, len, ?_⟩
            exact step _ rfl
        cases la with
        | none =>
          conv => whnf
          refine ⟨_, rfl, ?_⟩
          conv => whnf
          exact rest _ rfl
        | some l =>
          conv => whnf
          refine ⟨_, rfl, ?_⟩
          conv => whnf
          refine ⟨_, _, rfl, ?_⟩
          exact rest _ rfl
      · rintro ρ M2 ⟨eM2, ac, la, v5, v15, v16, v17, v18, v19, rfl, hi, hja⟩
        subst M2
        have hi : ac.length = pz.length := by
          rw [List.length_map, List.length_range, ml] at hi
          omega
        rw [List.length_map, List.length_range, ml, Int.toNat_natCast, List.drop_length] at hja
        have hja : jobsOf t g pz = ac ++ [] := hja
        rw [List.append_nil] at hja
        rw [← hja]
        exact kj _ _ _ _ _ _ _ _ _ _ _ _ _ _ _ _
  · rintro ρ M' ⟨rfl, v4, v5, v6, v7, v8, v9, v10, v11, v12, v13, v14, v15, v16, v17, v18, v19, rfl⟩
    rw [List.length_map, List.take_length]
    conv => whnf
    subst hxs
    exact q
end LawW

set_option Elab.async false
set_option linter.all false
set_option maxRecDepth 100000
namespace LawW
open PySem L2 DL
set_option maxHeartbeats 2000000 in
theorem fit_wishes : Fits tab 8 T__law_wishes spWishes := by
  rintro ds M Q ⟨a, rs, many, wide, c, rfl, hrs, hne, hsm, m0, mL, w1, wL, hp, hc, q⟩
  have hfew := hrs.few
  have hpos : 0 < rs.length := List.length_pos_iff.mpr hne
  conv => whnf
  refine ⟨szL (by simp), _, rfl, ?_⟩
  conv => whnf
  refine ⟨_, rfl, ⟨by omega, by omega⟩, ?_⟩
  refine forL_inv (fun j ρ M' => But a M M' ∧ PenM (c + 5 * j) M' a ∧ ∃ (ws : List Wish) (v5 v6 v7 : LV), ρ = [.val (.loc a), .val (.lst (rs.map dRaw)), .val (.int many), .val (.int wide), .own (.L (ws.map dWish)), v5, v6, v7] ∧ ws.length = j ∧ ∀ x ∈ ws, WishB x ∧ ∃ r ∈ rs, r.nm = x.nm)
    ⟨But.refl a M, by simpa using hp, [], _, _, _, rfl, rfl, fun _ m => nomatch m⟩ ?_ ?_
  · rintro j d ρ M1 K hd ⟨bt, pt, ws, v5, v6, v7, rfl, hj, hw⟩ k1 k2 k3 k4
    obtain ⟨hjl, rfl⟩ := rng_get hd
    conv => whnf
    refine ⟨_, rfl, ?_⟩
    conv => whnf
    have ml : ((rs.map dRaw).length : Int) = (rs.length : Int) := by rw [List.length_map]
    refine ⟨a, _, _, rfl, by rw [ml]; omega, by rw [ml]; omega, pt, by omega, fun g M2 g0 g1 b2 p2 => ?_⟩
    rw [ml] at g1
    obtain ⟨k, rfl⟩ : ∃ k : Nat, g = (k : Int) := ⟨g.toNat, by omega⟩
    obtain ⟨r, hr⟩ : ∃ r, rs[k]? = some r := ⟨_, List.getElem?_eq_getElem (by omega)⟩
    have mr : r ∈ rs := List.mem_of_getElem? hr
    have rm1 := (hrs.ok r mr).mst1
    have rmL := (hsm r mr).1
    conv => whnf
    refine ⟨dRaw r, atI_nat (by rw [List.getElem?_map, hr]; rfl), ?_⟩
    conv => whnf
    refine ⟨_, rfl, ?_⟩
    conv => whnf
    refine ⟨_, rfl, ?_⟩
    conv => whnf
    refine ⟨a, r.mst, _, rfl, by omega, by omega, p2, by omega, fun e1 M3 e10 e11 b3 p3 => ?_⟩
    conv => whnf
    refine ⟨_, rfl, ?_⟩
    conv => whnf
    refine ⟨a, 4, _, rfl, by decide, by decide, p3, by omega, fun e2 M4 e20 e21 b4 p4 => ?_⟩
    conv => whnf
    refine ⟨szL (by simp), ?_⟩
    conv => whnf
    refine ⟨a, 3, _, rfl, by decide, by decide, p4, by omega, fun e3 M5 e30 e31 b5 p5 => ?_⟩
    obtain ⟨ld, eld, hld⟩ : ∃ ld : Int, atI [DL.D.int r.mst, DL.D.int (1 + e1), DL.D.int (r.mst + e2)] e3 = some (.int ld) ∧ 1 ≤ ld ∧ ld < 200000 := by
      have : e3 = 0 ∨ e3 = 1 ∨ e3 = 2 := by omega
      rcases this with rfl | rfl | rfl
      · exact ⟨_, rfl, by omega⟩
      · exact ⟨_, rfl, by omega⟩
      · exact ⟨_, rfl, by omega⟩
    conv => whnf
    refine ⟨_, eld, ?_⟩
    conv => whnf
    refine ⟨⟨_, rfl, trivial⟩, ?_⟩
    conv => whnf
    refine ⟨a, wide, _, rfl, by omega, by omega, p5, by omega, fun h M6 h0 h1 b6 p6 => ?_⟩
    conv => whnf
    refine ⟨_, rfl, ?_⟩
    conv => whnf
    refine ⟨szL (by simp), ?_⟩
    conv => whnf
    refine ⟨_, rfl, by rw [List.length_map, sizeLine_eq]; omega, ?_⟩
    refine k1 _ _ ⟨((((bt.trans b2).trans b3).trans b4).trans b5).trans b6, p6.mono (by omega), ws ++ [⟨h, r.nm, ld⟩], _, _, _, by rw [List.map_append]; rfl, by rw [List.length_append, hj]; rfl, fun x mx => ?_⟩
    rcases List.mem_append.mp mx with mx | mx
    · exact hw x mx
    · rw [List.mem_singleton.mp mx]
      exact ⟨⟨h0, by show h < LIM; unfold LIM; omega, hld.1, by show ld < LIM; unfold LIM; omega⟩, r, mr, rfl⟩
  · rintro ρ M1 ⟨bt, pt, ws, v5, v6, v7, rfl, hj, hw⟩
    rw [List.length_map, List.length_range] at hj pt
    conv => whnf
    exact q ws M1 ⟨by omega, hw⟩ bt (pt.mono (by omega))
end LawW

set_option Elab.async false
set_option linter.all false
set_option maxRecDepth 100000
namespace LawW
open PySem L2 DL
theorem deq_jb (j : Jb) : deq (dJob j) (dJob j) = true := by
  unfold dJob fldsJ
  simp only [deq, deqs, decide_true, Bool.and_self]
theorem deqs_jbs : ∀ js : List Jb, deqs (js.map dJob) (js.map dJob) = true
  | [] => by simp only [List.map_nil, deqs]
  | j :: js => by simp only [List.map_cons, deqs, deq_jb, deqs_jbs js, Bool.and_self]
theorem deqs_ws : ∀ ws : List Wish, deqs (ws.map dWish) (ws.map dWish) = true
  | [] => by simp only [List.map_nil, deqs]
  | w :: ws => by simp only [List.map_cons, dWish, deqs, deq, decide_true, deqs_ws ws, Bool.and_self]
theorem dat_jb {j : Jb} (h : NmS j.nm) : dat (dJob j) = true := by
  unfold dJob fldsJ
  simp only [dat, dats, cps_lt h, Bool.and_self]
theorem dep_jb (j : Jb) : dep (dJob j) ≤ 59 := by
  unfold dJob fldsJ
  simp only [dep, deps]
  decide
theorem jobsA_nm (r : Raw) (g : Bool) : ∀ (ps : List (Int × Int)) (k : Nat) (la : Option Int), ∀ j ∈ jobsA r g k la ps, j.nm = r.nm
  | [], _, _, j, m => by unfold jobsA at m; cases m
  | (h, w) :: ps, k, la, j, m => by
    unfold jobsA at m
    rcases List.mem_cons.mp m with rfl | m
    · rfl
    · exact jobsA_nm r g ps _ _ j m
theorem jobsIn_nm {rs : List Raw} {ws : List Wish} {g : Bool} (ok : ∀ r ∈ rs, RawOk r) : ∀ j ∈ jobsIn rs ws g, NmS j.nm := fun j m => by
  unfold jobsIn at m
  obtain ⟨r, mr, mj⟩ := List.mem_flatMap.mp m
  rw [jobsA_nm r g _ _ _ j mj]
  exact (ok r ((List.mergeSort_perm rs leR).mem_iff.mp mr)).nm
theorem jobsIn_len {rs : List Raw} {ws : List Wish} {g : Bool} (h : ws.length < 40) : (jobsIn rs ws g).length ≤ 40 * rs.length := by
  have := flat_len (xs := rs.mergeSort leR) (g := g) h
  rw [List.length_mergeSort] at this
  exact this
theorem eqOk_jbs {js : List Jb} (h : ∀ j ∈ js, NmS j.nm) : eqOk (.lst (js.map dJob)) (.lst (js.map dJob)) = true := by
  have h1 : dat (.lst (js.map dJob)) = true := by
    unfold dat
    refine dats_all fun d m => ?_
    obtain ⟨j, mj, rfl⟩ := List.mem_map.mp m
    exact dat_jb (h j mj)
  have h2 : dep (.lst (js.map dJob)) ≤ 60 := by
    unfold dep
    have : deps (js.map dJob) ≤ 59 := deps_all fun d m => by
      obtain ⟨j, mj, rfl⟩ := List.mem_map.mp m
      exact dep_jb j
    omega
  show (dat _ && dat _ && decide (dep _ ≤ 60) && decide (dep _ ≤ 60)) = true
  rw [h1, decide_eq_true h2]
  rfl
theorem eqOk_ws {ws : List Wish} (h : ∀ x ∈ ws, NmS x.nm) : eqOk (.lst (ws.map dWish)) (.lst (ws.map dWish)) = true := by
  have h1 : dat (.lst (ws.map dWish)) = true := by
    unfold dat
    refine dats_all fun d m => ?_
    obtain ⟨x, mx, rfl⟩ := List.mem_map.mp m
    unfold dWish
    simp only [dat, dats, cps_lt (h x mx), Bool.and_self]
  have h2 : dep (.lst (ws.map dWish)) ≤ 60 := by
    unfold dep
    have : deps (ws.map dWish) ≤ 59 := deps_all fun d m => by
      obtain ⟨x, mx, rfl⟩ := List.mem_map.mp m
      unfold dWish
      simp only [dep, deps]
      decide
    omega
  show (dat _ && dat _ && decide (dep _ ≤ 60) && decide (dep _ ≤ 60)) = true
  rw [h1, decide_eq_true h2]
  rfl
theorem WishesOk.tasks {rs ts : List Raw} {ws : List Wish} (h : WishesOk rs ws) (ht : TasksOf rs ts) : WishesOk ts ws := by
  refine ⟨h.1, fun x mx => ?_⟩
  obtain ⟨b, r, mr, er⟩ := h.2 x mx
  have : x.nm ∈ ts.map (·.nm) := by rw [ht.maps.1]; exact List.mem_map.mpr ⟨r, mr, er⟩
  obtain ⟨t, mt, et⟩ := List.mem_map.mp this
  exact ⟨b, t, mt, et⟩
theorem WishesOk.rev {rs : List Raw} {ws : List Wish} (h : WishesOk rs ws) : WishesOk rs ws.reverse :=
  ⟨by rw [List.length_reverse]; exact h.1, fun x mx => h.2 x (List.mem_reverse.mp mx)⟩
set_option maxHeartbeats 4000000 in
theorem fit_law : Fits tab 11 T_law spLaw := by
  rintro ds M Q ⟨sc, rfl, hl, rfl, q⟩
  conv => whnf
  refine ⟨sc, rfl, fun a M1 _ _ p1 => ?_⟩
  conv => whnf
  refine ⟨_, rfl, ?_⟩
  conv => whnf
  refine ⟨⟨by decide, .inl (by decide)⟩, ?_⟩
  conv => whnf
  refine ⟨_, _, rfl, ?_⟩
  conv => whnf
  refine ⟨_, rfl, ⟨by split <;> omega, by split <;> omega⟩, ?_⟩
  refine forL_inv (fun j ρ M' => PenM (300000 * j) M' a ∧ ∃ v2 v3 v4 v5 v6 v7 v8 v9 v10 : LV, ρ = [.val (.scr sc), .val (.loc a), v2, v3, v4, v5, v6, v7, v8, v9, v10]) ⟨by simpa using p1, _, _, _, _, _, _, _, _, _, rfl⟩ ?_ ?_
  · rintro j d ρ M2 K hd ⟨p2, v2, v3, v4, v5, v6, v7, v8, v9, v10, rfl⟩ k1 k2 k3 k4
    obtain ⟨hj, rfl⟩ := rng_get hd
    have hj10 : j ≤ 5 := by
      have : (if (sc.length : Int) / 4 < 3 then (sc.length : Int) / 4 else 3) ≤ 3 := by split <;> omega
      omega
    conv => whnf
    refine ⟨a, 5, _, rfl, by decide, by decide, p2, by omega, fun g M3 g0 g1 b3 p3 => ?_⟩
    conv => whnf
    refine ⟨a, 1 + g, 9, _, rfl, by omega, by omega, by decide, by decide, p3, by omega, fun rs M4 hrs b4 p4 => ?_⟩
    obtain ⟨rok, rlen, rb⟩ := hrs
    conv => whnf
    refine ⟨rs, rfl, rok, fun ts pl hts hpl => ?_⟩
    conv => whnf
    refine ⟨a, 15, _, rfl, by decide, by decide, p4, by omega, fun mn M5 mn0 mn1 b5 p5 => ?_⟩
    conv => whnf
    refine ⟨⟨by decide, by decide, by decide⟩, ?_⟩
    conv => whnf
    refine ⟨szL (by simp), ?_⟩
    conv => whnf
    refine ⟨a, 3, _, rfl, by decide, by decide, p5, by omega, fun f M6 f0 f1 b6 p6 => ?_⟩
    obtain ⟨wide, ewide, hwide⟩ : ∃ wide : Int, atI [DL.D.int 4, DL.D.int 40, DL.D.int (10 ^ Int.toNat 9)] f = some (.int wide) ∧ 1 ≤ wide ∧ wide ≤ 1000000000 := by
      have : f = 0 ∨ f = 1 ∨ f = 2 := by omega
      rcases this with rfl | rfl | rfl
      · exact ⟨_, rfl, by decide, by decide⟩
      · exact ⟨_, rfl, by decide, by decide⟩
      · exact ⟨_, rfl, by decide, by decide⟩
    conv => whnf
    refine ⟨_, ewide, ?_⟩
    conv => whnf
    have rne : rs ≠ [] := fun e => by rw [e] at rlen; simp at rlen; omega
    refine ⟨a, rs, mn, wide, _, rfl, rok, rne, fun r m => (rb r m).2, mn0, by omega, hwide.1, hwide.2, p6, by omega, fun ws M7 hws b7 p7 => ?_⟩
    conv => whnf
    refine ⟨_, _, rfl, rfl, ?_⟩
    have hwt : WishesOk ts ws := hws.tasks hts
    have wnm : ∀ x ∈ ws, NmS x.nm := fun x mx => by
      obtain ⟨_, r, mr, er⟩ := hws.2 x mx
      rw [← er]
      exact (rok.ok r mr).nm
    have okr := rok.ok
    have hfew := rok.few
    have tup : ∀ (gt : Bool) (M : Mem) (ρ : DL.Env) (Qc : List DL.D → Mem → Prop), ρ.length = 11 → Qc ((jobsIn rs ws gt).map dJob) M → compL (fun d M K => bindP (.tname 10) d (hideD (wipeD ρ [10])) fun ρ1 => wpC tab .nil ρ1 M fun b ρ2 M1 => ρ2 = ρ1 ∧
        iteN (Bool.toNat b) (wpE tab (.bi .tuple (.cons (.var 10) .nil)) ρ1 M1 fun x ρ3 M2 => ρ3 = ρ1 ∧ K (some x) M2) (K none M1)) ((jobsIn rs ws gt).map dJobL) [] M Qc := by
      intro gt M ρ Qc hl11 hq
      refine compL_if dJobL (fun _ => true) dJob (fun jb _ K kk => ?_) ?_
      · conv => whnf
        refine ⟨rfl, ?_⟩
        have e : (List.set (hideD (wipeD ρ [10])) 10 (LV.val (dJobL jb)))[10]? = some (LV.val (dJobL jb)) := by
          rw [List.getElem?_set_self]
          unfold hideD
          rw [List.length_map, wipeD_length, hl11]
          decide
        conv => whnf
        rw [e]
        conv => whnf
        refine ⟨_, _, rfl, rfl, ?_⟩
        exact ⟨rfl, kk⟩
      · have ef : ((jobsIn rs ws gt).filter fun _ => true) = jobsIn rs ws gt := List.filter_eq_self.mpr fun _ _ => rfl
        rw [ef, List.nil_append]
        exact hq
    conv => whnf
    refine ⟨szL (by simp), ?_⟩
    conv => whnf
    refine ⟨_, rfl, trivial, fun _ => ?_⟩
    refine forL_inv (fun i ρ M' => PenM (300000 * j + 200000) M' a ∧ ∃ v7 v8 v9 v10 : LV, ρ = [.val (.scr sc), .val (.loc a), .val (.int (j : Nat)), .val (.lst (rs.map dRaw)), .val pl, .val (.lst (ws.map dWish)), .val (.lst (ws.map dWish)), v7, v8, v9, v10]) ⟨p7.mono (by omega), _, _, _, _, rfl⟩ ?_ ?_
    · rintro i d ρ M8 K2 hd2 ⟨p8, v7, v8, v9, v10, rfl⟩ l1 l2 l3 l4
      obtain ⟨gt, rfl⟩ : ∃ gt : Bool, d = .bl gt := by
        match i, hd2 with
        | 0, h => exact ⟨true, (Option.some.inj h).symm⟩
        | 1, h => exact ⟨false, (Option.some.inj h).symm⟩
        | i + 2, h => cases h
      conv => whnf
      refine ⟨rs, ws, gt, rfl, rok, hws, ?_⟩
      conv => whnf
      refine ⟨_, rfl, trivial, fun _ => ?_⟩
      refine tup gt _ _ _ rfl ?_
      conv => whnf
      refine ⟨⟨rfl, rfl⟩, pl, _, ts, ws, gt, rfl, rfl, trivial, hpl, hwt, fun p hp0 => ?_⟩
      have hpa : p ≠ a := fun e => by
        obtain ⟨cs, i, l, e2, _⟩ := p8
        rw [← e, hp0] at e2
        cases e2
      rw [jobsIn_tasks hts]
      have vM : view (updM M8 p (.co (.L ((jobsIn rs ws gt).map dJob)))) (.loc p) = .lst ((jobsIn rs ws gt).map dJob) := view_co updM_same
      have ne1 : (!deq (.lst ((jobsIn rs ws gt).map dJob)) (.lst ((jobsIn rs ws gt).map dJob))) = false := by
        have : deq (.lst ((jobsIn rs ws gt).map dJob)) (.lst ((jobsIn rs ws gt).map dJob)) = true := by unfold deq; exact deqs_jbs _
        rw [this]; rfl
      have ne2 : (!deq (.lst (ws.map dWish)) (.lst (ws.map dWish))) = false := by
        have : deq (.lst (ws.map dWish)) (.lst (ws.map dWish)) = true := by unfold deq; exact deqs_ws _
        rw [this]; rfl
      conv => whnf
      rw [vM]
      refine ⟨eqOk_jbs (jobsIn_nm okr), ?_⟩
      conv => whnf
      refine ⟨_, rfl, ?_⟩
      refine if_ ne1 ?_
      conv => whnf
      refine ⟨eqOk_ws wnm, ?_⟩
      conv => whnf
      refine ⟨_, rfl, ?_⟩
      refine if_ ne2 ?_
      conv => whnf
      refine ⟨p, rfl, ⟨_, updM_same, trivial⟩, ?_⟩
      conv => whnf
      refine ⟨_, updM_same, ?_, ?_⟩
      · have := jobsIn_len (rs := rs) (g := gt) hws.1
        rw [List.length_map, sizeLine_eq]
        omega
      conv => whnf
      rw [updM_updM]
      exact l1 _ _ ⟨p8.upd hpa, _, _, _, _, rfl⟩
    · rintro ρ M8 ⟨p8, v7, v8, v9, v10, rfl⟩
      conv => whnf
      refine ⟨_, rfl, ?_⟩
      conv => whnf
      refine ⟨_, _, rfl, rfl, ?_⟩
      conv => whnf
      refine ⟨pl, .tup (ws.map dWish).reverse, ts, ws.reverse, true, rfl, by rw [List.map_reverse]; rfl, trivial, hpl, hwt.rev, fun p hp0 => ?_⟩
      have hpa : p ≠ a := fun e => by
        obtain ⟨cs, i, l, e2, _⟩ := p8
        rw [← e, hp0] at e2
        cases e2
      rw [jobsIn_tasks hts, jobsIn_perm rs (List.reverse_perm ws) true]
      have vM : view (updM M8 p (.co (.L ((jobsIn rs ws true).map dJob)))) (.loc p) = .lst ((jobsIn rs ws true).map dJob) := view_co updM_same
      have ne1 : (!deq (.lst ((jobsIn rs ws true).map dJob)) (.lst ((jobsIn rs ws true).map dJob))) = false := by
        have : deq (.lst ((jobsIn rs ws true).map dJob)) (.lst ((jobsIn rs ws true).map dJob)) = true := by unfold deq; exact deqs_jbs _
        rw [this]; rfl
      conv => whnf
      refine ⟨rs, ws, true, rfl, rok, hws, ?_⟩
      conv => whnf
      refine ⟨_, rfl, trivial, fun _ => ?_⟩
      refine tup true _ _ _ rfl ?_
      conv => whnf
      rw [vM]
      refine ⟨eqOk_jbs (jobsIn_nm okr), ?_⟩
      conv => whnf
      refine ⟨_, rfl, ?_⟩
      refine if_ ne1 ?_
      conv => whnf
      exact k1 _ _ ⟨(p8.upd hpa).mono (by omega), _, _, _, _, _, _, _, _, _, rfl⟩
  · rintro ρ M2 ⟨p2, v2, v3, v4, v5, v6, v7, v8, v9, v10, rfl⟩
    conv => whnf
    refine ⟨[], .kemp 0, rfl, rfl, trivial, List.nodup_nil, List.nodup_nil, by decide, fun _ m => (nomatch m), fun pl hpl => ?_⟩
    conv => whnf
    refine ⟨szL (by simp), ?_⟩
    conv => whnf
    refine ⟨pl, .lst [], [], [], true, rfl, rfl, trivial, hpl, ⟨by decide, fun _ m => (nomatch m)⟩, fun p hp0 => ?_⟩
    have vM : view (updM M2 p (.co (.L ((jobsIn [] [] true).map dJob)))) (.loc p) = .lst [] := by
      have ej : jobsIn [] [] true = [] := by simp [jobsIn]
      rw [ej]
      exact view_co updM_same
    conv => whnf
    refine ⟨szL (by simp), ?_⟩
    conv => whnf
    rw [vM]
    refine ⟨rfl, ?_⟩
    conv => whnf
    have : deq (.lst []) (.lst []) = true := by simp only [deq, deqs]
    show Q (.bl (deq (.lst []) (.lst []))) _
    rw [this]
    exact q _
end LawW

set_option Elab.async false
set_option linter.all false
set_option maxRecDepth 100000
set_option maxHeartbeats 0
namespace LawW
open PySem L2 PySem.W DL PySem.Spec PyProof.Rows
theorem sc__law_pen : FnScope n__law_pen ["script"] (defScope s__law_pen) := ⟨rfl, rfl, rfl, (by decide +kernel), rfl, (by decide +kernel), (by decide +kernel)⟩
theorem sc__law_draw : FnScope n__law_draw ["pen", "many"] (defScope s__law_draw) := ⟨rfl, rfl, rfl, (by decide +kernel), rfl, (by decide +kernel), (by decide +kernel)⟩
theorem sc_Plan___init__ : FnScope n_Plan___init__ ["self", "tasks"] (defScope s_Plan___init__) := ⟨rfl, rfl, rfl, (by decide +kernel), rfl, (by decide +kernel), (by decide +kernel)⟩
theorem sc_is_name : FnScope n_is_name ["thing"] (defScope s_is_name) := ⟨rfl, rfl, rfl, (by decide +kernel), rfl, (by decide +kernel), (by decide +kernel)⟩
theorem sc_is_whole : FnScope n_is_whole ["thing", "least"] (defScope s_is_whole) := ⟨rfl, rfl, rfl, (by decide +kernel), rfl, (by decide +kernel), (by decide +kernel)⟩
theorem sc_lies_within : FnScope n_lies_within ["one", "other"] (defScope s_lies_within) := ⟨rfl, rfl, rfl, (by decide +kernel), rfl, (by decide +kernel), (by decide +kernel)⟩
theorem sc_written_place : FnScope n_written_place ["section"] (defScope s_written_place) := ⟨rfl, rfl, rfl, (by decide +kernel), rfl, (by decide +kernel), (by decide +kernel)⟩
theorem sc_Plan_tasks : FnScope n_Plan_tasks ["self"] (defScope s_Plan_tasks) := ⟨rfl, rfl, rfl, (by decide +kernel), rfl, (by decide +kernel), (by decide +kernel)⟩
theorem sc_jobs_of : FnScope n_jobs_of ["task", "rows", "gate"] (defScope s_jobs_of) := ⟨rfl, rfl, rfl, (by decide +kernel), rfl, (by decide +kernel), (by decide +kernel)⟩
theorem sc__law_names : FnScope n__law_names ["pen", "many"] (defScope s__law_names) := ⟨rfl, rfl, rfl, (by decide +kernel), rfl, (by decide +kernel), (by decide +kernel)⟩
theorem sc__law_sections : FnScope n__law_sections ["pen", "limit", "locks"] (defScope s__law_sections) := ⟨rfl, rfl, rfl, (by decide +kernel), rfl, (by decide +kernel), (by decide +kernel)⟩
theorem sc_go_together : FnScope n_go_together ["one", "other"] (defScope s_go_together) := ⟨rfl, rfl, rfl, (by decide +kernel), rfl, (by decide +kernel), (by decide +kernel)⟩
theorem sc_is_section : FnScope n_is_section ["thing", "most"] (defScope s_is_section) := ⟨rfl, rfl, rfl, (by decide +kernel), rfl, (by decide +kernel), (by decide +kernel)⟩
theorem sc__law_wishes : FnScope n__law_wishes ["pen", "raw", "many", "wide"] (defScope s__law_wishes) := ⟨rfl, rfl, rfl, (by decide +kernel), rfl, (by decide +kernel), (by decide +kernel)⟩
theorem sc_need_wish : FnScope n_need_wish ["plan", "task", "work"] (defScope s_need_wish) := ⟨rfl, rfl, rfl, (by decide +kernel), rfl, (by decide +kernel), (by decide +kernel)⟩
theorem sc__law_jobs : FnScope n__law_jobs ["raw", "rows", "shut"] (defScope s__law_jobs) := ⟨rfl, rfl, rfl, (by decide +kernel), rfl, (by decide +kernel), (by decide +kernel)⟩
theorem sc__law_raw : FnScope n__law_raw ["pen", "many", "wide"] (defScope s__law_raw) := ⟨rfl, rfl, rfl, (by decide +kernel), rfl, (by decide +kernel), (by decide +kernel)⟩
theorem sc_are_sections : FnScope n_are_sections ["thing", "most"] (defScope s_are_sections) := ⟨rfl, rfl, rfl, (by decide +kernel), rfl, (by decide +kernel), (by decide +kernel)⟩
theorem sc_let_in : FnScope n_let_in ["plan", "wishes", "gate"] (defScope s_let_in) := ⟨rfl, rfl, rfl, (by decide +kernel), rfl, (by decide +kernel), (by decide +kernel)⟩
theorem sc_bad_part : FnScope n_bad_part ["name", "rank", "gap", "most", "due", "wait", "sections"] (defScope s_bad_part) := ⟨rfl, rfl, rfl, (by decide +kernel), rfl, (by decide +kernel), (by decide +kernel)⟩
theorem sc_Task___init__ : FnScope n_Task___init__ ["self", "name", "rank", "gap", "most", "due", "wait", "sections"] (defScope s_Task___init__) := ⟨rfl, rfl, rfl, (by decide +kernel), rfl, (by decide +kernel), (by decide +kernel)⟩
theorem sc__law_plan : FnScope n__law_plan ["raw"] (defScope s__law_plan) := ⟨rfl, rfl, rfl, (by decide +kernel), rfl, (by decide +kernel), (by decide +kernel)⟩
theorem sc_law : FnScope n_law ["script"] (defScope s_law) := ⟨rfl, rfl, rfl, (by decide +kernel), rfl, (by decide +kernel), (by decide +kernel)⟩
section
variable {P : Program} {w : World} {K : PySem.W.Frag} {mg : Str → Option Value} {base : Heap} {N : Nam}
theorem law_ok {E0 : Addr} (hE0 : N.emp 0 = some E0) (Z : Facts ⟨P, w, K, mg, base, tab, N⟩)
  {f__law_pen : Addr} {fd__law_pen : FuncData} (F__law_pen : FunD K "_law_pen" "_law_pen" (defArgs s__law_pen) (defBody s__law_pen) (defScope s__law_pen) [] [] f__law_pen fd__law_pen)
  (m__law_pen : mg "_law_pen" = some (.ref f__law_pen))
  {f__law_draw : Addr} {fd__law_draw : FuncData} (F__law_draw : FunD K "_law_draw" "_law_draw" (defArgs s__law_draw) (defBody s__law_draw) (defScope s__law_draw) [] [] f__law_draw fd__law_draw)
  (m__law_draw : mg "_law_draw" = some (.ref f__law_draw))
  {f_Plan___init__ : Addr} {fd_Plan___init__ : FuncData} (F_Plan___init__ : FunD K "__init__" "Plan.__init__" (defArgs s_Plan___init__) (defBody s_Plan___init__) (defScope s_Plan___init__) [.ref E0] [] f_Plan___init__ fd_Plan___init__)
  (mk_Plan : Mk K (N.cad 0) f_Plan___init__) (mc_Plan : mg "Plan" = some (.ref (N.cad 0)))
  {f_is_name : Addr} {fd_is_name : FuncData} (F_is_name : FunD K "is_name" "is_name" (defArgs s_is_name) (defBody s_is_name) (defScope s_is_name) [] [] f_is_name fd_is_name)
  (m_is_name : mg "is_name" = some (.ref f_is_name))
  {f_is_whole : Addr} {fd_is_whole : FuncData} (F_is_whole : FunD K "is_whole" "is_whole" (defArgs s_is_whole) (defBody s_is_whole) (defScope s_is_whole) [] [("least", (.int 0))] f_is_whole fd_is_whole)
  (m_is_whole : mg "is_whole" = some (.ref f_is_whole))
  {f_lies_within : Addr} {fd_lies_within : FuncData} (F_lies_within : FunD K "lies_within" "lies_within" (defArgs s_lies_within) (defBody s_lies_within) (defScope s_lies_within) [] [] f_lies_within fd_lies_within)
  (m_lies_within : mg "lies_within" = some (.ref f_lies_within))
  {f_written_place : Addr} {fd_written_place : FuncData} (F_written_place : FunD K "written_place" "written_place" (defArgs s_written_place) (defBody s_written_place) (defScope s_written_place) [] [] f_written_place fd_written_place)
  (m_written_place : mg "written_place" = some (.ref f_written_place))
  {f_Plan_tasks : Addr} {fd_Plan_tasks : FuncData} (F_Plan_tasks : FunD K "tasks" "Plan.tasks" (defArgs s_Plan_tasks) (defBody s_Plan_tasks) (defScope s_Plan_tasks) [] [] f_Plan_tasks fd_Plan_tasks)
  (mt_Plan_tasks : Meth K (N.cad 0) "tasks" f_Plan_tasks)
  {f_jobs_of : Addr} {fd_jobs_of : FuncData} (F_jobs_of : FunD K "jobs_of" "jobs_of" (defArgs s_jobs_of) (defBody s_jobs_of) (defScope s_jobs_of) [] [] f_jobs_of fd_jobs_of)
  (m_jobs_of : mg "jobs_of" = some (.ref f_jobs_of))
  {f__law_names : Addr} {fd__law_names : FuncData} (F__law_names : FunD K "_law_names" "_law_names" (defArgs s__law_names) (defBody s__law_names) (defScope s__law_names) [] [] f__law_names fd__law_names)
  (m__law_names : mg "_law_names" = some (.ref f__law_names))
  {f__law_sections : Addr} {fd__law_sections : FuncData} (F__law_sections : FunD K "_law_sections" "_law_sections" (defArgs s__law_sections) (defBody s__law_sections) (defScope s__law_sections) [] [] f__law_sections fd__law_sections)
  (m__law_sections : mg "_law_sections" = some (.ref f__law_sections))
  {f_go_together : Addr} {fd_go_together : FuncData} (F_go_together : FunD K "go_together" "go_together" (defArgs s_go_together) (defBody s_go_together) (defScope s_go_together) [] [] f_go_together fd_go_together)
  (m_go_together : mg "go_together" = some (.ref f_go_together))
  {f_is_section : Addr} {fd_is_section : FuncData} (F_is_section : FunD K "is_section" "is_section" (defArgs s_is_section) (defBody s_is_section) (defScope s_is_section) [] [] f_is_section fd_is_section)
  (m_is_section : mg "is_section" = some (.ref f_is_section))
  {f__law_wishes : Addr} {fd__law_wishes : FuncData} (F__law_wishes : FunD K "_law_wishes" "_law_wishes" (defArgs s__law_wishes) (defBody s__law_wishes) (defScope s__law_wishes) [] [] f__law_wishes fd__law_wishes)
  (m__law_wishes : mg "_law_wishes" = some (.ref f__law_wishes))
  {f_need_wish : Addr} {fd_need_wish : FuncData} (F_need_wish : FunD K "need_wish" "need_wish" (defArgs s_need_wish) (defBody s_need_wish) (defScope s_need_wish) [] [] f_need_wish fd_need_wish)
  (m_need_wish : mg "need_wish" = some (.ref f_need_wish))
  {f__law_jobs : Addr} {fd__law_jobs : FuncData} (F__law_jobs : FunD K "_law_jobs" "_law_jobs" (defArgs s__law_jobs) (defBody s__law_jobs) (defScope s__law_jobs) [] [] f__law_jobs fd__law_jobs)
  (m__law_jobs : mg "_law_jobs" = some (.ref f__law_jobs))
  (L__law_jobs : LamD ⟨P, w, K, mg, base, tab, N⟩ fd__law_jobs (("_law_jobs" : Str) ++ ".<locals>." ++ "<lambda>"))
  {f__law_raw : Addr} {fd__law_raw : FuncData} (F__law_raw : FunD K "_law_raw" "_law_raw" (defArgs s__law_raw) (defBody s__law_raw) (defScope s__law_raw) [] [] f__law_raw fd__law_raw)
  (m__law_raw : mg "_law_raw" = some (.ref f__law_raw))
  {f_are_sections : Addr} {fd_are_sections : FuncData} (F_are_sections : FunD K "are_sections" "are_sections" (defArgs s_are_sections) (defBody s_are_sections) (defScope s_are_sections) [] [] f_are_sections fd_are_sections)
  (m_are_sections : mg "are_sections" = some (.ref f_are_sections))
  {f_let_in : Addr} {fd_let_in : FuncData} (F_let_in : FunD K "let_in" "let_in" (defArgs s_let_in) (defBody s_let_in) (defScope s_let_in) [] [("gate", (.bl true))] f_let_in fd_let_in)
  (m_let_in : mg "let_in" = some (.ref f_let_in))
  {f_bad_part : Addr} {fd_bad_part : FuncData} (F_bad_part : FunD K "bad_part" "bad_part" (defArgs s_bad_part) (defBody s_bad_part) (defScope s_bad_part) [] [] f_bad_part fd_bad_part)
  (m_bad_part : mg "bad_part" = some (.ref f_bad_part))
  {f_Task___init__ : Addr} {fd_Task___init__ : FuncData} (F_Task___init__ : FunD K "__init__" "Task.__init__" (defArgs s_Task___init__) (defBody s_Task___init__) (defScope s_Task___init__) [] [("wait", (.int 0))] f_Task___init__ fd_Task___init__)
  (mk_Task : Mk K (N.cad 1) f_Task___init__) (mc_Task : mg "Task" = some (.ref (N.cad 1)))
  {f__law_plan : Addr} {fd__law_plan : FuncData} (F__law_plan : FunD K "_law_plan" "_law_plan" (defArgs s__law_plan) (defBody s__law_plan) (defScope s__law_plan) [] [] f__law_plan fd__law_plan)
  (m__law_plan : mg "_law_plan" = some (.ref f__law_plan))
  {f_law : Addr} {fd_law : FuncData} (F_law : FunD K "law" "law" (defArgs s_law) (defBody s_law) (defScope s_law) [] [] f_law fd_law)
  (m_law : mg "law" = some (.ref f_law))
  (cl_Plan : Cls K (N.cad 0))
  (cl_Task : Cls K (N.cad 1)) :
  FnOk P w K mg base CX0 19 f_law fd_law ["script"] (liftS N spLaw) := by
  have G__law_pen : FnOk P w K mg base CX0 1 f__law_pen fd__law_pen ["script"] (liftS N spPen) := fn_okD (b := ⟨P, w, K, mg, base, tab, N⟩) F__law_pen sc__law_pen Z.g (by intro ds M Q h; first | (obtain ⟨_, rfl, _⟩ := h; rfl) | (obtain ⟨_, _, rfl, _⟩ := h; rfl) | (obtain ⟨_, _, _, rfl, _⟩ := h; rfl) | (obtain ⟨_, _, _, _, rfl, _⟩ := h; rfl) | (obtain ⟨_, _, _, _, _, rfl, _⟩ := h; rfl) | (obtain ⟨_, _, _, _, _, _, rfl, _⟩ := h; rfl) | (obtain ⟨_, _, _, _, _, _, _, rfl, _⟩ := h; rfl) | (obtain ⟨_, _, _, _, _, _, _, _, rfl, _⟩ := h; rfl) | (obtain ⟨_, _, _, _, _, _, _, _, _, rfl, _⟩ := h; rfl) | (obtain ⟨_, _, _, _, _, _, _, _, _, _, rfl, _⟩ := h; rfl) | (obtain ⟨_, _, _, _, _, _, _, _, _, _, _, rfl, _⟩ := h; rfl)) (fun A hr => w__law_pen Z  hr) fit_pen
  have b_17 := F__law_pen.bindsN (ps := ["script"]) fun _ _ _ _ _ _ us hl => match us, hl with | [_], _ => rfl
  have e_17 : FnI ⟨P, w, K, mg, base, tab, N⟩ 1 "_law_pen" 1 (spN 17) := fnI_of0 G__law_pen m__law_pen F__law_pen.kp b_17 (by decide +kernel)
  have G__law_draw : FnOk P w K mg base CX0 1 f__law_draw fd__law_draw ["pen", "many"] (liftS N spDraw) := fn_okD (b := ⟨P, w, K, mg, base, tab, N⟩) F__law_draw sc__law_draw Z.g (by intro ds M Q h; first | (obtain ⟨_, rfl, _⟩ := h; rfl) | (obtain ⟨_, _, rfl, _⟩ := h; rfl) | (obtain ⟨_, _, _, rfl, _⟩ := h; rfl) | (obtain ⟨_, _, _, _, rfl, _⟩ := h; rfl) | (obtain ⟨_, _, _, _, _, rfl, _⟩ := h; rfl) | (obtain ⟨_, _, _, _, _, _, rfl, _⟩ := h; rfl) | (obtain ⟨_, _, _, _, _, _, _, rfl, _⟩ := h; rfl) | (obtain ⟨_, _, _, _, _, _, _, _, rfl, _⟩ := h; rfl) | (obtain ⟨_, _, _, _, _, _, _, _, _, rfl, _⟩ := h; rfl) | (obtain ⟨_, _, _, _, _, _, _, _, _, _, rfl, _⟩ := h; rfl) | (obtain ⟨_, _, _, _, _, _, _, _, _, _, _, rfl, _⟩ := h; rfl)) (fun A hr => w__law_draw Z  hr) fit_draw
  have b_0 := F__law_draw.bindsN (ps := ["pen", "many"]) fun _ _ _ _ _ _ us hl => match us, hl with | [_, _], _ => rfl
  have e_0 : FnI ⟨P, w, K, mg, base, tab, N⟩ 1 "_law_draw" 2 (spN 0) := fnI_of0 G__law_draw m__law_draw F__law_draw.kp b_0 (by decide +kernel)
  have G_Plan___init__ : FnOk P w K mg base CX0 1 f_Plan___init__ fd_Plan___init__ ["self", "tasks"] (liftS N spPlanInit) := fn_okD (b := ⟨P, w, K, mg, base, tab, N⟩) F_Plan___init__ sc_Plan___init__ Z.g (by intro ds M Q h; first | (obtain ⟨_, rfl, _⟩ := h; rfl) | (obtain ⟨_, _, rfl, _⟩ := h; rfl) | (obtain ⟨_, _, _, rfl, _⟩ := h; rfl) | (obtain ⟨_, _, _, _, rfl, _⟩ := h; rfl) | (obtain ⟨_, _, _, _, _, rfl, _⟩ := h; rfl) | (obtain ⟨_, _, _, _, _, _, rfl, _⟩ := h; rfl) | (obtain ⟨_, _, _, _, _, _, _, rfl, _⟩ := h; rfl) | (obtain ⟨_, _, _, _, _, _, _, _, rfl, _⟩ := h; rfl) | (obtain ⟨_, _, _, _, _, _, _, _, _, rfl, _⟩ := h; rfl) | (obtain ⟨_, _, _, _, _, _, _, _, _, _, rfl, _⟩ := h; rfl) | (obtain ⟨_, _, _, _, _, _, _, _, _, _, _, rfl, _⟩ := h; rfl)) (fun A hr => w_Plan___init__ Z  hr) fit_plan_init
  obtain ⟨ds_13, hv_13, b_13⟩ := F_Plan___init__.binds1 (ps := ["self", "tasks"]) 2 1 (fun z => nomatch z) rfl (fun T kV doc pm an cdv ct us its h1 h2 => match us, h1, its, h2 with | [_, _], _, [_], _ => ⟨_, rfl, rfl⟩)
  have e_13 : FnI ⟨P, w, K, mg, base, tab, N⟩ 2 "Plan" 1 (spN 13) := mkI_of (x := "Plan") (dd := []) mk_Plan (MkP.weak (mkP_frozenD (n := 3) (spI := fun ds => spPlanInit (ds ++ [])) (by rw [Z.g.nm.nms]; rfl)) (fun ds M Q h a ha => by show spPlanInit ((D.loc a :: ds) ++ []) _ _; rw [List.append_nil]; exact plan_mk ds M Q h a ha)) G_Plan___init__ mc_Plan b_13 hv_13 (fun _ => reps_nil.mpr rfl) (by decide +kernel)
  obtain ⟨ds_24, hv_24, b_24⟩ := F_Plan___init__.binds1 (ps := ["self", "tasks"]) 1 0 (fun z => nomatch z) rfl (fun T kV doc pm an cdv ct us its h1 h2 => match us, h1, its, h2 with | [_], _, [_], _ => ⟨_, rfl, rfl⟩)
  have e_24 : FnI ⟨P, w, K, mg, base, tab, N⟩ 2 "Plan" 0 (spN 24) := mkI_of (x := "Plan") (dd := [.kemp 0]) mk_Plan (MkP.weak (mkP_frozenD (n := 3) (spI := fun ds => spPlanInit (ds ++ [.kemp 0])) (by rw [Z.g.nm.nms]; rfl)) (fun ds M Q h => plan_mk (ds ++ [.kemp 0]) M Q h)) G_Plan___init__ mc_Plan b_24 hv_24 (fun _ => reps_cons.mpr ⟨_, _, rfl, (by unfold Rep; exact ⟨E0, hE0, rfl⟩), reps_nil.mpr rfl⟩) (by decide +kernel)
  have G_is_name : FnOk P w K mg base CX0 1 f_is_name fd_is_name ["thing"] (liftS N spIsName) := fn_okD (b := ⟨P, w, K, mg, base, tab, N⟩) F_is_name sc_is_name Z.g (by intro ds M Q h; first | (obtain ⟨_, rfl, _⟩ := h; rfl) | (obtain ⟨_, _, rfl, _⟩ := h; rfl) | (obtain ⟨_, _, _, rfl, _⟩ := h; rfl) | (obtain ⟨_, _, _, _, rfl, _⟩ := h; rfl) | (obtain ⟨_, _, _, _, _, rfl, _⟩ := h; rfl) | (obtain ⟨_, _, _, _, _, _, rfl, _⟩ := h; rfl) | (obtain ⟨_, _, _, _, _, _, _, rfl, _⟩ := h; rfl) | (obtain ⟨_, _, _, _, _, _, _, _, rfl, _⟩ := h; rfl) | (obtain ⟨_, _, _, _, _, _, _, _, _, rfl, _⟩ := h; rfl) | (obtain ⟨_, _, _, _, _, _, _, _, _, _, rfl, _⟩ := h; rfl) | (obtain ⟨_, _, _, _, _, _, _, _, _, _, _, rfl, _⟩ := h; rfl)) (fun A hr => w_is_name Z  hr) fit_is_name
  have b_6 := F_is_name.bindsN (ps := ["thing"]) fun _ _ _ _ _ _ us hl => match us, hl with | [_], _ => rfl
  have e_6 : FnI ⟨P, w, K, mg, base, tab, N⟩ 1 "is_name" 1 (spN 6) := fnI_of0 G_is_name m_is_name F_is_name.kp b_6 (by decide +kernel)
  have G_is_whole : FnOk P w K mg base CX0 1 f_is_whole fd_is_whole ["thing", "least"] (liftS N spIsWhole) := fn_okD (b := ⟨P, w, K, mg, base, tab, N⟩) F_is_whole sc_is_whole Z.g (by intro ds M Q h; first | (obtain ⟨_, rfl, _⟩ := h; rfl) | (obtain ⟨_, _, rfl, _⟩ := h; rfl) | (obtain ⟨_, _, _, rfl, _⟩ := h; rfl) | (obtain ⟨_, _, _, _, rfl, _⟩ := h; rfl) | (obtain ⟨_, _, _, _, _, rfl, _⟩ := h; rfl) | (obtain ⟨_, _, _, _, _, _, rfl, _⟩ := h; rfl) | (obtain ⟨_, _, _, _, _, _, _, rfl, _⟩ := h; rfl) | (obtain ⟨_, _, _, _, _, _, _, _, rfl, _⟩ := h; rfl) | (obtain ⟨_, _, _, _, _, _, _, _, _, rfl, _⟩ := h; rfl) | (obtain ⟨_, _, _, _, _, _, _, _, _, _, rfl, _⟩ := h; rfl) | (obtain ⟨_, _, _, _, _, _, _, _, _, _, _, rfl, _⟩ := h; rfl)) (fun A hr => w_is_whole Z  hr) fit_is_whole
  obtain ⟨ds_4, hv_4, b_4⟩ := F_is_whole.binds0 (ps := ["thing", "least"]) 1 (fun z => nomatch z) rfl (fun D doc pm an cdv ct us ks h1 h2 => match us, h1, ks, h2 with | [_], _, [_], _ => ⟨_, _, _, _, _, _, rfl, rfl, rfl⟩)
  have e_4 : FnI ⟨P, w, K, mg, base, tab, N⟩ 1 "is_whole" 1 (spN 4) := fnI_of (b := ⟨P, w, K, mg, base, tab, N⟩) (sp := spIsWhole) (x := "is_whole") (dd := [(.int 0)]) G_is_whole m_is_whole F_is_whole.kp b_4 hv_4 (fun _ => reps_cons.mpr ⟨_, _, rfl, (int_rep _), reps_nil.mpr rfl⟩) (by decide +kernel)
  obtain ⟨mv_5, b_5⟩ := F_is_whole.kbinds0 (ps := ["thing", "least"]) 1 ["least"] [] (fun us _ ws => us ++ ws) (fun z => nomatch z) (fun q z => nomatch z) (fun r1 _ r3 => r1.append r3) (fun D doc pm an cdv ct us mv ws h1 h2 h3 => match us, h1, mv, h2, ws, h3 with | [_], _, [], _, [_], _ => rfl)
  have e_5 : FnKI ⟨P, w, K, mg, base, tab, N⟩ 1 "is_whole" 1 ["least"] (spN 5) := fnKI_of (x := "is_whole") (n := 0) (gD := fun as bs => as ++ bs) G_is_whole m_is_whole F_is_whole.kp b_5 (by decide +kernel) (fun F as bs vs us _ _ r1 r2 => r1.append r2) (fun as bs M Q _ _ h => h)
  have G_lies_within : FnOk P w K mg base CX0 1 f_lies_within fd_lies_within ["one", "other"] (liftS N spWithin) := fn_okD (b := ⟨P, w, K, mg, base, tab, N⟩) F_lies_within sc_lies_within Z.g (by intro ds M Q h; first | (obtain ⟨_, rfl, _⟩ := h; rfl) | (obtain ⟨_, _, rfl, _⟩ := h; rfl) | (obtain ⟨_, _, _, rfl, _⟩ := h; rfl) | (obtain ⟨_, _, _, _, rfl, _⟩ := h; rfl) | (obtain ⟨_, _, _, _, _, rfl, _⟩ := h; rfl) | (obtain ⟨_, _, _, _, _, _, rfl, _⟩ := h; rfl) | (obtain ⟨_, _, _, _, _, _, _, rfl, _⟩ := h; rfl) | (obtain ⟨_, _, _, _, _, _, _, _, rfl, _⟩ := h; rfl) | (obtain ⟨_, _, _, _, _, _, _, _, _, rfl, _⟩ := h; rfl) | (obtain ⟨_, _, _, _, _, _, _, _, _, _, rfl, _⟩ := h; rfl) | (obtain ⟨_, _, _, _, _, _, _, _, _, _, _, rfl, _⟩ := h; rfl)) (fun A hr => w_lies_within Z  hr) fit_within
  have b_3 := F_lies_within.bindsN (ps := ["one", "other"]) fun _ _ _ _ _ _ us hl => match us, hl with | [_, _], _ => rfl
  have e_3 : FnI ⟨P, w, K, mg, base, tab, N⟩ 1 "lies_within" 2 (spN 3) := fnI_of0 G_lies_within m_lies_within F_lies_within.kp b_3 (by decide +kernel)
  have G_written_place : FnOk P w K mg base CX0 1 f_written_place fd_written_place ["section"] (liftS N spWritten) := fn_okD (b := ⟨P, w, K, mg, base, tab, N⟩) F_written_place sc_written_place Z.g (by intro ds M Q h; first | (obtain ⟨_, rfl, _⟩ := h; rfl) | (obtain ⟨_, _, rfl, _⟩ := h; rfl) | (obtain ⟨_, _, _, rfl, _⟩ := h; rfl) | (obtain ⟨_, _, _, _, rfl, _⟩ := h; rfl) | (obtain ⟨_, _, _, _, _, rfl, _⟩ := h; rfl) | (obtain ⟨_, _, _, _, _, _, rfl, _⟩ := h; rfl) | (obtain ⟨_, _, _, _, _, _, _, rfl, _⟩ := h; rfl) | (obtain ⟨_, _, _, _, _, _, _, _, rfl, _⟩ := h; rfl) | (obtain ⟨_, _, _, _, _, _, _, _, _, rfl, _⟩ := h; rfl) | (obtain ⟨_, _, _, _, _, _, _, _, _, _, rfl, _⟩ := h; rfl) | (obtain ⟨_, _, _, _, _, _, _, _, _, _, _, rfl, _⟩ := h; rfl)) (fun A hr => w_written_place Z  hr) fit_written
  have b_11 := F_written_place.bindsN (ps := ["section"]) fun _ _ _ _ _ _ us hl => match us, hl with | [_], _ => rfl
  have e_11 : FnI ⟨P, w, K, mg, base, tab, N⟩ 1 "written_place" 1 (spN 11) := fnI_of0 G_written_place m_written_place F_written_place.kp b_11 (by decide +kernel)
  have r_11 : FnRaw ⟨P, w, K, mg, base, tab, N⟩ 1 "written_place" (spN 11) := raw_of0 G_written_place m_written_place b_11
  have G_Plan_tasks : FnOk P w K mg base CX0 1 f_Plan_tasks fd_Plan_tasks ["self"] (liftS N spTasks) := fn_okD (b := ⟨P, w, K, mg, base, tab, N⟩) F_Plan_tasks sc_Plan_tasks Z.g (by intro ds M Q h; first | (obtain ⟨_, rfl, _⟩ := h; rfl) | (obtain ⟨_, _, rfl, _⟩ := h; rfl) | (obtain ⟨_, _, _, rfl, _⟩ := h; rfl) | (obtain ⟨_, _, _, _, rfl, _⟩ := h; rfl) | (obtain ⟨_, _, _, _, _, rfl, _⟩ := h; rfl) | (obtain ⟨_, _, _, _, _, _, rfl, _⟩ := h; rfl) | (obtain ⟨_, _, _, _, _, _, _, rfl, _⟩ := h; rfl) | (obtain ⟨_, _, _, _, _, _, _, _, rfl, _⟩ := h; rfl) | (obtain ⟨_, _, _, _, _, _, _, _, _, rfl, _⟩ := h; rfl) | (obtain ⟨_, _, _, _, _, _, _, _, _, _, rfl, _⟩ := h; rfl) | (obtain ⟨_, _, _, _, _, _, _, _, _, _, _, rfl, _⟩ := h; rfl)) (fun A hr => w_Plan_tasks Z  hr) fit_tasks
  have b_14 := F_Plan_tasks.bindsN (ps := ["self"]) fun _ _ _ _ _ _ us hl => match us, hl with | [_], _ => rfl
  have e_14 : MtI ⟨P, w, K, mg, base, tab, N⟩ 1 0 "tasks" 0 (spN 14) := mtI_of0 G_Plan_tasks Z.g cl_Plan mt_Plan_tasks b_14 (by rw [Z.g.nm.nms]; show ¬ (_ ∈ (cfsN 0).map fun f => (Str.ofString (attrN f) : Str)); exact (by decide +kernel))
  have G_jobs_of : FnOk P w K mg base CX0 1 f_jobs_of fd_jobs_of ["task", "rows", "gate"] (liftS N spJobsOf) := fn_okD (b := ⟨P, w, K, mg, base, tab, N⟩) F_jobs_of sc_jobs_of Z.g (by intro ds M Q h; first | (obtain ⟨_, rfl, _⟩ := h; rfl) | (obtain ⟨_, _, rfl, _⟩ := h; rfl) | (obtain ⟨_, _, _, rfl, _⟩ := h; rfl) | (obtain ⟨_, _, _, _, rfl, _⟩ := h; rfl) | (obtain ⟨_, _, _, _, _, rfl, _⟩ := h; rfl) | (obtain ⟨_, _, _, _, _, _, rfl, _⟩ := h; rfl) | (obtain ⟨_, _, _, _, _, _, _, rfl, _⟩ := h; rfl) | (obtain ⟨_, _, _, _, _, _, _, _, rfl, _⟩ := h; rfl) | (obtain ⟨_, _, _, _, _, _, _, _, _, rfl, _⟩ := h; rfl) | (obtain ⟨_, _, _, _, _, _, _, _, _, _, rfl, _⟩ := h; rfl) | (obtain ⟨_, _, _, _, _, _, _, _, _, _, _, rfl, _⟩ := h; rfl)) (fun A hr => w_jobs_of Z  hr) fit_jobs_of
  have b_16 := F_jobs_of.bindsN (ps := ["task", "rows", "gate"]) fun _ _ _ _ _ _ us hl => match us, hl with | [_, _, _], _ => rfl
  have e_16 : FnI ⟨P, w, K, mg, base, tab, N⟩ 1 "jobs_of" 3 (spN 16) := fnI_of0 G_jobs_of m_jobs_of F_jobs_of.kp b_16 (by decide +kernel)
  have G__law_names : FnOk P w K mg base CX0 4 f__law_names fd__law_names ["pen", "many"] (liftS N spNames) := fn_okD (b := ⟨P, w, K, mg, base, tab, N⟩) F__law_names sc__law_names Z.g (by intro ds M Q h; first | (obtain ⟨_, rfl, _⟩ := h; rfl) | (obtain ⟨_, _, rfl, _⟩ := h; rfl) | (obtain ⟨_, _, _, rfl, _⟩ := h; rfl) | (obtain ⟨_, _, _, _, rfl, _⟩ := h; rfl) | (obtain ⟨_, _, _, _, _, rfl, _⟩ := h; rfl) | (obtain ⟨_, _, _, _, _, _, rfl, _⟩ := h; rfl) | (obtain ⟨_, _, _, _, _, _, _, rfl, _⟩ := h; rfl) | (obtain ⟨_, _, _, _, _, _, _, _, rfl, _⟩ := h; rfl) | (obtain ⟨_, _, _, _, _, _, _, _, _, rfl, _⟩ := h; rfl) | (obtain ⟨_, _, _, _, _, _, _, _, _, _, rfl, _⟩ := h; rfl) | (obtain ⟨_, _, _, _, _, _, _, _, _, _, _, rfl, _⟩ := h; rfl)) (fun A hr => w__law_names Z e_0 hr) fit_names3
  have b_1 := F__law_names.bindsN (ps := ["pen", "many"]) fun _ _ _ _ _ _ us hl => match us, hl with | [_, _], _ => rfl
  have e_1 : FnI ⟨P, w, K, mg, base, tab, N⟩ 4 "_law_names" 2 (spN 1) := fnI_of0 G__law_names m__law_names F__law_names.kp b_1 (by decide +kernel)
  have G__law_sections : FnOk P w K mg base CX0 4 f__law_sections fd__law_sections ["pen", "limit", "locks"] (liftS N spSect3) := fn_okD (b := ⟨P, w, K, mg, base, tab, N⟩) F__law_sections sc__law_sections Z.g (by intro ds M Q h; first | (obtain ⟨_, rfl, _⟩ := h; rfl) | (obtain ⟨_, _, rfl, _⟩ := h; rfl) | (obtain ⟨_, _, _, rfl, _⟩ := h; rfl) | (obtain ⟨_, _, _, _, rfl, _⟩ := h; rfl) | (obtain ⟨_, _, _, _, _, rfl, _⟩ := h; rfl) | (obtain ⟨_, _, _, _, _, _, rfl, _⟩ := h; rfl) | (obtain ⟨_, _, _, _, _, _, _, rfl, _⟩ := h; rfl) | (obtain ⟨_, _, _, _, _, _, _, _, rfl, _⟩ := h; rfl) | (obtain ⟨_, _, _, _, _, _, _, _, _, rfl, _⟩ := h; rfl) | (obtain ⟨_, _, _, _, _, _, _, _, _, _, rfl, _⟩ := h; rfl) | (obtain ⟨_, _, _, _, _, _, _, _, _, _, _, rfl, _⟩ := h; rfl)) (fun A hr => w__law_sections Z e_0 hr) fit_sect3
  have b_2 := F__law_sections.bindsN (ps := ["pen", "limit", "locks"]) fun _ _ _ _ _ _ us hl => match us, hl with | [_, _, _], _ => rfl
  have e_2 : FnI ⟨P, w, K, mg, base, tab, N⟩ 4 "_law_sections" 3 (spN 2) := fnI_of0 G__law_sections m__law_sections F__law_sections.kp b_2 (by decide +kernel)
  have G_go_together : FnOk P w K mg base CX0 4 f_go_together fd_go_together ["one", "other"] (liftS N spGo) := fn_okD (b := ⟨P, w, K, mg, base, tab, N⟩) F_go_together sc_go_together Z.g (by intro ds M Q h; first | (obtain ⟨_, rfl, _⟩ := h; rfl) | (obtain ⟨_, _, rfl, _⟩ := h; rfl) | (obtain ⟨_, _, _, rfl, _⟩ := h; rfl) | (obtain ⟨_, _, _, _, rfl, _⟩ := h; rfl) | (obtain ⟨_, _, _, _, _, rfl, _⟩ := h; rfl) | (obtain ⟨_, _, _, _, _, _, rfl, _⟩ := h; rfl) | (obtain ⟨_, _, _, _, _, _, _, rfl, _⟩ := h; rfl) | (obtain ⟨_, _, _, _, _, _, _, _, rfl, _⟩ := h; rfl) | (obtain ⟨_, _, _, _, _, _, _, _, _, rfl, _⟩ := h; rfl) | (obtain ⟨_, _, _, _, _, _, _, _, _, _, rfl, _⟩ := h; rfl) | (obtain ⟨_, _, _, _, _, _, _, _, _, _, _, rfl, _⟩ := h; rfl)) (fun A hr => w_go_together Z e_3 hr) fit_go
  have b_8 := F_go_together.bindsN (ps := ["one", "other"]) fun _ _ _ _ _ _ us hl => match us, hl with | [_, _], _ => rfl
  have e_8 : FnI ⟨P, w, K, mg, base, tab, N⟩ 4 "go_together" 2 (spN 8) := fnI_of0 G_go_together m_go_together F_go_together.kp b_8 (by decide +kernel)
  have G_is_section : FnOk P w K mg base CX0 4 f_is_section fd_is_section ["thing", "most"] (liftS N spIsSection) := fn_okD (b := ⟨P, w, K, mg, base, tab, N⟩) F_is_section sc_is_section Z.g (by intro ds M Q h; first | (obtain ⟨_, rfl, _⟩ := h; rfl) | (obtain ⟨_, _, rfl, _⟩ := h; rfl) | (obtain ⟨_, _, _, rfl, _⟩ := h; rfl) | (obtain ⟨_, _, _, _, rfl, _⟩ := h; rfl) | (obtain ⟨_, _, _, _, _, rfl, _⟩ := h; rfl) | (obtain ⟨_, _, _, _, _, _, rfl, _⟩ := h; rfl) | (obtain ⟨_, _, _, _, _, _, _, rfl, _⟩ := h; rfl) | (obtain ⟨_, _, _, _, _, _, _, _, rfl, _⟩ := h; rfl) | (obtain ⟨_, _, _, _, _, _, _, _, _, rfl, _⟩ := h; rfl) | (obtain ⟨_, _, _, _, _, _, _, _, _, _, rfl, _⟩ := h; rfl) | (obtain ⟨_, _, _, _, _, _, _, _, _, _, _, rfl, _⟩ := h; rfl)) (fun A hr => w_is_section Z e_6 e_4 e_5 hr) fit_is_section
  have b_7 := F_is_section.bindsN (ps := ["thing", "most"]) fun _ _ _ _ _ _ us hl => match us, hl with | [_, _], _ => rfl
  have e_7 : FnI ⟨P, w, K, mg, base, tab, N⟩ 4 "is_section" 2 (spN 7) := fnI_of0 G_is_section m_is_section F_is_section.kp b_7 (by decide +kernel)
  have G__law_wishes : FnOk P w K mg base CX0 4 f__law_wishes fd__law_wishes ["pen", "raw", "many", "wide"] (liftS N spWishes) := fn_okD (b := ⟨P, w, K, mg, base, tab, N⟩) F__law_wishes sc__law_wishes Z.g (by intro ds M Q h; first | (obtain ⟨_, rfl, _⟩ := h; rfl) | (obtain ⟨_, _, rfl, _⟩ := h; rfl) | (obtain ⟨_, _, _, rfl, _⟩ := h; rfl) | (obtain ⟨_, _, _, _, rfl, _⟩ := h; rfl) | (obtain ⟨_, _, _, _, _, rfl, _⟩ := h; rfl) | (obtain ⟨_, _, _, _, _, _, rfl, _⟩ := h; rfl) | (obtain ⟨_, _, _, _, _, _, _, rfl, _⟩ := h; rfl) | (obtain ⟨_, _, _, _, _, _, _, _, rfl, _⟩ := h; rfl) | (obtain ⟨_, _, _, _, _, _, _, _, _, rfl, _⟩ := h; rfl) | (obtain ⟨_, _, _, _, _, _, _, _, _, _, rfl, _⟩ := h; rfl) | (obtain ⟨_, _, _, _, _, _, _, _, _, _, _, rfl, _⟩ := h; rfl)) (fun A hr => w__law_wishes Z e_0 hr) fit_wishes
  have b_20 := F__law_wishes.bindsN (ps := ["pen", "raw", "many", "wide"]) fun _ _ _ _ _ _ us hl => match us, hl with | [_, _, _, _], _ => rfl
  have e_20 : FnI ⟨P, w, K, mg, base, tab, N⟩ 4 "_law_wishes" 4 (spN 20) := fnI_of0 G__law_wishes m__law_wishes F__law_wishes.kp b_20 (by decide +kernel)
  have G_need_wish : FnOk P w K mg base CX0 4 f_need_wish fd_need_wish ["plan", "task", "work"] (liftS N spNeed) := fn_okD (b := ⟨P, w, K, mg, base, tab, N⟩) F_need_wish sc_need_wish Z.g (by intro ds M Q h; first | (obtain ⟨_, rfl, _⟩ := h; rfl) | (obtain ⟨_, _, rfl, _⟩ := h; rfl) | (obtain ⟨_, _, _, rfl, _⟩ := h; rfl) | (obtain ⟨_, _, _, _, rfl, _⟩ := h; rfl) | (obtain ⟨_, _, _, _, _, rfl, _⟩ := h; rfl) | (obtain ⟨_, _, _, _, _, _, rfl, _⟩ := h; rfl) | (obtain ⟨_, _, _, _, _, _, _, rfl, _⟩ := h; rfl) | (obtain ⟨_, _, _, _, _, _, _, _, rfl, _⟩ := h; rfl) | (obtain ⟨_, _, _, _, _, _, _, _, _, rfl, _⟩ := h; rfl) | (obtain ⟨_, _, _, _, _, _, _, _, _, _, rfl, _⟩ := h; rfl) | (obtain ⟨_, _, _, _, _, _, _, _, _, _, _, rfl, _⟩ := h; rfl)) (fun A hr => w_need_wish Z e_14 hr) fit_need
  have b_15 := F_need_wish.bindsN (ps := ["plan", "task", "work"]) fun _ _ _ _ _ _ us hl => match us, hl with | [_, _, _], _ => rfl
  have e_15 : FnI ⟨P, w, K, mg, base, tab, N⟩ 4 "need_wish" 3 (spN 15) := fnI_of0 G_need_wish m_need_wish F_need_wish.kp b_15 (by decide +kernel)
  have G__law_jobs : FnOk P w K mg base CX0 4 f__law_jobs fd__law_jobs ["raw", "rows", "shut"] (liftS N spLawJobs) := fn_okL (b := ⟨P, w, K, mg, base, tab, N⟩) F__law_jobs sc__law_jobs Z.g L__law_jobs (by intro ds M Q h; first | (obtain ⟨_, rfl, _⟩ := h; rfl) | (obtain ⟨_, _, rfl, _⟩ := h; rfl) | (obtain ⟨_, _, _, rfl, _⟩ := h; rfl) | (obtain ⟨_, _, _, _, rfl, _⟩ := h; rfl) | (obtain ⟨_, _, _, _, _, rfl, _⟩ := h; rfl) | (obtain ⟨_, _, _, _, _, _, rfl, _⟩ := h; rfl) | (obtain ⟨_, _, _, _, _, _, _, rfl, _⟩ := h; rfl) | (obtain ⟨_, _, _, _, _, _, _, _, rfl, _⟩ := h; rfl) | (obtain ⟨_, _, _, _, _, _, _, _, _, rfl, _⟩ := h; rfl) | (obtain ⟨_, _, _, _, _, _, _, _, _, _, rfl, _⟩ := h; rfl) | (obtain ⟨_, _, _, _, _, _, _, _, _, _, _, rfl, _⟩ := h; rfl)) (fun A hr => w__law_jobs Z  hr) fit_law_jobs
  have b_21 := F__law_jobs.bindsN (ps := ["raw", "rows", "shut"]) fun _ _ _ _ _ _ us hl => match us, hl with | [_, _, _], _ => rfl
  have e_21 : FnI ⟨P, w, K, mg, base, tab, N⟩ 4 "_law_jobs" 3 (spN 21) := fnI_of0 G__law_jobs m__law_jobs F__law_jobs.kp b_21 (by decide +kernel)
  have G__law_raw : FnOk P w K mg base CX0 7 f__law_raw fd__law_raw ["pen", "many", "wide"] (liftS N spRaws3) := fn_okD (b := ⟨P, w, K, mg, base, tab, N⟩) F__law_raw sc__law_raw Z.g (by intro ds M Q h; first | (obtain ⟨_, rfl, _⟩ := h; rfl) | (obtain ⟨_, _, rfl, _⟩ := h; rfl) | (obtain ⟨_, _, _, rfl, _⟩ := h; rfl) | (obtain ⟨_, _, _, _, rfl, _⟩ := h; rfl) | (obtain ⟨_, _, _, _, _, rfl, _⟩ := h; rfl) | (obtain ⟨_, _, _, _, _, _, rfl, _⟩ := h; rfl) | (obtain ⟨_, _, _, _, _, _, _, rfl, _⟩ := h; rfl) | (obtain ⟨_, _, _, _, _, _, _, _, rfl, _⟩ := h; rfl) | (obtain ⟨_, _, _, _, _, _, _, _, _, rfl, _⟩ := h; rfl) | (obtain ⟨_, _, _, _, _, _, _, _, _, _, rfl, _⟩ := h; rfl) | (obtain ⟨_, _, _, _, _, _, _, _, _, _, _, rfl, _⟩ := h; rfl)) (fun A hr => w__law_raw Z e_0 e_1 e_2 hr) fit_raws3
  have b_18 := F__law_raw.bindsN (ps := ["pen", "many", "wide"]) fun _ _ _ _ _ _ us hl => match us, hl with | [_, _, _], _ => rfl
  have e_18 : FnI ⟨P, w, K, mg, base, tab, N⟩ 7 "_law_raw" 3 (spN 18) := fnI_of0 G__law_raw m__law_raw F__law_raw.kp b_18 (by decide +kernel)
  have G_are_sections : FnOk P w K mg base CX0 7 f_are_sections fd_are_sections ["thing", "most"] (liftS N spAreSections) := fn_okD (b := ⟨P, w, K, mg, base, tab, N⟩) F_are_sections sc_are_sections Z.g (by intro ds M Q h; first | (obtain ⟨_, rfl, _⟩ := h; rfl) | (obtain ⟨_, _, rfl, _⟩ := h; rfl) | (obtain ⟨_, _, _, rfl, _⟩ := h; rfl) | (obtain ⟨_, _, _, _, rfl, _⟩ := h; rfl) | (obtain ⟨_, _, _, _, _, rfl, _⟩ := h; rfl) | (obtain ⟨_, _, _, _, _, _, rfl, _⟩ := h; rfl) | (obtain ⟨_, _, _, _, _, _, _, rfl, _⟩ := h; rfl) | (obtain ⟨_, _, _, _, _, _, _, _, rfl, _⟩ := h; rfl) | (obtain ⟨_, _, _, _, _, _, _, _, _, rfl, _⟩ := h; rfl) | (obtain ⟨_, _, _, _, _, _, _, _, _, _, rfl, _⟩ := h; rfl) | (obtain ⟨_, _, _, _, _, _, _, _, _, _, _, rfl, _⟩ := h; rfl)) (fun A hr => w_are_sections Z e_8 e_7 hr) fit_are_sections
  have b_9 := F_are_sections.bindsN (ps := ["thing", "most"]) fun _ _ _ _ _ _ us hl => match us, hl with | [_, _], _ => rfl
  have e_9 : FnI ⟨P, w, K, mg, base, tab, N⟩ 7 "are_sections" 2 (spN 9) := fnI_of0 G_are_sections m_are_sections F_are_sections.kp b_9 (by decide +kernel)
  have G_let_in : FnOk P w K mg base CX0 7 f_let_in fd_let_in ["plan", "wishes", "gate"] (liftS N spLetIn) := fn_okD (b := ⟨P, w, K, mg, base, tab, N⟩) F_let_in sc_let_in Z.g (by intro ds M Q h; first | (obtain ⟨_, rfl, _⟩ := h; rfl) | (obtain ⟨_, _, rfl, _⟩ := h; rfl) | (obtain ⟨_, _, _, rfl, _⟩ := h; rfl) | (obtain ⟨_, _, _, _, rfl, _⟩ := h; rfl) | (obtain ⟨_, _, _, _, _, rfl, _⟩ := h; rfl) | (obtain ⟨_, _, _, _, _, _, rfl, _⟩ := h; rfl) | (obtain ⟨_, _, _, _, _, _, _, rfl, _⟩ := h; rfl) | (obtain ⟨_, _, _, _, _, _, _, _, rfl, _⟩ := h; rfl) | (obtain ⟨_, _, _, _, _, _, _, _, _, rfl, _⟩ := h; rfl) | (obtain ⟨_, _, _, _, _, _, _, _, _, _, rfl, _⟩ := h; rfl) | (obtain ⟨_, _, _, _, _, _, _, _, _, _, _, rfl, _⟩ := h; rfl)) (fun A hr => w_let_in Z e_14 e_16 e_15 hr) fit_let_in
  obtain ⟨mv_22, b_22⟩ := F_let_in.kbinds0 (ps := ["plan", "wishes", "gate"]) 2 ["gate"] [] (fun us _ ws => us ++ ws) (fun z => nomatch z) (fun q z => nomatch z) (fun r1 _ r3 => r1.append r3) (fun D doc pm an cdv ct us mv ws h1 h2 h3 => match us, h1, mv, h2, ws, h3 with | [_, _], _, [], _, [_], _ => rfl)
  have e_22 : FnKI ⟨P, w, K, mg, base, tab, N⟩ 7 "let_in" 2 ["gate"] (spN 22) := fnKI_of (x := "let_in") (n := 1) (gD := fun as bs => as ++ bs) G_let_in m_let_in F_let_in.kp b_22 (by decide +kernel) (fun F as bs vs us _ _ r1 r2 => r1.append r2) (fun as bs M Q _ _ h => h)
  obtain ⟨ds_23, hv_23, b_23⟩ := F_let_in.binds0 (ps := ["plan", "wishes", "gate"]) 2 (fun z => nomatch z) rfl (fun D doc pm an cdv ct us ks h1 h2 => match us, h1, ks, h2 with | [_, _], _, [_], _ => ⟨_, _, _, _, _, _, rfl, rfl, rfl⟩)
  have e_23 : FnI ⟨P, w, K, mg, base, tab, N⟩ 7 "let_in" 2 (spN 23) := fnI_of (b := ⟨P, w, K, mg, base, tab, N⟩) (sp := spLetIn) (x := "let_in") (dd := [(.bl true)]) G_let_in m_let_in F_let_in.kp b_23 hv_23 (fun _ => reps_cons.mpr ⟨_, _, rfl, (rep_bl.mpr rfl), reps_nil.mpr rfl⟩) (by decide +kernel)
  have G_bad_part : FnOk P w K mg base CX0 10 f_bad_part fd_bad_part ["name", "rank", "gap", "most", "due", "wait", "sections"] (liftS N spBadPart) := fn_okD (b := ⟨P, w, K, mg, base, tab, N⟩) F_bad_part sc_bad_part Z.g (by intro ds M Q h; first | (obtain ⟨_, rfl, _⟩ := h; rfl) | (obtain ⟨_, _, rfl, _⟩ := h; rfl) | (obtain ⟨_, _, _, rfl, _⟩ := h; rfl) | (obtain ⟨_, _, _, _, rfl, _⟩ := h; rfl) | (obtain ⟨_, _, _, _, _, rfl, _⟩ := h; rfl) | (obtain ⟨_, _, _, _, _, _, rfl, _⟩ := h; rfl) | (obtain ⟨_, _, _, _, _, _, _, rfl, _⟩ := h; rfl) | (obtain ⟨_, _, _, _, _, _, _, _, rfl, _⟩ := h; rfl) | (obtain ⟨_, _, _, _, _, _, _, _, _, rfl, _⟩ := h; rfl) | (obtain ⟨_, _, _, _, _, _, _, _, _, _, rfl, _⟩ := h; rfl) | (obtain ⟨_, _, _, _, _, _, _, _, _, _, _, rfl, _⟩ := h; rfl)) (fun A hr => w_bad_part Z e_9 e_6 e_4 e_5 hr) fit_bad_part
  have b_10 := F_bad_part.bindsN (ps := ["name", "rank", "gap", "most", "due", "wait", "sections"]) fun _ _ _ _ _ _ us hl => match us, hl with | [_, _, _, _, _, _, _], _ => rfl
  have e_10 : FnI ⟨P, w, K, mg, base, tab, N⟩ 10 "bad_part" 7 (spN 10) := fnI_of0 G_bad_part m_bad_part F_bad_part.kp b_10 (by decide +kernel)
  have G_Task___init__ : FnOk P w K mg base CX0 13 f_Task___init__ fd_Task___init__ ["self", "name", "rank", "gap", "most", "due", "wait", "sections"] (liftS N spTaskInit) := fn_okD (b := ⟨P, w, K, mg, base, tab, N⟩) F_Task___init__ sc_Task___init__ Z.g (by intro ds M Q h; first | (obtain ⟨_, rfl, _⟩ := h; rfl) | (obtain ⟨_, _, rfl, _⟩ := h; rfl) | (obtain ⟨_, _, _, rfl, _⟩ := h; rfl) | (obtain ⟨_, _, _, _, rfl, _⟩ := h; rfl) | (obtain ⟨_, _, _, _, _, rfl, _⟩ := h; rfl) | (obtain ⟨_, _, _, _, _, _, rfl, _⟩ := h; rfl) | (obtain ⟨_, _, _, _, _, _, _, rfl, _⟩ := h; rfl) | (obtain ⟨_, _, _, _, _, _, _, _, rfl, _⟩ := h; rfl) | (obtain ⟨_, _, _, _, _, _, _, _, _, rfl, _⟩ := h; rfl) | (obtain ⟨_, _, _, _, _, _, _, _, _, _, rfl, _⟩ := h; rfl) | (obtain ⟨_, _, _, _, _, _, _, _, _, _, _, rfl, _⟩ := h; rfl)) (fun A hr => w_Task___init__ Z e_10 r_11 hr) fit_task_init
  obtain ⟨mv_12, b_12⟩ := F_Task___init__.kbinds0 (ps := ["self", "name", "rank", "gap", "most", "due", "wait", "sections"]) 2 ["rank", "gap", "most", "due", "wait", "sections"] [] (fun us _ ws => us ++ ws) (fun z => nomatch z) (fun q z => nomatch z) (fun r1 _ r3 => r1.append r3) (fun D doc pm an cdv ct us mv ws h1 h2 h3 => match us, h1, mv, h2, ws, h3 with | [_, _], _, [], _, [_, _, _, _, _, _], _ => rfl)
  have e_12 : FnKI ⟨P, w, K, mg, base, tab, N⟩ 14 "Task" 1 ["rank", "gap", "most", "due", "wait", "sections"] (spN 12) := mkKI_of (n := 0) (x := "Task") (gD := fun as bs => as ++ bs) mk_Task (MkP.weak (mkP_frozen (n := 7) (by rw [Z.g.nm.nms]; rfl)) task_mk) G_Task___init__ mc_Task b_12 (by decide +kernel) (fun y vs us => rfl) (fun F y as bs vs us _ _ r1 r2 => r1.append r2) (fun as bs M Q _ _ h => h)
  have G__law_plan : FnOk P w K mg base CX0 16 f__law_plan fd__law_plan ["raw"] (liftS N spMade) := fn_okD (b := ⟨P, w, K, mg, base, tab, N⟩) F__law_plan sc__law_plan Z.g (by intro ds M Q h; first | (obtain ⟨_, rfl, _⟩ := h; rfl) | (obtain ⟨_, _, rfl, _⟩ := h; rfl) | (obtain ⟨_, _, _, rfl, _⟩ := h; rfl) | (obtain ⟨_, _, _, _, rfl, _⟩ := h; rfl) | (obtain ⟨_, _, _, _, _, rfl, _⟩ := h; rfl) | (obtain ⟨_, _, _, _, _, _, rfl, _⟩ := h; rfl) | (obtain ⟨_, _, _, _, _, _, _, rfl, _⟩ := h; rfl) | (obtain ⟨_, _, _, _, _, _, _, _, rfl, _⟩ := h; rfl) | (obtain ⟨_, _, _, _, _, _, _, _, _, rfl, _⟩ := h; rfl) | (obtain ⟨_, _, _, _, _, _, _, _, _, _, rfl, _⟩ := h; rfl) | (obtain ⟨_, _, _, _, _, _, _, _, _, _, _, rfl, _⟩ := h; rfl)) (fun A hr => w__law_plan Z e_13 e_12 hr) fit_plan3
  have b_19 := F__law_plan.bindsN (ps := ["raw"]) fun _ _ _ _ _ _ us hl => match us, hl with | [_], _ => rfl
  have e_19 : FnI ⟨P, w, K, mg, base, tab, N⟩ 16 "_law_plan" 1 (spN 19) := fnI_of0 G__law_plan m__law_plan F__law_plan.kp b_19 (by decide +kernel)
  have G_law : FnOk P w K mg base CX0 19 f_law fd_law ["script"] (liftS N spLaw) := fn_okD (b := ⟨P, w, K, mg, base, tab, N⟩) F_law sc_law Z.g (by intro ds M Q h; first | (obtain ⟨_, rfl, _⟩ := h; rfl) | (obtain ⟨_, _, rfl, _⟩ := h; rfl) | (obtain ⟨_, _, _, rfl, _⟩ := h; rfl) | (obtain ⟨_, _, _, _, rfl, _⟩ := h; rfl) | (obtain ⟨_, _, _, _, _, rfl, _⟩ := h; rfl) | (obtain ⟨_, _, _, _, _, _, rfl, _⟩ := h; rfl) | (obtain ⟨_, _, _, _, _, _, _, rfl, _⟩ := h; rfl) | (obtain ⟨_, _, _, _, _, _, _, _, rfl, _⟩ := h; rfl) | (obtain ⟨_, _, _, _, _, _, _, _, _, rfl, _⟩ := h; rfl) | (obtain ⟨_, _, _, _, _, _, _, _, _, _, rfl, _⟩ := h; rfl) | (obtain ⟨_, _, _, _, _, _, _, _, _, _, _, rfl, _⟩ := h; rfl)) (fun A hr => w_law Z e_24 e_0 e_21 e_17 e_19 e_18 e_20 e_23 e_22 hr) fit_law
  exact G_law
end
end LawW

set_option Elab.async false
set_option linter.all false
set_option maxRecDepth 100000
set_option maxHeartbeats 0
namespace LawW
open PySem L2 PySem.W DL PySem.Spec PyProof.Rows
def d__law_pen : He.DefD := ⟨("_law_pen", none), "_law_pen", "_law_pen", defArgs s__law_pen, defBody s__law_pen, defScope s__law_pen, [], []⟩
def d__law_draw : He.DefD := ⟨("_law_draw", none), "_law_draw", "_law_draw", defArgs s__law_draw, defBody s__law_draw, defScope s__law_draw, [], []⟩
def d_Plan___init__ : He.DefD := ⟨("Plan", some "__init__"), "__init__", "Plan.__init__", defArgs s_Plan___init__, defBody s_Plan___init__, defScope s_Plan___init__, [.adr (He.dflAt ("Plan", some "__init__") 0)], []⟩
def d_is_name : He.DefD := ⟨("is_name", none), "is_name", "is_name", defArgs s_is_name, defBody s_is_name, defScope s_is_name, [], []⟩
def d_is_whole : He.DefD := ⟨("is_whole", none), "is_whole", "is_whole", defArgs s_is_whole, defBody s_is_whole, defScope s_is_whole, [], [("least", (.int 0))]⟩
def d_lies_within : He.DefD := ⟨("lies_within", none), "lies_within", "lies_within", defArgs s_lies_within, defBody s_lies_within, defScope s_lies_within, [], []⟩
def d_written_place : He.DefD := ⟨("written_place", none), "written_place", "written_place", defArgs s_written_place, defBody s_written_place, defScope s_written_place, [], []⟩
def d_Plan_tasks : He.DefD := ⟨("Plan", some "tasks"), "tasks", "Plan.tasks", defArgs s_Plan_tasks, defBody s_Plan_tasks, defScope s_Plan_tasks, [], []⟩
def d_jobs_of : He.DefD := ⟨("jobs_of", none), "jobs_of", "jobs_of", defArgs s_jobs_of, defBody s_jobs_of, defScope s_jobs_of, [], []⟩
def d__law_names : He.DefD := ⟨("_law_names", none), "_law_names", "_law_names", defArgs s__law_names, defBody s__law_names, defScope s__law_names, [], []⟩
def d__law_sections : He.DefD := ⟨("_law_sections", none), "_law_sections", "_law_sections", defArgs s__law_sections, defBody s__law_sections, defScope s__law_sections, [], []⟩
def d_go_together : He.DefD := ⟨("go_together", none), "go_together", "go_together", defArgs s_go_together, defBody s_go_together, defScope s_go_together, [], []⟩
def d_is_section : He.DefD := ⟨("is_section", none), "is_section", "is_section", defArgs s_is_section, defBody s_is_section, defScope s_is_section, [], []⟩
def d__law_wishes : He.DefD := ⟨("_law_wishes", none), "_law_wishes", "_law_wishes", defArgs s__law_wishes, defBody s__law_wishes, defScope s__law_wishes, [], []⟩
def d_need_wish : He.DefD := ⟨("need_wish", none), "need_wish", "need_wish", defArgs s_need_wish, defBody s_need_wish, defScope s_need_wish, [], []⟩
def d__law_jobs : He.DefD := ⟨("_law_jobs", none), "_law_jobs", "_law_jobs", defArgs s__law_jobs, defBody s__law_jobs, defScope s__law_jobs, [], []⟩
def d__law_raw : He.DefD := ⟨("_law_raw", none), "_law_raw", "_law_raw", defArgs s__law_raw, defBody s__law_raw, defScope s__law_raw, [], []⟩
def d_are_sections : He.DefD := ⟨("are_sections", none), "are_sections", "are_sections", defArgs s_are_sections, defBody s_are_sections, defScope s_are_sections, [], []⟩
def d_let_in : He.DefD := ⟨("let_in", none), "let_in", "let_in", defArgs s_let_in, defBody s_let_in, defScope s_let_in, [], [("gate", (.bl true))]⟩
def d_bad_part : He.DefD := ⟨("bad_part", none), "bad_part", "bad_part", defArgs s_bad_part, defBody s_bad_part, defScope s_bad_part, [], []⟩
def d_Task___init__ : He.DefD := ⟨("Task", some "__init__"), "__init__", "Task.__init__", defArgs s_Task___init__, defBody s_Task___init__, defScope s_Task___init__, [], [("wait", (.int 0))]⟩
def d__law_plan : He.DefD := ⟨("_law_plan", none), "_law_plan", "_law_plan", defArgs s__law_plan, defBody s__law_plan, defScope s__law_plan, [], []⟩
def d_law : He.DefD := ⟨("law", none), "law", "law", defArgs s_law, defBody s_law, defScope s_law, [], []⟩
def fnL : List He.DefD := ([d__law_pen, d__law_draw, d_Plan___init__, d_is_name, d_is_whole, d_lies_within, d_written_place, d_Plan_tasks, d_jobs_of, d__law_names, d__law_sections, d_go_together, d_is_section, d__law_wishes, d_need_wish, d__law_jobs, d__law_raw, d_are_sections, d_let_in, d_bad_part, d_Task___init__, d__law_plan, d_law] : List He.DefD)
def faL : List He.Fa := ([.glo "_law_pen", .glo "_law_draw", .glo "is_name", .glo "is_whole", .glo "lies_within", .glo "written_place", .meth "Plan" "tasks", .glo "jobs_of", .glo "_law_names", .glo "_law_sections", .glo "go_together", .glo "is_section", .glo "_law_wishes", .glo "need_wish", .glo "_law_jobs", .glo "_law_raw", .glo "are_sections", .glo "let_in", .glo "bad_part", .glo "_law_plan", .glo "law", .glo "Plan", .cls "Plan", .mkr "Plan", .noat "Plan" "by_name", .noat "Plan" "by_rank", .noat "Plan" "ceilings", .glo "Task", .cls "Task", .mkr "Task"] : List He.Fa) ++ ([.noat "Task" "name", .noat "Task" "rank", .noat "Task" "gap", .noat "Task" "most", .noat "Task" "due", .noat "Task" "wait", .noat "Task" "sections", .free "abs", .free "all", .free "bool", .free "enumerate", .free "int", .free "isinstance", .free "len", .free "list", .free "max", .free "min", .free "range", .free "sorted", .free "str", .free "tuple", .int "LONGEST_NAME" 12, .str "LETTERS" "abcdefghijklmnopqrstuvwxyz"] : List He.Fa)
def tfL : List (He.Defn × Str) := [(("_law_jobs", none), ("_law_jobs" : Str) ++ ".<locals>." ++ "<lambda>")]
def exB (K : PySem.W.Frag) : Bool := (empB K (He.dflAt ("Plan", some "__init__") 0 K)) && decide (((DL.tbsOf K tfL).map (·.1)).Nodup)
def nam (K : PySem.W.Frag) : Nam := { cad := fun c => if c = 0 then He.ga K "Plan" else He.ga K "Task", nms := fun c => (cfsN c).map fun f => (Str.ofString (attrN f) : Str), emp := fun i => if i = 0 then some (He.dflAt ("Plan", some "__init__") 0 K) else none, kl := fun a ns => ∃ (o : Obj) (its : Array Value) (n : Nat), K.lookup a = some o ∧ o.cls = .type "list" ∧ o.dict = none ∧ o.data = .seq its n ∧ its.size ≤ sizeLine ∧ Vals (ns.map V.int) its.toList, tbs := DL.tbsOf K tfL }
theorem nm_ok {K : PySem.W.Frag} : NmOk tab (nam K) := by
  refine ⟨fun _ => rfl, fun c f g hf hg e => ?_, fun c => ?_, fun c => ?_⟩
  · have h : ∀ c, ∀ f ∈ cfsN c, ∀ g ∈ cfsN c, (Str.ofString (attrN f) : Str) = Str.ofString (attrN g) → f = g := fun c => match c with | 0 => by decide +kernel | 1 => by decide +kernel | _ + 2 => fun f hf => (nomatch hf)
    exact h c f hf g hg e
  · show (cfsN c).length < 1000
    exact match c with | 0 => by decide | 1 => by decide | _ + 2 => by show 0 < 1000; decide
  · show (cfsN c).Nodup
    exact match c with | 0 => by decide | 1 => by decide | _ + 2 => List.nodup_nil
theorem law_start {K : PySem.W.Frag} {H : Hp} {a : Addr} {ns : List Int} (hl : ns.length ≤ 63) (hS : SqL K H a (ns.map V.int)) (hT : ∀ p ∈ (nam K).tbs, H p.1 = some (.tbl #[])) {Q : VK} {E : XK} (hQ : ∀ H', Q (.bl true) H') : liftS (nam K) spLaw [.ref a] H Q E := by
  refine ⟨noTbl H, fun _ => none, [.scr ns], fun d _ => d = .bl true, ⟨fun _ _ h => noTbl_sub h, fun _ _ h => (nomatch h), fun _ _ h => (nomatch h), tb_start hT⟩, .one (rep_scr.mpr ⟨a, rfl, noTbl_sq hS, Nat.le_trans hl (by decide)⟩), ⟨ns, rfl, hl, rfl, fun _ => rfl⟩, fun d M' v H' F' e S r => ?_⟩
  subst e
  unfold Rep at r
  subst r
  exact hQ H'

theorem all_mk {P : Program} {w : World} {K : PySem.W.Frag} {h : Heap} {mg : Str → Option Value} {fa : Addr} (X : K.In h) (G : h.Ns mainGlobals mg) (hfa : mg "law" = some (.ref fa)) (c : He.SaysX faL fnL [] (tfL.map (·.1)) exB w h K) :
    ∃ fd : FuncData, (∀ (s : Shared) (v : Value), BindsTo s fd ⟨[v], []⟩ [("script", v)]) ∧ ∀ base : Heap, K.In base → base.Ns mainGlobals mg → (∀ p ∈ tfL.map (·.1), LamX.TabB base mg (He.cT K p).1 (He.cT K p).2) → FnOk P w K mg base CX0 19 fa fd ["script"] (liftS (nam K) spLaw) := by
  obtain ⟨fd__law_pen, F__law_pen⟩ := saysX_def c 0 (d := d__law_pen) rfl
  obtain ⟨fd__law_draw, F__law_draw⟩ := saysX_def c 1 (d := d__law_draw) rfl
  obtain ⟨fd_Plan___init__, F_Plan___init__⟩ := saysX_def c 2 (d := d_Plan___init__) rfl
  obtain ⟨fd_is_name, F_is_name⟩ := saysX_def c 3 (d := d_is_name) rfl
  obtain ⟨fd_is_whole, F_is_whole⟩ := saysX_def c 4 (d := d_is_whole) rfl
  obtain ⟨fd_lies_within, F_lies_within⟩ := saysX_def c 5 (d := d_lies_within) rfl
  obtain ⟨fd_written_place, F_written_place⟩ := saysX_def c 6 (d := d_written_place) rfl
  obtain ⟨fd_Plan_tasks, F_Plan_tasks⟩ := saysX_def c 7 (d := d_Plan_tasks) rfl
  obtain ⟨fd_jobs_of, F_jobs_of⟩ := saysX_def c 8 (d := d_jobs_of) rfl
  obtain ⟨fd__law_names, F__law_names⟩ := saysX_def c 9 (d := d__law_names) rfl
  obtain ⟨fd__law_sections, F__law_sections⟩ := saysX_def c 10 (d := d__law_sections) rfl
  obtain ⟨fd_go_together, F_go_together⟩ := saysX_def c 11 (d := d_go_together) rfl
  obtain ⟨fd_is_section, F_is_section⟩ := saysX_def c 12 (d := d_is_section) rfl
  obtain ⟨fd__law_wishes, F__law_wishes⟩ := saysX_def c 13 (d := d__law_wishes) rfl
  obtain ⟨fd_need_wish, F_need_wish⟩ := saysX_def c 14 (d := d_need_wish) rfl
  obtain ⟨fd__law_jobs, F__law_jobs⟩ := saysX_def c 15 (d := d__law_jobs) rfl
  obtain ⟨fd__law_raw, F__law_raw⟩ := saysX_def c 16 (d := d__law_raw) rfl
  obtain ⟨fd_are_sections, F_are_sections⟩ := saysX_def c 17 (d := d_are_sections) rfl
  obtain ⟨fd_let_in, F_let_in⟩ := saysX_def c 18 (d := d_let_in) rfl
  obtain ⟨fd_bad_part, F_bad_part⟩ := saysX_def c 19 (d := d_bad_part) rfl
  obtain ⟨fd_Task___init__, F_Task___init__⟩ := saysX_def c 20 (d := d_Task___init__) rfl
  obtain ⟨fd__law_plan, F__law_plan⟩ := saysX_def c 21 (d := d__law_plan) rfl
  obtain ⟨fd_law, F_law⟩ := saysX_def c 22 (d := d_law) rfl
  have e := hfa.symm.trans (He.glo_ok X G (saysX_fact c 20 (f := .glo "law") rfl))
  cases e
  have b := FunD.bindsA (ps := ["script"]) F_law fun _ _ _ _ _ _ us hl => match us, hl with | [_], _ => rfl
  refine ⟨fd_law, fun s v => b s [v] rfl, fun base _ _ TB => ?_⟩
  have nd : ((DL.tbsOf K tfL).map (·.1)).Nodup := of_decide_eq_true (He.ba (show (_ && _) = true from c.more)).2
  refine law_ok (P := P) (w := w) (K := K) (mg := mg) (base := base) (N := nam K) (E0 := He.dflAt ("Plan", some "__init__") 0 K) rfl ?Z F__law_pen (He.glo_ok X G (saysX_fact c 0 (f := .glo "_law_pen") rfl)) F__law_draw (He.glo_ok X G (saysX_fact c 1 (f := .glo "_law_draw") rfl)) F_Plan___init__ (He.mkr_ok (saysX_fact c 23 (f := .mkr "Plan") rfl)) (He.glo_ok X G (saysX_fact c 21 (f := .glo "Plan") rfl)) F_is_name (He.glo_ok X G (saysX_fact c 2 (f := .glo "is_name") rfl)) F_is_whole (He.glo_ok X G (saysX_fact c 3 (f := .glo "is_whole") rfl)) F_lies_within (He.glo_ok X G (saysX_fact c 4 (f := .glo "lies_within") rfl)) F_written_place (He.glo_ok X G (saysX_fact c 5 (f := .glo "written_place") rfl)) F_Plan_tasks (He.meth_ok (saysX_fact c 6 (f := .meth "Plan" "tasks") rfl)) F_jobs_of (He.glo_ok X G (saysX_fact c 7 (f := .glo "jobs_of") rfl)) F__law_names (He.glo_ok X G (saysX_fact c 8 (f := .glo "_law_names") rfl)) F__law_sections (He.glo_ok X G (saysX_fact c 9 (f := .glo "_law_sections") rfl)) F_go_together (He.glo_ok X G (saysX_fact c 10 (f := .glo "go_together") rfl)) F_is_section (He.glo_ok X G (saysX_fact c 11 (f := .glo "is_section") rfl)) F__law_wishes (He.glo_ok X G (saysX_fact c 12 (f := .glo "_law_wishes") rfl)) F_need_wish (He.glo_ok X G (saysX_fact c 13 (f := .glo "need_wish") rfl)) F__law_jobs (He.glo_ok X G (saysX_fact c 14 (f := .glo "_law_jobs") rfl)) (lamD_of (b := ⟨P, w, K, mg, base, tab, nam K⟩) ("_law_jobs", none) F__law_jobs (TB _ (List.mem_of_getElem? (i := 0) rfl)) (List.mem_of_getElem? (i := 0) rfl) nd) F__law_raw (He.glo_ok X G (saysX_fact c 15 (f := .glo "_law_raw") rfl)) F_are_sections (He.glo_ok X G (saysX_fact c 16 (f := .glo "are_sections") rfl)) F_let_in (He.glo_ok X G (saysX_fact c 17 (f := .glo "let_in") rfl)) F_bad_part (He.glo_ok X G (saysX_fact c 18 (f := .glo "bad_part") rfl)) F_Task___init__ (He.mkr_ok (saysX_fact c 29 (f := .mkr "Task") rfl)) (He.glo_ok X G (saysX_fact c 27 (f := .glo "Task") rfl)) F__law_plan (He.glo_ok X G (saysX_fact c 19 (f := .glo "_law_plan") rfl)) F_law (He.glo_ok X G (saysX_fact c 20 (f := .glo "law") rfl)) (He.cls_ok (saysX_fact c 22 (f := .cls "Plan") rfl)) (He.cls_ok (saysX_fact c 28 (f := .cls "Task") rfl))
  obtain ⟨t_LONGEST_NAME, h_LONGEST_NAME⟩ := He.int_ok X G (saysX_fact c 51 (f := .int "LONGEST_NAME" 12) rfl)
  obtain ⟨t_LETTERS, h_LETTERS⟩ := He.str_ok X G (saysX_fact c 52 (f := .str "LETTERS" "abcdefghijklmnopqrstuvwxyz") rfl)
  refine { g := ⟨nm_ok, ?cl, ?em, fun a ns h H => .inr h⟩, z_abs := He.free_ok X G (saysX_fact c 37 (f := .free "abs") rfl), z_all := He.free_ok X G (saysX_fact c 38 (f := .free "all") rfl), z_bool := He.free_ok X G (saysX_fact c 39 (f := .free "bool") rfl), z_enumerate := He.free_ok X G (saysX_fact c 40 (f := .free "enumerate") rfl), z_int := He.free_ok X G (saysX_fact c 41 (f := .free "int") rfl), z_isinstance := He.free_ok X G (saysX_fact c 42 (f := .free "isinstance") rfl), z_len := He.free_ok X G (saysX_fact c 43 (f := .free "len") rfl), z_list := He.free_ok X G (saysX_fact c 44 (f := .free "list") rfl), z_max := He.free_ok X G (saysX_fact c 45 (f := .free "max") rfl), z_min := He.free_ok X G (saysX_fact c 46 (f := .free "min") rfl), z_range := He.free_ok X G (saysX_fact c 47 (f := .free "range") rfl), z_sorted := He.free_ok X G (saysX_fact c 48 (f := .free "sorted") rfl), z_str := He.free_ok X G (saysX_fact c 49 (f := .free "str") rfl), z_tuple := He.free_ok X G (saysX_fact c 50 (f := .free "tuple") rfl), g_LONGEST_NAME := fun hg => h_glob (v := .int 12) 0 hg h_LONGEST_NAME ⟨_, rfl⟩ (fun F => int_rep _) (by decide +kernel), g_LETTERS := fun hg => h_glob (v := .str "abcdefghijklmnopqrstuvwxyz") 1 hg h_LETTERS ⟨_, rfl⟩ (fun F => rep_str.mpr rfl) (by decide +kernel) }
  case cl =>
    intro c1 f hf
    match c1, hf with
    | 0, hf =>
      refine ⟨He.cls_ok (saysX_fact c 22 (f := .cls "Plan") rfl), ?_⟩
      have hf : f ∈ ([0, 3, 4] : List Nat) := hf
      simp only [List.mem_cons, List.not_mem_nil, or_false] at hf
      rcases hf with rfl | rfl | rfl
      · exact He.noat_ok (saysX_fact c 24 (f := .noat "Plan" "by_name") rfl)
      · exact He.noat_ok (saysX_fact c 25 (f := .noat "Plan" "by_rank") rfl)
      · exact He.noat_ok (saysX_fact c 26 (f := .noat "Plan" "ceilings") rfl)
    | 1, hf =>
      refine ⟨He.cls_ok (saysX_fact c 28 (f := .cls "Task") rfl), ?_⟩
      have hf : f ∈ ([1, 2, 6, 7, 8, 9, 5] : List Nat) := hf
      simp only [List.mem_cons, List.not_mem_nil, or_false] at hf
      rcases hf with rfl | rfl | rfl | rfl | rfl | rfl | rfl
      · exact He.noat_ok (saysX_fact c 30 (f := .noat "Task" "name") rfl)
      · exact He.noat_ok (saysX_fact c 31 (f := .noat "Task" "rank") rfl)
      · exact He.noat_ok (saysX_fact c 32 (f := .noat "Task" "gap") rfl)
      · exact He.noat_ok (saysX_fact c 33 (f := .noat "Task" "most") rfl)
      · exact He.noat_ok (saysX_fact c 34 (f := .noat "Task" "due") rfl)
      · exact He.noat_ok (saysX_fact c 35 (f := .noat "Task" "wait") rfl)
      · exact He.noat_ok (saysX_fact c 36 (f := .noat "Task" "sections") rfl)
    | _ + 2, hf => exact nomatch hf
  case em =>
    intro i a h H
    have ex := (He.ba (show (_ && _) = true from c.more)).1
    have h : (if i = 0 then some (He.dflAt ("Plan", some "__init__") 0 K) else none) = some a := h
    split at h
    · cases h; exact empB_ok ex H
    · cases h
/-! ### the head -/
abbrev R : PySem.W.OpenRow := PySem.W.OpenLaw.row PySem.Challenge.rw_promptworks_k25_arrivals_and_releases
abbrev hk : PySem.W.Hook := He.hookX 6 faL fnL [] (tfL.map (·.1)) exB
def ob (s : PySem.W.SharedT) : He.AlX := He.obsX 6 faL fnL [] (tfL.map (·.1)) exB (HandSHeadRun.getT s)
theorem ob_eq (s : PySem.W.SharedT) : ob s = hk.obs s.abs := He.obsX_eq (HandSHeadRun.getT_eq s)
def looseL : List PySem.Str := (["_wall", "BadTask", "BadWork", "NoTask", "Twice", "Shared", "need_wish", "jobs_of", "let_in", "Plan", "LETTERS", "LONGEST_NAME", "is_name", "is_whole", "is_section", "lies_within", "go_together", "are_sections", "written_place", "bad_part", "Task", "_law_pen", "_law_draw", "_law_names", "_law_sections", "_law_raw", "_law_plan", "_law_jobs", "_law_wishes"] : List PySem.Str)
theorem run (w : World) : HandSHeadRun.RunEq R (PySem.W.view R.prog [35]) hk ob 4000 looseL w := by
  intro os
  kernel_rfl
end LawW
open PySem PySem.W PySem.Calls PyProof.Rows
theorem PySem.Challenge.cw_promptworks_k25_arrivals_and_releases_holds : PySem.Challenge.rw_promptworks_k25_arrivals_and_releases.Holds := by
  w_on; o_law
  refine HandSHeadRun.head_any (r := OpenLaw.row PySem.Challenge.rw_promptworks_k25_arrivals_and_releases) (q := view (OpenLaw.row PySem.Challenge.rw_promptworks_k25_arrivals_and_releases).prog [35]) (H := LawW.hk) (ob := LawW.ob) (M := 4000) (loose := LawW.looseL) (d := HandSHeadRun.topDef (OpenLaw.row PySem.Challenge.rw_promptworks_k25_arrivals_and_releases).prog 35) (kwd := []) LawW.ob_eq
    (by kernel_rfl) (fun s => by kernel_rfl) LawW.run (by kernel_rfl) (by kernel_rfl) (by kernel_rfl) (by rfl) (by first | assumption | decide +kernel) (by decide +kernel) ⟨rfl, rfl, rfl, rfl, rfl, by decide +kernel⟩ ?hw ?hc
  case hw => w_witness2
  case hc =>
    refine LamX.walk_ofTsE (l := PySem.Challenge.rw_promptworks_k25_arrivals_and_releases) (n := 63) (k := 19) (x := "script") (CX := fun _ => L2.CX0) rfl (by decide) (by kernel_rfl) ⟨rfl, by decide, by decide⟩ ?F (fun _ _ _ _ _ z => z)
    intro w mg fa h Y G hmg0
    obtain ⟨K, KX, c⟩ := Y
    have hmg : mg ("law" : PySem.Str) = some (.ref fa) := by
      have e : (HandSHeadRun.topDef (OpenLaw.row PySem.Challenge.rw_promptworks_k25_arrivals_and_releases).prog 35).name = ("law" : PySem.Str) := by kernel_rfl
      rw [← e]
      exact hmg0
    obtain ⟨fd, hb, hF⟩ := LawW.all_mk (P := (PySem.Challenge.rw_promptworks_k25_arrivals_and_releases).prog) (w := w) KX G hmg c
    exact ⟨K, KX, fd, (LawW.tfL.map (·.1)).map (He.cT K), DL.liftS (LawW.nam K) LawW.spLaw, fun p m => (by obtain ⟨d, md, rfl⟩ := List.mem_map.mp m; exact c.empty d md), fun p m => (by obtain ⟨d, md, rfl⟩ := List.mem_map.mp m; exact c.out d md),
      fun p m => (by obtain ⟨d, md, rfl⟩ := List.mem_map.mp m; exact PySem.W.codeHd_of_K KX (c.hd d md)), hb, fun H a ns hl _ hH hS => LawW.law_start hl hS (fun p m => (by obtain ⟨d, md, rfl⟩ := List.mem_map.mp m; exact hH _ (List.mem_map.mpr ⟨d.1, List.mem_map.mpr ⟨d, md, rfl⟩, rfl⟩))) fun _ => rfl, fun base X2 G2 TB => hF base X2 G2 fun p m => TB _ (List.mem_map.mpr ⟨p, m, rfl⟩)⟩
