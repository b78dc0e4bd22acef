import PyProof.Rows.All
import Wide.All
import OpenK.AllK
import Wide.FinOn
import HandS.ForMost
import HandS.ForExc
import HandS.Walk
import HandS.Lambda
import KE.KDflt
import HandS.Defaults
import HandS.IsInst
import HandS.Style
import HandS.TupAny
import HandS.Wide
import HandS.ExcIs
import HandS.ExcField
import HandS.ExcInit
import KE.KSuper
import KE.KExcSuper
import HandS.Zip
import PyProof.ListStr
import PyProof.StrBlock2
import KE.KDictPairs
import HandS.EndOwn
import HandS.WordsExc
import PySem.Challenge.RW_hindkeys_k01_prices
set_option Elab.async false
set_option linter.all false
set_option maxRecDepth 100000
set_option maxHeartbeats 2000000
/-! HKa: data, what of the heap it is, the state's relation, the judgements. -/
namespace HK
open PySem PySem.Spec PyProof.Rows L2

/-! ### data -/
inductive D where
  | non | bl (b : Bool) | int (i : Int) | str (s : List Nat)
  | tup (xs : List D) | tpl (xs : List D) | lst (xs : List D) | dic (ks vs : List D) | dit (ks vs : List D) | set (xs : List D)
  | ins (c : Nat) (fs : List D) | pen | ty (n : Nat) | cls (c : Nat)
  | err (c : Nat) (fs : List D) | fn (k : Nat) (caps : List D)

structure Pen where
  cells : List Int
  at_ : Nat
  great : Nat

inductive Slot where
  | no | fr (d : D) | ow (d : D)
def Slot.dat : Slot → D
  | .no => .non
  | .fr d => d
  | .ow d => d
structure Exn where
  c : Nat
  fs : List D
inductive Rv (α : Type) where
  | ok (a : α) (e : List Slot) (w : Pen)
  | ex (x : Exn) (w : Pen)
  | no
def Rv.bind {α β : Type} (r : Rv α) (k : α → List Slot → Pen → Rv β) : Rv β := match r with
  | .ok a e w => k a e w
  | .ex x w => .ex x w
  | .no => .no
abbrev EX := List Slot → Pen → Rv Slot
abbrev TX := List Slot → Pen → Rv Bool
abbrev AX := List Slot → Pen → Rv (List D)
/-- built-in types, by number -/
def tyName : Nat → String
  | 0 => "int" | 1 => "str" | 2 => "bool" | 3 => "list" | 4 => "tuple" | 5 => "dict" | 6 => "set" | _ => "NoneType"
def mkS (s : List Nat) : Str := ⟨s.toArray⟩
def keyOf : D → Option Key
  | .int i => some (.inl i)
  | .str s => some (.inr (mkS s))
  | _ => none
def keysOf : D → Option (List Key)
  | .tup ds => ds.mapM keyOf
  | _ => none

/-! ### data in the heap -/
/-- a lambda of the text: its names, what it captures, its defaults -/
structure Lam where
  qual : Str
  params : Arguments
  body : Expr
  scope : Scope
  caps : List Str
  dfs : List V
structure Th where
  K : PySem.W.Frag
  pa : Addr
  cl : Nat → Addr
  fn : Nat → List Str
  tabs : List (Addr × Str)
  lam : Nat → Lam

/-- the object at a is o -/
def ObjO (a : Addr) (o : Obj) : HO := .ext fun h => h.get? a = some o
/-- an exception object of the class cls, its dict at d -/
def ErrO (cls : Value) (d a : Addr) : HO := .ext fun h => ∃ (oe : Obj) (vs : Array Value), h.get? a = some oe ∧ Zc cls (some d) oe ∧ oe.data = .fields vs
/-- the cells that a lambda captures, and what they hold -/
def CellsAt (G : Hp) (cl : List (Str × Addr)) : List Str → List V → Prop
  | [], vs => vs = []
  | x :: xs, vs => ∃ v r, vs = v :: r ∧ (∃ (c : Addr) (o : Obj) (u : Value), cl.lookup x = some c ∧ G c = some (ObjO c o) ∧ o.data = .cell (some u) ∧ RelV v u) ∧ CellsAt G cl xs r
/-- a lambda's function object -/
def FunO (G : Hp) (L : Lam) (v : V) (cl : List (Str × Addr)) : Prop := ∃ (f c' : Addr) (pm ctv dV doc : Value), v = .ref f ∧
  G f = some (ObjO f (PySem.W.kdv_obj "<lambda>" L.qual L.params (.expr L.body) L.scope cl dV doc pm c' ctv)) ∧ G c' = some (LamX.CodeO c' L.qual) ∧
  ((dV = .none ∧ L.dfs = []) ∨ ∃ (t : Addr) (us : List Value), dV = .ref t ∧ G t = some (ObjO t (PySem.W.kdv_tup us)) ∧ Vals L.dfs us)
def LamV (G : Hp) (L : Lam) (v : V) (vs : List V) : Prop := ∃ cl, FunO G L v cl ∧ CellsAt G cl L.caps vs ∧ (∀ x c, cl.lookup x = some c → x ∈ L.caps) ∧ ∀ x y c, cl.lookup x = some c → cl.lookup y = some c → x = y
/-- what a walk may lock -/
def isDic : HO → Bool
  | .dK _ => true
  | .dT _ => true
  | .frz _ (.tup _) => false
  | .frz _ _ => true
  | _ => false
structure Le (G G' : Hp) : Prop where
  rd : ∀ a u, Rd G a u → Rd G' a u
  ex : ∀ a u, isDic u = false → G a = some u → G' a = some u
theorem Le.refl (G : Hp) : Le G G := ⟨fun _ _ h => h, fun _ _ _ h => h⟩
theorem Le.trans {G G1 G2 : Hp} (h : Le G G1) (k : Le G1 G2) : Le G G2 := ⟨fun a u r => k.rd a u (h.rd a u r), fun a u i e => k.ex a u i (h.ex a u i e)⟩
theorem Le.of {G G' : Hp} (h : ∀ a o, G a = some o → G' a = some o) : Le G G' := ⟨fun a u r => r.imp (h a u) fun ⟨o, e⟩ => ⟨o, h a _ e⟩, fun a u _ e => h a _ e⟩
theorem Le.sqL {K : PySem.W.Frag} {G G' : Hp} (l : Le G G') {a : Addr} {xs : List V} (h : SqL K G a xs) : SqL K G' a xs := h.imp (l.rd a _) id
theorem Le.sqT {K : PySem.W.Frag} {G G' : Hp} (l : Le G G') {a : Addr} {xs : List V} (h : SqT K G a xs) : SqT K G' a xs := h.imp (l.rd a _) id

section
variable (T : Th) (G : Hp)
mutual
def DR : D → V → Prop
  | .non, v => v = .non
  | .bl b, v => v = .bl b
  | .int i, v => v = .int i
  | .str s, v => v = .str (mkS s)
  | .tup ds, v => ∃ a vs, v = .ref a ∧ G a = some (.tup vs) ∧ DRs ds vs
  | .tpl ds, v => ∃ a o vs, v = .ref a ∧ G a = some (.frz o (.tup vs)) ∧ o.dict = none ∧ DRs ds vs
  | .lst ds, v => ∃ a vs, v = .ref a ∧ G a = some (.lst vs) ∧ DRs ds vs
  | .dic ks ds, v => ∃ (a : Addr) (kvs : List (Key × V)), v = .ref a ∧ Rd G a (.dK kvs) ∧ ks.map keyOf = kvs.map (fun p => some p.1) ∧ DRs ds (kvs.map (·.2))
  | .dit ks ds, v => ∃ (a : Addr) (kvs : List (List Key × V)), v = .ref a ∧ Rd G a (.dT kvs) ∧ ks.map keysOf = kvs.map (fun p => some p.1) ∧ DRs ds (kvs.map (·.2))
  | .set _, _ => False
  | .ins c fs, v => ∃ a dx vs, v = .ref a ∧ G a = some (.ins (T.cl c) dx ((T.fn c).zip vs)) ∧ vs.length = (T.fn c).length ∧ DRs fs vs
  | .pen, v => v = .ref T.pa
  | .ty n, v => v = .ty (tyName n)
  | .cls c, v => v = .ref (T.cl c)
  | .err c fs, v => ∃ a d vs, v = .ref a ∧ G a = some (ErrO (.ref (T.cl c)) d a) ∧ G d = some (.xd ((T.fn c).zip vs)) ∧ vs.length = (T.fn c).length ∧ DRs fs vs
  | .fn k caps, v => ∃ vs, LamV G (T.lam k) v vs ∧ DRs caps vs
def DRs : List D → List V → Prop
  | [], vs => vs = []
  | d :: ds, vs => ∃ v r, vs = v :: r ∧ DR d v ∧ DRs ds r
end
end
section
variable {T : Th} {G G' H H' : Hp}
theorem CellsAt.le (l : Le G G') {cl : List (Str × Addr)} : ∀ {xs : List Str} {vs : List V}, CellsAt G cl xs vs → CellsAt G' cl xs vs
  | [], _, h => h
  | x :: xs, _, ⟨v, r, e, ⟨c, o, u, h1, h2, h3⟩, h4⟩ => ⟨v, r, e, ⟨c, o, u, h1, l.ex _ _ rfl h2, h3⟩, CellsAt.le l h4⟩
theorem FunO.le (l : Le G G') {L : Lam} {v : V} {cl : List (Str × Addr)} (h : FunO G L v cl) : FunO G' L v cl := by
  obtain ⟨f, c', pm, ctv, dV, doc, h1, h2, h3, h4⟩ := h
  refine ⟨f, c', pm, ctv, dV, doc, h1, l.ex _ _ rfl h2, l.ex _ _ rfl h3, ?_⟩
  rcases h4 with h4 | ⟨t, us, e, h5, h6⟩
  · exact .inl h4
  · exact .inr ⟨t, us, e, l.ex _ _ rfl h5, h6⟩
theorem LamV.le (l : Le G G') {L : Lam} {v : V} {vs : List V} (h : LamV G L v vs) : LamV G' L v vs := let ⟨cl, h1, h2, h3⟩ := h; ⟨cl, h1.le l, h2.le l, h3⟩
mutual
theorem DR.le (l : Le G G') : ∀ {d : D} {v : V}, DR T G d v → DR T G' d v
  | .non, _, h => h
  | .bl _, _, h => h
  | .int _, _, h => h
  | .str _, _, h => h
  | .tup ds, v, h => by
    unfold DR at h ⊢
    obtain ⟨a, vs, e, s, r⟩ := h
    exact ⟨a, vs, e, l.ex _ _ rfl s, DRs.le l r⟩
  | .tpl ds, v, h => by
    unfold DR at h ⊢
    obtain ⟨a, o, vs, e, s, z, r⟩ := h
    exact ⟨a, o, vs, e, l.ex _ _ rfl s, z, DRs.le l r⟩
  | .lst ds, v, h => by
    unfold DR at h ⊢
    obtain ⟨a, vs, e, s, r⟩ := h
    exact ⟨a, vs, e, l.ex _ _ rfl s, DRs.le l r⟩
  | .dic ks ds, v, h => by
    unfold DR at h ⊢
    obtain ⟨a, kvs, e, s, k, r⟩ := h
    exact ⟨a, kvs, e, l.rd _ _ s, k, DRs.le l r⟩
  | .dit ks ds, v, h => by
    unfold DR at h ⊢
    obtain ⟨a, kvs, e, s, k, r⟩ := h
    exact ⟨a, kvs, e, l.rd _ _ s, k, DRs.le l r⟩
  | .set _, _, h => by
    unfold DR at h
    exact h.elim
  | .ins c fs, v, h => by
    unfold DR at h ⊢
    obtain ⟨a, dx, vs, e, s, z, r⟩ := h
    exact ⟨a, dx, vs, e, l.ex _ _ rfl s, z, DRs.le l r⟩
  | .pen, _, h => h
  | .ty _, _, h => h
  | .cls _, _, h => h
  | .err c fs, v, h => by
    unfold DR at h ⊢
    obtain ⟨a, d, vs, e, s, s2, z, r⟩ := h
    exact ⟨a, d, vs, e, l.ex _ _ rfl s, l.ex _ _ rfl s2, z, DRs.le l r⟩
  | .fn k caps, v, h => by
    unfold DR at h ⊢
    obtain ⟨vs, h1, r⟩ := h
    exact ⟨vs, h1.le l, DRs.le l r⟩
theorem DRs.le (l : Le G G') : ∀ {ds : List D} {vs : List V}, DRs T G ds vs → DRs T G' ds vs
  | [], _, h => h
  | d :: ds, vs, h => by
    unfold DRs at h ⊢
    obtain ⟨v, r, e, h1, h2⟩ := h
    exact ⟨v, r, e, DR.le l h1, DRs.le l h2⟩
end
theorem DRs.nil : DRs T G [] [] := by unfold DRs; rfl
theorem DRs.cons {d : D} {ds : List D} {v : V} {vs : List V} (h : DR T G d v) (k : DRs T G ds vs) : DRs T G (d :: ds) (v :: vs) := by
  unfold DRs
  exact ⟨v, vs, rfl, h, k⟩
theorem DRs.nil_inv {vs : List V} (h : DRs T G [] vs) : vs = [] := by
  unfold DRs at h
  exact h
theorem DRs.cons_inv {d : D} {ds : List D} {vs : List V} (h : DRs T G (d :: ds) vs) : ∃ v r, vs = v :: r ∧ DR T G d v ∧ DRs T G ds r := by
  unfold DRs at h
  exact h
theorem DRs.length : ∀ {ds : List D} {vs : List V}, DRs T G ds vs → vs.length = ds.length
  | [], _, h => by rw [h.nil_inv]; rfl
  | d :: ds, _, h => by
    obtain ⟨v, r, rfl, _, h2⟩ := h.cons_inv
    rw [List.length_cons, List.length_cons, DRs.length h2]
theorem DRs.get : ∀ {ds : List D} {vs : List V} {i : Nat} {d : D}, DRs T G ds vs → ds[i]? = some d → ∃ v, vs[i]? = some v ∧ DR T G d v
  | [], _, _, _, _, e => by simp at e
  | d :: ds, _, 0, x, h, e => by
    obtain ⟨v, r, rfl, h1, h2⟩ := h.cons_inv
    simp at e
    subst e
    exact ⟨v, rfl, h1⟩
  | d :: ds, _, i + 1, x, h, e => by
    obtain ⟨v, r, rfl, h1, h2⟩ := h.cons_inv
    simp at e
    obtain ⟨u, k, q⟩ := DRs.get h2 e
    exact ⟨u, by simpa using k, q⟩
theorem DRs.get' {ds : List D} {vs : List V} {i : Nat} {v : V} (h : DRs T G ds vs) (e : vs[i]? = some v) : ∃ d, ds[i]? = some d ∧ DR T G d v := by
  have hl := h.length
  have hi : i < ds.length := by
    rw [← hl]
    exact (List.getElem?_eq_some_iff.mp e).1
  obtain ⟨u, k, q⟩ := h.get (List.getElem?_eq_getElem hi)
  rw [e] at k
  cases k
  exact ⟨_, List.getElem?_eq_getElem hi, q⟩
theorem DRs.append : ∀ {ds es : List D} {vs us : List V}, DRs T G ds vs → DRs T G es us → DRs T G (ds ++ es) (vs ++ us)
  | [], _, _, _, h, k => by rw [h.nil_inv]; exact k
  | d :: ds, _, _, _, h, k => by
    obtain ⟨v, r, rfl, h1, h2⟩ := h.cons_inv
    exact .cons h1 (DRs.append h2 k)
theorem DRs.one {d : D} {v : V} (h : DR T G d v) : DRs T G [d] [v] := .cons h .nil
theorem DRs.drop : ∀ {ds : List D} {vs : List V} (n : Nat), DRs T G ds vs → DRs T G (ds.drop n) (vs.drop n)
  | _, _, 0, h => h
  | [], _, n + 1, h => by rw [h.nil_inv]; exact .nil
  | d :: ds, _, n + 1, h => by
    obtain ⟨v, r, rfl, h1, h2⟩ := h.cons_inv
    exact DRs.drop n h2
theorem DRs.take : ∀ {ds : List D} {vs : List V} (n : Nat), DRs T G ds vs → DRs T G (ds.take n) (vs.take n)
  | _, _, 0, h => .nil
  | [], _, n + 1, h => by rw [h.nil_inv]; exact .nil
  | d :: ds, _, n + 1, h => by
    obtain ⟨v, r, rfl, h1, h2⟩ := h.cons_inv
    exact .cons h1 (DRs.take n h2)
end

/-! ### the state -/
/-- the object at a is one's own: not frozen, not the pen -/
def Own (T : Th) (G H : Hp) (a : Addr) : D → Prop
  | .lst ds => ∃ vs, H a = some (.lst vs) ∧ DRs T G ds vs
  | .dic ks ds => ∃ kvs : List (Key × V), H a = some (.dK kvs) ∧ ks.map keyOf = kvs.map (fun p => some p.1) ∧ DRs T G ds (kvs.map (·.2))
  | .dit ks ds => ∃ kvs : List (List Key × V), H a = some (.dT kvs) ∧ ks.map keysOf = kvs.map (fun p => some p.1) ∧ DRs T G ds (kvs.map (·.2))
  | _ => False
structure Bs where
  G0 : Hp
  H0 : Hp
structure Gh where
  G : Hp
  ad : Nat → Addr
/-- neither a table of code objects nor told by a property alone -/
def plainO : HO → Bool
  | .tbl _ => false
  | .xd _ => false
  | .ext _ => false
  | _ => true
structure PenI (T : Th) (G H : Hp) (w : Pen) : Prop where
  tabs : LamX.Tabs T.tabs H
  nt : ∀ a ps, G a ≠ some (.tbl ps)
  is : ∃ c, H T.pa = some (.lst [.ref c, .int w.at_, .int w.great]) ∧ G c = some (.lst (w.cells.map V.int))
  no : G T.pa = none
structure OwnA (T : Th) (b : Bs) (G H : Hp) (a : Addr) (d : D) : Prop where
  no : G a = none
  np : a ≠ T.pa
  nb : b.H0 a = none
  own : Own T G H a d
/-- what a stretch of code leaves of the heap at its start -/
structure Kept (T : Th) (b : Bs) (G H : Hp) (w : Pen) : Prop where
  gh : ∀ a o, G a = some o → H a = some o
  pen : PenI T G H w
  b1 : Le b.G0 G
  b2 : ∀ a o, a ≠ T.pa → (∀ ps, o ≠ .tbl ps) → b.H0 a = some o → H a = some o
  b2t : ∀ a ps, b.H0 a = some (.tbl ps) → ∃ ps', H a = some (.tbl ps')
  b3 : ∀ a o, plainO o = true → G a = some o → (∃ o', b.G0 a = some o') ∨ b.H0 a = none
structure RS (T : Th) (b : Bs) (g : Gh) (env : List Slot) (w : Pen) (σ : L2.St) (H : Hp) : Prop where
  kept : Kept T b g.G H w
  len : σ.length = env.length
  fr : ∀ (i : Nat) (d : D), env[i]? = some (.fr d) → ∃ v, σ[i]? = some (some v) ∧ DR T g.G d v
  ow : ∀ (i : Nat) (d : D), env[i]? = some (.ow d) → σ[i]? = some (some (.ref (g.ad i))) ∧ OwnA T b g.G H (g.ad i) d
  inj : ∀ (i j : Nat) (d e : D), env[i]? = some (.ow d) → env[j]? = some (.ow e) → g.ad i = g.ad j → i = j
/-- what a value is: frozen data, or an object of its own -/
def RV (T : Th) (b : Bs) (g : Gh) (H : Hp) (env : List Slot) (v : V) : Slot → Prop
  | .fr d => DR T g.G d v
  | .ow d => ∃ a, v = .ref a ∧ OwnA T b g.G H a d ∧ ∀ (i : Nat) (e : D), env[i]? = some (.ow e) → g.ad i ≠ a
  | .no => False
/-- new objects have come -/
structure Alloc (G H G' H' : Hp) : Prop where
  nt : (∀ a ps, G a ≠ some (.tbl ps)) → ∀ a ps, G' a ≠ some (.tbl ps)
  g : ∀ a o, G a = some o → G' a = some o
  gh : ∀ a o, G' a = some o → H' a = some o
  h : ∀ a o, H a = some o → H' a = some o
  new : ∀ a o, G' a = some o → G a = some o ∨ H a = none
def RVa (T : Th) (G' H H' : Hp) (v : V) : Slot → Prop
  | .fr d => DR T G' d v
  | .ow d => ∃ a, v = .ref a ∧ G' a = none ∧ H a = none ∧ Own T G' H' a d
  | .no => False

section
variable {T : Th} {b : Bs} {g : Gh} {env : List Slot} {w : Pen} {σ : L2.St} {G G' H H' : Hp} {a : Addr} {d : D} {v : V}
theorem Own.there' (h : Own T G H a d) : ∃ o, H a = some o ∧ plainO o = true := by
  cases d with
  | lst ds =>
    obtain ⟨vs, e, _⟩ := h
    exact ⟨_, e, rfl⟩
  | dic ks ds =>
    obtain ⟨kvs, e, _⟩ := h
    exact ⟨_, e, rfl⟩
  | dit ks ds =>
    obtain ⟨kvs, e, _⟩ := h
    exact ⟨_, e, rfl⟩
  | _ => exact h.elim
theorem Own.there (h : Own T G H a d) : ∃ o, H a = some o := let ⟨o, e, _⟩ := h.there'; ⟨o, e⟩
theorem plain_nt {o : HO} (h : plainO o = true) : ∀ ps, o ≠ .tbl ps := fun ps z => by
  rw [z] at h
  cases h
/-- a plain object is changed: the tables stand -/
theorem tabs_upd {l : List (Addr × Str)} {o o' : HO} (t : LamX.Tabs l H) (e : H a = some o) (p : plainO o = true) : LamX.Tabs l (upd H a o') := fun q hq => by
  obtain ⟨ps, h1, h2, h3⟩ := t q hq
  have n1 : q.1 ≠ a := fun z => by
    rw [z, e] at h1
    cases h1
    cases p
  refine ⟨ps, by rw [upd_ne n1]; exact h1, h2, fun pos cv hc => ?_⟩
  obtain ⟨c, e1, e2⟩ := h3 pos cv hc
  refine ⟨c, e1, ?_⟩
  have n2 : c ≠ a := fun z => by
    rw [z, e] at e2
    cases e2
    cases p
  rw [upd_ne n2]
  exact e2
/-- a fresh address of now was fresh then -/
theorem Kept.unborn (k : Kept T b G H w) (e : H a = none) : b.H0 a = none := by
  cases q : b.H0 a with
  | none => rfl
  | some o =>
    have hp : a ≠ T.pa := by
      rintro rfl
      obtain ⟨c', p1, _⟩ := k.pen.is
      rw [p1] at e
      cases e
    by_cases ht : ∃ ps, o = .tbl ps
    · obtain ⟨ps, rfl⟩ := ht
      obtain ⟨ps', z⟩ := k.b2t a ps q
      rw [z] at e
      cases e
    · rw [k.b2 a o hp (fun ps z => ht ⟨ps, z⟩) q] at e
      cases e
/-- it stays one's own where the object is as it was -/
theorem Own.keep (h : Own T G H a d) (l : Le G G') (e : ∀ o, H a = some o → H' a = some o) : Own T G' H' a d := by
  cases d with
  | lst ds =>
    obtain ⟨vs, q, r⟩ := h
    exact ⟨vs, e _ q, r.le l⟩
  | dic ks ds =>
    obtain ⟨kvs, q, k, r⟩ := h
    exact ⟨kvs, e _ q, k, r.le l⟩
  | dit ks ds =>
    obtain ⟨kvs, q, k, r⟩ := h
    exact ⟨kvs, e _ q, k, r.le l⟩
  | _ => exact h.elim
theorem le_upd {o : HO} (n : G a = none) : Le G (upd G a o) := Le.of fun c u e => by
  rw [upd_ne (ne_of_none e n)]
  exact e
/-- frozen -/
theorem Own.freeze (h : Own T G H a d) (n : G a = none) : ∃ o, H a = some o ∧ DR T (upd G a o) d (.ref a) := by
  cases d with
  | lst ds =>
    obtain ⟨vs, e, r⟩ := h
    refine ⟨_, e, ?_⟩
    unfold DR
    exact ⟨a, vs, rfl, upd_same, r.le (le_upd n)⟩
  | dic ks ds =>
    obtain ⟨kvs, e, k, r⟩ := h
    refine ⟨_, e, ?_⟩
    unfold DR
    exact ⟨a, kvs, rfl, .inl upd_same, k, r.le (le_upd n)⟩
  | dit ks ds =>
    obtain ⟨kvs, e, k, r⟩ := h
    refine ⟨_, e, ?_⟩
    unfold DR
    exact ⟨a, kvs, rfl, .inl upd_same, k, r.le (le_upd n)⟩
  | _ => exact h.elim
theorem upd_some {o u : HO} {c : Addr} (e : upd G a o c = some u) : (c = a ∧ u = o) ∨ (c ≠ a ∧ G c = some u) := by
  by_cases hc : c = a
  · subst hc
    rw [upd_same] at e
    cases e
    exact .inl ⟨rfl, rfl⟩
  · rw [upd_ne hc] at e
    exact .inr ⟨hc, e⟩
/-- an object of one's own becomes frozen data -/
theorem Kept.freeze (k : Kept T b G H w) (O : OwnA T b G H a d) : ∃ G', Kept T b G' H w ∧ Le G G' ∧ DR T G' d (.ref a) ∧ ∀ c, c ≠ a → G' c = G c := by
  obtain ⟨o, e, r⟩ := O.own.freeze O.no
  have po : plainO o = true := by
    obtain ⟨o', e', p⟩ := O.own.there'
    rw [e] at e'
    cases e'
    exact p
  refine ⟨upd G a o, ⟨fun c u q => ?_, ⟨k.pen.tabs, fun c ps q => ?_, ?_, ?_⟩, k.b1.trans (le_upd O.no), k.b2, k.b2t, fun c u pu q => ?_⟩, le_upd O.no, r, fun c hc => upd_ne hc⟩
  · rcases upd_some q with ⟨rfl, rfl⟩ | ⟨_, q⟩
    · exact e
    · exact k.gh c u q
  · rcases upd_some q with ⟨_, z⟩ | ⟨_, q⟩
    · exact plain_nt po ps z.symm
    · exact k.pen.nt c ps q
  · obtain ⟨c, p1, p2⟩ := k.pen.is
    exact ⟨c, p1, (le_upd O.no).ex _ _ rfl p2⟩
  · rw [upd_ne (Ne.symm O.np)]
    exact k.pen.no
  · rcases upd_some q with ⟨rfl, rfl⟩ | ⟨_, q⟩
    · exact .inr O.nb
    · exact k.b3 c u pu q
theorem OwnA.keep (O : OwnA T b G H a d) (l : Le G G') (n : G' a = none) (e : ∀ o, H a = some o → H' a = some o) : OwnA T b G' H' a d :=
  ⟨n, O.np, O.nb, O.own.keep l e⟩
theorem RS.freeze (R : RS T b g env w σ H) {r : Slot} (q : RV T b g H env v r) : ∃ g', RS T b g' env w σ H ∧ Le g.G g'.G ∧ DR T g'.G r.dat v := by
  cases r with
  | no => exact q.elim
  | fr d => exact ⟨g, R, Le.refl _, q⟩
  | ow d =>
    obtain ⟨a, rfl, O, na⟩ := q
    obtain ⟨G', k, l, r, ne⟩ := R.kept.freeze O
    refine ⟨⟨G', g.ad⟩, ⟨k, R.len, fun i e h => ?_, fun i e h => ?_, R.inj⟩, l, r⟩
    · obtain ⟨u, h1, h2⟩ := R.fr i e h
      exact ⟨u, h1, h2.le l⟩
    · obtain ⟨h1, h2⟩ := R.ow i e h
      exact ⟨h1, h2.keep l ((ne _ (na i e h)).trans h2.no) fun _ z => z⟩
theorem Kept.alloc (k : Kept T b G H w) (A : Alloc G H G' H') : Kept T b G' H' w := by
  refine ⟨A.gh, ⟨k.pen.tabs.ext A.h, A.nt k.pen.nt, ?_, ?_⟩, k.b1.trans (Le.of A.g), fun c u n m e => A.h c u (k.b2 c u n m e), fun c ps e => ?_, fun c u pu e => ?_⟩
  · obtain ⟨c, p1, p2⟩ := k.pen.is
    exact ⟨c, A.h _ _ p1, A.g _ _ p2⟩
  · cases q : G' T.pa with
    | none => rfl
    | some o =>
      obtain ⟨c, p1, _⟩ := k.pen.is
      rcases A.new _ _ q with z | z
      · rw [k.pen.no] at z
        cases z
      · rw [p1] at z
        cases z
  · obtain ⟨ps', z⟩ := k.b2t c ps e
    exact ⟨ps', A.h _ _ z⟩
  · rcases A.new c u e with z | z
    · exact k.b3 c u pu z
    · exact .inr (k.unborn z)
theorem Alloc.own (A : Alloc G H G' H') (O : OwnA T b G H a d) : OwnA T b G' H' a d := by
  refine O.keep (Le.of A.g) ?_ fun o e => A.h a o e
  cases q : G' a with
  | none => rfl
  | some o =>
    obtain ⟨u, e⟩ := O.own.there
    rcases A.new _ _ q with z | z
    · rw [O.no] at z
      cases z
    · rw [e] at z
      cases z
theorem RS.alloc (R : RS T b g env w σ H) (A : Alloc g.G H G' H') : RS T b ⟨G', g.ad⟩ env w σ H' := by
  refine ⟨R.kept.alloc A, R.len, fun i e h => ?_, fun i e h => ?_, R.inj⟩
  · obtain ⟨u, h1, h2⟩ := R.fr i e h
    exact ⟨u, h1, h2.le (Le.of A.g)⟩
  · obtain ⟨h1, h2⟩ := R.ow i e h
    exact ⟨h1, A.own h2⟩
theorem Kept.ownA (k : Kept T b G H w) (A : Alloc G H G' H') (n : G' a = none) (h : H a = none) (o : Own T G' H' a d) : OwnA T b G' H' a d := by
  refine ⟨n, ?_, k.unborn h, o⟩
  rintro rfl
  obtain ⟨c', p1, _⟩ := k.pen.is
  rw [p1] at h
  cases h
theorem RS.rva (R : RS T b g env w σ H) (A : Alloc g.G H G' H') {r : Slot} (q : RVa T G' H H' v r) : RV T b ⟨G', g.ad⟩ H' env v r := by
  cases r with
  | no => exact q.elim
  | fr d => exact q
  | ow d =>
    obtain ⟨a, rfl, n, h, o⟩ := q
    refine ⟨a, rfl, R.kept.ownA A n h o, fun i e z ez => ?_⟩
    obtain ⟨_, h2⟩ := R.ow i e z
    obtain ⟨u, eu⟩ := h2.own.there
    have ez' : g.ad i = a := ez
    rw [ez', h] at eu
    cases eu
theorem Alloc.refl (k : ∀ a o, G a = some o → H a = some o) : Alloc G H G H := ⟨fun h => h, fun _ _ h => h, k, fun _ _ h => h, fun _ _ h => .inl h⟩
/-- a new object that stays one's own (or foreign) -/
theorem Alloc.new1 {o : HO} (k : ∀ a o, G a = some o → H a = some o) (n : H a = none) : Alloc G H G (upd H a o) := by
  have kk : ∀ c u, H c = some u → upd H a o c = some u := fun c u e => by
    rw [upd_ne (ne_of_none e n)]
    exact e
  exact ⟨fun h => h, fun _ _ h => h, fun c u e => kk c u (k c u e), kk, fun _ _ h => .inl h⟩
/-- a new object, frozen at once -/
theorem Alloc.new2 {o : HO} (k : ∀ a o, G a = some o → H a = some o) (n : H a = none) (hp : ∀ ps, o ≠ .tbl ps := by intro ps z; cases z) : Alloc G H (upd G a o) (upd H a o) := by
  have ng : G a = none := by
    cases q : G a with
    | none => rfl
    | some u =>
      rw [k a u q] at n
      cases n
  have kk : ∀ c u, H c = some u → upd H a o c = some u := fun c u e => by
    rw [upd_ne (ne_of_none e n)]
    exact e
  refine ⟨fun h c ps e => ?_, fun c u e => ?_, fun c u e => ?_, kk, fun c u e => ?_⟩
  · rcases upd_some e with ⟨_, z⟩ | ⟨_, e⟩
    · exact hp ps z.symm
    · exact h c ps e
  · rw [upd_ne (ne_of_none e ng)]
    exact e
  · rcases upd_some e with ⟨rfl, rfl⟩ | ⟨_, e⟩
    · exact upd_same
    · exact kk c u (k c u e)
  · rcases upd_some e with ⟨rfl, rfl⟩ | ⟨_, e⟩
    · exact .inr n
    · exact .inl e
end

/-! ### exceptions, results -/
def XR (T : Th) (G H : Hp) (x : Exn) (cls : Value) (dc : Option Addr) : Prop :=
  cls = .ref (T.cl x.c) ∧ ∃ d vs, dc = some d ∧ H d = some (.xd ((T.fn x.c).zip vs)) ∧ vs.length = (T.fn x.c).length ∧ DRs T G x.fs vs
def XEnd (T : Th) (b : Bs) (E : XK) (x : Exn) (w : Pen) : Prop := ∀ G H cls dc, Kept T b G H w → XR T G H x cls dc → E cls dc H
def Pr {α : Type} (T : Th) (b : Bs) (E : XK) (Ok : α → List Slot → Pen → Prop) : Rv α → Prop
  | .ok a e w => Ok a e w
  | .ex x w => XEnd T b E x w
  | .no => False
theorem Pr.bind {α β : Type} {T : Th} {b : Bs} {E : XK} {Ok : β → List Slot → Pen → Prop} {k : α → List Slot → Pen → Rv β} (r : Rv α) : Pr T b E Ok (r.bind k) = Pr T b E (fun a e w => Pr T b E Ok (k a e w)) r := by
  cases r <;> rfl
theorem Pr.mono {α : Type} {T : Th} {b : Bs} {E : XK} {Ok Ok' : α → List Slot → Pen → Prop} {r : Rv α} (p : Pr T b E Ok r) (h : ∀ a e w, Ok a e w → Ok' a e w) : Pr T b E Ok' r := by
  cases r with
  | ok a e w => exact h a e w p
  | ex x w => exact p
  | no => exact p
/-- an expression's meaning -/
def tEx (T : Th) (b : Bs) (E : XK) (f : EX) : TE := fun σ H Q => ∃ g env w, RS T b g env w σ H ∧
  Pr T b E (fun r env' w' => ∀ g' v H', RS T b g' env' w' σ H' → Le g.G g'.G → RV T b g' H' env' v r → Q v H') (f env w)
def tTx (T : Th) (b : Bs) (E : XK) (f : TX) : TT := fun σ H Q => ∃ g env w, RS T b g env w σ H ∧
  Pr T b E (fun k env' w' => ∀ g' H', RS T b g' env' w' σ H' → Le g.G g'.G → Q k H') (f env w)
def tAx (T : Th) (b : Bs) (E : XK) (f : AX) : TA := fun σ H Q => ∃ g env w, RS T b g env w σ H ∧
  Pr T b E (fun ds env' w' => ∀ g' vs H', RS T b g' env' w' σ H' → Le g.G g'.G → DRs T g'.G ds vs → Q vs H') (f env w)
theorem _root_.L2.PE.imp {X : Cx} {e : Expr} {t t' : TE} (h : PE X e t) (k : ∀ σ H Q, t' σ H Q → t σ H Q) : PE X e t' := ⟨fun pins s σ H Q I q => h.run pins s σ H Q I (k σ H Q q)⟩
theorem _root_.L2.PT.imp {X : Cx} {e : Expr} {t t' : TT} (h : PT X e t) (k : ∀ σ H Q, t' σ H Q → t σ H Q) : PT X e t' := ⟨fun pins s σ H Q I q => h.run pins s σ H Q I (k σ H Q q)⟩
theorem _root_.L2.PA.imp {X : Cx} {e : List Expr} {t t' : TA} (h : PA X e t) (k : ∀ σ H Q, t' σ H Q → t σ H Q) : PA X e t' := ⟨fun pos pins s σ H Q I q => h.run pos pins s σ H Q I (k σ H Q q)⟩
theorem _root_.L2.PS.imp {X : Cx} {e : Stmt} {t t' : TS} (h : PS X e t) (k : ∀ D σ H, t' D σ H → t D σ H) : PS X e t' := ⟨fun pins s σ H D I q => h.run pins s σ H D I (k D σ H q)⟩
theorem _root_.L2.PSs.imp {X : Cx} {e : List Stmt} {t t' : TS} (h : PSs X e t) (k : ∀ D σ H, t' D σ H → t D σ H) : PSs X e t' := ⟨fun pins s σ H D I q => h.run pins s σ H D I (k D σ H q)⟩
theorem _root_.L2.PE.or {X : Cx} {e : Expr} {t t' : TE} (h : PE X e t) (h' : PE X e t') : PE X e (fun σ H Q => t σ H Q ∨ t' σ H Q) := ⟨fun pins s σ H Q I q => q.elim (h.run pins s σ H Q I) (h'.run pins s σ H Q I)⟩
end HK

/-! HKb: rules for expressions. -/
namespace HK
open PySem PySem.Spec PyProof.Rows L2

/-- where a rule stands -/
structure CO (X : Cx) (T : Th) (E : XK) (n : Nat) : Prop where
  K : X.K = T.K
  calm : X.calm = true
  room : Room n X.A
  nd : X.N.Nodup
  tk : Takes X (fun cls d _ H => E cls d H)
  po : PassesOwn (model X.prog X.w) X.A X.env X.xe

def LINE : Nat := 16777216
theorem line_eq : sizeLine = LINE := sizeLine_eq

/-- an operand: frozen data, or an object of one's own as it stands -/
def DO (T : Th) (G H : Hp) (d : D) (v : V) : Prop := DR T G d v ∨ ∃ a, v = .ref a ∧ Own T G H a d
theorem DO.lst {T : Th} {G H : Hp} {ds : List D} {v : V} (gh : ∀ a o, G a = some o → H a = some o) (h : DO T G H (.lst ds) v) : ∃ a vs, v = .ref a ∧ H a = some (.lst vs) ∧ DRs T G ds vs := by
  rcases h with h | ⟨a, rfl, vs, e, r⟩
  · unfold DR at h
    obtain ⟨a, vs, e, s, r⟩ := h
    exact ⟨a, vs, e, gh _ _ s, r⟩
  · exact ⟨a, vs, rfl, e, r⟩
theorem DO.tup {T : Th} {G H : Hp} {ds : List D} {v : V} (gh : ∀ a o, G a = some o → H a = some o) (h : DO T G H (.tup ds) v) : ∃ a vs, v = .ref a ∧ H a = some (.tup vs) ∧ DRs T G ds vs := by
  rcases h with h | ⟨a, rfl, h⟩
  · unfold DR at h
    obtain ⟨a, vs, e, s, r⟩ := h
    exact ⟨a, vs, e, gh _ _ s, r⟩
  · exact h.elim
theorem DO.tpl {T : Th} {G H : Hp} {ds : List D} {v : V} (gh : ∀ a o, G a = some o → H a = some o) (h : DO T G H (.tpl ds) v) : ∃ a vs, v = .ref a ∧ Rd H a (.tup vs) ∧ DRs T G ds vs := by
  rcases h with h | ⟨a, rfl, h⟩
  · unfold DR at h
    obtain ⟨a, o, vs, e, s, _, r⟩ := h
    exact ⟨a, vs, e, .inr ⟨o, gh _ _ s⟩, r⟩
  · exact h.elim
/-- a tuple's items -/
def tupOf : D → Option (List D)
  | .tup xs => some xs
  | .tpl xs => some xs
  | _ => none
theorem DO.tupOf {T : Th} {G H : Hp} {d : D} {ds : List D} {v : V} (gh : ∀ a o, G a = some o → H a = some o) (h : DO T G H d v) (e : tupOf d = some ds) : ∃ a vs, v = .ref a ∧ SqT T.K H a vs ∧ DRs T G ds vs := by
  cases d with
  | tup xs =>
    cases e
    obtain ⟨a, vs, e, s, r⟩ := h.tup gh
    exact ⟨a, vs, e, .of s, r⟩
  | tpl xs =>
    cases e
    obtain ⟨a, vs, e, s, r⟩ := h.tpl gh
    exact ⟨a, vs, e, .inl s, r⟩
  | _ => cases e
theorem DO.frozen {T : Th} {G H : Hp} {d : D} {ds : List D} {v : V} (h : DO T G H d v) (e : HK.tupOf d = some ds) : DR T G d v := by
  rcases h with h | ⟨a, rfl, h⟩
  · exact h
  · cases d <;> first | exact h.elim | cases e
theorem DO.dic {T : Th} {G H : Hp} {ks ds : List D} {v : V} (gh : ∀ a o, G a = some o → H a = some o) (h : DO T G H (.dic ks ds) v) :
    ∃ (a : Addr) (kvs : List (Key × V)), v = .ref a ∧ Rd H a (.dK kvs) ∧ ks.map keyOf = kvs.map (fun p => some p.1) ∧ DRs T G ds (kvs.map (·.2)) := by
  rcases h with h | ⟨a, rfl, kvs, s, k, r⟩
  · unfold DR at h
    obtain ⟨a, kvs, e, s, k, r⟩ := h
    exact ⟨a, kvs, e, (Le.of gh).rd _ _ s, k, r⟩
  · exact ⟨a, kvs, rfl, .inl s, k, r⟩
theorem DO.dit {T : Th} {G H : Hp} {ks ds : List D} {v : V} (gh : ∀ a o, G a = some o → H a = some o) (h : DO T G H (.dit ks ds) v) :
    ∃ (a : Addr) (kvs : List (List Key × V)), v = .ref a ∧ Rd H a (.dT kvs) ∧ ks.map keysOf = kvs.map (fun p => some p.1) ∧ DRs T G ds (kvs.map (·.2)) := by
  rcases h with h | ⟨a, rfl, kvs, s, k, r⟩
  · unfold DR at h
    obtain ⟨a, kvs, e, s, k, r⟩ := h
    exact ⟨a, kvs, e, (Le.of gh).rd _ _ s, k, r⟩
  · exact ⟨a, kvs, rfl, .inl s, k, r⟩
theorem DO.int {T : Th} {G H : Hp} {i : Int} {v : V} (h : DO T G H (.int i) v) : v = .int i := h.elim id fun ⟨_, _, z⟩ => z.elim
theorem DO.bl {T : Th} {G H : Hp} {i : Bool} {v : V} (h : DO T G H (.bl i) v) : v = .bl i := h.elim id fun ⟨_, _, z⟩ => z.elim
theorem DO.non {T : Th} {G H : Hp} {v : V} (h : DO T G H .non v) : v = .non := h.elim id fun ⟨_, _, z⟩ => z.elim
theorem DO.str {T : Th} {G H : Hp} {s : List Nat} {v : V} (h : DO T G H (.str s) v) : v = .str (mkS s) := h.elim id fun ⟨_, _, z⟩ => z.elim

section
variable {X : Cx} {T : Th} {b : Bs} {E : XK} {n : Nat} {pos : Pos}

/-! ### names, constants -/
def xV (i : Nat) : EX := fun env w => match env[i]? with
  | some (.fr d) => .ok (.fr d) env w
  | some (.ow d) => .ok (.fr d) (env.set i (.fr d)) w
  | _ => .no
theorem RS.thaw {g : Gh} {env : List Slot} {w : Pen} {σ : L2.St} {H : Hp} {i : Nat} {d : D} (R : RS T b g env w σ H) (e : env[i]? = some (.ow d)) :
    ∃ g', RS T b g' (env.set i (.fr d)) w σ H ∧ Le g.G g'.G ∧ ∃ v, σ[i]? = some (some v) ∧ DR T g'.G d v := by
  obtain ⟨h1, h2⟩ := R.ow i d e
  obtain ⟨G', k, l, r, ne⟩ := R.kept.freeze h2
  have hi : i < env.length := (List.getElem?_eq_some_iff.mp e).1
  refine ⟨⟨G', g.ad⟩, ⟨k, by rw [List.length_set]; exact R.len, fun j c q => ?_, fun j c q => ?_, fun j j' c c' q q' => ?_⟩, l, _, h1, r⟩
  · by_cases hj : i = j
    · subst hj
      rw [List.getElem?_set_self hi] at q
      cases q
      exact ⟨_, h1, r⟩
    · rw [List.getElem?_set_ne hj] at q
      obtain ⟨u, k1, k2⟩ := R.fr j c q
      exact ⟨u, k1, k2.le l⟩
  · by_cases hj : i = j
    · subst hj
      rw [List.getElem?_set_self hi] at q
      cases q
    · rw [List.getElem?_set_ne hj] at q
      obtain ⟨k1, k2⟩ := R.ow j c q
      refine ⟨k1, k2.keep l ((ne _ fun z => hj ?_).trans k2.no) fun _ z => z⟩
      exact R.inj i j d c e q z.symm
  · have f : ∀ (j : Nat) (c : D), (env.set i (.fr d))[j]? = some (.ow c) → env[j]? = some (.ow c) := fun j c q => by
      by_cases hj : i = j
      · subst hj
        rw [List.getElem?_set_self hi] at q
        cases q
      · rw [List.getElem?_set_ne hj] at q
        exact q
    exact R.inj j j' c c' (f _ _ q) (f _ _ q')
theorem cv (i : Nat) {x : Str} (hN : X.N[i]? = some x := by rfl) (hv : Vis X.env.scope x := by first | exact Or.inl rfl | exact Or.inr (Or.inl rfl) | exact Or.inr (Or.inr rfl)) (hd : (x == ("__debug__" : Str)) = false := by decide)
    (hcd : (x == ("__classdict__" : Str)) = false := by decide) : PE X (.Name x pos) (tEx T b E (xV i)) := by
  refine (pe_var (i := i) hN hv hd hcd).imp fun σ H Q ⟨g, env, w, R, p⟩ => ?_
  unfold xV at p
  cases e : env[i]? with
  | none => rw [e] at p; exact p.elim
  | some s =>
    rw [e] at p
    cases s with
    | no => exact p.elim
    | fr d =>
      obtain ⟨v, h1, h2⟩ := R.fr i d e
      exact ⟨v, h1, p g v H R (Le.refl _) h2⟩
    | ow d =>
      obtain ⟨g', R', l, v, h1, h2⟩ := R.thaw e
      exact ⟨v, h1, p g' v H R' l h2⟩

def xC (d : D) : EX := fun env w => .ok (.fr d) env w
theorem c_of {e : Expr} {v : V} {d : D} (h : PE X e (tC v)) (r : ∀ G, DR T G d v) : PE X e (tEx T b E (xC d)) :=
  h.imp fun σ H Q ⟨g, env, w, R, p⟩ => p g v H R (Le.refl _) (r _)
theorem ci {i j} : PE X (.Constant (.int i) j pos) (tEx T b E (xC (.int i))) := c_of pe_int fun _ => rfl
theorem cbl {i j} : PE X (.Constant (.bool i) j pos) (tEx T b E (xC (.bl i))) := c_of pe_bl fun _ => rfl
theorem cn {j} : PE X (.Constant .none j pos) (tEx T b E (xC .non)) := c_of pe_non fun _ => rfl
theorem cs {x : Str} (s : List Nat) {j} (h : x = mkS s := by rfl) : PE X (.Constant (.str x) j pos) (tEx T b E (xC (.str s))) := c_of pe_str fun _ => by rw [h]; rfl

/-! ### operations on values -/
def lift (o : Option Slot) : EX := fun env w => match o with
  | some r => .ok r env w
  | none => .no
def x1 (sem : D → Option Slot) (fa : EX) : EX := fun env w => (fa env w).bind fun r env w => lift (sem r.dat) env w
def x2 (sem : D → D → Option Slot) (fa fb : EX) : EX := fun env w => (fa env w).bind fun r env w => (fb env w).bind fun q env w => lift (sem r.dat q.dat) env w
/-- what an operation's reading asks, shown of data -/
def OpV (T : Th) (rd : R2) (sem : D → D → Option Slot) : Prop := ∀ (G H : Hp) (x y : V) (d e : D) (r : Slot) (Q : VK), sem d e = some r → (∀ a o, G a = some o → H a = some o) → DO T G H d x → DO T G H e y →
  (∀ v G' H', Alloc G H G' H' → RVa T G' H H' v r → Q v H') → rd x y H Q
def UnV (T : Th) (rd : V → Hp → VK → Prop) (sem : D → Option Slot) : Prop := ∀ (G H : Hp) (x : V) (d : D) (r : Slot) (Q : VK), sem d = some r → (∀ a o, G a = some o → H a = some o) → DO T G H d x →
  (∀ v G' H', Alloc G H G' H' → RVa T G' H H' v r → Q v H') → rd x H Q
def CallV (T : Th) (rd : List V → Hp → VK → Prop) (sem : List D → Option Slot) : Prop := ∀ (G H : Hp) (xs : List V) (ds : List D) (r : Slot) (Q : VK), sem ds = some r → (∀ a o, G a = some o → H a = some o) → DRs T G ds xs →
  (∀ v G' H', Alloc G H G' H' → RVa T G' H H' v r → Q v H') → rd xs H Q
/-- .. of one operand, perhaps one's own -/
def Call1V (T : Th) (rd : List V → Hp → VK → Prop) (sem : D → Option Slot) : Prop := UnV T (fun x => rd [x]) sem
theorem lift_ok {g0 g : Gh} {env : List Slot} {w : Pen} {σ : L2.St} {H : Hp} {Q : VK} {o : Option Slot} (R : RS T b g env w σ H) (l0 : Le g0.G g.G)
    (p : Pr T b E (fun r env' w' => ∀ g' v H', RS T b g' env' w' σ H' → Le g0.G g'.G → RV T b g' H' env' v r → Q v H') (lift o env w)) :
    ∃ r, o = some r ∧ ∀ v G' H', Alloc g.G H G' H' → RVa T G' H H' v r → Q v H' := by
  unfold lift at p
  cases o with
  | none => exact p.elim
  | some r => exact ⟨r, rfl, fun v G' H' A q => p ⟨G', g.ad⟩ v H' (R.alloc A) (l0.trans (Le.of A.g)) (R.rva A q)⟩
/-- two operands, then the operation -/
theorem two_ok {fa fb : EX} {sem : D → D → Option Slot} {rd : R2} (hs : OpV T rd sem) {σ : L2.St} {H : Hp} {Q : VK} (h : tEx T b E (x2 sem fa fb) σ H Q) :
    tOp rd (tEx T b E fa) (tEx T b E fb) σ H Q := by
  obtain ⟨g, env, w, R, p⟩ := h
  unfold x2 at p
  rw [Pr.bind] at p
  refine ⟨g, env, w, R, p.mono fun r env1 w1 p1 g1 x H1 R1 l1 q1 => ?_⟩
  obtain ⟨g2, R2, l2, d2⟩ := R1.freeze q1
  rw [Pr.bind] at p1
  refine ⟨g2, env1, w1, R2, p1.mono fun s env3 w3 p3 g3 y H3 R3 l3 q3 => ?_⟩
  obtain ⟨g4, R4, l4, d4⟩ := R3.freeze q3
  obtain ⟨u, e, k⟩ := lift_ok R4 (((l1.trans l2).trans l3).trans l4) p3
  exact hs g4.G H3 x y _ _ u Q e R4.kept.gh (.inl (d2.le (l3.trans l4))) (.inl d4) k
theorem one_ok {fa : EX} {sem : D → Option Slot} {rd : V → Hp → VK → Prop} (hs : UnV T rd sem) {σ : L2.St} {H : Hp} {Q : VK} (h : tEx T b E (x1 sem fa) σ H Q) :
    tUn rd (tEx T b E fa) σ H Q := by
  obtain ⟨g, env, w, R, p⟩ := h
  unfold x1 at p
  rw [Pr.bind] at p
  refine ⟨g, env, w, R, p.mono fun r env1 w1 p1 g1 x H1 R1 l1 q1 => ?_⟩
  obtain ⟨g2, R2, l2, d2⟩ := R1.freeze q1
  obtain ⟨u, e, k⟩ := lift_ok R2 (l1.trans l2) p1
  exact hs g2.G H1 x _ u Q e R2.kept.gh (.inl d2) k
variable {a c : Expr} {fa fb : EX}
theorem c2 {op : Operator} {rd : R2} {sem : D → D → Option Slot} (ho : OpR X (binaryOp op) rd) (hs : OpV T rd sem) (ha : PE X a (tEx T b E fa)) (hb : PE X c (tEx T b E fb)) : PE X (.BinOp a op c pos) (tEx T b E (x2 sem fa fb)) :=
  (pe_op ho ha hb).imp fun _ _ _ h => two_ok hs h
theorem c1 {op : UnaryOp} {rd : V → Hp → VK → Prop} {sem : D → Option Slot} (ho : UnR X (unaryOp op) rd) (hs : UnV T rd sem) (ha : PE X a (tEx T b E fa)) : PE X (.UnaryOp op a pos) (tEx T b E (x1 sem fa)) :=
  (pe_un ho ha).imp fun _ _ _ h => one_ok hs h
theorem cc {op : CmpOp} {rd : R2} {sem : D → D → Option Slot} (ho : OpR X (compareOp op) rd) (hs : OpV T rd sem) (ha : PE X a (tEx T b E fa)) (hb : PE X c (tEx T b E fb)) (hm : behindInMarks op c = false) :
    PE X (.Compare a [op] [c] pos) (tEx T b E (x2 sem fa fb)) := (pe_cmpR ho ha hb hm).imp fun _ _ _ h => two_ok hs h
theorem cx {rd : R2} {sem : D → D → Option Slot} (ho : IxR X rd) (hs : OpV T rd sem) (ha : PE X a (tEx T b E fa)) (hb : PE X c (tEx T b E fb)) (hp : PlainIx c) : PE X (.Subscript a c pos) (tEx T b E (x2 sem fa fb)) :=
  (pe_ix ho ha hb hp).imp fun _ _ _ h => two_ok hs h
end
end HK

/-! HKc: tests, arguments, displays, statements. -/
namespace HK
open PySem PySem.Spec PyProof.Rows L2
section
variable {X : Cx} {T : Th} {b : Bs} {E : XK} {n : Nat} {pos : Pos} {a c e : Expr} {rest es : List Expr} {fa fb fc : EX} {ta tb : TX} {fr : AX}

/-! ### tests -/
def truthD : D → Option Bool
  | .non => some false
  | .bl k => some k
  | .int i => some (i != 0)
  | .str s => if s.length ≤ LINE then some (!s.isEmpty) else none
  | .tup xs => some (!xs.isEmpty)
  | .tpl xs => some (!xs.isEmpty)
  | .lst xs => some (!xs.isEmpty)
  | _ => none
theorem truth_ok {G H : Hp} {d : D} {v : V} {k : Bool} (gh : ∀ a o, G a = some o → H a = some o) (h : DO T G H d v) (e : truthD d = some k) : TruV T.K v H k := by
  cases d with
  | non =>
    obtain rfl := h.non
    cases e
    rfl
  | bl i =>
    obtain rfl := h.bl
    cases e
    rfl
  | int i =>
    obtain rfl := h.int
    cases e
    rfl
  | str s =>
    obtain rfl := h.str
    have e : (if s.length ≤ LINE then some (!s.isEmpty) else none) = some k := e
    split at e
    · rename_i hl
      cases e
      refine ⟨by rw [line_eq]; exact hl, ?_⟩
      cases s with
      | nil => rfl
      | cons x r => exact (bne_iff_ne.mpr (show ((List.length (x :: r) : Nat) : Int) ≠ 0 by rw [List.length_cons]; omega)).symm
    · cases e
  | tpl xs =>
    obtain ⟨p, vs, rfl, s, r⟩ := h.tpl gh
    cases e
    refine .inr (.inl ⟨vs, .inl s, ?_⟩)
    cases xs with
    | nil => rw [r.nil_inv]; rfl
    | cons x r' =>
      obtain ⟨v, q, rfl, _⟩ := r.cons_inv
      rfl
  | tup xs =>
    obtain ⟨p, vs, rfl, s, r⟩ := h.tup gh
    cases e
    refine .inr (.inl ⟨vs, .of s, ?_⟩)
    cases xs with
    | nil => rw [r.nil_inv]; rfl
    | cons x r' =>
      obtain ⟨v, q, rfl, _⟩ := r.cons_inv
      rfl
  | lst xs =>
    obtain ⟨p, vs, rfl, s, r⟩ := h.lst gh
    cases e
    refine .inl ⟨vs, .of s, ?_⟩
    cases xs with
    | nil => rw [r.nil_inv]; rfl
    | cons x r' =>
      obtain ⟨v, q, rfl, _⟩ := r.cons_inv
      rfl
  | _ => cases e
def liftB (o : Option Bool) : TX := fun env w => match o with
  | some r => .ok r env w
  | none => .no
/-- a value's truth -/
def tTr (f : EX) : TX := fun env w => (f env w).bind fun r env w => liftB (truthD r.dat) env w
def isB : D → Option Bool
  | .bl k => some k
  | _ => none
/-- a value that is a bool -/
def tBl (f : EX) : TX := fun env w => (f env w).bind fun r env w => liftB (isB r.dat) env w
theorem ct (hK : X.K = T.K) (ha : PE X a (tEx T b E fa)) (he : ∀ whole, isTrue a X.env whole = (do let v ← whole; standAt a.pos; holding [v] (truthy v)) := by intro _; rfl) : PT X a (tTx T b E (tTr fa)) := by
  refine (pt_truth ha he).imp fun σ H Q ⟨g, env, w, R, p⟩ => ?_
  unfold tTr at p
  rw [Pr.bind] at p
  refine ⟨g, env, w, R, p.mono fun r env1 w1 p1 g1 x H1 R1 l1 q1 => ?_⟩
  obtain ⟨g2, R2, l2, d2⟩ := R1.freeze q1
  unfold liftB at p1
  cases e : truthD r.dat with
  | none => rw [e] at p1; exact p1.elim
  | some k =>
    rw [e] at p1
    exact ⟨k, by rw [hK]; exact truth_ok R2.kept.gh (.inl d2) e, p1 g2 H1 R2 (l1.trans l2)⟩
theorem bl_ok {σ : L2.St} {H : Hp} {Q : Bool → Hp → Prop} (h : tTx T b E (tBl fa) σ H Q) : tEx T b E fa σ H fun x H' => ∃ k, x = .bl k ∧ Q k H' := by
  obtain ⟨g, env, w, R, p⟩ := h
  unfold tBl at p
  rw [Pr.bind] at p
  refine ⟨g, env, w, R, p.mono fun r env1 w1 p1 g1 x H1 R1 l1 q1 => ?_⟩
  obtain ⟨g2, R2, l2, d2⟩ := R1.freeze q1
  unfold liftB at p1
  cases e : r.dat with
  | bl k =>
    rw [e] at p1 d2
    exact ⟨k, d2, p1 g2 H1 R2 (l1.trans l2)⟩
  | _ => rw [e] at p1; exact p1.elim
/-- a comparison as a test -/
theorem ctc {op : CmpOp} {rd : R2} {sem : D → D → Option Slot} (ho : OpR X (compareOp op) rd) (hs : OpV T rd sem) (ha : PE X a (tEx T b E fa)) (hb : PE X c (tEx T b E fb)) (hm : behindInMarks op c = false) :
    PT X (.Compare a [op] [c] pos) (tTx T b E (tBl (x2 sem fa fb))) := (pt_cmpR ho ha hb hm).imp fun _ _ _ h => two_ok hs (bl_ok h)
def tNt (t : TX) : TX := fun env w => (t env w).bind fun k env w => .ok (!k) env w
theorem ctn (ha : PT X a (tTx T b E ta)) : PT X (.UnaryOp .Not a pos) (tTx T b E (tNt ta)) := by
  refine (pt_not ha).imp fun σ H Q ⟨g, env, w, R, p⟩ => ?_
  unfold tNt at p
  rw [Pr.bind] at p
  exact ⟨g, env, w, R, p.mono fun k env1 w1 p1 g1 H1 R1 l1 => p1 g1 H1 R1 l1⟩
def tAn (t u : TX) : TX := fun env w => (t env w).bind fun k env w => if k = true then u env w else .ok false env w
def tOrx (t u : TX) : TX := fun env w => (t env w).bind fun k env w => if k = true then .ok true env w else u env w
theorem and_ok {σ : L2.St} {H : Hp} {Q : Bool → Hp → Prop} (h : tTx T b E (tAn ta tb) σ H Q) : tAnd (tTx T b E ta) (tTx T b E tb) σ H Q := by
  obtain ⟨g, env, w, R, p⟩ := h
  unfold tAn at p
  rw [Pr.bind] at p
  refine ⟨g, env, w, R, p.mono fun k env1 w1 p1 g1 H1 R1 l1 => ?_⟩
  cases k with
  | true =>
    rw [if_pos rfl] at p1 ⊢
    exact ⟨g1, env1, w1, R1, p1.mono fun k env2 w2 p2 g2 H2 R2 l2 => p2 g2 H2 R2 (l1.trans l2)⟩
  | false =>
    rw [if_neg Bool.false_ne_true] at p1 ⊢
    exact p1 g1 H1 R1 l1
theorem or_ok {σ : L2.St} {H : Hp} {Q : Bool → Hp → Prop} (h : tTx T b E (tOrx ta tb) σ H Q) : tOr (tTx T b E ta) (tTx T b E tb) σ H Q := by
  obtain ⟨g, env, w, R, p⟩ := h
  unfold tOrx at p
  rw [Pr.bind] at p
  refine ⟨g, env, w, R, p.mono fun k env1 w1 p1 g1 H1 R1 l1 => ?_⟩
  cases k with
  | true =>
    rw [if_pos rfl] at p1 ⊢
    exact p1 g1 H1 R1 l1
  | false =>
    rw [if_neg Bool.false_ne_true] at p1 ⊢
    exact ⟨g1, env1, w1, R1, p1.mono fun k env2 w2 p2 g2 H2 R2 l2 => p2 g2 H2 R2 (l1.trans l2)⟩
theorem _root_.L2.PW.imp {X : Cx} {e : Expr} {t t' : TT} (h : PW X e t) (k : ∀ σ H Q, t' σ H Q → t σ H Q) : PW X e t' := ⟨fun wh pins s σ H Q I q => h.run wh pins s σ H Q I (k σ H Q q)⟩
theorem ca1 (ha : PT X a (tTx T b E ta)) : PW X (.BoolOp .And [a] pos) (tTx T b E ta) := pw_and1 ha
theorem ca2 (ha : PT X a (tTx T b E ta)) (hb : PW X (.BoolOp .And (c :: rest) pos) (tTx T b E tb)) : PW X (.BoolOp .And (a :: c :: rest) pos) (tTx T b E (tAn ta tb)) :=
  (pw_and ha hb).imp fun _ _ _ h => and_ok h
theorem co1 (ha : PT X a (tTx T b E ta)) : PW X (.BoolOp .Or [a] pos) (tTx T b E ta) := pw_or1 ha
theorem co2 (ha : PT X a (tTx T b E ta)) (hb : PW X (.BoolOp .Or (c :: rest) pos) (tTx T b E tb)) : PW X (.BoolOp .Or (a :: c :: rest) pos) (tTx T b E (tOrx ta tb)) :=
  (pw_or ha hb).imp fun _ _ _ h => or_ok h
/-- and, or, not of bools as values -/
def xAn (f u : EX) : EX := fun env w => (f env w).bind fun r env w => match r.dat with
  | .bl true => u env w
  | .bl false => .ok (.fr (.bl false)) env w
  | _ => .no
def xOr (f u : EX) : EX := fun env w => (f env w).bind fun r env w => match r.dat with
  | .bl true => .ok (.fr (.bl true)) env w
  | .bl false => u env w
  | _ => .no
def nD : D → Option Slot
  | .bl k => some (.fr (.bl (!k)))
  | _ => none
theorem ve1 {op} (h : PE X a (tEx T b E fa)) : PE X (.BoolOp op [a] pos) (tEx T b E fa) := pe_one h
theorem va2 (ha : PE X a (tEx T b E fa)) (hb : PE X (.BoolOp .And (c :: rest) pos) (tEx T b E fb)) : PE X (.BoolOp .And (a :: c :: rest) pos) (tEx T b E (xAn fa fb)) := by
  refine (pe_and ha hb).imp fun σ H Q ⟨g, env, w, R, p⟩ => ?_
  unfold xAn at p
  rw [Pr.bind] at p
  refine ⟨g, env, w, R, p.mono fun r env1 w1 p1 g1 x H1 R1 l1 q1 => ?_⟩
  obtain ⟨g2, R2, l2, d2⟩ := R1.freeze q1
  cases e : r.dat with
  | bl k =>
    rw [e] at p1 d2
    refine ⟨k, d2, ?_⟩
    cases k with
    | true =>
      rw [if_pos rfl]
      exact ⟨g2, env1, w1, R2, p1.mono fun q env3 w3 p3 g3 v H3 R3 l3 q3 => p3 g3 v H3 R3 ((l1.trans l2).trans l3) q3⟩
    | false =>
      rw [if_neg Bool.false_ne_true]
      exact p1 g2 _ H1 R2 (l1.trans l2) rfl
  | _ => rw [e] at p1; exact p1.elim
theorem vo2 (ha : PE X a (tEx T b E fa)) (hb : PE X (.BoolOp .Or (c :: rest) pos) (tEx T b E fb)) : PE X (.BoolOp .Or (a :: c :: rest) pos) (tEx T b E (xOr fa fb)) := by
  refine (pe_or ha hb).imp fun σ H Q ⟨g, env, w, R, p⟩ => ?_
  unfold xOr at p
  rw [Pr.bind] at p
  refine ⟨g, env, w, R, p.mono fun r env1 w1 p1 g1 x H1 R1 l1 q1 => ?_⟩
  obtain ⟨g2, R2, l2, d2⟩ := R1.freeze q1
  cases e : r.dat with
  | bl k =>
    rw [e] at p1 d2
    refine ⟨k, d2, ?_⟩
    cases k with
    | false =>
      rw [if_neg Bool.false_ne_true]
      exact ⟨g2, env1, w1, R2, p1.mono fun q env3 w3 p3 g3 v H3 R3 l3 q3 => p3 g3 v H3 R3 ((l1.trans l2).trans l3) q3⟩
    | true =>
      rw [if_pos rfl]
      exact p1 g2 _ H1 R2 (l1.trans l2) rfl
  | _ => rw [e] at p1; exact p1.elim
/-- not, of a bool, as a value -/
theorem vn (ha : PE X a (tEx T b E fa)) : PE X (.UnaryOp .Not a pos) (tEx T b E (x1 nD fa)) := by
  refine (pe_not ha).imp fun σ H Q h => one_ok (rd := fun x H Q => ∃ c, x = .bl c ∧ Q (.bl (!c)) H) (fun G H x d r Q e gh o q => ?_) h
  cases d with
  | bl k =>
    obtain rfl := o.bl
    cases e
    exact ⟨k, rfl, q _ G H (Alloc.refl gh) rfl⟩
  | _ => cases e
/-- a if t else c -/
def xIf (t : TX) (f u : EX) : EX := fun env w => (t env w).bind fun k env w => if k = true then f env w else u env w
theorem cif {q : Expr} (hc : PT X q (tTx T b E ta)) (ha : PE X a (tEx T b E fa)) (hb : PE X c (tEx T b E fb)) : PE X (.IfExp q a c pos) (tEx T b E (xIf ta fa fb)) := by
  refine (pe_ifExp hc ha hb).imp fun σ H Q ⟨g, env, w, R, p⟩ => ?_
  unfold xIf at p
  rw [Pr.bind] at p
  refine ⟨g, env, w, R, p.mono fun k env1 w1 p1 g1 H1 R1 l1 => ?_⟩
  cases k with
  | true =>
    rw [if_pos rfl] at p1 ⊢
    exact ⟨g1, env1, w1, R1, p1.mono fun q env3 w3 p3 g3 v H3 R3 l3 q3 => p3 g3 v H3 R3 (l1.trans l3) q3⟩
  | false =>
    rw [if_neg Bool.false_ne_true] at p1 ⊢
    exact ⟨g1, env1, w1, R1, p1.mono fun q env3 w3 p3 g3 v H3 R3 l3 q3 => p3 g3 v H3 R3 (l1.trans l3) q3⟩

/-! ### arguments, displays -/
def aN : AX := fun env w => .ok [] env w
def aC (f : EX) (r : AX) : AX := fun env w => (f env w).bind fun s env w => (r env w).bind fun ds env w => .ok (s.dat :: ds) env w
theorem an : PA X [] (tAx T b E aN) := pa_nil.imp fun σ H Q ⟨g, env, w, R, p⟩ => p g [] H R (Le.refl _) .nil
theorem ac (ha : PE X e (tEx T b E fa)) (hr : PA X es (tAx T b E fr)) (hs : starEach (e :: es) X.env = (false, eval e X.env) :: starEach es X.env := by rfl) : PA X (e :: es) (tAx T b E (aC fa fr)) := by
  refine (pa_cons ha hr hs).imp fun σ H Q ⟨g, env, w, R, p⟩ => ?_
  unfold aC at p
  rw [Pr.bind] at p
  refine ⟨g, env, w, R, p.mono fun r env1 w1 p1 g1 x H1 R1 l1 q1 => ?_⟩
  obtain ⟨g2, R2, l2, d2⟩ := R1.freeze q1
  rw [Pr.bind] at p1
  exact ⟨g2, env1, w1, R2, p1.mono fun ds env3 w3 p3 g3 vs H3 R3 l3 q3 => p3 g3 (x :: vs) H3 R3 ((l1.trans l2).trans l3) (.cons (d2.le l3) q3)⟩
def seqD : D → Option (List D)
  | .tup xs => some xs
  | .lst xs => some xs
  | _ => none
def lineS (ds : List D) (r : Slot) : Option Slot := if ds.length ≤ LINE then some r else none
/-- a tuple's, a list's display -/
def xTp (f : AX) : EX := fun env w => (f env w).bind fun ds env w => lift (lineS ds (.fr (.tup ds))) env w
def xLs (f : AX) : EX := fun env w => (f env w).bind fun ds env w => lift (lineS ds (.ow (.lst ds))) env w
theorem lineS_some {ds : List D} {r q : Slot} (h : lineS ds r = some q) : ds.length ≤ LINE ∧ q = r := by
  unfold lineS at h
  split at h
  · rename_i hl
    exact ⟨hl, (Option.some.inj h).symm⟩
  · cases h
theorem ctp {k} (h : PA X es (tAx T b E fr)) : PE X (.Tuple es k pos) (tEx T b E (xTp fr)) := by
  refine (pe_tup h).imp fun σ H Q ⟨g, env, w, R, p⟩ => ?_
  unfold xTp at p
  rw [Pr.bind] at p
  refine ⟨g, env, w, R, p.mono fun ds env1 w1 p1 g1 vs H1 R1 l1 q1 => ?_⟩
  obtain ⟨r, e, k⟩ := lift_ok R1 l1 p1
  obtain ⟨hl, rfl⟩ := lineS_some e
  refine ⟨by rw [q1.length, line_eq]; exact hl, fun p np => k _ _ _ (Alloc.new2 R1.kept.gh np) ?_⟩
  show DR T _ _ _
  have ng : g1.G p = none := by
    cases q : g1.G p with
    | none => rfl
    | some u =>
      rw [R1.kept.gh p u q] at np
      cases np
  unfold DR
  exact ⟨p, vs, rfl, upd_same, q1.le (le_upd ng)⟩
theorem own_new {g : Gh} {env : List Slot} {w : Pen} {σ : L2.St} {H : Hp} {p : Addr} {ds : List D} {vs : List V} (R : RS T b g env w σ H) (np : H p = none) (q : DRs T g.G ds vs) :
    RVa T g.G H (upd H p (.lst vs)) (.ref p) (.ow (.lst ds)) := by
  refine ⟨p, rfl, ?_, np, vs, upd_same, q⟩
  cases q : g.G p with
  | none => rfl
  | some u =>
    rw [R.kept.gh p u q] at np
    cases np
theorem cls (h : PA X es (tAx T b E fr)) : PE X (.List es pos) (tEx T b E (xLs fr)) := by
  refine (pe_lst h).imp fun σ H Q ⟨g, env, w, R, p⟩ => ?_
  unfold xLs at p
  rw [Pr.bind] at p
  refine ⟨g, env, w, R, p.mono fun ds env1 w1 p1 g1 vs H1 R1 l1 q1 => ?_⟩
  obtain ⟨r, e, k⟩ := lift_ok R1 l1 p1
  obtain ⟨hl, rfl⟩ := lineS_some e
  exact ⟨by rw [q1.length, line_eq]; exact hl, fun p np => k _ _ _ (Alloc.new1 R1.kept.gh np) (own_new R1 np q1)⟩
/-- a built-in called -/
def xCl (sem : List D → Option Slot) (f : AX) : EX := fun env w => (f env w).bind fun ds env w => lift (sem ds) env w
theorem call_ok {sem : List D → Option Slot} {rd : List V → Hp → VK → Prop} (hs : CallV T rd sem) {σ : L2.St} {H : Hp} {Q : VK} (h : tEx T b E (xCl sem fr) σ H Q) : tCB rd (tAx T b E fr) σ H Q := by
  obtain ⟨g, env, w, R, p⟩ := h
  unfold xCl at p
  rw [Pr.bind] at p
  refine ⟨g, env, w, R, p.mono fun ds env1 w1 p1 g1 vs H1 R1 l1 q1 => ?_⟩
  obtain ⟨r, e, k⟩ := lift_ok R1 l1 p1
  exact hs g1.G H1 vs ds r Q e R1.kept.gh q1 k
theorem cb {x : Str} {p : Pos} {id : String} {rd : List V → Hp → VK → Prop} {sem : List D → Option Slot} (hc : CallR X (.builtin id) rd) (hs : CallV T rd sem) (hm : X.mg x = none) (hv : bootBuiltins x = some (.builtin id))
    (ha : PA X (e :: es) (tAx T b E fr)) (hg : Gl X x := by rfl) (hn : x ≠ "__name__" := by decide) (hdb : (x == ("__debug__" : Str)) = false := by decide)
    (he : starEach (e :: es) X.env = (false, eval e X.env) :: starEach es X.env := by rfl) (hpl : (backTo pos (starEach es X.env)).any (·.1) = false := by rfl) :
    PE X (.Call (.Name x p) (e :: es) [] pos) (tEx T b E (xCl sem fr)) := (pe_callB hc hg hm hv ha hn hdb he hpl).imp fun _ _ _ h => call_ok hs h
theorem cty {x : Str} {p : Pos} {id : String} {rd : List V → Hp → VK → Prop} {sem : List D → Option Slot} (hc : CallR X (.type id) rd) (hs : CallV T rd sem) (hm : X.mg x = none) (hv : bootBuiltins x = some (.type id))
    (ha : PA X (e :: es) (tAx T b E fr)) (hg : Gl X x := by rfl) (hn : x ≠ "__name__" := by decide) (hdb : (x == ("__debug__" : Str)) = false := by decide)
    (he : starEach (e :: es) X.env = (false, eval e X.env) :: starEach es X.env := by rfl) (hpl : (backTo pos (starEach es X.env)).any (·.1) = false := by rfl) :
    PE X (.Call (.Name x p) (e :: es) [] pos) (tEx T b E (xCl sem fr)) := (pe_callTy hc hg hm hv ha hn hdb he hpl).imp fun _ _ _ h => call_ok hs h
end
end HK

/-! HKd: statements, loops. -/
namespace HK
open PySem PySem.Spec PyProof.Rows L2
inductive Fl where
  | nx | rt (r : Slot) | bk | ct
abbrev SX := List Slot → Pen → Rv Fl
def EndOk (T : Th) (b : Bs) (D' : Ends) (g : Gh) (env : List Slot) (σ : L2.St) (H : Hp) : Fl → Prop
  | .nx => D'.nx σ H
  | .rt r => ∀ v, RV T b g H env v r → D'.rt v H
  | .bk => D'.bk σ H
  | .ct => D'.ct σ H
def PSt (T : Th) (b : Bs) (E : XK) (D' : Ends) (g : Gh) (p : Rv Fl) : Prop :=
  Pr T b E (fun fl env' w' => ∀ g' σ' H', RS T b g' env' w' σ' H' → Le g.G g'.G → EndOk T b D' g' env' σ' H' fl) p
def tSt (T : Th) (b : Bs) (E : XK) (f : SX) : TS := fun D' σ H => ∃ g env w, RS T b g env w σ H ∧ PSt T b E D' g (f env w)
section
variable {X : Cx} {T : Th} {b : Bs} {E : XK} {n : Nat} {pos : Pos} {a c e : Expr} {st : Stmt} {rest sts : List Stmt} {fa fb fc : EX} {ta tb : TX} {f fr fs : SX}

theorem PSt.le {D' : Ends} {g g1 : Gh} {p : Rv Fl} (h : PSt T b E D' g p) (l : Le g.G g1.G) : PSt T b E D' g1 p :=
  h.mono fun _ _ _ q g' σ' H' R l' => q g' σ' H' R (l.trans l')
def sN : SX := fun env w => .ok .nx env w
def sQ (f r : SX) : SX := fun env w => (f env w).bind fun fl env w => match fl with
  | .nx => r env w
  | o => .ok o env w
theorem sn : PSs X [] (tSt T b E sN) := pss_nil.imp fun D' σ H ⟨g, env, w, R, p⟩ => p g σ H R (Le.refl _)
theorem s1 (h : PS X st (tSt T b E f)) : PSs X [st] (tSt T b E f) := pss_one h
theorem sq (h : PS X st (tSt T b E f)) (k : PSs X rest (tSt T b E fr)) : PSs X (st :: rest) (tSt T b E (sQ f fr)) := by
  refine (pss_cons h k).imp fun D' σ H ⟨g, env, w, R, p⟩ => ?_
  unfold sQ PSt at p
  rw [Pr.bind] at p
  refine ⟨g, env, w, R, p.mono fun fl env1 w1 p1 g1 σ1 H1 R1 l1 => ?_⟩
  cases fl with
  | nx => exact ⟨g1, env1, w1, R1, PSt.le (g := g) p1 l1⟩
  | rt r => exact p1 g1 σ1 H1 R1 l1
  | bk => exact p1 g1 σ1 H1 R1 l1
  | ct => exact p1 g1 σ1 H1 R1 l1
theorem sp : PS X (.Pass pos) (tSt T b E sN) := ps_pass.imp fun D' σ H ⟨g, env, w, R, p⟩ => p g σ H R (Le.refl _)
theorem sdoc {x j p'} : PS X (.Expr (.Constant (.str x) j pos) p') (tSt T b E sN) := ps_doc.imp fun D' σ H ⟨g, env, w, R, p⟩ => p g σ H R (Le.refl _)
def sBk : SX := fun env w => .ok .bk env w
def sCt : SX := fun env w => .ok .ct env w
theorem sbk : PS X (.Break pos) (tSt T b E sBk) := ps_break.imp fun D' σ H ⟨g, env, w, R, p⟩ => p g σ H R (Le.refl _)
theorem sct : PS X (.Continue pos) (tSt T b E sCt) := ps_continue.imp fun D' σ H ⟨g, env, w, R, p⟩ => p g σ H R (Le.refl _)
def sE (f : EX) : SX := fun env w => (f env w).bind fun _ env w => .ok .nx env w
theorem se (h : PE X e (tEx T b E fa)) (hs : swapsWith e none pos.line X.env = pure false := by rfl) : PS X (.Expr e pos) (tSt T b E (sE fa)) := by
  refine (ps_expr h hs).imp fun D' σ H ⟨g, env, w, R, p⟩ => ?_
  unfold sE PSt at p
  rw [Pr.bind] at p
  refine ⟨g, env, w, R, p.mono fun r env1 w1 p1 g1 x H1 R1 l1 q1 => ?_⟩
  obtain ⟨g2, R2, l2, d2⟩ := R1.freeze q1
  exact p1 g2 σ H1 R2 (l1.trans l2)
def sR (f : EX) : SX := fun env w => (f env w).bind fun r env w => .ok (.rt r) env w
theorem sr (h : PE X e (tEx T b E fa)) : PS X (.Return (some e) pos) (tSt T b E (sR fa)) := by
  refine (ps_ret h).imp fun D' σ H ⟨g, env, w, R, p⟩ => ?_
  unfold sR PSt at p
  rw [Pr.bind] at p
  exact ⟨g, env, w, R, p.mono fun r env1 w1 p1 g1 x H1 R1 l1 q1 => p1 g1 σ H1 R1 l1 x q1⟩
def sRn : SX := fun env w => .ok (.rt (.fr .non)) env w
theorem srn : PS X (.Return none pos) (tSt T b E sRn) := ps_retN.imp fun D' σ H ⟨g, env, w, R, p⟩ => p g σ H R (Le.refl _) _ rfl
def sI (t : TX) (f u : SX) : SX := fun env w => (t env w).bind fun k env w => if k = true then f env w else u env w
theorem si {as bs : List Stmt} (hc : PT X c (tTx T b E ta)) (h : PSs X as (tSt T b E f)) (k : PSs X bs (tSt T b E fr)) : PS X (.If c as bs pos) (tSt T b E (sI ta f fr)) := by
  refine (ps_if hc h k).imp fun D' σ H ⟨g, env, w, R, p⟩ => ?_
  unfold sI PSt at p
  rw [Pr.bind] at p
  refine ⟨g, env, w, R, p.mono fun k env1 w1 p1 g1 H1 R1 l1 => ?_⟩
  cases k with
  | true =>
    rw [if_pos rfl] at p1 ⊢
    exact ⟨g1, env1, w1, R1, PSt.le (g := g) p1 l1⟩
  | false =>
    rw [if_neg Bool.false_ne_true] at p1 ⊢
    exact ⟨g1, env1, w1, R1, PSt.le (g := g) p1 l1⟩

/-! ### stores -/
theorem RS.set {g : Gh} {env : List Slot} {w : Pen} {σ : L2.St} {H : Hp} {v : V} {r : Slot} (R : RS T b g env w σ H) (q : RV T b g H env v r) (i : Nat) :
    ∃ g', RS T b g' (env.set i r) w (σ.set i (some v)) H ∧ g'.G = g.G := by
  have hl : (σ.set i (some v)).length = (env.set i r).length := by rw [List.length_set, List.length_set]; exact R.len
  by_cases hi : i < env.length
  · have hi' : i < σ.length := by rw [R.len]; exact hi
    have other : ∀ (j : Nat) (s : Slot), j ≠ i → (env.set i r)[j]? = some s → env[j]? = some s := fun j s hj e => by
      rw [List.getElem?_set_ne (Ne.symm hj)] at e
      exact e
    have otherσ : ∀ (j : Nat), j ≠ i → (σ.set i (some v))[j]? = σ[j]? := fun j hj => List.getElem?_set_ne (Ne.symm hj)
    have here : ∀ (s : Slot), (env.set i r)[i]? = some s → s = r := fun s e => by
      rw [List.getElem?_set_self hi] at e
      exact (Option.some.inj e).symm
    cases r with
    | no => exact q.elim
    | fr d =>
      refine ⟨g, ⟨R.kept, hl, fun j c e => ?_, fun j c e => ?_, fun j k c d' e e' => ?_⟩, rfl⟩
      · by_cases hj : j = i
        · subst hj
          cases here _ e
          exact ⟨v, List.getElem?_set_self hi', q⟩
        · rw [otherσ j hj]
          exact R.fr j c (other j _ hj e)
      · by_cases hj : j = i
        · subst hj
          cases here _ e
        · rw [otherσ j hj]
          exact R.ow j c (other j _ hj e)
      · have hj : j ≠ i := fun z => by
          subst z
          cases here _ e
        have hk : k ≠ i := fun z => by
          subst z
          cases here _ e'
        exact R.inj j k c d' (other j _ hj e) (other k _ hk e')
    | ow d =>
      obtain ⟨a, rfl, O, na⟩ := q
      have adi : ∀ j, j ≠ i → (fun j => if j = i then a else g.ad j) j = g.ad j := fun j hj => if_neg hj
      refine ⟨⟨g.G, fun j => if j = i then a else g.ad j⟩, ⟨R.kept, hl, fun j c e => ?_, fun j c e => ?_, fun j k c d' e e' z => ?_⟩, rfl⟩
      · by_cases hj : j = i
        · subst hj
          cases here _ e
        · rw [otherσ j hj]
          exact R.fr j c (other j _ hj e)
      · by_cases hj : j = i
        · subst hj
          cases here _ e
          show _ = some (some (V.ref (if j = j then a else g.ad j))) ∧ OwnA T b g.G H (if j = j then a else g.ad j) _
          rw [if_pos rfl]
          exact ⟨List.getElem?_set_self hi', O⟩
        · rw [otherσ j hj]
          show _ = some (some (V.ref (if j = i then a else g.ad j))) ∧ OwnA T b g.G H (if j = i then a else g.ad j) _
          rw [if_neg hj]
          exact R.ow j c (other j _ hj e)
      · have z' : (if j = i then a else g.ad j) = (if k = i then a else g.ad k) := z
        by_cases hj : j = i
        · by_cases hk : k = i
          · rw [hj, hk]
          · rw [if_pos hj, if_neg hk] at z'
            exact absurd z'.symm (na k _ (other k _ hk e'))
        · by_cases hk : k = i
          · rw [if_neg hj, if_pos hk] at z'
            exact absurd z' (na j _ (other j _ hj e))
          · rw [if_neg hj, if_neg hk] at z'
            exact R.inj j k c d' (other j _ hj e) (other k _ hk e') z'
  · have e1 : env.set i r = env := List.set_eq_of_length_le (by omega)
    have e2 : σ.set i (some v) = σ := List.set_eq_of_length_le (by rw [R.len]; omega)
    rw [e1, e2]
    exact ⟨g, R, rfl⟩
def sA (i : Nat) (f : EX) : SX := fun env w => (f env w).bind fun r env w => .ok .nx (env.set i r) w
theorem sa {i : Nat} {x : Str} {p' : Pos} (nd : X.N.Nodup) (h : PE X e (tEx T b E fa)) (hi : X.N[i]? = some x := by rfl) (hx : Loc X.env.scope x := by first | exact Or.inl rfl | exact Or.inr rfl)
    (hs : swapsWith e (some (.Name x p')) pos.line X.env = pure false := by rfl) (hf : X.fn x = true ∨ X.env.scope.names.lookup x = some .local := by first | exact .inl rfl | exact .inr rfl) :
    PS X (.Assign [.Name x p'] e pos) (tSt T b E (sA i fa)) := by
  refine (ps_set nd hi hx h hs hf).imp fun D' σ H ⟨g, env, w, R, p⟩ => ?_
  unfold sA PSt at p
  rw [Pr.bind] at p
  refine ⟨g, env, w, R, p.mono fun r env1 w1 p1 g1 x H1 R1 l1 q1 => ?_⟩
  obtain ⟨g2, R2, e2⟩ := R1.set q1 i
  exact p1 g2 _ H1 R2 (by rw [e2]; exact l1)

/-! ### targets -/
abbrev GX := D → List Slot → Option (List Slot)
/-- a target takes frozen data; it stores into the slots is -/
def GV (T : Th) (b : Bs) (g : TG) (set : GX) (is : List Nat) : Prop := ∀ (gh : Gh) (env : List Slot) (w : Pen) (σ : L2.St) (H : Hp) (v : V) (d : D) (env' : List Slot) (Q : L2.St → Hp → Prop),
  RS T b gh env w σ H → DR T gh.G d v → set d env = some env' → (∀ gh' σ', RS T b gh' env' w σ' H → Le gh.G gh'.G → (∀ vs : List Nat, (∀ i ∈ is, i ∈ vs) → wipe σ' vs = wipe σ vs) → Q σ' H) → g v σ H Q
theorem wipe_set {σ : L2.St} {x : Option V} : ∀ {vs : List Nat} {i : Nat}, i ∈ vs → wipe (σ.set i x) vs = wipe σ vs
  | [], _, h => by cases h
  | v :: vs, i, h => by
    unfold wipe
    by_cases hi : i ∈ vs
    · rw [wipe_set hi]
    · have hv : i = v := by
        rcases List.mem_cons.mp h with z | z
        · exact z
        · exact absurd z hi
      subst hv
      have z : ∀ (ws : List Nat), wipe (σ.set i x) ws = (wipe σ ws).set i (if i ∈ ws then none else x) ∨ i ∈ ws := fun ws => by
        induction ws with
        | nil => exact .inl rfl
        | cons u us ih =>
          by_cases hu : i ∈ u :: us
          · exact .inr hu
          · have hn : i ∉ us := fun z => hu (List.mem_cons_of_mem _ z)
            have hne : u ≠ i := fun z => hu (by rw [z]; exact List.mem_cons_self)
            rcases ih with ih | ih
            · left
              unfold wipe
              rw [ih, if_neg hn, if_neg hu, List.set_comm _ _ (Ne.symm hne)]
            · exact absurd ih hn
      rcases z vs with z | z
      · rw [z, if_neg hi, List.set_set]
      · exact absurd z hi
def gN (i : Nat) : GX := fun d env => some (env.set i (.fr d))
theorem gn (i : Nat) : GV T b (gName i) (gN i) [i] := fun gh env w σ H v d env' Q R q e h => by
  cases e
  obtain ⟨g', R', e'⟩ := R.set (r := .fr d) q i
  exact h g' _ R' (by rw [e']; exact Le.refl _) fun vs hv => wipe_set (hv i List.mem_cons_self)
abbrev GXs := List D → List Slot → Option (List Slot)
def GVs (T : Th) (b : Bs) (g : TGs) (set : GXs) (is : List Nat) : Prop := ∀ (gh : Gh) (env : List Slot) (w : Pen) (σ : L2.St) (H : Hp) (vs : List V) (ds : List D) (env' : List Slot) (Q : L2.St → Hp → Prop),
  RS T b gh env w σ H → DRs T gh.G ds vs → set ds env = some env' → (∀ gh' σ', RS T b gh' env' w σ' H → Le gh.G gh'.G → (∀ vs : List Nat, (∀ i ∈ is, i ∈ vs) → wipe σ' vs = wipe σ vs) → Q σ' H) → g vs σ H Q
def gZ : GXs := fun ds env => match ds with
  | [] => some env
  | _ => none
def gC (g : GX) (r : GXs) : GXs := fun ds env => match ds with
  | d :: ds => match g d env with
    | some env' => r ds env'
    | none => none
  | [] => none
theorem gz : GVs T b gNil gZ [] := fun gh env w σ H vs ds env' Q R q e h => by
  cases ds with
  | nil =>
    cases e
    obtain rfl := q.nil_inv
    exact ⟨rfl, h gh σ R (Le.refl _) fun _ _ => rfl⟩
  | cons d ds => cases e
theorem gc {g : TG} {u : TGs} {s : GX} {r : GXs} {is js : List Nat} (h1 : GV T b g s is) (h2 : GVs T b u r js) : GVs T b (gCons g u) (gC s r) (is ++ js) := fun gh env w σ H vs ds env' Q R q e h => by
  cases ds with
  | nil => cases e
  | cons d ds =>
    obtain ⟨v, vr, rfl, q1, q2⟩ := q.cons_inv
    have e : (match s d env with
      | some env' => r ds env'
      | none => none) = some env' := e
    cases es : s d env with
    | none => rw [es] at e; cases e
    | some env1 =>
      rw [es] at e
      refine ⟨v, vr, rfl, h1 gh env w σ H v d env1 _ R q1 es fun gh1 σ1 R1 l1 w1 => ?_⟩
      refine h2 gh1 env1 w σ1 H vr ds env' _ R1 (q2.le l1) e fun gh2 σ2 R2 l2 w2 => ?_
      exact h gh2 σ2 R2 (l1.trans l2) fun vs hv => (w2 vs fun i hi => hv i (List.mem_append_right _ hi)).trans (w1 vs fun i hi => hv i (List.mem_append_left _ hi))
def gT (m : Nat) (r : GXs) : GX := fun d env => match tupOf d with
  | some ds => if ds.length = m then r ds env else none
  | none => none
theorem gt {K : PySem.W.Frag} (hK : K = T.K) {u : TGs} {r : GXs} {is : List Nat} {m : Nat} (h : GVs T b u r is) : GV T b (gTup K m u) (gT m r) is := fun gh env w σ H v d env' Q R q e k => by
  unfold gT at e
  cases et : tupOf d with
  | none => rw [et] at e; cases e
  | some ds =>
    rw [et] at e
    have e : (if ds.length = m then r ds env else none) = some env' := e
    split at e
    · rename_i hl
      obtain ⟨a, vs, rfl, s, q⟩ := (show DO T gh.G H d v from .inl q).tupOf R.kept.gh et
      exact ⟨a, vs, rfl, by rw [hK]; exact s, by rw [q.length]; exact hl, h gh env w σ H vs ds env' _ R q e k⟩
    · cases e

/-! ### what is walked -/
abbrev IX := AX
/-- J gives the items ds, while what is known stands -/
def JOk (T : Th) (G : Hp) (J : It) (ds : List D) : Prop := ∃ (Gd : Hp → Prop) (Y : Nat → Hp → V → Hp → Prop), Walk J ds.length Gd Y ∧ (∀ G' H', Le G G' → (∀ a o, G' a = some o → H' a = some o) → Gd H') ∧
  ∀ i H x H' G', i < ds.length → Le G G' → (∀ a o, G' a = some o → H a = some o) → Y i H x H' → ∃ G'', Alloc G' H G'' H' ∧ ∃ d, ds[i]? = some d ∧ DR T G'' d x
def tIt (T : Th) (b : Bs) (E : XK) (f : IX) : TI := fun σ H R => ∃ g env w, RS T b g env w σ H ∧ Pr T b E (fun ds env' w' => ∀ g' H' J, RS T b g' env' w' σ H' → Le g.G g'.G → JOk T g'.G J ds → R J H') (f env w)
theorem _root_.L2.PI.imp {X : Cx} {tg iter : Expr} {t t' : TI} (h : PI X tg iter t) (k : ∀ σ H R, t' σ H R → t σ H R) : PI X tg iter t' := ⟨fun pins s σ H R I q => h.run pins s σ H R I (k σ H R q)⟩
theorem _root_.L2.PI.or {X : Cx} {tg iter : Expr} {t t' : TI} (h : PI X tg iter t) (h' : PI X tg iter t') : PI X tg iter (fun σ H R => t σ H R ∨ t' σ H R) :=
  ⟨fun pins s σ H R I q => q.elim (h.run pins s σ H R I) (h'.run pins s σ H R I)⟩
theorem jok_list {G : Hp} {a : Addr} {vs : List V} {ds : List D} (s : G a = some (.lst vs)) (q : DRs T G ds vs) : JOk T G (Itl T.K a) ds := by
  refine ⟨fun H => SqL T.K H a vs, YAt vs, by rw [← q.length]; exact walk_list, fun G' H' l k => .of (k _ _ (l.ex _ _ rfl s)), fun i H x H' G' hi l k y => ?_⟩
  obtain ⟨rfl, e⟩ := y
  obtain ⟨d, h1, h2⟩ := q.get' e
  exact ⟨G', Alloc.refl k, d, h1, h2.le l⟩
theorem jok_tup {G : Hp} {a : Addr} {vs : List V} {ds : List D} (s : Rd G a (.tup vs)) (q : DRs T G ds vs) : JOk T G (Itt T.K a) ds := by
  refine ⟨fun H => SqT T.K H a vs, YAt vs, by rw [← q.length]; exact walk_tup, fun G' H' l k => .inl ((l.rd _ _ s).imp (k _ _) fun ⟨o, e⟩ => ⟨o, k _ _ e⟩), fun i H x H' G' hi l k y => ?_⟩
  obtain ⟨rfl, e⟩ := y
  obtain ⟨d, h1, h2⟩ := q.get' e
  exact ⟨G', Alloc.refl k, d, h1, h2.le l⟩
theorem jok_str {G : Hp} {s : List Nat} : JOk T G (Its (mkS s)) (s.map fun c => D.str [c]) := by
  refine ⟨fun _ => True, fun i H v H' => H' = H ∧ ∃ c, (mkS s).cps[i]? = some c ∧ v = .str ⟨#[c]⟩, ?_, fun _ _ _ _ => trivial, fun i H x H' G' hi l k y => ?_⟩
  · rw [List.length_map]
    exact walk_str (z := mkS s)
  · obtain ⟨rfl, c, h1, rfl⟩ := y
    refine ⟨G', Alloc.refl k, .str [c], ?_, rfl⟩
    have e : s[i]? = some c := by
      have z : s.toArray[i]? = some c := h1
      simpa using z
    rw [List.getElem?_map, e]
    rfl
def rangeL (lo : Int) (m : Nat) : List D := (List.range m).map fun i : Nat => D.int (lo + (i : Nat))
theorem jok_range {G : Hp} {lo : Int} {m : Nat} : JOk T G (Itr lo m) (rangeL lo m) := by
  have hl : (rangeL lo m).length = m := by
    unfold rangeL
    rw [List.length_map, List.length_range]
  refine ⟨fun _ => True, YFn fun i => .int (lo + i), by rw [hl]; exact walk_range, fun _ _ _ _ => trivial, fun i H x H' G' hi l k y => ?_⟩
  obtain ⟨rfl, rfl⟩ := y
  rw [hl] at hi
  refine ⟨G', Alloc.refl k, .int (lo + (i : Nat)), ?_, rfl⟩
  unfold rangeL
  rw [List.getElem?_map, List.getElem?_range hi]
  rfl
/-- what an expression gives, walked: a list, a tuple, a text -/
def walkD : D → Option (List D)
  | .lst xs => some xs
  | .tup xs => some xs
  | .tpl xs => some xs
  | .str s => some (s.map fun c => D.str [c])
  | _ => none
def liftA (o : Option (List D)) : AX := fun env w => match o with
  | some r => .ok r env w
  | none => .no
def iV (f : EX) : IX := fun env w => (f env w).bind fun r env w => liftA (walkD r.dat) env w
theorem iv {tg : Expr} (hK : X.K = T.K) (h : PE X e (tEx T b E fa)) : PI X tg e (tIt T b E (iV fa)) := by
  refine (((pi_list h).or (pi_tup h)).or (pi_str h)).imp fun σ H R ⟨g, env, w, S, p⟩ => ?_
  unfold iV at p
  rw [Pr.bind] at p
  rw [hK]
  have none_ : (∀ {c : Prop}, walkD D.non = none) := fun {_} => rfl
  cases e1 : fa env w with
  | no => rw [e1] at p; exact p.elim
  | ex x w1 =>
    rw [e1] at p
    exact .inr ⟨g, env, w, S, by rw [e1]; exact p⟩
  | ok r env1 w1 =>
    rw [e1] at p
    have p : Pr T b E _ (liftA (walkD r.dat) env1 w1) := p
    unfold liftA at p
    cases e2 : r.dat with
    | lst xs =>
      rw [e2] at p
      refine .inl (.inl ⟨g, env, w, S, ?_⟩)
      rw [e1]
      intro g1 x H1 R1 l1 q1
      obtain ⟨g2, R2, l2, d2⟩ := R1.freeze q1
      rw [e2] at d2
      unfold DR at d2
      obtain ⟨a, vs, rfl, s, q⟩ := d2
      exact ⟨a, rfl, ⟨vs, .of (R2.kept.gh _ _ s)⟩, p g2 H1 _ R2 (l1.trans l2) (jok_list s q)⟩
    | tup xs =>
      rw [e2] at p
      refine .inl (.inr ⟨g, env, w, S, ?_⟩)
      rw [e1]
      intro g1 x H1 R1 l1 q1
      obtain ⟨g2, R2, l2, d2⟩ := R1.freeze q1
      rw [e2] at d2
      unfold DR at d2
      obtain ⟨a, vs, rfl, s, q⟩ := d2
      exact ⟨a, rfl, ⟨vs, .of (R2.kept.gh _ _ s)⟩, p g2 H1 _ R2 (l1.trans l2) (jok_tup (.inl s) q)⟩
    | tpl xs =>
      rw [e2] at p
      refine .inl (.inr ⟨g, env, w, S, ?_⟩)
      rw [e1]
      intro g1 x H1 R1 l1 q1
      obtain ⟨g2, R2, l2, d2⟩ := R1.freeze q1
      rw [e2] at d2
      unfold DR at d2
      obtain ⟨a, o, vs, rfl, s, _, q⟩ := d2
      exact ⟨a, rfl, ⟨vs, .inl (.inr ⟨o, R2.kept.gh _ _ s⟩)⟩, p g2 H1 _ R2 (l1.trans l2) (jok_tup (.inr ⟨o, s⟩) q)⟩
    | str s =>
      rw [e2] at p
      refine .inr ⟨g, env, w, S, ?_⟩
      rw [e1]
      intro g1 x H1 R1 l1 q1
      obtain ⟨g2, R2, l2, d2⟩ := R1.freeze q1
      rw [e2] at d2
      have d2 : x = .str (mkS s) := d2
      subst d2
      exact ⟨_, rfl, p g2 H1 _ R2 (l1.trans l2) jok_str⟩
    | _ => rw [e2] at p; exact p.elim
def big62 (i : Int) : Bool := decide (-(2 ^ 62) ≤ i) && decide (i < 2 ^ 62)
/-- range(..) -/
def range1D : List D → Option (List D)
  | [.int j] => if big62 j = true then some (rangeL 0 j.toNat) else none
  | _ => none
def range2D : List D → Option (List D)
  | [.int i, .int j] => if big62 i = true ∧ big62 j = true then some (rangeL i (j - i).toNat) else none
  | _ => none
def iR1 (f : AX) : IX := fun env w => (f env w).bind fun ds env w => liftA (range1D ds) env w
def iR2 (f : AX) : IX := fun env w => (f env w).bind fun ds env w => liftA (range2D ds) env w
theorem big62_iff {i : Int} : big62 i = true ↔ -(2 ^ 62) ≤ i ∧ i < 2 ^ 62 := by
  unfold big62
  simp only [Bool.and_eq_true, decide_eq_true_eq]
theorem ir1 {tg : Expr} {p' : Pos} {fr : AX} (hm : X.mg "range" = none) (ha : PA X [a] (tAx T b E fr)) (hg : Gl X "range" := by rfl) (hs : starEach [a] X.env = [(false, eval a X.env)] := by rfl) :
    PI X tg (.Call (.Name "range" p') [a] [] pos) (tIt T b E (iR1 fr)) := by
  refine (pi_range1 hg hm ha hs).imp fun σ H R ⟨g, env, w, S, p⟩ => ?_
  unfold iR1 at p
  rw [Pr.bind] at p
  refine ⟨g, env, w, S, p.mono fun ds env1 w1 p1 g1 vs H1 R1 l1 q1 => ?_⟩
  unfold liftA at p1
  cases e : range1D ds with
  | none => rw [e] at p1; exact p1.elim
  | some rs =>
    rw [e] at p1
    unfold range1D at e
    split at e
    · rename_i j
      split at e
      · rename_i hj
        cases e
        obtain ⟨v, r, rfl, h1, h2⟩ := q1.cons_inv
        obtain rfl := h2.nil_inv
        have h1 : v = .int j := h1
        subst h1
        have hj := big62_iff.mp hj
        exact ⟨j, rfl, hj.1, hj.2, p1 g1 H1 _ R1 l1 jok_range⟩
      · cases e
    · cases e
theorem ir2 {tg : Expr} {p' : Pos} {fr : AX} (hm : X.mg "range" = none) (ha : PA X [a, c] (tAx T b E fr)) (hg : Gl X "range" := by rfl) (hs : starEach [a, c] X.env = [(false, eval a X.env), (false, eval c X.env)] := by rfl)
    (hs2 : starEach [c] X.env = [(false, eval c X.env)] := by rfl) : PI X tg (.Call (.Name "range" p') [a, c] [] pos) (tIt T b E (iR2 fr)) := by
  refine (pi_range2 hg hm ha hs hs2).imp fun σ H R ⟨g, env, w, S, p⟩ => ?_
  unfold iR2 at p
  rw [Pr.bind] at p
  refine ⟨g, env, w, S, p.mono fun ds env1 w1 p1 g1 vs H1 R1 l1 q1 => ?_⟩
  unfold liftA at p1
  cases e : range2D ds with
  | none => rw [e] at p1; exact p1.elim
  | some rs =>
    rw [e] at p1
    unfold range2D at e
    split at e
    · rename_i i j
      split at e
      · rename_i hj
        cases e
        obtain ⟨v, r, rfl, h1, h2⟩ := q1.cons_inv
        obtain ⟨v', r', rfl, h3, h4⟩ := h2.cons_inv
        obtain rfl := h4.nil_inv
        have h1 : v = .int i := h1
        have h3 : v' = .int j := h3
        subst h1
        subst h3
        have h5 := big62_iff.mp hj.1
        have h6 := big62_iff.mp hj.2
        exact ⟨i, j, rfl, ⟨h5.1, h5.2, h6.1, h6.2⟩, p1 g1 H1 _ R1 l1 jok_range⟩
      · cases e
    · cases e

/-! ### loops -/
def loopX (set : GX) (body : SX) : List D → SX
  | [], env, w => .ok .nx env w
  | d :: ds, env, w => match set d env with
    | none => .no
    | some env1 => (body env1 w).bind fun fl env2 w2 => match fl with
      | .bk => .ok .nx env2 w2
      | .rt r => .ok (.rt r) env2 w2
      | _ => loopX set body ds env2 w2
def sF (it : IX) (set : GX) (body : SX) : SX := fun env w => (it env w).bind fun ds env w => loopX set body ds env w
theorem sf {tg iter : Expr} {body : List Stmt} {it : IX} {g : TG} {set : GX} {is : List Nat} (hp : PassesOwn (model X.prog X.w) X.A X.env X.xe) (hc : X.calm = true) (hi : PI X tg iter (tIt T b E it)) (hg : PG X tg g) (hgv : GV T b g set is)
    (hb : PSs X body (tSt T b E f)) (hs : ∀ x, foldedSetIterable iter X.env x = pure x := by intro _; rfl) : PS X (.For tg iter body [] pos) (tSt T b E (sF it set f)) := by
  refine (ps_for hp hc hi hg hb hs).imp fun D' σ H ⟨g0, env, w, S, p⟩ => ?_
  unfold sF PSt at p
  rw [Pr.bind] at p
  refine ⟨g0, env, w, S, p.mono fun ds env1 w1 p1 g1 H1 J R1 l1 j => ?_⟩
  obtain ⟨Gd, Y, W, st, yd⟩ := j
  refine for_it W (fun i σ H => ∃ g env w, RS T b g env w σ H ∧ Le g1.G g.G ∧ PSt T b E D' g (loopX set f (ds.drop i) env w)) ⟨g1, env1, w1, R1, Le.refl _, PSt.le (g := g0) p1 l1⟩
    (fun i σ H _ ⟨g, env, w, R, l, _⟩ => st g.G H l R.kept.gh) ?_ ?_
  · rintro i x σ2 H2 H3 hi ⟨g, env2, w2, R, l, q⟩ y
    obtain ⟨G3, A, d, ed, r⟩ := yd i H2 x H3 g.G hi l R.kept.gh y
    have R3 := R.alloc A
    have hd : ds.drop i = d :: ds.drop (i + 1) := by
      rw [List.drop_eq_getElem_cons hi]
      congr 1
      exact Option.some.inj ((List.getElem?_eq_getElem hi).symm.trans ed)
    rw [hd] at q
    unfold loopX at q
    cases es : set d env2 with
    | none => rw [es] at q; exact q.elim
    | some env3 =>
      rw [es] at q
      refine hgv ⟨G3, g.ad⟩ env2 w2 σ2 H3 x d env3 _ R3 r es fun g4 σ4 R4 l4 _ => ?_
      unfold PSt at q
      simp only [Pr.bind] at q
      refine ⟨g4, env3, w2, R4, q.mono fun fl env5 w5 q5 g5 σ5 H5 R5 l5 => ?_⟩
      have lt : Le g.G g5.G := ((Le.of A.g).trans l4).trans l5
      cases fl with
      | nx => exact ⟨g5, env5, w5, R5, l.trans lt, PSt.le (g := g) q5 lt⟩
      | ct => exact ⟨g5, env5, w5, R5, l.trans lt, PSt.le (g := g) q5 lt⟩
      | bk => exact q5 g5 σ5 H5 R5 lt
      | rt r => exact q5 g5 σ5 H5 R5 lt
  · rintro σ2 H2 ⟨g, env2, w2, R, l, q⟩
    rw [List.drop_length] at q
    exact q g σ2 H2 R (Le.refl _)
/-- while; m: more turns than there are -/
def whileX (t : TX) (body : SX) : Nat → SX
  | 0, _, _ => .no
  | m + 1, env, w => (t env w).bind fun k env1 w1 => if k = true then (body env1 w1).bind fun fl env2 w2 => match fl with
      | .bk => .ok .nx env2 w2
      | .rt r => .ok (.rt r) env2 w2
      | _ => whileX t body m env2 w2
    else .ok .nx env1 w1
theorem sw (m : Nat) {body : List Stmt} (hp : PassesOwn (model X.prog X.w) X.A X.env X.xe) (hc : PT X c (tTx T b E ta)) (hb : PSs X body (tSt T b E f)) : PS X (.While c body [] pos) (tSt T b E (whileX ta f m)) := by
  refine (ps_while hp hc hb).imp fun D' σ H ⟨g0, env, w, S, p⟩ => ?_
  refine ⟨fun m σ H => ∃ g env w, RS T b g env w σ H ∧ PSt T b E D' g (whileX ta f m env w), ⟨m, g0, env, w, S, p⟩, ?_⟩
  rintro m σ H ⟨g, env, w, R, q⟩
  cases m with
  | zero => exact q.elim
  | succ m =>
    unfold whileX PSt at q
    simp only [Pr.bind] at q
    refine ⟨g, env, w, R, q.mono fun k env1 w1 q1 g1 H1 R1 l1 => ?_⟩
    cases k with
    | false =>
      rw [if_neg Bool.false_ne_true] at q1 ⊢
      exact q1 g1 σ H1 R1 l1
    | true =>
      rw [if_pos rfl] at q1 ⊢
      rw [Pr.bind] at q1
      refine ⟨fun σ H => ∃ g env w, RS T b g env w σ H ∧ PSt T b E D' g (whileX ta f m env w), fun σ' H' h => ⟨m, Nat.lt_succ_self m, h⟩, g1, env1, w1, R1, q1.mono fun fl env5 w5 q5 g5 σ5 H5 R5 l5 => ?_⟩
      cases fl with
      | nx => exact ⟨g5, env5, w5, R5, PSt.le (g := g) q5 (l1.trans l5)⟩
      | ct => exact ⟨g5, env5, w5, R5, PSt.le (g := g) q5 (l1.trans l5)⟩
      | bk => exact q5 g5 σ5 H5 R5 (l1.trans l5)
      | rt r => exact q5 g5 σ5 H5 R5 (l1.trans l5)
end
end HK

/-! HKe: defs, their calls; list comprehensions. -/
namespace HK
open PySem PySem.Spec PyProof.Rows L2
abbrev FX := List D → Pen → Rv Slot
def RVf (T : Th) (b : Bs) (G H : Hp) (v : V) : Slot → Prop
  | .fr d => DR T G d v
  | .ow d => ∃ a, v = .ref a ∧ OwnA T b G H a d
  | .no => False
/-- a def's promise, by its mirror -/
def SpM (T : Th) (n : Nat) (m : FX) : Sp := fun vs H Q E => vs.length = n ∧ ∃ G w ds, (∀ a o, G a = some o → H a = some o) ∧ PenI T G H w ∧ DRs T G ds vs ∧
  Pr T ⟨G, H⟩ E (fun r _ w' => ∀ G' H' v, Kept T ⟨G, H⟩ G' H' w' → RVf T ⟨G, H⟩ G' H' v r → Q v H') (m ds w)
def slots (m : Nat) (ds : List D) : List Slot := ds.map .fr ++ List.replicate (m - ds.length) .no
/-- a def's body, run -/
def runB (m : Nat) (f : SX) : FX := fun ds w => (f (slots m ds) w).bind fun fl _ w => match fl with
  | .nx => .ok (.fr .non) [] w
  | .rt r => .ok r [] w
  | _ => .no
section
variable {T : Th} {b : Bs} {E : XK} {n : Nat} {G H G' H' : Hp} {w w' : Pen}
theorem Kept.start (gh : ∀ a o, G a = some o → H a = some o) (p : PenI T G H w) : Kept T ⟨G, H⟩ G H w := ⟨gh, p, Le.refl _, fun _ _ _ _ e => e, fun _ ps e => ⟨ps, e⟩, fun a o _ e => .inl ⟨o, e⟩⟩
theorem Kept.trans (k : Kept T b G H w) (k' : Kept T ⟨G, H⟩ G' H' w') : Kept T b G' H' w' := by
  have np : ∀ a, H a = none → b.H0 a = none := fun a e => k.unborn e
  refine ⟨k'.gh, k'.pen, k.b1.trans k'.b1, fun a o n m e => k'.b2 a o n m (k.b2 a o n m e), fun a ps e => ?_, fun a o pu e => ?_⟩
  · obtain ⟨ps', z⟩ := k.b2t a ps e
    exact k'.b2t a ps' z
  · rcases k'.b3 a o pu e with ⟨o', e'⟩ | z
    · have e' : G a = some o' := e'
      by_cases hq : isDic o' = true
      · exact k.b3 a o' (by cases o' <;> first | rfl | cases hq) e'
      · have z := k'.b1.ex a o' (by simpa using hq) e'
        rw [e] at z
        cases z
        exact k.b3 a o pu e'
    · exact .inr (np a z)
theorem XEnd.of {x : Exn} (k : Kept T b G H w) (h : XEnd T b E x w') : XEnd T ⟨G, H⟩ E x w' := fun G' H' cls dc k' r => h G' H' cls dc (k.trans k') r
/-- behind a call -/
theorem RS.call {g : Gh} {env : List Slot} {σ : L2.St} {v : V} {r : Slot} (R : RS T b g env w σ H) (k' : Kept T ⟨g.G, H⟩ G' H' w') (q : RVf T ⟨g.G, H⟩ G' H' v r) :
    RS T b ⟨G', g.ad⟩ env w' σ H' ∧ RV T b ⟨G', g.ad⟩ H' env v r := by
  have k := R.kept
  have np : ∀ a, H a = none → b.H0 a = none := fun a e => k.unborn e
  refine ⟨⟨k.trans k', R.len, fun i e h => ?_, fun i e h => ?_, R.inj⟩, ?_⟩
  · obtain ⟨u, h1, h2⟩ := R.fr i e h
    exact ⟨u, h1, h2.le k'.b1⟩
  · obtain ⟨h1, h2⟩ := R.ow i e h
    refine ⟨h1, h2.keep k'.b1 ?_ fun o e => k'.b2 _ o h2.np (fun ps z => ?_) e⟩
    show G' (g.ad i) = none
    cases z : G' (g.ad i) with
    | none => rfl
    | some o =>
      have po : plainO o = true := by
        obtain ⟨o1, e1, p1⟩ := h2.own.there'
        have y1 := k'.b2 _ o1 h2.np (plain_nt p1) e1
        have y2 := k'.gh _ _ z
        rw [y1] at y2
        cases y2
        exact p1
      rcases k'.b3 _ _ po z with ⟨o', y⟩ | y
      · have y : g.G (g.ad i) = some o' := y
        rw [h2.no] at y
        cases y
      · have y : H (g.ad i) = none := y
        obtain ⟨u, eu⟩ := h2.own.there
        rw [eu] at y
        cases y
    · obtain ⟨o', e', p⟩ := h2.own.there'
      rw [e] at e'
      cases e'
      exact plain_nt p ps z
  · cases r with
    | no => exact q.elim
    | fr d => exact q
    | ow d =>
      obtain ⟨a, rfl, O⟩ := q
      refine ⟨a, rfl, ⟨O.no, O.np, np a O.nb, O.own⟩, fun i e z ez => ?_⟩
      obtain ⟨_, h2⟩ := R.ow i e z
      obtain ⟨u, eu⟩ := h2.own.there
      have ez' : g.ad i = a := ez
      have y : H a = none := O.nb
      rw [ez', y] at eu
      cases eu
theorem RS.entry {ds : List D} {vs : List V} {N : List Str} (gh : ∀ a o, G a = some o → H a = some o) (p : PenI T G H w) (q : DRs T G ds vs) (hl : vs.length ≤ N.length) : RS T ⟨G, H⟩ ⟨G, fun _ => 0⟩ (slots N.length ds) w (L2.start N vs) H := by
  have e : vs.length = ds.length := q.length
  refine ⟨.start gh p, ?_, fun i d h => ?_, fun i d h => ?_, fun i j d d' h => ?_⟩
  · unfold L2.start slots
    rw [List.length_append, List.length_append, List.length_map, List.length_map, List.length_replicate, List.length_replicate, e]
  · unfold slots at h
    unfold L2.start
    by_cases hi : i < ds.length
    · rw [List.getElem?_append_left (by rw [List.length_map]; exact hi), List.getElem?_map] at h
      cases z : ds[i]? with
      | none => rw [z] at h; cases h
      | some d' =>
        rw [z] at h
        cases h
        obtain ⟨v, h1, h2⟩ := q.get z
        refine ⟨v, ?_, h2⟩
        rw [List.getElem?_append_left (by rw [List.length_map, e]; exact hi), List.getElem?_map, h1]
        rfl
    · rw [List.getElem?_append_right (by rw [List.length_map]; omega), List.getElem?_replicate] at h
      split at h <;> cases h
  · unfold slots at h
    by_cases hi : i < ds.length
    · rw [List.getElem?_append_left (by rw [List.length_map]; exact hi), List.getElem?_map] at h
      cases z : ds[i]? with
      | none => rw [z] at h; cases h
      | some d' =>
        rw [z] at h
        cases h
    · rw [List.getElem?_append_right (by rw [List.length_map]; omega), List.getElem?_replicate] at h
      split at h <;> cases h
  · unfold slots at h
    by_cases hi : i < ds.length
    · rw [List.getElem?_append_left (by rw [List.length_map]; exact hi), List.getElem?_map] at h
      cases z : ds[i]? with
      | none => rw [z] at h; cases h
      | some d' =>
        rw [z] at h
        cases h
    · rw [List.getElem?_append_right (by rw [List.length_map]; omega), List.getElem?_replicate] at h
      split at h <;> cases h
end
section
variable {P : Program} {w : World} {K : PySem.W.Frag} {mg : Str → Option Value} {base : Heap} {x qual : Str} {params : Arguments} {body : List Stmt} {scope : Scope} {dvs : List V} {kws : List (Str × V)} {f : Addr} {fd : FuncData} {T : Th} {N ps : List Str} {k : Nat}
/-- where a def's body stands -/
theorem co_def {cdv : Value} {A : Around} {outer : List Env} {s : Shared} {H : Hp} {E : XK} (hK : T.K = K) (S : FnScope N ps scope) (hr : Room k (A.deeper (envOfC qual scope s.heap.objs.size f cdv))) :
    CO (cxOf (L2.CX P w) P w K mg base N qual scope f cdv A outer s H E) T E k where
  K := hK.symm
  calm := rfl
  room := hr
  nd := S.nd
  tk := takes_of rfl rfl rfl rfl
  po := PassesOwn.leaving
/-- THE RULE for a def -/
theorem fn_ok {fb : SX} (F : FunD K x qual params body scope dvs kws f fd) (S : FnScope N ps scope) (hK : T.K = K) (hn : ps.length ≤ N.length)
    (h : ∀ (cdv : Value) (A : Around) (outer : List Env) (s : Shared) (H : Hp) (E : XK) (b : Bs), CO (cxOf (L2.CX P w) P w K mg base N qual scope f cdv A outer s H E) T E k →
      PSs (cxOf (L2.CX P w) P w K mg base N qual scope f cdv A outer s H E) body (tSt T b E fb)) : FnOk P w K mg base (L2.CX P w) (k + 1) f fd ps (SpM T ps.length (runB N.length fb)) := by
  refine F.ok S (fun vs H Q E h => h.1) fun cdv A outer s H vs Q E hr ⟨hl, G, w, ds, gh, p, q, z⟩ => ?_
  refine ⟨_, h cdv A outer s H E ⟨G, H⟩ (co_def hK S hr), ⟨G, fun _ => 0⟩, slots N.length ds, w, RS.entry gh p q (by omega), ?_⟩
  unfold runB at z
  rw [Pr.bind] at z
  refine z.mono fun fl env' w' z1 g' σ' H' R' l' => ?_
  cases fl with
  | nx => exact z1 g'.G H' _ R'.kept rfl
  | rt r =>
    refine fun v rv => z1 g'.G H' v R'.kept ?_
    cases r with
    | no => exact rv.elim
    | fr d => exact rv
    | ow d =>
      obtain ⟨a, e, O, _⟩ := rv
      exact ⟨a, e, O⟩
  | bk => exact z1.elim
  | ct => exact z1.elim
end

/-! ### calls -/
def liftF (r : Rv Slot) : EX := fun env w => match r with
  | .ok r _ w' => .ok r env w'
  | .ex x w' => .ex x w'
  | .no => .no
def xF (n : Nat) (m : FX) (dds : List D) (fa : AX) : EX := fun env w => (fa env w).bind fun ds env w => if (ds ++ dds).length = n then liftF (m (ds ++ dds) w) env w else .no
section
variable {X : Cx} {T : Th} {b : Bs} {E : XK} {n k : Nat} {pos p : Pos} {e : Expr} {es : List Expr} {fr : AX} {f : Addr} {fd : FuncData} {ps : List Str} {m : FX} {x : Str} {dvs : List V} {ds : List Value} {dds : List D}
theorem liftF_ok {g0 g : Gh} {env : List Slot} {w : Pen} {σ : L2.St} {H : Hp} {Q : VK} {ds : List D} {vs : List V} (R : RS T b g env w σ H) (l0 : Le g0.G g.G) (q : DRs T g.G ds vs) (hl : vs.length = n)
    (p : Pr T b E (fun r env' w' => ∀ g' v H', RS T b g' env' w' σ H' → Le g0.G g'.G → RV T b g' H' env' v r → Q v H') (liftF (m ds w) env w)) : SpM T n m vs H Q E := by
  refine ⟨hl, g.G, w, ds, R.kept.gh, R.kept.pen, q, ?_⟩
  unfold liftF at p
  cases e : m ds w with
  | no => rw [e] at p; exact p.elim
  | ex x w' => rw [e] at p; exact XEnd.of R.kept p
  | ok r _ w' =>
    rw [e] at p
    intro G' H' v k' rv
    obtain ⟨R', rv'⟩ := R.call k' rv
    exact p ⟨G', g.ad⟩ v H' R' (l0.trans k'.b1) rv'
/-- f(e, ..), f a def of the module; dds: the defaults that fill up -/
theorem cf (c : CO X T E n) (F : FnOk X.prog X.w X.K X.mg X.base (L2.CX X.prog X.w) k f fd ps (SpM T ps.length m)) (hk : k ≤ n) (hm : X.mg x = some (.ref f)) (kp : PySem.W.keepIn X.K (.ref f) = true) (hb : Binds X.K fd ps ds) (hd : Vals dvs ds)
    (hdd : ∀ G, DRs T G dds dvs) (ha : PA X (e :: es) (tAx T b E fr))
    (hg : Gl X x := by rfl) (hdb : (x == ("__debug__" : Str)) = false := by decide) (he : starEach (e :: es) X.env = (false, eval e X.env) :: starEach es X.env := by rfl)
    (hpl : (backTo pos (starEach es X.env)).any (·.1) = false := by rfl) : PE X (.Call (.Name x p) (e :: es) [] pos) (tEx T b E (xF ps.length m dds fr)) := by
  refine (pe_call F (c.room.mono hk) hg hm kp hb hd (passes_call c.tk fun _ _ _ _ h => h) ha hdb he hpl).imp fun σ H Q ⟨g, env, w, R, p⟩ => ?_
  unfold xF at p
  rw [Pr.bind] at p
  refine ⟨g, env, w, R, p.mono fun as env1 w1 p1 g1 vs H1 R1 l1 q1 => ?_⟩
  have q2 : DRs T g1.G (as ++ dds) (vs ++ dvs) := q1.append (hdd _)
  split at p1
  · rename_i hl
    exact liftF_ok R1 l1 q2 (q2.length.trans hl) p1
  · exact p1.elim
end
end HK

/-! HKf: list comprehensions. -/
namespace HK
open PySem PySem.Spec PyProof.Rows L2
def frozenAt (env : List Slot) (i : Nat) : Bool := match env[i]? with
  | some (.ow _) => false
  | _ => true
def wipeE (env : List Slot) : List Nat → List Slot
  | [] => env
  | v :: vs => (wipeE env vs).set v .no
/-- the slots of own frozen -/
def iceE (env : List Slot) : List Nat → List Slot
  | [] => env
  | v :: vs => match (iceE env vs)[v]? with
    | some (.ow d) => (iceE env vs).set v (.fr d)
    | _ => iceE env vs
def restE (env env1 : List Slot) : List Nat → List Slot
  | [] => env
  | v :: vs => match env1[v]? with
    | some s => (restE env env1 vs).set v s
    | none => restE env env1 vs
def noex {α : Type} (r : Rv α) : Rv α := match r with
  | .ex _ _ => .no
  | r => r
def lcX (own : List Nat) (set : GX) (tst : TX) (fe : EX) : List D → List Slot → Pen → Rv (List D)
  | [], env, w => .ok [] env w
  | d :: ds, env, w => if own.all (frozenAt env) = true then match set d (wipeE env own) with
      | none => .no
      | some env1 => (noex (tst env1 w)).bind fun k env2 w2 => if k = true then (noex (fe env2 w2)).bind fun r env3 w3 => (lcX own set tst fe ds env3 w3).bind fun rs env4 w4 => .ok (r.dat :: rs) env4 w4
        else lcX own set tst fe ds env2 w2
    else .no
def xLc (own : List Nat) (it : IX) (set : GX) (tst : TX) (fe : EX) : EX := fun env w => (it env w).bind fun ds env1 w1 =>
  if own.all (fun i => decide (i < env1.length)) = true ∧ ds.length ≤ LINE then (lcX own set tst fe ds (iceE env1 own) w1).bind fun rs env2 w2 => if own.all (frozenAt env2) = true then .ok (.ow (.lst rs)) (restE (wipeE env2 own) (iceE env1 own) own) w2 else .no
  else .no
def tT : TX := fun env w => .ok true env w

section
variable {X : Cx} {T : Th} {b : Bs} {E : XK} {n : Nat} {g : Gh} {env env1 : List Slot} {w : Pen} {σ : L2.St} {H : Hp}
theorem frozenAt_ne {i : Nat} {d : D} (h : frozenAt env i = true) (e : env[i]? = some (.ow d)) : False := by
  unfold frozenAt at h
  rw [e] at h
  cases h
theorem Pr.noex {α : Type} {E' : XK} {b' : Bs} {Ok : α → List Slot → Pen → Prop} {r : Rv α} (p : Pr T b E Ok (noex r)) : Pr T b' E' Ok r := by
  cases r with
  | ok a e w => exact p
  | ex x w => exact p.elim
  | no => exact p.elim
theorem wipeE_length : ∀ {vs : List Nat}, (wipeE env vs).length = env.length
  | [] => rfl
  | v :: vs => by
    unfold wipeE
    rw [List.length_set, wipeE_length]
theorem wipeE_get : ∀ {vs : List Nat} {i : Nat} {s : Slot}, (wipeE env vs)[i]? = some s → s ≠ .no → env[i]? = some s ∧ i ∉ vs
  | [], i, s, e, _ => ⟨e, List.not_mem_nil⟩
  | v :: vs, i, s, e, h => by
    unfold wipeE at e
    by_cases hi : v = i
    · subst hi
      by_cases hl : v < (wipeE env vs).length
      · rw [List.getElem?_set_self hl] at e
        cases e
        exact absurd rfl h
      · rw [List.getElem?_eq_none (by rw [List.length_set]; omega)] at e
        cases e
    · rw [List.getElem?_set_ne hi] at e
      obtain ⟨h1, h2⟩ := wipeE_get e h
      exact ⟨h1, fun z => (List.mem_cons.mp z).elim (fun z => hi z.symm) h2⟩
theorem wipe_get : ∀ {vs : List Nat} {i : Nat}, i ∉ vs → (wipe σ vs)[i]? = σ[i]?
  | [], _, _ => rfl
  | v :: vs, i, h => by
    unfold wipe
    rw [List.getElem?_set_ne (fun z => h (by rw [z]; exact List.mem_cons_self)), wipe_get fun z => h (List.mem_cons_of_mem _ z)]
theorem RS.wipe (R : RS T b g env w σ H) {own : List Nat} (h : own.all (frozenAt env) = true) : RS T b g (wipeE env own) w (wipe σ own) H := by
  refine ⟨R.kept, by rw [wipe_length, wipeE_length, R.len], fun i d e => ?_, fun i d e => ?_, fun i j d d' e e' => ?_⟩
  · obtain ⟨h1, h2⟩ := wipeE_get e (by intro z; cases z)
    rw [wipe_get h2]
    exact R.fr i d h1
  · obtain ⟨h1, h2⟩ := wipeE_get e (by intro z; cases z)
    rw [wipe_get h2]
    exact R.ow i d h1
  · exact R.inj i j d d' (wipeE_get e (by intro z; cases z)).1 (wipeE_get e' (by intro z; cases z)).1
theorem iceE_length : ∀ {vs : List Nat}, (iceE env vs).length = env.length
  | [] => rfl
  | v :: vs => by
    unfold iceE
    split
    · rw [List.length_set, iceE_length]
    · exact iceE_length
theorem RS.ice (R : RS T b g env w σ H) : ∀ (own : List Nat), ∃ g', RS T b g' (iceE env own) w σ H ∧ Le g.G g'.G
  | [] => ⟨g, R, Le.refl _⟩
  | v :: vs => by
    obtain ⟨g1, R1, l1⟩ := R.ice vs
    unfold iceE
    split
    · rename_i d e
      obtain ⟨g2, R2, l2, _⟩ := R1.thaw e
      exact ⟨g2, R2, l1.trans l2⟩
    · exact ⟨g1, R1, l1⟩
theorem ice_frozen : ∀ {own : List Nat} {i : Nat}, i ∈ own → frozenAt (iceE env own) i = true
  | v :: vs, i, h => by
    have keep : i ∈ vs → frozenAt (iceE env vs) i = true := fun z => ice_frozen z
    unfold iceE
    split
    · rename_i d e
      have hv : v < (iceE env vs).length := (List.getElem?_eq_some_iff.mp e).1
      by_cases hi : v = i
      · subst hi
        unfold frozenAt
        rw [List.getElem?_set_self hv]
      · have hm : i ∈ vs := (List.mem_cons.mp h).elim (fun z => absurd z.symm hi) id
        have := keep hm
        unfold frozenAt at this ⊢
        rw [List.getElem?_set_ne hi]
        exact this
    · rename_i ne
      rcases List.mem_cons.mp h with rfl | hm
      · unfold frozenAt
        split
        · rename_i d e
          exact absurd e (ne d)
        · rfl
      · exact keep hm
theorem restE_length : ∀ {vs : List Nat}, (restE env env1 vs).length = env.length
  | [] => rfl
  | v :: vs => by
    unfold restE
    split
    · rw [List.length_set, restE_length]
    · exact restE_length
theorem restE_get : ∀ {vs : List Nat} {i : Nat} {s : Slot}, (∀ v ∈ vs, v < env1.length) → (restE env env1 vs)[i]? = some s → (i ∈ vs ∧ env1[i]? = some s) ∨ (i ∉ vs ∧ env[i]? = some s)
  | [], i, s, _, e => .inr ⟨List.not_mem_nil, e⟩
  | v :: vs, i, s, hv, e => by
    have hv' : ∀ v ∈ vs, v < env1.length := fun u hu => hv u (List.mem_cons_of_mem _ hu)
    have h0 := hv v List.mem_cons_self
    unfold restE at e
    rw [List.getElem?_eq_getElem h0] at e
    by_cases hi : v = i
    · subst hi
      have e : ((restE env env1 vs).set v env1[v])[v]? = some s := e
      by_cases hl : v < (restE env env1 vs).length
      · rw [List.getElem?_set_self hl] at e
        refine .inl ⟨List.mem_cons_self, ?_⟩
        rw [List.getElem?_eq_getElem h0]
        exact e
      · rw [List.getElem?_eq_none (by rw [List.length_set]; omega)] at e
        cases e
    · have e : ((restE env env1 vs).set v env1[v])[i]? = some s := e
      rw [List.getElem?_set_ne hi] at e
      rcases restE_get hv' e with ⟨h1, h2⟩ | ⟨h1, h2⟩
      · exact .inl ⟨List.mem_cons_of_mem _ h1, h2⟩
      · exact .inr ⟨fun z => (List.mem_cons.mp z).elim (fun z => hi z.symm) h1, h2⟩
theorem RS.unwipe {own : List Nat} (R : RS T b g env w (L2.wipe σ own) H) (hl : ∀ i ∈ own, i < env1.length) (hf : ∀ i ∈ own, frozenAt env1 i = true)
    (h1 : ∀ (i : Nat) (d : D), env1[i]? = some (.fr d) → ∃ v, σ[i]? = some (some v) ∧ DR T g.G d v) : RS T b g (restE env env1 own) w σ H := by
  refine ⟨R.kept, ?_, fun i d e => ?_, fun i d e => ?_, fun i j d d' e e' => ?_⟩
  · rw [restE_length, ← R.len, wipe_length]
  · rcases restE_get hl e with ⟨m, e⟩ | ⟨m, e⟩
    · exact h1 i d e
    · rw [← wipe_get m]
      exact R.fr i d e
  · rcases restE_get hl e with ⟨m, e⟩ | ⟨m, e⟩
    · exact (frozenAt_ne (hf i m) e).elim
    · rw [← wipe_get m]
      exact R.ow i d e
  · rcases restE_get hl e with ⟨m, e⟩ | ⟨m, e⟩
    · exact (frozenAt_ne (hf i m) e).elim
    · rcases restE_get hl e' with ⟨m', e'⟩ | ⟨m', e'⟩
      · exact (frozenAt_ne (hf j m') e').elim
      · exact R.inj i j d d' e e'
/-! ### an object that stands aside -/
structure Aside (b : Bs) (T : Th) (g : Gh) (env : List Slot) (H : Hp) (a : Addr) (o : HO) : Prop where
  hh : H a = some o
  gg : g.G a = none
  ss : ∀ (i : Nat) (e : D), env[i]? = some (.ow e) → g.ad i ≠ a
  bb : b.H0 a = none
  pp : a ≠ T.pa
theorem RS.hide {a : Addr} {o : HO} (R : RS T b g env w σ H) (A : Aside b T g env H a o) : RS T ⟨b.G0, upd b.H0 a o⟩ g env w σ H := by
  have k := R.kept
  refine ⟨⟨k.gh, k.pen, k.b1, fun c u n m e => ?_, fun c ps e => ?_, fun c u pu e => ?_⟩, R.len, R.fr, fun i d e => ?_, R.inj⟩
  · rcases upd_some e with ⟨rfl, rfl⟩ | ⟨_, e⟩
    · exact A.hh
    · exact k.b2 c u n m e
  · rcases upd_some e with ⟨rfl, rfl⟩ | ⟨_, e⟩
    · exact ⟨_, A.hh⟩
    · exact k.b2t c ps e
  · rcases k.b3 c u pu e with z | z
    · exact .inl z
    · refine .inr ?_
      have hc : c ≠ a := by
        rintro rfl
        rw [A.gg] at e
        cases e
      show upd b.H0 a o c = none
      rw [upd_ne hc]
      exact z
  · obtain ⟨h1, h2⟩ := R.ow i d e
    refine ⟨h1, h2.no, h2.np, ?_, h2.own⟩
    show upd b.H0 a o _ = none
    rw [upd_ne (A.ss i d e)]
    exact h2.nb
theorem RS.show {a : Addr} {o : HO} (R : RS T ⟨b.G0, upd b.H0 a o⟩ g env w σ H) (hb : b.H0 a = none) (hp : a ≠ T.pa) (hg : b.G0 a = none) (hpo : plainO o = true := by rfl) : RS T b g env w σ H ∧ Aside b T g env H a o := by
  have k := R.kept
  have sub : ∀ c u, b.H0 c = some u → upd b.H0 a o c = some u := fun c u e => by
    rw [upd_ne (ne_of_none e hb)]
    exact e
  have subn : ∀ c, upd b.H0 a o c = none → b.H0 c = none ∧ c ≠ a := fun c e => by
    have hc : c ≠ a := by
      rintro rfl
      rw [upd_same] at e
      cases e
    rw [upd_ne hc] at e
    exact ⟨e, hc⟩
  refine ⟨⟨⟨k.gh, k.pen, k.b1, fun c u n m e => k.b2 c u n m (sub c u e), fun c ps e => k.b2t c ps (sub c _ e), fun c u pu e => ?_⟩, R.len, R.fr, fun i d e => ?_, R.inj⟩, k.b2 a o hp (plain_nt hpo) upd_same, ?_, fun i d e => ?_, hb, hp⟩
  · rcases k.b3 c u pu e with z | z
    · exact .inl z
    · exact .inr (subn c z).1
  · obtain ⟨h1, h2⟩ := R.ow i d e
    exact ⟨h1, h2.no, h2.np, (subn _ h2.nb).1, h2.own⟩
  · cases z : g.G a with
    | none => rfl
    | some u =>
      have pu : plainO u = true := by
        have y1 := k.b2 a o hp (plain_nt hpo) upd_same
        have y2 := k.gh _ _ z
        rw [y1] at y2
        cases y2
        exact hpo
      rcases k.b3 a u pu z with ⟨o', y⟩ | y
      · have y : b.G0 a = some o' := y
        rw [hg] at y
        cases y
      · exact absurd rfl (subn a y).2
  · obtain ⟨h1, h2⟩ := R.ow i d e
    exact (subn _ h2.nb).2
theorem _root_.L2.PTs.imp {X : Cx} {e : List Expr} {t t' : TT} (h : PTs X e t) (k : ∀ σ H Q, t' σ H Q → t σ H Q) : PTs X e t' := ⟨fun pins s σ H Q I q => h.run pins s σ H Q I (k σ H Q q)⟩
theorem _root_.L2.PE.any {X : Cx} {e : Expr} {ι : Type} {t : ι → TE} (h : ∀ i, PE X e (t i)) : PE X e (fun σ H Q => ∃ i, t i σ H Q) := ⟨fun pins s σ H Q I ⟨i, q⟩ => (h i).run pins s σ H Q I q⟩
theorem _root_.L2.PTs.any {X : Cx} {e : List Expr} {ι : Type} {t : ι → TT} (h : ∀ i, PTs X e (t i)) : PTs X e (fun σ H Q => ∃ i, t i σ H Q) := ⟨fun pins s σ H Q I ⟨i, q⟩ => (h i).run pins s σ H Q I q⟩
theorem Kept.g0 {G : Hp} {a : Addr} (k : Kept T b G H w) (h : G a = none) : b.G0 a = none := by
  cases z : b.G0 a with
  | none => rfl
  | some o =>
    rcases k.b1.rd a o (.inl z) with y | ⟨_, y⟩
    · rw [h] at y
      cases y
    · rw [h] at y
      cases y
/-- the element, the target, the tests: for every base, nothing raised -/
def tAnyE (T : Th) (f : EX) : TE := fun σ H Q => ∃ b, tEx T b E0 f σ H Q
def tAnyT (T : Th) (f : TX) : TT := fun σ H Q => ∃ b, tTx T b E0 f σ H Q
theorem RS.put {a : Addr} {o o' : HO} (R : RS T b g env w σ H) (A : Aside b T g env H a o) (hpl : plainO o = true := by rfl) : RS T b g env w σ (upd H a o') ∧ Aside b T g env (upd H a o') a o' := by
  have k := R.kept
  have ne : ∀ c u, g.G c = some u → c ≠ a := fun c u e z => by
    rw [z, A.gg] at e
    cases e
  refine ⟨⟨⟨fun c u e => by rw [upd_ne (ne c u e)]; exact k.gh c u e, ⟨tabs_upd k.pen.tabs A.hh hpl, k.pen.nt, ?_, k.pen.no⟩, k.b1, fun c u n m e => ?_, fun c ps e => ?_, k.b3⟩, R.len, R.fr, fun i d e => ?_, R.inj⟩, upd_same, A.gg, A.ss, A.bb, A.pp⟩
  · obtain ⟨c, p1, p2⟩ := k.pen.is
    exact ⟨c, by rw [upd_ne (Ne.symm A.pp)]; exact p1, p2⟩
  · have hc : c ≠ a := fun z => by
      rw [z, A.bb] at e
      cases e
    rw [upd_ne hc]
    exact k.b2 c u n m e
  · have hc : c ≠ a := fun z => by
      rw [z, A.bb] at e
      cases e
    rw [upd_ne hc]
    exact k.b2t c ps e
  · obtain ⟨h1, h2⟩ := R.ow i d e
    refine ⟨h1, h2.keep (Le.refl _) h2.no fun u q => ?_⟩
    rw [upd_ne (A.ss i d e)]
    exact q
theorem wipe_at : ∀ {vs : List Nat} {i : Nat}, i ∈ vs → i < σ.length → (wipe σ vs)[i]? = some none
  | v :: vs, i, h, hl => by
    unfold L2.wipe
    by_cases hi : v = i
    · subst hi
      rw [List.getElem?_set_self (by rw [wipe_length]; exact hl)]
    · rw [List.getElem?_set_ne hi]
      exact wipe_at ((List.mem_cons.mp h).elim (fun z => absurd z.symm hi) id) hl
theorem wipe_wipe {vs : List Nat} : L2.wipe (L2.wipe σ vs) vs = L2.wipe σ vs := by
  refine List.ext_getElem? fun i => ?_
  by_cases hi : i ∈ vs
  · by_cases hl : i < σ.length
    · rw [wipe_at hi (by rw [wipe_length]; exact hl), wipe_at hi hl]
    · rw [List.getElem?_eq_none (by rw [wipe_length, wipe_length]; omega), List.getElem?_eq_none (by rw [wipe_length]; omega)]
  · rw [wipe_get hi]
variable {it : IX} {set : GX} {tst : TX} {fe : EX} {own is : List Nat} {gt : TG}
theorem lc_ok (hset : ∀ b, GV T b gt set is) (hown : ∀ i ∈ is, i ∈ own) {Q : VK} (h : tEx T b E (xLc own it set tst fe) σ H Q) : tLc (tIt T b E it) gt (tAnyT T tst) (tAnyE T fe) own σ H Q := by
  obtain ⟨g0, env, w, S, p⟩ := h
  unfold xLc at p
  rw [Pr.bind] at p
  refine ⟨g0, env, w, S, p.mono fun ds env1 w1 p1 g1 H1 J R1 l1 jk => ?_⟩
  split at p1
  · rename_i hc
    obtain ⟨hc, hz⟩ := hc
    have hlen : ∀ i ∈ own, i < (iceE env1 own).length := fun i hi => by
      rw [iceE_length]
      exact of_decide_eq_true (List.all_eq_true.mp hc i hi)
    obtain ⟨g2, R2, l2⟩ := R1.ice own
    have hfr : ∀ i ∈ own, frozenAt (iceE env1 own) i = true := fun i hi => ice_frozen hi
    generalize henv : iceE env1 own = envI at p1 hlen R2 hfr
    obtain ⟨Gd, Y, W, st, yd⟩ := jk
    intro L nL
    have A0 : Alloc g2.G H1 g2.G (upd H1 L (.lst [])) := Alloc.new1 R2.kept.gh nL
    have R3 := R2.alloc A0
    have gL : g2.G L = none := by
      cases z : g2.G L with
      | none => rfl
      | some o =>
        rw [R2.kept.gh L o z] at nL
        cases nL
    have O := R2.kept.ownA A0 (a := L) (d := .lst []) gL nL ⟨[], upd_same, .nil⟩
    have S0 : Aside b T ⟨g2.G, g2.ad⟩ envI (upd H1 L (.lst [])) L (.lst []) := ⟨upd_same, gL, (fun i e q z => by
      obtain ⟨_, h2⟩ := R2.ow i e q
      obtain ⟨u, eu⟩ := h2.own.there
      have z' : g2.ad i = L := z
      rw [z', nL] at eu
      cases eu), O.nb, O.np⟩
    have fr0 := R2.fr
    rw [Pr.bind] at p1
    -- what is to come behind the items that are left
    have fin : ∀ (rest : List D) (acc : List D) (env : List Slot) (w : Pen), Pr T b E (fun rs env2 w2 => Pr T b E (fun r env' w' => ∀ g' v H', RS T b g' env' w' σ H' → Le g0.G g'.G → RV T b g' H' env' v r → Q v H')
        (if own.all (frozenAt env2) = true then Rv.ok (Slot.ow (D.lst (acc ++ rs))) (restE (wipeE env2 own) envI own) w2 else .no)) (lcX own set tst fe rest env w) → own.all (frozenAt env) = true := fun rest acc env w z => by
      cases rest with
      | nil =>
        cases q : own.all (frozenAt env) with
        | true => rfl
        | false =>
          unfold lcX at z
          have z : Pr T b E _ (if own.all (frozenAt env) = true then Rv.ok (Slot.ow (D.lst (acc ++ []))) (restE (wipeE env own) envI own) w else .no) := z
          rw [q, if_neg Bool.false_ne_true] at z
          exact z.elim
      | cons d r =>
        cases q : own.all (frozenAt env) with
        | true => rfl
        | false =>
          unfold lcX at z
          rw [q, if_neg Bool.false_ne_true] at z
          exact z.elim
    refine lc_it W (fun i H => ∃ g env w acc vs σ', RS T b g env w σ' H ∧ L2.wipe σ' own = L2.wipe σ own ∧ Le g2.G g.G ∧ Aside b T g env H L (.lst vs) ∧ DRs T g.G acc vs ∧ vs.length ≤ i ∧
      Pr T b E (fun rs env2 w2 => Pr T b E (fun r env' w' => ∀ g' v H', RS T b g' env' w' σ H' → Le g0.G g'.G → RV T b g' H' env' v r → Q v H')
        (if own.all (frozenAt env2) = true then Rv.ok (Slot.ow (D.lst (acc ++ rs))) (restE (wipeE env2 own) envI own) w2 else .no)) (lcX own set tst fe (ds.drop i) env w)) ?_ ?_ ?_ ?_
    · exact ⟨⟨g2.G, g2.ad⟩, envI, w1, [], [], σ, R3, rfl, Le.refl _, S0, .nil, Nat.le_refl _, p1⟩
    · rintro i H2 _ ⟨g, env, w, acc, vs, σ', R, _, l, _⟩
      exact st g.G H2 (l2.trans l) R.kept.gh
    · rintro i x H2 H3 hi ⟨g, env, w, acc, vs, σ', R, hw, l, A, q, hv, z⟩ y
      have hall := fin _ _ _ _ z
      have RW := R.wipe hall
      rw [hw] at RW
      obtain ⟨G3, A3, d, ed, r⟩ := yd i H2 x H3 g.G hi (l2.trans l) R.kept.gh y
      have R4 := RW.alloc A3
      have A4 : Aside b T ⟨G3, g.ad⟩ (wipeE env own) H3 L (.lst vs) := ⟨A3.h _ _ A.hh, (by
        show G3 L = none
        cases zz : G3 L with
        | none => rfl
        | some o =>
          rcases A3.new _ _ zz with y | y
          · rw [A.gg] at y
            cases y
          · rw [A.hh] at y
            cases y), (fun i e q => A.ss i e (wipeE_get q (by intro z; cases z)).1), A.bb, A.pp⟩
      have hd : ds.drop i = d :: ds.drop (i + 1) := by
        rw [List.drop_eq_getElem_cons hi]
        congr 1
        exact Option.some.inj ((List.getElem?_eq_getElem hi).symm.trans ed)
      rw [hd] at z
      unfold lcX at z
      rw [hall, if_pos rfl] at z
      cases es : set d (wipeE env own) with
      | none => rw [es] at z; exact z.elim
      | some env3 =>
        rw [es] at z
        have RH := R4.hide A4
        refine hset ⟨b.G0, upd b.H0 L (.lst vs)⟩ ⟨G3, g.ad⟩ (wipeE env own) w (L2.wipe σ own) H3 x d env3 _ RH r es fun g5 σ5 R5 l5 w5 => ?_
        have ws : L2.wipe σ5 own = L2.wipe (L2.wipe σ own) own := w5 own hown
        have wi : L2.wipe (L2.wipe σ own) own = L2.wipe σ own := wipe_wipe
        refine ⟨ws.trans wi, ?_⟩
        rw [Pr.bind] at z
        refine ⟨⟨b.G0, upd b.H0 L (.lst vs)⟩, g5, env3, w, R5, z.noex.mono ?_⟩
        intro k env6 w6 z6 g6 H6 R6 l6
        have lt : Le g.G g6.G := ((Le.of A3.g).trans l5).trans l6
        have g0n : b.G0 L = none := R.kept.g0 A.gg
        cases k with
        | false =>
          rw [if_neg Bool.false_ne_true] at z6
          rw [if_neg Bool.false_ne_true]
          obtain ⟨R7, A7⟩ := R6.show A.bb A.pp g0n
          exact ⟨g6, env6, w6, acc, vs, σ5, R7, ws.trans wi, l.trans lt, A7, q.le lt, by omega, z6⟩
        | true =>
          rw [if_pos rfl] at z6
          rw [Pr.bind] at z6
          rw [if_pos rfl]
          refine ⟨⟨b.G0, upd b.H0 L (.lst vs)⟩, g6, env6, w6, R6, z6.noex.mono ?_⟩
          intro s env7 w7 z7 g7 v H7 R7 l7 q7
          obtain ⟨g8, R8, l8, d8⟩ := R7.freeze q7
          obtain ⟨R9, A9⟩ := R8.show A.bb A.pp g0n
          have lt8 : Le g.G g8.G := (lt.trans l7).trans l8
          refine ⟨vs, A9.hh, ?_, ?_⟩
          · rw [line_eq]
            unfold LINE at hz ⊢
            omega
          · obtain ⟨RA, AA⟩ := R9.put (o' := .lst (vs ++ [v])) A9
            refine ⟨g8, env7, w7, acc ++ [s.dat], vs ++ [v], σ5, RA, ws.trans wi, l.trans lt8, AA, (q.le lt8).append (.one d8), by rw [List.length_append]; simp; omega, ?_⟩
            rw [Pr.bind] at z7
            refine z7.mono fun rs env2 w2 z9 => ?_
            rw [List.append_assoc]
            exact z9
    · rintro H2 ⟨g, env, w, acc, vs, σ', R, hw, l, A, q, hv, z⟩
      rw [List.drop_length] at z
      have hall := fin _ _ _ _ z
      unfold lcX at z
      have z : Pr T b E _ (if own.all (frozenAt env) = true then Rv.ok (Slot.ow (D.lst (acc ++ []))) (restE (wipeE env own) envI own) w else .no) := z
      rw [if_pos hall, List.append_nil] at z
      have RW := R.wipe hall
      rw [hw] at RW
      have RU := RW.unwipe (env1 := envI) hlen hfr fun i d e => by
        obtain ⟨v, h1, h2⟩ := fr0 i d e
        exact ⟨v, h1, h2.le l⟩
      refine z g _ H2 RU (((l1.trans l2).trans l)) ⟨L, rfl, ⟨A.gg, A.pp, A.bb, vs, A.hh, q⟩, fun i e h => ?_⟩
      rcases restE_get hlen h with ⟨m, h⟩ | ⟨m, h⟩
      · exact (frozenAt_ne (hfr i m) h).elim
      · exact A.ss i e (wipeE_get h (by intro z; cases z)).1
  · exact p1.elim
end

section
variable {X : Cx} {T : Th} {b : Bs} {E : XK} {n : Nat} {pos spos : Pos} {elt tg iter : Expr} {ifs : List Expr} {scope : Scope} {it : IX} {set : GX} {tst : TX} {fe : EX} {is : List Nat} {gt : TG}
theorem CO.blk (c : CO X T E n) {s : Shared} {H : Hp} {scope : Scope} {cenv : Env} {fp : List Addr} : CO (X.blk s H scope cenv fp) T E0 n where
  K := c.K
  calm := c.calm
  room := c.room
  nd := c.nd
  tk := fun u s' h => takes0 u s' h
  po := PassesOwn.never
theorem pn : PTs X [] (tTx T b E tT) := pts_nil.imp fun σ H Q ⟨g, env, w, R, p⟩ => p g H R (Le.refl _)
theorem po {c : Expr} (h : PT X c (tTx T b E tst)) : PTs X [c] (tTx T b E tst) := pts_one h
theorem clc (c : CO X T E n) (own : List (Str × Nat)) (hi : PI X tg iter (tIt T b E it)) (ok : BlkOk X.N X.env.scope scope own)
    (hg : ∀ (s : Shared) (H : Hp) (C : Addr) (cl : List (Str × Addr)) (fp : List Addr), PG (X.blk s H scope (compEnvC scope cl C X.env) fp) tg gt) (hset : ∀ b, GV T b gt set is) (hown : ∀ i ∈ is, i ∈ own.map (·.2))
    (ht : ∀ (s : Shared) (H : Hp) (C : Addr) (cl : List (Str × Addr)) (fp : List Addr) (b : Bs), CO (X.blk s H scope (compEnvC scope cl C X.env) fp) T E0 n → PTs (X.blk s H scope (compEnvC scope cl C X.env) fp) ifs (tTx T b E0 tst))
    (he : ∀ (s : Shared) (H : Hp) (C : Addr) (cl : List (Str × Addr)) (fp : List Addr) (b : Bs), CO (X.blk s H scope (compEnvC scope cl C X.env) fp) T E0 n → PE (X.blk s H scope (compEnvC scope cl C X.env) fp) elt (tEx T b E0 fe))
    (hs : ∀ x, foldedSetIterable iter X.env x = pure x := by intro _; rfl) :
    PE X (.ListComp elt [⟨tg, iter, ifs, 0⟩] scope pos) (tEx T b E (xLc (own.map (·.2)) it set tst fe)) :=
  (pe_lc c.calm c.nd hi ok hg (fun s H C cl fp => PTs.any fun b => ht s H C cl fp b c.blk) (fun s H C cl fp => PE.any fun b => he s H C cl fp b c.blk) hs).imp fun _ _ _ h => lc_ok hset hown h
/-- name = [..] on one line, the name a local -/
theorem slc {i : Nat} {y : Str} {py : Pos} (c : CO X T E n) (own : List (Str × Nat)) (hi : PI X tg iter (tIt T b E it)) (ok : BlkOk X.N X.env.scope scope own)
    (hg : ∀ (s : Shared) (H : Hp) (C : Addr) (cl : List (Str × Addr)) (fp : List Addr), PG (X.blk s H scope (compEnvC scope cl C X.env) fp) tg gt) (hset : ∀ b, GV T b gt set is) (hown : ∀ i ∈ is, i ∈ own.map (·.2))
    (ht : ∀ (s : Shared) (H : Hp) (C : Addr) (cl : List (Str × Addr)) (fp : List Addr) (b : Bs), CO (X.blk s H scope (compEnvC scope cl C X.env) fp) T E0 n → PTs (X.blk s H scope (compEnvC scope cl C X.env) fp) ifs (tTx T b E0 tst))
    (he : ∀ (s : Shared) (H : Hp) (C : Addr) (cl : List (Str × Addr)) (fp : List Addr) (b : Bs), CO (X.blk s H scope (compEnvC scope cl C X.env) fp) T E0 n → PE (X.blk s H scope (compEnvC scope cl C X.env) fp) elt (tEx T b E0 fe))
    (hsw : swapsWith (.ListComp elt [⟨tg, iter, ifs, 0⟩] scope pos) (some (.Name y py)) spos.line X.env = pure true) (hy : X.N[i]? = some y := by rfl) (hyl : X.env.scope.names.lookup y = some .local := by rfl)
    (hs : ∀ x, foldedSetIterable iter X.env x = pure x := by intro _; rfl) :
    PS X (.Assign [.Name y py] (.ListComp elt [⟨tg, iter, ifs, 0⟩] scope pos) spos) (tSt T b E (sA i (xLc (own.map (·.2)) it set tst fe))) := by
  refine (ps_setLc (i := i) c.calm c.nd hy hyl hsw hi ok hg (fun s H C cl fp => PTs.any fun b => ht s H C cl fp b c.blk) (fun s H C cl fp => PE.any fun b => he s H C cl fp b c.blk) hs).imp fun D' σ H ⟨g, env, w, R, p⟩ => ?_
  unfold sA PSt at p
  rw [Pr.bind] at p
  refine lc_ok hset hown ⟨g, env, w, R, p.mono ?_⟩
  intro r env1 w1 p1 g1 x H1 R1 l1 q1
  obtain ⟨g2, R2, e2⟩ := R1.set q1 i
  exact p1 g2 _ H1 R2 (by rw [e2]; exact l1)
end
end HK

/-! HKo: operations on data. -/
namespace HK
open PySem PySem.Spec PyProof.Rows L2
section
variable {X : Cx} {T : Th} {b : Bs} {E : XK} {n : Nat} {pos : Pos}
theorem mkS_append (s t : List Nat) : mkS s ++ mkS t = mkS (s ++ t) := by
  show (⟨_⟩ : Str) = ⟨_⟩
  congr 1
  simp [mkS]
theorem mkS_inj {s t : List Nat} (h : mkS s = mkS t) : s = t := by
  injection h with h
  exact Array.mk.inj h
/-- one answer, the heap as it was -/
theorem same {G H : Hp} {Q : VK} {v : V} {d : D} (gh : ∀ a o, G a = some o → H a = some o) (q : ∀ v G' H', Alloc G H G' H' → RVa T G' H H' v (.fr d) → Q v H') (h : DR T G d v) : Q v H := q v G H (Alloc.refl gh) h
theorem newL {G H : Hp} {Q : VK} {ds : List D} {vs : List V} {p : Addr} (gh : ∀ a o, G a = some o → H a = some o) (q : ∀ v G' H', Alloc G H G' H' → RVa T G' H H' v (.ow (.lst ds)) → Q v H') (h : DRs T G ds vs) (np : H p = none) : Q (.ref p) (upd H p (.lst vs)) := by
  refine q _ G _ (Alloc.new1 gh np) ⟨p, rfl, ?_, np, vs, upd_same, h⟩
  cases z : G p with
  | none => rfl
  | some u =>
    rw [gh p u z] at np
    cases np
theorem newT {G H : Hp} {Q : VK} {ds : List D} {vs : List V} {p : Addr} (gh : ∀ a o, G a = some o → H a = some o) (q : ∀ v G' H', Alloc G H G' H' → RVa T G' H H' v (.fr (.tup ds)) → Q v H') (h : DRs T G ds vs) (np : H p = none) : Q (.ref p) (upd H p (.tup vs)) := by
  refine q _ _ _ (Alloc.new2 gh np) ?_
  have ng : G p = none := by
    cases z : G p with
    | none => rfl
    | some u =>
      rw [gh p u z] at np
      cases np
  show DR T _ _ _
  unfold DR
  exact ⟨p, vs, rfl, upd_same, h.le (le_upd ng)⟩

/-! ### arithmetic -/
def addD : D → D → Option Slot
  | .int i, .int j => some (.fr (.int (i + j)))
  | .str s, .str t => if s.length + t.length ≤ LINE then some (.fr (.str (s ++ t))) else none
  | .lst xs, .lst ys => if xs.length + ys.length ≤ LINE then some (.ow (.lst (xs ++ ys))) else none
  | d, e => match tupOf d, tupOf e with
    | some xs, some ys => if xs.length + ys.length ≤ LINE then some (if xs.isEmpty = true then .fr e else if ys.isEmpty = true then .fr d else .fr (.tup (xs ++ ys))) else none
    | _, _ => none
def rdAdd (K : PySem.W.Frag) : R2 := fun x y H Q => (∃ i j, x = .int i ∧ y = .int j ∧ Q (.int (i + j)) H) ∨ (∃ i j, x = .str i ∧ y = .str j ∧ i.length + j.length ≤ sizeLine ∧ Q (.str (i ++ j)) H) ∨ rCat x y H Q ∨ rCatA K x y H Q
theorem op_addD : OpR X (binaryOp .Add) (rdAdd X.K) := op_add.or (op_add_str.or (op_cat.or op_catA))
theorem v_addT {G H : Hp} {x y : V} {d e : D} {xs ys : List D} {r : Slot} {Q : VK} (ed : tupOf d = some xs) (ee : tupOf e = some ys) (es : (if xs.length + ys.length ≤ LINE then some (if xs.isEmpty = true then Slot.fr e else if ys.isEmpty = true then .fr d else .fr (.tup (xs ++ ys))) else none) = some r)
    (gh : ∀ a o, G a = some o → H a = some o) (hx : DO T G H d x) (hy : DO T G H e y) (q : ∀ v G' H', Alloc G H G' H' → RVa T G' H H' v r → Q v H') : rCatA T.K x y H Q := by
  split at es
  · rename_i hl
    obtain ⟨a, vs, rfl, h1, k1⟩ := hx.tupOf gh ed
    obtain ⟨c, us, rfl, h2, k2⟩ := hy.tupOf gh ee
    refine ⟨a, c, vs, us, rfl, rfl, h1, h2, by rw [line_eq, k1.length, k2.length]; exact hl, fun z => ?_, fun m z => ?_, fun m n p np => ?_⟩
    · subst z
      have e0 : xs = [] := List.eq_nil_of_length_eq_zero (by rw [← k1.length]; rfl)
      subst e0
      cases es
      exact same gh q (hy.frozen ee)
    · subst z
      have e0 : ys = [] := List.eq_nil_of_length_eq_zero (by rw [← k2.length]; rfl)
      subst e0
      have m' : xs.isEmpty = false := by
        cases xs with
        | nil => exact absurd k1.nil_inv m
        | cons _ _ => rfl
      rw [m'] at es
      cases es
      exact same gh q (hx.frozen ed)
    · have m' : xs.isEmpty = false := by
        cases xs with
        | nil => exact absurd k1.nil_inv m
        | cons _ _ => rfl
      have n' : ys.isEmpty = false := by
        cases ys with
        | nil => exact absurd k2.nil_inv n
        | cons _ _ => rfl
      rw [m', n'] at es
      cases es
      exact newT gh q (k1.append k2) np
  · cases es
theorem v_add : OpV T (rdAdd T.K) addD := by
  intro G H x y d e r Q es gh hx hy q
  have tupc : ∀ {xs : List D}, tupOf d = some xs → (match tupOf d, tupOf e with
      | some xs, some ys => if xs.length + ys.length ≤ LINE then some (if xs.isEmpty = true then Slot.fr e else if ys.isEmpty = true then .fr d else .fr (.tup (xs ++ ys))) else none
      | _, _ => none) = some r → rdAdd T.K x y H Q := fun {xs} ed es => by
    cases ee : tupOf e with
    | none => rw [ed, ee] at es; cases es
    | some ys =>
      rw [ed, ee] at es
      exact .inr (.inr (.inr (v_addT ed ee es gh hx hy q)))
  cases d with
  | int i =>
    cases e with
    | int j =>
      cases es
      rw [hx.int, hy.int]
      exact .inl ⟨i, j, rfl, rfl, same gh q rfl⟩
    | _ => cases es
  | str s =>
    cases e with
    | str t =>
      rw [hx.str, hy.str]
      have es : (if s.length + t.length ≤ LINE then some (Slot.fr (.str (s ++ t))) else none) = some r := es
      split at es
      · rename_i hl
        cases es
        refine .inr (.inl ⟨_, _, rfl, rfl, by rw [line_eq]; exact hl, ?_⟩)
        rw [mkS_append]
        exact same gh q rfl
      · cases es
    | _ => cases es
  | lst xs =>
    cases e with
    | lst ys =>
      obtain ⟨a, vs, rfl, h1, k1⟩ := hx.lst gh
      obtain ⟨c, us, rfl, h2, k2⟩ := hy.lst gh
      have es : (if xs.length + ys.length ≤ LINE then some (Slot.ow (.lst (xs ++ ys))) else none) = some r := es
      split at es
      · rename_i hl
        cases es
        exact .inr (.inr (.inl ⟨a, c, vs, us, rfl, rfl, h1, h2, by rw [line_eq, k1.length, k2.length]; exact hl, fun p np => newL gh q (k1.append k2) np⟩))
      · cases es
    | _ => cases es
  | tup xs => exact tupc (xs := xs) rfl (by cases e <;> exact es)
  | tpl xs => exact tupc (xs := xs) rfl (by cases e <;> exact es)
  | _ => cases e <;> cases es
def subD : D → D → Option Slot
  | .int i, .int j => some (.fr (.int (i - j)))
  | _, _ => none
theorem v_sub : OpV T (rI0 fun i j => .int (i - j)) subD := by
  intro G H x y d e r Q es gh hx hy q
  cases d with
  | int i =>
    cases e with
    | int j =>
      cases es
      rw [hx.int, hy.int]
      exact ⟨i, j, rfl, rfl, same gh q rfl⟩
    | _ => cases es
  | _ => cases es
def small64 (i : Int) : Bool := decide (-(2 ^ 64) < i) && decide (i < 2 ^ 64)
def reps (k : Nat) (xs : List D) : List D := (List.replicate k xs).flatten
def mulD : D → D → Option Slot
  | .int i, .int j => if (small64 i || small64 j) = true then some (.fr (.int (i * j))) else none
  | _, _ => none
theorem small64_ok {i : Int} (h : small64 i = true) : -(2 ^ 64) < i ∧ i < 2 ^ 64 := by
  unfold small64 at h
  simpa only [Bool.and_eq_true, decide_eq_true_eq] using h
theorem v_mul : OpV T (rI CMul fun i j => .int (i * j)) mulD := by
  intro G H x y d e r Q es gh hx hy q
  cases d with
  | int i =>
    cases e with
    | int j =>
      have es : (if (small64 i || small64 j) = true then some (Slot.fr (.int (i * j))) else none) = some r := es
      split at es
      · rename_i hl
        cases es
        rw [hx.int, hy.int]
        refine ⟨i, j, rfl, rfl, ?_, same gh q rfl⟩
        rcases Bool.or_eq_true_iff.mp hl with z | z
        · exact .inl (small64_ok z)
        · exact .inr (small64_ok z)
      · cases es
    | _ => cases es
  | _ => cases es
/-- a divisor that is positive (and small, for //) -/
def modD : D → D → Option Slot
  | .int i, .int j => if 0 < j then some (.fr (.int (i % j))) else none
  | _, _ => none
theorem v_mod : OpV T (rI (fun _ j => 0 < j) fun i j => .int (i % j)) modD := by
  intro G H x y d e r Q es gh hx hy q
  cases d with
  | int i =>
    cases e with
    | int j =>
      have es : (if 0 < j then some (Slot.fr (.int (i % j))) else none) = some r := es
      split at es
      · rename_i hl
        cases es
        rw [hx.int, hy.int]
        exact ⟨i, j, rfl, rfl, hl, same gh q rfl⟩
      · cases es
    | _ => cases es
  | _ => cases es
def fdivD : D → D → Option Slot
  | .int i, .int j => if 0 < j ∧ j < 1073741824 then some (.fr (.int (i / j))) else none
  | _, _ => none
theorem v_fdiv : OpV T (rI CDiv fun i j => .int (i / j)) fdivD := by
  intro G H x y d e r Q es gh hx hy q
  cases d with
  | int i =>
    cases e with
    | int j =>
      have es : (if 0 < j ∧ j < 1073741824 then some (Slot.fr (.int (i / j))) else none) = some r := es
      split at es
      · rename_i hl
        cases es
        rw [hx.int, hy.int]
        exact ⟨i, j, rfl, rfl, hl, same gh q rfl⟩
      · cases es
    | _ => cases es
  | _ => cases es
def powD : D → D → Option Slot
  | .int i, .int j => if 0 ≤ j ∧ j ≤ 1000000 ∧ i.natAbs < 2 ^ 64 then some (.fr (.int (i ^ j.toNat))) else none
  | _, _ => none
theorem v_pow : OpV T (rI CPow fun i j => .int (i ^ j.toNat)) powD := by
  intro G H x y d e r Q es gh hx hy q
  cases d with
  | int i =>
    cases e with
    | int j =>
      have es : (if 0 ≤ j ∧ j ≤ 1000000 ∧ i.natAbs < 2 ^ 64 then some (Slot.fr (.int (i ^ j.toNat))) else none) = some r := es
      split at es
      · rename_i hl
        cases es
        rw [hx.int, hy.int]
        exact ⟨i, j, rfl, rfl, hl, same gh q rfl⟩
      · cases es
    | _ => cases es
  | _ => cases es
def negD : D → Option Slot
  | .int i => some (.fr (.int (-i)))
  | _ => none
theorem v_neg : UnV T (rU fun i => .int (-i)) negD := by
  intro G H x d r Q es gh hx q
  cases d with
  | int i =>
    cases es
    rw [hx.int]
    exact ⟨i, rfl, same gh q rfl⟩
  | _ => cases es

/-! ### comparisons -/
def ordD (f : Int → Int → Bool) : D → D → Option Slot
  | .int i, .int j => some (.fr (.bl (f i j)))
  | _, _ => none
theorem v_ord {f : Int → Int → Bool} : OpV T (rI0 fun i j => .bl (f i j)) (ordD f) := by
  intro G H x y d e r Q es gh hx hy q
  cases d with
  | int i =>
    cases e with
    | int j =>
      cases es
      rw [hx.int, hy.int]
      exact ⟨i, j, rfl, rfl, same gh q rfl⟩
    | _ => cases es
  | _ => cases es
abbrev leI : Int → Int → Bool := fun i j => decide (i ≤ j)
abbrev gtI : Int → Int → Bool := fun i j => decide (j < i)
abbrev geI : Int → Int → Bool := fun i j => decide (j ≤ i)
abbrev ltI : Int → Int → Bool := fun i j => decide (i < j)
def isN : D → D → Option Slot
  | .non, .non => some (.fr (.bl true))
  | _, .non => some (.fr (.bl false))
  | _, _ => none
def notN : D → D → Option Slot
  | .non, .non => some (.fr (.bl false))
  | _, .non => some (.fr (.bl true))
  | _, _ => none
theorem dr_non {G H : Hp} {d : D} {x : V} (h : DO T G H d x) (hd : d ≠ .non) : x ≠ .non := by
  rintro rfl
  rcases h with h | ⟨a, z, _⟩
  · cases d <;> first
      | exact hd rfl
      | (unfold DR at h; first | (cases h; done) | (obtain ⟨_, _, z, _⟩ := h; cases z; done) | (obtain ⟨_, z, _⟩ := h; cases z; done) | (obtain ⟨_, _, _, z, _⟩ := h; cases z; done) | (obtain ⟨_, _, ⟨_, _, _, _, _, _, z, _⟩, _⟩ := h; cases z; done) | (obtain ⟨_, ⟨_, ⟨_, _, _, _, _, _, z, _⟩, _⟩, _⟩ := h; cases z; done))
  · cases z
theorem v_isN : OpV T (fun x y H Q => y = .non ∧ Q (.bl (decide (x = .non))) H) isN := by
  intro G H x y d e r Q es gh hx hy q
  cases e with
  | non =>
    obtain rfl := hy.non
    refine ⟨rfl, ?_⟩
    by_cases hd : d = .non
    · subst hd
      cases es
      rw [hx.non]
      exact same gh q rfl
    · have es : r = .fr (.bl false) := by
        cases d <;> first | exact absurd rfl hd | exact (Option.some.inj es).symm
      subst es
      rw [decide_eq_false (dr_non hx hd)]
      exact same gh q rfl
  | _ => cases d <;> cases es
theorem v_notN : OpV T (fun x y H Q => y = .non ∧ Q (.bl (!decide (x = .non))) H) notN := by
  intro G H x y d e r Q es gh hx hy q
  cases e with
  | non =>
    obtain rfl := hy.non
    refine ⟨rfl, ?_⟩
    by_cases hd : d = .non
    · subst hd
      cases es
      rw [hx.non]
      exact same gh q rfl
    · have es : r = .fr (.bl true) := by
        cases d <;> first | exact absurd rfl hd | exact (Option.some.inj es).symm
      subst es
      rw [decide_eq_false (dr_non hx hd)]
      exact same gh q rfl
  | _ => cases d <;> cases es

/-! ### == of data -/
mutual
def toPy : D → Option PyData
  | .non => some .none
  | .bl k => some (.bool k)
  | .int i => some (.int i)
  | .str s => some (.str (mkS s))
  | .lst xs => (toPys xs).map .list
  | .tup xs => (toPys xs).map .tuple
  | .tpl xs => (toPys xs).map .tuple
  | _ => none
def toPys : List D → Option (List PyData)
  | [] => some []
  | x :: xs => match toPy x, toPys xs with
    | some p, some ps => some (p :: ps)
    | _, _ => none
end
mutual
theorem dp_of {G H : Hp} (gh : ∀ a o, G a = some o → H a = some o) : ∀ {d : D} {v : V} {p : PyData}, DR T G d v → toPy d = some p → Dp T.K H v p
  | .non, v, p, h, e => by
    have h : v = .non := h
    subst h
    unfold toPy at e
    cases e
    exact .non
  | .bl k, v, p, h, e => by
    have h : v = .bl k := h
    subst h
    unfold toPy at e
    cases e
    exact .bl k
  | .int i, v, p, h, e => by
    have h : v = .int i := h
    subst h
    unfold toPy at e
    cases e
    exact .int i
  | .str s, v, p, h, e => by
    have h : v = .str (mkS s) := h
    subst h
    unfold toPy at e
    cases e
    exact .str _
  | .lst xs, v, p, h, e => by
    unfold DR at h
    unfold toPy at e
    obtain ⟨a, vs, rfl, s, k⟩ := h
    cases q : toPys xs with
    | none => rw [q] at e; cases e
    | some ps =>
      rw [q] at e
      cases e
      exact .lst (.of (gh _ _ s)) (dps_of gh k q)
  | .tup xs, v, p, h, e => by
    unfold DR at h
    unfold toPy at e
    obtain ⟨a, vs, rfl, s, k⟩ := h
    cases q : toPys xs with
    | none => rw [q] at e; cases e
    | some ps =>
      rw [q] at e
      cases e
      exact .tup (.of (gh _ _ s)) (dps_of gh k q)
  | .tpl xs, v, p, h, e => by
    unfold DR at h
    unfold toPy at e
    obtain ⟨a, o, vs, rfl, s, _, k⟩ := h
    cases q : toPys xs with
    | none => rw [q] at e; cases e
    | some ps =>
      rw [q] at e
      cases e
      exact .tup (.inl (.inr ⟨o, gh _ _ s⟩)) (dps_of gh k q)
  | .dic _ _, _, _, _, e => by unfold toPy at e; cases e
  | .dit _ _, _, _, _, e => by unfold toPy at e; cases e
  | .set _, _, _, _, e => by unfold toPy at e; cases e
  | .ins _ _, _, _, _, e => by unfold toPy at e; cases e
  | .pen, _, _, _, e => by unfold toPy at e; cases e
  | .ty _, _, _, _, e => by unfold toPy at e; cases e
  | .cls _, _, _, _, e => by unfold toPy at e; cases e
  | .err _ _, _, _, _, e => by unfold toPy at e; cases e
  | .fn _ _, _, _, _, e => by unfold toPy at e; cases e
theorem dps_of {G H : Hp} (gh : ∀ a o, G a = some o → H a = some o) : ∀ {ds : List D} {vs : List V} {ps : List PyData}, DRs T G ds vs → toPys ds = some ps → DpAll T.K H vs ps
  | [], vs, ps, h, e => by
    obtain rfl := h.nil_inv
    unfold toPys at e
    cases e
    exact .nil
  | d :: ds, vs, ps, h, e => by
    obtain ⟨v, r, rfl, h1, h2⟩ := h.cons_inv
    unfold toPys at e
    cases q1 : toPy d with
    | none => rw [q1] at e; cases e
    | some p =>
      cases q2 : toPys ds with
      | none => rw [q1, q2] at e; cases e
      | some qs =>
        rw [q1, q2] at e
        cases e
        exact .cons (dp_of gh h1 q1) (dps_of gh h2 q2)
end
theorem dpo_of {G H : Hp} (gh : ∀ a o, G a = some o → H a = some o) {d : D} {v : V} {p : PyData} (h : DO T G H d v) (e : toPy d = some p) : Dp T.K H v p := by
  rcases h with h | ⟨a, rfl, o⟩
  · exact dp_of gh h e
  · cases d with
    | lst xs =>
      obtain ⟨vs, s, k⟩ := o
      unfold toPy at e
      cases q : toPys xs with
      | none => rw [q] at e; cases e
      | some ps =>
        rw [q] at e
        cases e
        exact .lst (.of s) (dps_of gh k q)
    | dic ks vs => unfold toPy at e; cases e
    | dit ks vs => unfold toPy at e; cases e
    | _ => exact o.elim
def eqP (neg : Bool) : Option PyData → Option PyData → Option Slot
  | some p, some q => if (SeqAt.shaped p && SeqAt.shaped q) = true then some (.fr (.bl (neg ^^ PyData.eqv p q))) else none
  | _, _ => none
def eqD (d e : D) : Option Slot := eqP false (toPy d) (toPy e)
def neD (d e : D) : Option Slot := eqP true (toPy d) (toPy e)
theorem v_eq : OpV T (rEqD T.K) eqD := by
  intro G H x y d e r Q es gh hx hy q
  unfold eqD at es
  cases q1 : toPy d with
  | none => rw [q1] at es; cases es
  | some p =>
    cases q2 : toPy e with
    | none => rw [q1, q2] at es; cases es
    | some p' =>
      rw [q1, q2] at es
      have es : (if (SeqAt.shaped p && SeqAt.shaped p') = true then some (Slot.fr (.bl (false ^^ PyData.eqv p p'))) else none) = some r := es
      split at es
      · rename_i hs
        cases es
        rw [Bool.and_eq_true] at hs
        refine ⟨p, p', dpo_of gh hx q1, dpo_of gh hy q2, hs.1, hs.2, ?_⟩
        have := same (v := .bl (PyData.eqv p p')) gh q (by rw [Bool.false_xor]; rfl)
        exact this
      · cases es
theorem v_ne : OpV T (rNeD T.K) neD := by
  intro G H x y d e r Q es gh hx hy q
  unfold neD at es
  cases q1 : toPy d with
  | none => rw [q1] at es; cases es
  | some p =>
    cases q2 : toPy e with
    | none => rw [q1, q2] at es; cases es
    | some p' =>
      rw [q1, q2] at es
      have es : (if (SeqAt.shaped p && SeqAt.shaped p') = true then some (Slot.fr (.bl (true ^^ PyData.eqv p p'))) else none) = some r := es
      split at es
      · rename_i hs
        cases es
        rw [Bool.and_eq_true] at hs
        refine ⟨p, p', dpo_of gh hx q1, dpo_of gh hy q2, hs.1, hs.2, ?_⟩
        have := same (v := .bl (!PyData.eqv p p')) gh q (by rw [Bool.true_xor]; rfl)
        exact this
      · cases es
end
end HK

/-! HKpe: isinstance of an exception that bears a dict. -/
namespace HK
open PySem PySem.Spec PySem.Calls PyProof.Rows L2
section
variable {prog : Program} {w : World} {A : Around} {E : Value → Shared → Prop} {s : Shared} {K : PySem.W.Frag} {x D : Addr} {ox : Obj} {od : Option Obj}
theorem find_cls (C : ExcC K D) : PySem.W.findObj K D od "__class__" = some (.bind (.builtin "getset_descriptor.__get__") (.builtin "object.__class__")) := by
  obtain ⟨cd, hc, _⟩ := PySem.W.any_some C.hd
  unfold PySem.W.findObj
  rw [hc, Option.bind_some, C.ha, Option.bind_some]
  simp [C.hn, C.ht]
theorem ask_cls (C : ExcC K D) {Q : Option Value → Shared → Prop} (X : K.In s.heap) (I : PySem.W.InstAt s.heap x ox D od) (h : Q (some (.ref D)) { s with toks := s.toks + 1 }) : wpAny (model prog w) A (getAttr? (.ref x) "__class__") Q E s := by
  obtain ⟨hp, g, d, t, os⟩ := s
  have look0 := I.type (M := model prog w)
  have look1 := PySem.W.looks_findIn (M := model prog w) X C.hg
  have look2 := PySem.W.looks_findIn (M := model prog w) X C.hk
  have look3 := PySem.W.looks_find (M := model prog w) X I (find_cls C)
  have sub : PySem.W.Looks (model prog w) hp (isInstance (.ref x) (.type "BaseException")) true := look0.andThen (PySem.W.looks_subIn X C.hs)
  have n0 : (false && onTheHeap (Value.builtin "BaseException.__getattribute__")) = false := rfl
  have n1 : (onTheHeap (Value.ref D) && Value.builtin "BaseException.__getattribute__" == Value.builtin "object.__getattribute__") = false := by
    rw [show (Value.builtin "BaseException.__getattribute__" == Value.builtin "object.__getattribute__") = false by decide +kernel]
    rfl
  unfold getAttr? getAttrBy? getAttrBy
  refine wpAny_bind (wpAny_mkText (wpAny_bind (wpAny_attempt (wpAny_holding (wpAny_bind (look0.at (wpAny_bind (look1.at ?_))))))))
  show wpAny _ _ (if (onTheHeap (Value.ref D) && Value.builtin "BaseException.__getattribute__" == Value.builtin "object.__getattribute__") = true then _ else _) _ _ _
  rw [n1, if_neg Bool.false_ne_true]
  unfold getAttrByItsOwn hookBefore
  refine wpAny_bind ?_
  rw [if_pos (show onTheHeap (Value.ref D) = true from rfl)]
  refine look2.at (wpAny_bind (wpAny_attempt (wpAny_holding ?_)))
  unfold callGetattribute
  rw [n0, if_neg Bool.false_ne_true]
  unfold boundAndCalled
  rw [PySem.F.excAttr_ValueError.ga.bind (.ref x)]
  refine wpAny_bind (wpAny_pure ?_)
  show wpAny _ _ (call (.builtin "BaseException.__getattribute__") [.ref x, .str "__class__" t]) _ _ _
  refine wpAny_call (codeAny_call_builtin PySem.F.excAttr_ValueError.ga.plain PySem.F.entry_bexc_ga ?_)
  refine @PySem.W.check_slot (model prog w) _ _ ⟨hp, g, d, t + 1, os⟩ "BaseException.__getattribute__" "BaseException" "__getattribute__" (.ref x) [.str "__class__" t] [] _ (by decide +kernel) (by decide +kernel) sub (PySem.F.args_bexc_ga (.ref x) (.str "__class__" t)) ?_
  unfold Builtin.«object.__getattribute__»
  refine wpAny_bind (wpAny_of_eq (a := ((Value.ref x : Value), [Value.str "__class__" t])) (by first | rfl | (simp only [slotArgs]; rfl)) ?_)
  refine wpAny_bind (wpAny_pure (wpAny_bind (look0.at (wpAny_bind (look3.at ?_)))))
  show wpAny _ _ (holding [Value.builtin "object.__class__"] (call (.builtin "getset_descriptor.__get__") [.builtin "object.__class__", .ref x, .ref D]) >>= ret) _ _ _
  refine wpAny_bind (wpAny_holding (wpAny_call (PySem.W.class_get (s := ⟨hp, g, d, t + 1, os⟩) (ox := ox) (od := od) X I C.hm ?_)))
  refine wpAny_pure ?_
  show wpAny _ _ (handedOut (.ref D)) _ _ _
  rw [PySem.W.handedOut_of (v := .ref D) rfl]
  first
    | exact wpAny_pure (wpAny_pure h)
    | exact wpAny_pure h
    | exact wpAny_pure (wpAny_bind (wpAny_pure (wpAny_pure h)))
theorem kit_err (C : ExcC K D) : PySem.W.KitX K (.ref x) (.ref D) (fun h => ∃ (ox : Obj) (od : Option Obj), PySem.W.InstAt h x ox D od) where
  ty := fun _ _ _ ⟨_, _, I⟩ => I.type
  it := fun _ _ X _ => by
    obtain ⟨cd, hc, _⟩ := PySem.W.any_some C.hd
    unfold PySem.W.clsIn at hc
    split at hc
    · rename_i c' d' cd' sl' ho
      intro A' Q' E' s' k q
      unfold isType loadHead
      exact wpAny_bind (wpAny_loadPart (k _ _ (X _ _ ho)) (wpAny_pure q))
    · cases hc
  ne := fun h tp dd its n sl X htp => by
    refine Bool.eq_false_iff.mpr fun q => ?_
    obtain rfl : D = tp := Value.ref.inj (beq_iff_eq.mp q)
    obtain ⟨cd, hc, _⟩ := PySem.W.any_some C.hd
    unfold PySem.W.clsIn at hc
    split at hc
    · rename_i c' d' cd' sl' ho
      cases (X _ _ ho).symm.trans htp
    · cases hc
  ca := fun X ⟨_, _, I⟩ k => ask_cls C X I k
end
/-- a value's type: as the library's, or an exception's class -/
def TyE (K : PySem.W.Frag) (H : Hp) (x : V) (t : Value) : Prop := TyX K H x t ∨ ∃ a D d fs, x = .ref a ∧ t = .ref D ∧ H a = some (ErrO (.ref D) d a) ∧ H d = some (.xd fs) ∧ ExcC K D
section
variable {X : Cx} {pins : List (Addr × Obj)} {σ : L2.St} {H : Hp} {s : Shared}
/-- an exception object of ours -/
theorem err_inst (I : Inv X pins σ H s) {a D d : Addr} {fs : List (Str × V)} (e1 : H a = some (ErrO (.ref D) d a)) (e2 : H d = some (.xd fs)) : ∃ oe od, PySem.W.InstAt s.heap a oe D (some od) ∧ s.heap.get? d = some od := by
  obtain ⟨⟨oe, vs, he, hz, hd⟩, _, _⟩ := I.hok a _ e1
  obtain ⟨mA, ⟨od, es, ep, ho, _⟩, _⟩ := (show ObjOk X.prog X.w H s.heap d (.xd fs) from I.hok d _ e2)
  exact ⟨oe, od, ⟨he, hz.1, by unfold PySem.W.notCls; rw [hd] <;> rfl, by rw [hz.2]; exact ho⟩, ho⟩
theorem kit_of2 {x : V} {u t : Value} (I : Inv X pins σ H s) (rx : RelV x u) (ty : TyE X.K H x t) : ∃ P : Heap → Prop, PySem.W.KitX X.K u t P ∧ P s.heap ∧ u ≠ .builtin "__main__.__loader__#opaque" := by
  rcases ty with ty | ⟨a, D, d, fs, rfl, rfl, e1, e2, C⟩
  · exact kit_of I rx ty
  · cases (show u = Value.ref a from rx)
    obtain ⟨oe, od, J, _⟩ := err_inst I e1 e2
    exact ⟨_, kit_err C, ⟨oe, some od, J⟩, fun z => nomatch z⟩
def rIsi2 (K : PySem.W.Frag) : List V → Hp → VK → Prop := fun xs H Q => ∃ (x c : V) (t u : Value) (b : Bool), xs = [x, c] ∧ ClsV c u ∧ TyE K H x t ∧ PySem.W.kitOne K t u = some b ∧ Q (.bl b) H
def rIsiT2 (K : PySem.W.Frag) : List V → Hp → VK → Prop := fun xs H Q => ∃ (x : V) (tp : Addr) (cs : List V) (t : Value) (us : List Value) (b : Bool), xs = [x, .ref tp] ∧ H tp = some (.tup cs) ∧ Paired ClsV cs us ∧ TyE K H x t ∧ PySem.W.kitAny K t us = some b ∧ Q (.bl b) H
theorem call_is1 : CallR X (.builtin "isinstance") (rIsi2 X.K) := by
  intro pins s σ H xs us Q I r h
  obtain ⟨x, c, t, u, b, rfl, k, ty, e, q⟩ := h
  obtain ⟨u1, u2, rfl, r1, r2⟩ := vals2 r
  obtain rfl := k.eq r2
  obtain ⟨P, Z, p, hx⟩ := kit_of2 I r1 ty
  exact PySem.W.kia_one Z I.kIn p e hx fun tk => ⟨.bl b, H, I.tok tk, rfl, q⟩
theorem call_is2 : CallR X (.builtin "isinstance") (rIsiT2 X.K) := by
  intro pins s σ H xs us Q I r h
  obtain ⟨x, tp, cs, t, ws, b, rfl, hT, k, ty, e, q⟩ := h
  obtain ⟨u1, u2, rfl, r1, r2⟩ := vals2 r
  cases (show u2 = Value.ref tp from r2)
  obtain ⟨P, Z, p, hx⟩ := kit_of2 I r1 ty
  obtain ⟨_, its, rv, ⟨oc, od, dt, sl⟩, h1, h2, n, h3⟩ := (show ObjOk X.prog X.w H s.heap tp (.tup cs) from I.hok tp _ hT)
  obtain rfl := ClsV.all k rv
  simp only at h2 h3
  subst h2 h3
  exact PySem.W.kia_tup Z I.kIn p h1 e hx fun tk => ⟨.bl b, H, I.tok tk, rfl, q⟩
end
end HK

/-! HKp: more operations: items, slices, in, len, isinstance, dicts, built-ins. -/
namespace HK
open PySem PySem.Spec PyProof.Rows L2
section
variable {X : Cx} {T : Th} {b : Bs} {E : XK} {n : Nat} {pos : Pos} {a c e d' : Expr} {es : List Expr} {fa fb fc : EX} {fr : AX}

/-! ### items of a row, of a text -/
def strD (c : Nat) : D := .str [c]
def ixD : D → D → Option Slot
  | .lst xs, .int i => (atI xs i).map .fr
  | .tup xs, .int i => (atI xs i).map .fr
  | .tpl xs, .int i => (atI xs i).map .fr
  | .str s, .int i => if s.length ≤ LINE then (atI s i).map fun c => .fr (.str [c]) else none
  | _, _ => none
theorem drs_at {G : Hp} {ds : List D} {vs : List V} {i : Int} {d : D} (h : DRs T G ds vs) (e : atI ds i = some d) : ∃ v, atI vs i = some v ∧ DR T G d v := by
  unfold atI at e ⊢
  rw [h.length]
  cases q : ixN ds.length i with
  | none => rw [q] at e; cases e
  | some j =>
    rw [q] at e
    exact h.get (i := j) e
theorem v_ix : OpV T (rIx T.K) ixD := by
  intro G H x y d e r Q es gh hx hy q
  cases e with
  | int i =>
    rw [hy.int]
    cases d with
    | lst xs =>
      obtain ⟨a, vs, rfl, s, k⟩ := hx.lst gh
      have es : (atI xs i).map Slot.fr = some r := es
      cases z : atI xs i with
      | none => rw [z] at es; cases es
      | some d =>
        rw [z] at es
        cases es
        obtain ⟨v, e1, e2⟩ := drs_at k z
        exact .inl ⟨a, vs, i, v, rfl, rfl, .of s, e1, same gh q e2⟩
    | tup xs =>
      obtain ⟨a, vs, rfl, s, k⟩ := hx.tup gh
      have es : (atI xs i).map Slot.fr = some r := es
      cases z : atI xs i with
      | none => rw [z] at es; cases es
      | some d =>
        rw [z] at es
        cases es
        obtain ⟨v, e1, e2⟩ := drs_at k z
        exact .inr (.inl ⟨a, vs, i, v, rfl, rfl, .of s, e1, same gh q e2⟩)
    | tpl xs =>
      obtain ⟨a, vs, rfl, s, k⟩ := hx.tpl gh
      have es : (atI xs i).map Slot.fr = some r := es
      cases z : atI xs i with
      | none => rw [z] at es; cases es
      | some d =>
        rw [z] at es
        cases es
        obtain ⟨v, e1, e2⟩ := drs_at k z
        exact .inr (.inl ⟨a, vs, i, v, rfl, rfl, .inl s, e1, same gh q e2⟩)
    | str s =>
      rw [hx.str]
      have es : (if s.length ≤ LINE then (atI s i).map fun c => Slot.fr (.str [c]) else none) = some r := es
      split at es
      · rename_i hl
        cases z : atI s i with
        | none => rw [z] at es; cases es
        | some c =>
          rw [z] at es
          cases es
          exact .inr (.inr ⟨mkS s, i, c, rfl, rfl, by rw [line_eq]; exact hl, z, same gh q rfl⟩)
      · cases es
    | _ => cases es
  | _ => cases d <;> cases es

/-! ### slices -/
def cutL {α : Type} (xs : List α) (lo hi : Option Int) : List α := (xs.drop (HT.sIx xs.length 0 lo)).take (HT.sIx xs.length xs.length hi - HT.sIx xs.length 0 lo)
def slD : D → Option Int → Option Int → Option Slot
  | .lst xs, lo, hi => some (.ow (.lst (cutL xs lo hi)))
  | .tup xs, lo, hi => some (.fr (.tup (cutL xs lo hi)))
  | .tpl xs, lo, hi => if HT.sIx xs.length 0 lo = 0 ∧ HT.sIx xs.length xs.length hi = xs.length then some (.fr (.tpl xs)) else some (.fr (.tup (cutL xs lo hi)))
  | .str s, lo, hi => if s.length ≤ LINE then some (.fr (.str (cutL s lo hi))) else none
  | _, _, _ => none

/-! ### len -/
def lenD : D → Option Slot
  | .lst xs => some (.fr (.int xs.length))
  | .tup xs => some (.fr (.int xs.length))
  | .tpl xs => some (.fr (.int xs.length))
  | .str s => if s.length ≤ LINE then some (.fr (.int s.length)) else none
  | _ => none
def on1 (f : D → Option Slot) : List D → Option Slot
  | [d] => f d
  | _ => none
def rdLen (K : PySem.W.Frag) : List V → Hp → VK → Prop := fun xs H Q => ∃ x n, xs = [x] ∧ LenV K x H n ∧ Q (.int n) H
theorem v_len1 : Call1V T (rdLen T.K) lenD := by
  intro G H x d r Q es gh hx q
  cases d with
  | lst xs =>
    cases es
    obtain ⟨a, vs, rfl, s, k⟩ := hx.lst gh
    exact ⟨_, xs.length, rfl, .inl ⟨vs, .of s, k.length.symm⟩, same gh q rfl⟩
  | tup xs =>
    cases es
    obtain ⟨a, vs, rfl, s, k⟩ := hx.tup gh
    exact ⟨_, xs.length, rfl, .inr ⟨vs, .of s, k.length.symm⟩, same gh q rfl⟩
  | tpl xs =>
    cases es
    obtain ⟨a, vs, rfl, s, k⟩ := hx.tpl gh
    exact ⟨_, xs.length, rfl, .inr ⟨vs, .inl s, k.length.symm⟩, same gh q rfl⟩
  | str s =>
    have es : (if s.length ≤ LINE then some (Slot.fr (.int s.length)) else none) = some r := es
    split at es
    · rename_i hl
      cases es
      rw [hx.str]
      exact ⟨_, s.length, rfl, ⟨by rw [line_eq]; exact hl, rfl⟩, same gh q rfl⟩
    · cases es
  | _ => cases es
theorem v_on1 {rd : List V → Hp → VK → Prop} {f : D → Option Slot} (h : Call1V T rd f) : CallV T rd (on1 f) := by
  intro G H xs ds r Q es gh hx q
  cases ds with
  | nil => cases es
  | cons d ds =>
    cases ds with
    | nil =>
      obtain ⟨v, vs, rfl, h1, h2⟩ := hx.cons_inv
      obtain rfl := h2.nil_inv
      exact h G H v d r Q es gh (.inl h1) q
    | cons _ _ => cases es

/-! ### isinstance -/
def tyOf : D → Option Nat
  | .non => some 7
  | .bl _ => some 2
  | .int _ => some 0
  | .str _ => some 1
  | .lst _ => some 3
  | .tup _ => some 4
  | .tpl _ => some 4
  | .dic _ _ => some 5
  | _ => none
def isTy (t c : Nat) : Bool := t == c || (t == 2 && c == 0)
/-- what is known of the own classes: cs those that stand in the text -/
structure ClsI (T : Th) (cs es : List Nat) (sub : Nat → Nat → Bool) : Prop where
  tyc : ∀ t ∈ [0, 1, 2, 3, 4, 5, 7], ∀ c ∈ cs ++ es, PySem.W.kitOne T.K (.type (tyName t)) (.ref (T.cl c)) = some false
  cty : ∀ c ∈ cs ++ es, ∀ t ∈ [0, 1, 2, 3, 4, 5], PySem.W.kitOne T.K (.ref (T.cl c)) (.type (tyName t)) = some false
  ccl : ∀ c ∈ cs ++ es, ∀ c' ∈ cs ++ es, PySem.W.kitOne T.K (.ref (T.cl c)) (.ref (T.cl c')) = some (sub c c')
  ty : ∀ c ∈ cs, ∀ (H : Hp) (a dx : Addr) (fs : List (Str × V)), H a = some (.ins (T.cl c) dx fs) → TyOf T.K H (.ref a) (.ref (T.cl c))
  er : ∀ c ∈ es, ExcC T.K (T.cl c)
/-- a value's type: a built-in one, or an own class -/
def kindOf (cs es : List Nat) : D → Option (Sum Nat Nat)
  | .ins k _ => if cs.contains k = true then some (.inr k) else none
  | .err k _ => if es.contains k = true then some (.inr k) else none
  | d => (tyOf d).map .inl
def kitD (cs : List Nat) (sub : Nat → Nat → Bool) : Sum Nat Nat → D → Option Bool
  | .inl t, .ty c => if c ≤ 5 then some (isTy t c) else none
  | .inr _, .ty c => if c ≤ 5 then some false else none
  | .inl _, .cls c => if cs.contains c = true then some false else none
  | .inr k, .cls c => if cs.contains c = true then some (sub k c) else none
  | _, _ => none
def kitL (cs : List Nat) (sub : Nat → Nat → Bool) (t : Sum Nat Nat) : List D → Option Bool
  | [] => some false
  | c :: r => match kitD cs sub t c with
    | some true => some true
    | some false => kitL cs sub t r
    | none => none
def allCls : List D → Bool
  | [] => true
  | .ty _ :: r => allCls r
  | .cls _ :: r => allCls r
  | _ => false
def isiD (cs es : List Nat) (sub : Nat → Nat → Bool) : List D → Option Slot
  | [d, .tup l] => if allCls l = true then (kindOf cs es d).bind fun t => (kitL (cs ++ es) sub t l).map fun k => .fr (.bl k) else none
  | [d, .ty c] => (kindOf cs es d).bind fun t => (kitD (cs ++ es) sub t (.ty c)).map fun k => .fr (.bl k)
  | [d, .cls c] => (kindOf cs es d).bind fun t => (kitD (cs ++ es) sub t (.cls c)).map fun k => .fr (.bl k)
  | _ => none
theorem kit_all : ∀ t ∈ [0, 1, 2, 3, 4, 5, 7], ∀ c ∈ [0, 1, 2, 3, 4, 5], kitB (tyName t) (tyName c) = some (isTy t c) := by decide +kernel
/-- a value's type as the library's rules want it -/
theorem tyx_of {G H : Hp} {d : D} {v : V} {t : Nat} (gh : ∀ a o, G a = some o → H a = some o) (h : DR T G d v) (e : tyOf d = some t) : TyX T.K H v (.type (tyName t)) := by
  cases d with
  | non => cases e; have h : v = .non := h; subst h; exact .base .non
  | bl k => cases e; have h : v = .bl k := h; subst h; exact .base (.bl k)
  | int i => cases e; have h : v = .int i := h; subst h; exact .base (.int i)
  | str s => cases e; have h : v = .str (mkS s) := h; subst h; exact .base (.str _)
  | lst xs =>
    cases e
    unfold DR at h
    obtain ⟨a, vs, rfl, s, _⟩ := h
    exact .base (.lst (gh _ _ s))
  | tup xs =>
    cases e
    unfold DR at h
    obtain ⟨a, vs, rfl, s, _⟩ := h
    exact .base (.tup (gh _ _ s))
  | tpl xs =>
    cases e
    unfold DR at h
    obtain ⟨a, o, vs, rfl, s, _⟩ := h
    exact .fTuple (gh _ _ s)
  | dic ks vs =>
    cases e
    unfold DR at h
    obtain ⟨a, kvs, rfl, s, _⟩ := h
    rcases s with s | ⟨o, s⟩
    · exact .base (.dK (gh _ _ s))
    · exact .fDict (gh _ _ s)
  | _ => cases e
/-- the type as a value of the machine -/
def typV (T : Th) : Sum Nat Nat → Value
  | .inl t => .type (tyName t)
  | .inr c => .ref (T.cl c)
def tyOk (cs : List Nat) : Sum Nat Nat → Prop
  | .inl t => t ∈ [0, 1, 2, 3, 4, 5, 7]
  | .inr c => c ∈ cs
theorem tyOf_mem {d : D} {t : Nat} (q : tyOf d = some t) : t ∈ [0, 1, 2, 3, 4, 5, 7] := by
  cases d with
  | _ => cases q <;> simp
theorem kind_ok {G H : Hp} {cs es : List Nat} {sub : Nat → Nat → Bool} (C : ClsI T cs es sub) (gh : ∀ a o, G a = some o → H a = some o) {d : D} {v : V} {t : Sum Nat Nat} (h : DR T G d v) (e : kindOf cs es d = some t) : TyE T.K H v (typV T t) ∧ tyOk (cs ++ es) t := by
  have base : (tyOf d).map Sum.inl = some t → TyE T.K H v (typV T t) ∧ tyOk (cs ++ es) t := fun e => by
    cases q : tyOf d with
    | none => rw [q] at e; cases e
    | some t' =>
      rw [q] at e
      cases e
      exact ⟨.inl (tyx_of gh h q), tyOf_mem q⟩
  cases d with
  | ins m fs =>
    have e : (if cs.contains m = true then some (Sum.inr m) else none) = some t := e
    split at e
    · rename_i hm
      cases e
      unfold DR at h
      obtain ⟨a, dx, vs, rfl, s, _⟩ := h
      have hm : m ∈ cs := List.contains_iff_mem.mp hm
      exact ⟨.inl (.base (C.ty m hm H a dx _ (gh _ _ s))), List.mem_append_left _ hm⟩
    · cases e
  | err m fs =>
    have e : (if es.contains m = true then some (Sum.inr m) else none) = some t := e
    split at e
    · rename_i hm
      cases e
      unfold DR at h
      obtain ⟨a, d, vs, rfl, s, s2, _⟩ := h
      have hm : m ∈ es := List.contains_iff_mem.mp hm
      exact ⟨.inr ⟨a, T.cl m, d, _, rfl, rfl, gh _ _ s, gh _ _ s2, C.er m hm⟩, List.mem_append_right _ hm⟩
    · cases e
  | _ => exact base e
theorem small5 {c : Nat} (h : c ≤ 5) : c ∈ [0, 1, 2, 3, 4, 5] := by
  have : c = 0 ∨ c = 1 ∨ c = 2 ∨ c = 3 ∨ c = 4 ∨ c = 5 := by omega
  rcases this with rfl | rfl | rfl | rfl | rfl | rfl <;> simp
/-- a class, its value of the machine, the answer -/
theorem kit_ok {G : Hp} {cs es : List Nat} {sub : Nat → Nat → Bool} (C : ClsI T cs es sub) {t : Sum Nat Nat} (ht : tyOk (cs ++ es) t) {c : D} {v : V} {k : Bool} (h : DR T G c v) (e : kitD (cs ++ es) sub t c = some k) : ∃ u, ClsV v u ∧ PySem.W.kitOne T.K (typV T t) u = some k := by
  cases c with
  | ty c =>
    have h : v = .ty (tyName c) := h
    subst h
    refine ⟨_, .ty _, ?_⟩
    cases t with
    | inl t =>
      have e : (if c ≤ 5 then some (isTy t c) else none) = some k := e
      split at e
      · rename_i hc
        cases e
        exact kit_ty (kit_all t ht c (small5 hc))
      · cases e
    | inr m =>
      have e : (if c ≤ 5 then some false else none) = some k := e
      split at e
      · rename_i hc
        cases e
        exact C.cty m ht c (small5 hc)
      · cases e
  | cls c =>
    have h : v = .ref (T.cl c) := h
    subst h
    refine ⟨_, .own _, ?_⟩
    cases t with
    | inl t =>
      have e : (if (cs ++ es).contains c = true then some false else none) = some k := e
      split at e
      · rename_i hc
        cases e
        exact C.tyc t ht c (List.contains_iff_mem.mp hc)
      · cases e
    | inr m =>
      have e : (if (cs ++ es).contains c = true then some (sub m c) else none) = some k := e
      split at e
      · rename_i hc
        cases e
        exact C.ccl m ht c (List.contains_iff_mem.mp hc)
      · cases e
  | _ => cases t <;> cases e
theorem kitL_ok {G : Hp} {cs es : List Nat} {sub : Nat → Nat → Bool} (C : ClsI T cs es sub) {t : Sum Nat Nat} (ht : tyOk (cs ++ es) t) : ∀ {l : List D} {vs : List V} {k : Bool}, DRs T G l vs → kitL (cs ++ es) sub t l = some k → (∀ d ∈ l, (∃ n, d = .ty n) ∨ ∃ n, d = .cls n) → ∃ us, Paired ClsV vs us ∧ PySem.W.kitAny T.K (typV T t) us = some k
  | [], _, k, h, e, _ => by
    obtain rfl := h.nil_inv
    cases e
    exact ⟨[], .nil, rfl⟩
  | c :: r, _, k, h, e, hd => by
    obtain ⟨v, vs, rfl, h1, h2⟩ := h.cons_inv
    have e : (match kitD (cs ++ es) sub t c with
      | some true => some true
      | some false => kitL (cs ++ es) sub t r
      | none => none) = some k := e
    -- the classes behind the one that answers
    have more : ∀ (l : List D) (vs : List V), DRs T G l vs → (∀ d ∈ l, (∃ n, d = .ty n) ∨ ∃ n, d = .cls n) → ∃ us, Paired ClsV vs us := fun l => by
      induction l with
      | nil => exact fun vs h _ => ⟨[], by rw [h.nil_inv]; exact .nil⟩
      | cons d l ih =>
        intro vs h hd
        obtain ⟨v, r, rfl, h1, h2⟩ := h.cons_inv
        obtain ⟨us, p⟩ := ih r h2 fun d m => hd d (List.mem_cons_of_mem _ m)
        rcases hd d List.mem_cons_self with ⟨n, rfl⟩ | ⟨n, rfl⟩
        · have h1 : v = .ty (tyName n) := h1
          subst h1
          exact ⟨_, .cons (.ty _) p⟩
        · have h1 : v = .ref (T.cl n) := h1
          subst h1
          exact ⟨_, .cons (.own _) p⟩
    cases q : kitD (cs ++ es) sub t c with
    | none => rw [q] at e; cases e
    | some k1 =>
      rw [q] at e
      obtain ⟨u, hu, ku⟩ := kit_ok C ht h1 q
      cases k1 with
      | true =>
        cases e
        obtain ⟨us, p⟩ := more r vs h2 fun d m => hd d (List.mem_cons_of_mem _ m)
        exact ⟨u :: us, .cons hu p, kitAny_cons ku (fun z => by cases z) fun _ => rfl⟩
      | false =>
        obtain ⟨us, p, ka⟩ := kitL_ok C ht h2 e fun d m => hd d (List.mem_cons_of_mem _ m)
        exact ⟨u :: us, .cons hu p, kitAny_cons ku (fun _ => ka) fun z => by cases z⟩
theorem allCls_ok : ∀ {l : List D}, allCls l = true → ∀ d ∈ l, (∃ n, d = .ty n) ∨ ∃ n, d = .cls n
  | [], _, d, h => by cases h
  | c :: r, e, d, h => by
    cases c with
    | ty n =>
      rcases List.mem_cons.mp h with rfl | h
      · exact .inl ⟨n, rfl⟩
      · exact allCls_ok (l := r) e d h
    | cls n =>
      rcases List.mem_cons.mp h with rfl | h
      · exact .inr ⟨n, rfl⟩
      · exact allCls_ok (l := r) e d h
    | _ => cases e
def rdIsi (K : PySem.W.Frag) : List V → Hp → VK → Prop := fun xs H Q => rIsi2 K xs H Q ∨ rIsiT2 K xs H Q
theorem call_isiD : CallR X (.builtin "isinstance") (rdIsi X.K) := call_is1.or call_is2
theorem v_isi {cs es : List Nat} {sub : Nat → Nat → Bool} (C : ClsI T cs es sub) : CallV T (rdIsi T.K) (isiD cs es sub) := by
  intro G H xs ds r Q hs gh hx q
  cases ds with
  | nil => cases hs
  | cons d ds =>
    cases ds with
    | nil => cases hs
    | cons c ds =>
      cases ds with
      | cons _ _ => cases c <;> cases hs
      | nil =>
        obtain ⟨v, vs, rfl, h1, h2⟩ := hx.cons_inv
        obtain ⟨u, us, rfl, h3, h4⟩ := h2.cons_inv
        obtain rfl := h4.nil_inv
        have one : (kindOf cs es d).bind (fun t => (kitD (cs ++ es) sub t c).map fun k => Slot.fr (.bl k)) = some r → rdIsi T.K [v, u] H Q := fun hs => by
          cases z : kindOf cs es d with
          | none => rw [z] at hs; cases hs
          | some t =>
            rw [z] at hs
            cases z2 : kitD (cs ++ es) sub t c with
            | none =>
              have hs : (kitD (cs ++ es) sub t c).map (fun k => Slot.fr (.bl k)) = some r := hs
              rw [z2] at hs; cases hs
            | some k =>
              have hs : (kitD (cs ++ es) sub t c).map (fun k => Slot.fr (.bl k)) = some r := hs
              rw [z2] at hs
              cases hs
              obtain ⟨ty, ok⟩ := kind_ok C gh h1 z
              obtain ⟨uu, cv, ka⟩ := kit_ok C ok h3 z2
              exact .inl ⟨v, u, _, uu, k, rfl, cv, ty, ka, same gh q rfl⟩
        cases c with
        | ty c => exact one hs
        | cls c => exact one hs
        | tup l =>
          have hs : (if allCls l = true then (kindOf cs es d).bind (fun t => (kitL (cs ++ es) sub t l).map fun k => Slot.fr (.bl k)) else none) = some r := hs
          split at hs
          · rename_i hal
            cases z : kindOf cs es d with
            | none => rw [z] at hs; cases hs
            | some t =>
              rw [z] at hs
              have hs : (kitL (cs ++ es) sub t l).map (fun k => Slot.fr (.bl k)) = some r := hs
              cases z2 : kitL (cs ++ es) sub t l with
              | none => rw [z2] at hs; cases hs
              | some k =>
                rw [z2] at hs
                cases hs
                obtain ⟨ty, ok⟩ := kind_ok C gh h1 z
                unfold DR at h3
                obtain ⟨a, cvs, rfl, sH, hcs⟩ := h3
                obtain ⟨uus, cv, ka⟩ := kitL_ok C ok hcs z2 (allCls_ok hal)
                exact .inr ⟨v, a, cvs, _, uus, k, rfl, gh _ _ sH, cv, ty, ka, same gh q rfl⟩
          · cases hs
        | _ => cases hs
end
end HK

/-! HKq: own exceptions whose __init__ says super().__init__(..). -/
namespace HK
open PySem PySem.Spec PySem.Calls PyProof.Rows L2

/-- names: parameters, the class, globals -/
structure IniS (ps : List Str) (sc : Scope) : Prop where
  kind : sc.kind = .function
  co : sc.isCoroutine = false
  gen : sc.isGenerator = false
  nd : ps.Nodup
  par : ∀ x ∈ ps, sc.names.lookup x = some .local
  cell : ∀ y ∈ sc.names, y.2 ≠ .cell
  free : ∀ y ∈ sc.names, y.2 = .free → y.1 = "__class__"
  vis : ∀ x, sc.names.lookup x = some .local → x ∈ ps
  sup : sc.names.lookup ("super" : Str) = some .globalImplicit
  cl : sc.names.lookup ("__class__" : Str) = some .free
def iniSB (ps : List Str) (sc : Scope) : Bool := decide (sc.kind = .function) && !sc.isCoroutine && !sc.isGenerator && decide ps.Nodup && ps.all (fun x => decide (sc.names.lookup x = some .local)) &&
  sc.names.all (fun y => !decide (y.2 = .cell) && (!decide (y.2 = .free) || decide (y.1 = "__class__")) && (!decide (y.2 = .local) || ps.contains y.1)) && decide (sc.names.lookup ("super" : Str) = some .globalImplicit) && decide (sc.names.lookup ("__class__" : Str) = some .free)
theorem iniSB_ok {ps : List Str} {sc : Scope} (h : iniSB ps sc = true) : IniS ps sc := by
  unfold iniSB at h
  simp only [Bool.and_eq_true, decide_eq_true_eq, Bool.not_eq_true', List.all_eq_true, Bool.or_eq_true, decide_eq_false_iff_not] at h
  obtain ⟨⟨⟨⟨⟨⟨⟨h1, h2⟩, h3⟩, h4⟩, h5⟩, h6⟩, h7⟩, h8⟩ := h
  refine ⟨h1, h2, h3, h4, h5, fun y hy => (h6 y hy).1.1, fun y hy e => ?_, fun x hx => ?_, h7, h8⟩
  · rcases (h6 y hy).1.2 with z | z
    · exact absurd e z
    · exact z
  · rcases (h6 (x, .local) (PySem.mem_of_lookup hx)).2 with z | z
    · exact absurd rfl z
    · exact List.contains_iff_mem.mp z

section
variable {P : Program} {w : World} {K : PySem.W.Frag} {mg : Str → Option Value} {base : Heap} {ps : List Str} {qual : Str} {scope : Scope} {f cc cda : Addr} {A : Around} {outer : List Env} {s : Shared} {H : Hp} {E : XK}
abbrev iniEnv (qual : Str) (scope : Scope) (L f cda cc : Addr) : Env := PySem.W.ksEnv qual scope L f (.ref cda) cc
def iniCx (P : Program) (w : World) (K : PySem.W.Frag) (mg : Str → Option Value) (base : Heap) (ps : List Str) (qual : Str) (scope : Scope) (f cda cc : Addr) (A : Around) (outer : List Env) (s : Shared) (H : Hp) (E : XK) : Cx where
  prog := P
  w := w
  K := K
  mg := mg
  base := base
  A := A.deeper (iniEnv qual scope s.heap.objs.size f cda cc)
  N := ps
  s_0 := s
  H_0 := H
  env := iniEnv qual scope s.heap.objs.size f cda cc
  outer := outer
  stack := iniEnv qual scope s.heap.objs.size f cda cc :: outer
  ex := []
  fn := fun _ => false
  calm := true
  pn := []
  xe := fun e s' => wpAny (model P w) (A.deeper (iniEnv qual scope s.heap.objs.size f cda cc)) (leaving (iniEnv qual scope s.heap.objs.size f cda cc) e) (fun _ s'' => L2.CX P w outer H s E e s'') (fun e' s'' => L2.CX P w outer H s E e' s'') s'
theorem zip_look : ∀ {ps : List Str} {us : List Value} {i : Nat} {y : Str} {u : Value}, ps.Nodup → ps[i]? = some y → us[i]? = some u → (ps.zip us).reverse.lookup y = some u
  | [], _, _, _, _, _, h, _ => by simp at h
  | p :: ps, [], _, _, _, _, _, h => by simp at h
  | p :: ps, v :: us, 0, y, u, nd, h1, h2 => by
    simp at h1 h2
    subst h1
    subst h2
    rw [List.zip_cons_cons, List.reverse_cons, List.lookup_append]
    have : (ps.zip us).reverse.lookup p = none := by
      rw [List.lookup_eq_none_iff]
      intro q hq
      have hq := List.mem_reverse.mp hq
      have hm := (List.of_mem_zip (a := q.1) (b := q.2) hq).1
      have := (List.nodup_cons.mp nd).1
      simp only [bne_iff_ne, ne_eq, beq_eq_false_iff_ne]
      intro z
      rw [z] at this
      exact this hm
    rw [this]
    simp [List.lookup]
  | p :: ps, v :: us, i + 1, y, u, nd, h1, h2 => by
    rw [List.zip_cons_cons, List.reverse_cons, List.lookup_append, zip_look (i := i) (List.nodup_cons.mp nd).2 (by simpa using h1) (by simpa using h2)]
    rfl
theorem ini_start (S : IniS ps scope) (hd : A.handled = none) (e0 : Env0 P w K mg base A outer s H) {vs : List V} {us : List Value} (r : Vals vs us) (hl : vs.length = ps.length) {D : Addr} {cl : Value} {cld : Option Addr} {csl : Array (Option Value)}
    (hcell : K.lookup cc = some ⟨cl, cld, .cell (some (.ref D)), csl⟩) {h₁ : Heap} {tk : Nat} (hns : h₁.Ns s.heap.objs.size fun y => (ps.zip us).reverse.lookup y) (kp : ∀ b o, s.heap.get? b = some o → h₁.get? b = some o) :
    Inv (iniCx P w K mg base ps qual scope f cda cc A outer s H E) [] (vs.map some) H { s with heap := h₁, toks := tk } := by
  have noA : ∀ b : Addr, b ∉ (iniCx P w K mg base ps qual scope f cda cc A outer s H E).ex := fun b z => absurd (show b ∈ ([] : List Addr) from z) (by simp)
  have cells : ∀ {y c}, (iniCx P w K mg base ps qual scope f cda cc A outer s H E).env.cells.lookup y = some c → y = "__class__" ∧ c = cc := fun {y c} h => by
    have h : ([(("__class__" : Str), cc)] : List (Str × Addr)).lookup y = some c := h
    simp only [List.lookup] at h
    split at h
    · rename_i z
      exact ⟨by simpa using z, (Option.some.inj h).symm⟩
    · cases h
  have bc : base.get? cc = some ⟨cl, cld, .cell (some (.ref D)), csl⟩ := e0.mod.kin _ _ hcell
  refine ⟨⟨e0.mod, S.kind, rfl, rfl, Nat.le_refl _, fun y z c h1 h2 => (cells h1).1.trans (cells h2).1.symm, fun y hy => ?_, fun y c z _ => ?_, fun _ => hd, Around.frames_deeper e0.frames, .inr ⟨rfl, rfl⟩, fun b z => absurd z (noA b), e0.bs, e0.bsz, fun b _ _ => noA b, fun b z => absurd z (noA b), e0.funs, e0.frf⟩,
    rfl, e0.bare, Un.kept kp, ⟨_, hns, fun i y v h1 h2 h3 => ?_⟩, fun y c h => ?_, e0.hok.fresh (Nat.le_refl _), fun y c h => ?_, fun p hp => absurd (show p ∈ ([] : List (Addr × Obj)) from hp) (by simp), e0.hok.kept kp, ?_⟩
  · have hy : scope.names.lookup y = some .cell ∨ scope.names.lookup y = some .free := hy
    rcases hy with hy | hy
    · exact absurd rfl (S.cell _ (PySem.mem_of_lookup hy))
    · have z := S.free _ (PySem.mem_of_lookup hy) rfl
      exact ⟨cc, by rw [show y = "__class__" from z]; rfl⟩
  · have z : false = true := z
    cases z
  · have h1 : ps[i]? = some y := h1
    have hv : vs[i]? = some v := by
      rw [List.getElem?_map] at h2
      cases e : vs[i]? with
      | none => rw [e] at h2; cases h2
      | some a => rw [e] at h2; cases h2; rfl
    obtain ⟨u, hu, rv⟩ := r.get hv
    exact ⟨u, rv, .inl ⟨S.par y (List.mem_of_getElem? h1), zip_look S.nd h1 hu⟩⟩
  · obtain ⟨_, rfl⟩ := cells h
    exact ⟨_, _, kp _ _ (e0.bs _ _ bc).1, rfl⟩
  · obtain ⟨_, rfl⟩ := cells h
    exact (e0.bs _ _ bc).2
  · show (vs.map some).length = ps.length
    rw [List.length_map]
    exact hl
end
section
variable {X : Cx} {pins : List (Addr × Obj)} {σ : L2.St} {H : Hp} {s : Shared} {a u C : Addr} {E : Value → Shared → Prop} {A : Around}
/-- the built-in __init__ bound to the exception, called -/
theorem minit_ok {us : List Value} {Q : Value → Shared → Prop} (T : OexC X.K C) (I : Inv X pins σ H s) (hu : s.heap.get? u = some (PySem.W.kxs_mw "ValueError.__init__" a)) (e : H a = some (exo a C none)) (hl : us.length ≤ sizeLine) (h : ∀ s', Inv X pins σ H s' → Q .none s') :
    wpAny (model X.prog X.w) A (call (.ref u) us) Q E s := by
  obtain ⟨nm, q, N, bs, bm, sn, sub, ab, col, dd, k0, k1, k2, k3, k5, hC, hbm⟩ := T.cls
  have hC := I.kIn _ _ hC
  obtain ⟨t1, ho⟩ := exo_at I.hok e
  obtain ⟨hp, g, d, t, os⟩ := s
  refine wpAny_call (codeAny_of_tree ?_)
  show wpAny _ A.in1 (callAny (.ref u) ⟨us, []⟩) _ _ _
  simp only [callAny]
  refine wpAny_bind (wpAny_load hu ?_)
  simp only [PySem.W.kxs_mw, show (Value.type "method-wrapper" == Value.type "method" || Value.type "method-wrapper" == Value.type "builtin_function_or_method" || Value.type "method-wrapper" == Value.type "method-wrapper") = true by decide, if_true]
  refine PySem.W.KFB.if_so (by decide) ?_
  refine wpAny_bind (PySem.W.check_bound_init F.excBase_ValueError.toExcCallFacts hC ho rfl ?_)
  refine wpAny_bind (wpAny_pure (wpAny_pure ?_))
  refine ⟨plainId_quiet F.excBase_ValueError.init.plain _, codeAny_builtin F.excBase_ValueError.initEntry ?_⟩
  refine PySem.W.exc_init_tree (cls := .ref C) (t0 := t1) (dv := none) (c2 := .none) (c3 := .none) (b4 := .bool false) ho hl fun h' k hx _ => ?_
  have J := I.write (t' := t) (x := a) (e := a) (o := exo a C none) (by rw [e]; exact True.intro) (.inl rfl) k ⟨_, hx⟩ (exo_ok hx)
  have eu : upd H a (exo a C none) = H := by
    funext b
    by_cases hb : b = a
    · rw [hb, upd_same, e]
    · rw [upd_ne hb]
  rw [eu] at J
  exact h _ J
end
section
variable {P : Program} {w : World} {K : PySem.W.Frag} {mg : Str → Option Value} {base : Heap} {ps : List Str} {name qual : Str} {params : Arguments} {body rest : List Stmt} {scope : Scope} {dV kV doc pm ct : Value} {an : Option Addr} {f cc cda D : Addr} {k : Nat}
/-- the facts of an __init__ of an own exception class D: ValueError's is the next one -/
structure IniF (P : Program) (K : PySem.W.Frag) (mg : Str → Option Value) (ps : List Str) (name qual : Str) (params : Arguments) (body : List Stmt) (scope : Scope) (dV kV doc pm ct : Value) (an : Option Addr) (f cc cda D : Addr) : Prop where
  sc : IniS ps scope
  fn : ∃ oc od osl, K.lookup f = some ⟨oc, od, .func (PySem.W.ksFn name qual params body scope dV kV doc pm an (.ref cda) ct cc), osl⟩
  code : PySem.W.codeIn K (.ref cda) qual = true
  file : ∃ ccl cdd vs ccs file tf, K.lookup cda = some ⟨ccl, cdd, .fields vs, ccs⟩ ∧ vs[2]? = some (.str file tf) ∧ ((P.main.file : Str) == file) = true
  cell : ∃ cl cld csl, K.lookup cc = some ⟨cl, cld, .cell (some (.ref D)), csl⟩
  self : (params.posonlyargs ++ params.args).head?.map (·.arg) = ps.head?
  cls : (PySem.W.clsIn K D).isSome = true
  mro : PySem.W.mroIn K D (.ref D) = some true
  sup : PySem.W.ks_superIn K D D "__init__" = some (some (.builtin "ValueError.__init__"))
  subV : PySem.W.subIn K (.ref D) (.type "ValueError") = some true
  opq : PySem.W.nsIn K cStatics "thirdparty.any" = some none
  nsup : mg "super" = none
  top : (P.main.scope.names.lookup ("super" : Str)).isSome = false
theorem ini_ok (F : IniF P K mg ps name qual params body scope dV kV doc pm ct an f cc cda D) {e : Expr} {es : List Expr} {p0 p1 p2 p3 p4 : Pos} (hb : body = .Expr (.Call (.Attribute (.Call (.Name "super" p0) [] [] p1) "__init__" p2) (e :: es) [] p3) p4 :: rest) {ta : TA} {tr : TS}
    (O : OexC K D)
    (ha : ∀ (A : Around) (outer : List Env) (s : Shared) (H : Hp) (E : XK), PA (iniCx P w K mg base ps qual scope f cda cc A outer s H E) (e :: es) ta)
    (hr : ∀ (A : Around) (outer : List Env) (s : Shared) (H : Hp) (E : XK), PSs (iniCx P w K mg base ps qual scope f cda cc A outer s H E) rest tr)
    (he : ∀ (A : Around) (outer : List Env) (s : Shared) (H : Hp) (E : XK), starEach (e :: es) (iniCx P w K mg base ps qual scope f cda cc A outer s H E).env = (false, eval e (iniCx P w K mg base ps qual scope f cda cc A outer s H E).env) :: starEach es (iniCx P w K mg base ps qual scope f cda cc A outer s H E).env)
    (hpl : ∀ (A : Around) (outer : List Env) (s : Shared) (H : Hp) (E : XK), (backTo p3 (starEach es (iniCx P w K mg base ps qual scope f cda cc A outer s H E).env)).any (·.1) = false)
    (hm : ∀ (A : Around) (outer : List Env) (s : Shared) (H : Hp) (E : XK), ∃ pl, eval (.Call (.Attribute (.Call (.Name "super" p0) [] [] p1) "__init__" p2) (e :: es) [] p3) (iniCx P w K mg base ps qual scope f cda cc A outer s H E).env = (do
      let ov ← attributeBase (.Call (.Name "super" p0) [] [] p1) "__init__" (iniCx P w K mg base ps qual scope f cda cc A outer s H E).env (eval (.Call (.Name "super" p0) [] [] p1) (iniCx P w K mg base ps qual scope f cda cc A outer s H E).env)
      standAt p2.atName
      let (g, first) ← holding [ov] (getMethod ov "__init__" pl)
      callWith p3 g first (backTo p3 (starEach (e :: es) (iniCx P w K mg base ps qual scope f cda cc A outer s H E).env)) []))
    (hsw : ∀ (A : Around) (outer : List Env) (s : Shared) (H : Hp) (E : XK), swapsWith (.Call (.Attribute (.Call (.Name "super" p0) [] [] p1) "__init__" p2) (e :: es) [] p3) none p4.line (iniCx P w K mg base ps qual scope f cda cc A outer s H E).env = pure false)
    (hint : ∀ (A : Around) (outer : List Env) (s : Shared) (H : Hp) (E : XK), interactive (iniCx P w K mg base ps qual scope f cda cc A outer s H E).env = false) :
    FnOk P w K mg base (L2.CX P w) (k + 1) f (PySem.W.ksFn name qual params body scope dV kV doc pm an (.ref cda) ct cc) ps (fun vs H Q E => vs.length = ps.length ∧ ∃ a ws, vs = .ref a :: ws ∧ H a = some (exo a D none) ∧
      ta (vs.map some) H fun us H1 => us.length ≤ 1000 ∧ H1 a = some (exo a D none) ∧ tr { nx := fun _ H' => Q .non H', rt := Q } (vs.map some) H1) := by
  refine ⟨fun vs H Q E h => h.1, fun A outer s H args us vs Q E rm e0 hbind rv hsp => ?_⟩
  obtain ⟨hl, a, ws, rfl, hea, hq⟩ := hsp
  obtain ⟨oc, od, osl, hfn⟩ := F.fn
  obtain ⟨ccl, cdd, cvs, ccs, file, tf, hcode, hvs, hfile⟩ := F.file
  obtain ⟨cl, cld, csl, hcell⟩ := F.cell
  have KX : K.In s.heap := e0.mod.kin.keeps fun b o e => (e0.bs b o e).1
  have lim : s.heap.NoLimit := e0.mod.nolimit.keeps fun b o e => (e0.bs b o e).1
  subst hb
  refine ks_codeAny_call_defAt (binds := ps.zip us) rm.depth (KX _ _ hfn) rfl lim (PySem.W.codeRec_of KX F.code) rfl hbind F.sc.cell (fun y hy => F.sc.par _ (List.of_mem_zip (a := y.1) (b := y.2) hy).1) (fun h₁ hns kp => ?_) F.sc.co F.sc.gen F.sc.kind
  have I := ini_start (E := E) (f := f) (cda := cda) (qual := qual) (tk := s.toks + (ps.zip us).length) F.sc rm.hd e0 rv hl hcell hns kp
  have KX1 : K.In h₁ := KX.keeps kp
  obtain ⟨mb, hb1, hb2⟩ := e0.mod.blt
  obtain ⟨cd, hcd⟩ := Option.isSome_iff_exists.mp F.cls
  obtain ⟨oD, hD1, hD2⟩ : ∃ oD, h₁.get? D = some oD ∧ oD.data = .cls cd := by
    unfold PySem.W.clsIn at hcd
    split at hcd
    · rename_i c d cd' sl ho
      cases hcd
      exact ⟨_, KX1 _ _ ho, rfl⟩
    · cases hcd
  obtain ⟨t1, hx⟩ := exo_at I.hok hea
  obtain ⟨pl, hpe⟩ := hm A outer s H E
  have hself := F.self
  obtain ⟨ar, har⟩ : ∃ ar, (params.posonlyargs ++ params.args).head? = some ar := by
    cases z : (params.posonlyargs ++ params.args).head? with
    | some ar => exact ⟨ar, rfl⟩
    | none =>
      rw [z] at hself
      cases ps with
      | nil => cases hl
      | cons _ _ => cases hself
  rw [har] at hself
  have hp0 : ps[0]? = some ar.arg := by
    rw [← List.head?_eq_getElem?]
    exact hself.symm
  cases rv with
  | @cons _ u0 _ ur r0 rv' =>
  obtain rfl : u0 = Value.ref a := r0
  have hv0 : (ps.zip (Value.ref a :: ur)).reverse.lookup ar.arg = some (.ref a) := zip_look (i := 0) F.sc.nd hp0 rfl
  refine ks_wpAt_execs_cons (ks_wpAt_Expr_any (ks_wpAt_MethodCall ?_ hpe) (hint A outer s H E) (hsw A outer s H E))
  refine ks_wpAt_super_base F.sc.sup F.sc.cl (by decide) rfl (KX1 _ _ hfn) rfl har rfl (KX1 _ _ hcode) rfl hvs hfile F.top ?_
  have G := e0.mod.glob.keeps fun b o e => kp b o (e0.bs b o e).1
  have B := hb1.keeps fun b o e => kp b o (e0.bs b o e).1
  refine PySem.W.ks_loadName_global F.sc.kind F.sc.sup (Calls.loadGlobal_builtin G F.nsup B ((hb2 _ (by decide)).trans (by kernel_rfl)) ⟨rfl, ?_⟩)
  refine wpAny_loadName_free F.sc.kind F.sc.cl rfl ⟨_, KX1 _ _ hcell, rfl⟩ ?_
  refine wpAny_loadName_local F.sc.kind (F.sc.par _ (List.mem_of_getElem? hp0)) hns hv0 ?_
  refine ks_wpAny_isType_cls hD1 hD2 ⟨rfl, ?_⟩
  refine ks_wpAny_call_super hD1 hD2 hx rfl (fun c e => by cases e) (PySem.W.looks_mroIn KX1 F.mro) (fun h2 hso k2 => ?_)
  have KX2 : K.In h2 := KX1.keeps k2
  have hx2 := k2 _ _ hx
  have isV : PySem.W.Looks (model P w) h2 (isInstance (.ref a) (.type "ValueError")) true := by
    have J : PySem.W.InstAt h2 a _ D none := ⟨hx2, rfl, rfl, trivial⟩
    exact J.type.andThen (PySem.W.looks_subIn KX2 F.subV)
  have hsup := F.sup
  unfold PySem.W.ks_superIn at hsup
  rw [hcd] at hsup
  have haD : a ≠ D := fun z => by
    have y := (Option.some.inj (hx.symm.trans (z ▸ hD1)))
    rw [← y] at hD2
    cases hD2
  refine PySem.W.kxs_getMethod PySem.W.kxs_ValueError hso (PySem.W.looks_opaque KX2 F.opq) (l₀ := cd.mro) ?_ rfl KX2 hsup isV haD (by decide) ?_
  · exact fun A Q E s k q => wpAny_bind ((PySem.W.looks_clsIn KX2 hcd) A _ E s k (wpAny_pure q))
  have I1 := I.kept (t' := s.toks + (ps.zip (Value.ref a :: ur)).length) k2
  have kp3 : ∀ b o, h2.get? b = some o → (h2.push (PySem.W.kxs_mw "ValueError.__init__" a)).get? b = some o := fun b o e => Heap.get?_push_of_some _ e
  have nu : H h2.objs.size = none := I1.hok.fresh (Nat.le_refl _)
  have lu : h2.objs.size ≠ (iniCx P w K mg base ps qual scope f cda cc A outer s H E).env.locals := Nat.ne_of_gt I1.lt
  have fu : h2.objs.size ∉ (iniCx P w K mg base ps qual scope f cda cc A outer s H E).fs := I1.nofs (Nat.le_refl _)
  have hgu : (h2.push (PySem.W.kxs_mw "ValueError.__init__" a)).get? h2.objs.size = some (PySem.W.kxs_mw "ValueError.__init__" a) := Heap.get?_push_size _ rfl
  have I2 := (I1.kept (t' := s.toks + (ps.zip (Value.ref a :: ur)).length + 1) kp3).pins_of (pins' := [(h2.objs.size, PySem.W.kxs_mw "ValueError.__init__" a)]) fun p hp => by
    rcases List.mem_singleton.mp hp with rfl
    exact ⟨hgu, nu, lu, fu, fun v z => by cases z⟩
  have run := (ha A outer s H E).run p3 _ _ _ H _ I2 hq
  have hea' := he A outer s H E
  show wpAny _ _ (callWith p3 (.ref h2.objs.size) [] (backTo p3 (starEach (e :: es) (iniCx P w K mg base ps qual scope f cda cc A outer s H E).env)) []) _ _ _
  rw [hea'] at run ⊢
  refine PySem.W.kxs_callWith (i := "ValueError.__init__") (x := a) (by show (false || (backTo p3 (starEach es (iniCx P w K mg base ps qual scope f cda cc A outer s H E).env)).any (·.1)) = false; rw [hpl]; rfl) ?_
  refine evalArgs_plain (thn run fun us s2 ⟨vs2, H1, I4, r4, hlen, hea1, htr⟩ => ?_)
  have at2 := (I4.pin (h2.objs.size, PySem.W.kxs_mw "ValueError.__init__" a) (List.mem_append_right _ (List.mem_singleton.mpr rfl))).1
  refine ⟨at2, ?_⟩
  refine minit_ok O I4 at2 hea1 (by show us.length ≤ _; rw [← r4.length, sizeLine_eq]; omega) fun s' I5 => ?_
  refine wpAt_of_wpAny (wpAny_mono ((hr A outer s H E).run _ s' _ _ _ I5 htr) (fun fl s' hs => ?_) fun e s' hs => hs)
  cases fl with
  | ret u =>
    obtain ⟨v, σ', H', J, rv, q⟩ := hs
    exact ⟨v, H', J.os, J.bare, J.base, J.hok, rv, q⟩
  | next =>
    obtain ⟨σ', H', J, q⟩ := hs
    exact ⟨.non, H', J.os, J.bare, J.base, J.hok, rfl, q⟩
  | brk =>
    obtain ⟨_, _, _, q⟩ := hs
    exact False.elim q
  | cont =>
    obtain ⟨_, _, _, q⟩ := hs
    exact False.elim q
end
end HK

/-! HKr: own exceptions made, raised. -/
namespace HK
open PySem PySem.Spec PySem.Calls PyProof.Rows L2
/-- the promise of such an __init__ -/
def SpI (C : Addr) (gs : List Str) : Sp := fun vs H Q E => ∃ a ws, vs = .ref a :: ws ∧ ws.length = gs.length ∧ H a = some (exo a C none) ∧ ∀ dx, H dx = none → dx ≠ a → Q .non (upd (upd H dx (exd dx (gs.zip ws.reverse))) a (exo a C (some dx)))
section
variable {P : Program} {w : World} {K : PySem.W.Frag} {mg : Str → Option Value} {base : Heap} {ps : List Str} {name qual : Str} {params : Arguments} {body rest : List Stmt} {scope : Scope} {dV kV doc pm ct : Value} {an : Option Addr} {f cc cda D : Addr} {k : Nat}
  {x0 x1 x2 g1 g2 : Str} {p0 p1 p2 p3 p4 p5 p6 p7 p8 p9 q5 q6 q7 q8 q9 : Pos}
theorem int_of {env : Env} (h : env.scope.kind = .function) : interactive env = false := by
  unfold interactive
  rw [h]
  rfl
theorem ini1 (F : IniF P K mg [x0, x1] name qual params body scope dV kV doc pm ct an f cc cda D) (O : OexC K D)
    (hb : body = [.Expr (.Call (.Attribute (.Call (.Name "super" p0) [] [] p1) "__init__" p2) [.Name x1 p5] [] p3) p4, .Assign [.Attribute (.Name x0 p6) g1 p7] (.Name x1 p8) p9])
    (hm : ∀ env : Env, ∃ pl, eval (.Call (.Attribute (.Call (.Name "super" p0) [] [] p1) "__init__" p2) [.Name x1 p5] [] p3) env = (do
      let ov ← attributeBase (.Call (.Name "super" p0) [] [] p1) "__init__" env (eval (.Call (.Name "super" p0) [] [] p1) env)
      standAt p2.atName
      let (g, first) ← holding [ov] (getMethod ov "__init__" pl)
      callWith p3 g first (backTo p3 (starEach [.Name x1 p5] env)) []))
    (s1 : ∀ env : Env, swapsWith (.Name x1 p8) (some (.Attribute (.Name x0 p6) g1 p7)) p9.line env = pure false)
    (h1 : PySem.W.findIn K (.ref D) g1 = some none) (d0 : (x0 == ("__debug__" : Str)) = false := by decide) (d1 : (x1 == ("__debug__" : Str)) = false := by decide) (c0 : (x0 == ("__classdict__" : Str)) = false := by decide) (c1 : (x1 == ("__classdict__" : Str)) = false := by decide) :
    FnOk P w K mg base (L2.CX P w) (k + 1) f (PySem.W.ksFn name qual params body scope dV kV doc pm an (.ref cda) ct cc) [x0, x1] (SpI D [g1]) := by
  have v0 : Vis scope x0 := .inl (F.sc.par x0 (by simp))
  have v1 : Vis scope x1 := .inl (F.sc.par x1 (by simp))
  refine FnOk.imp (ini_ok (w := w) (base := base) (k := k) (ta := tCons (tVar 1) tNil) (tr := tOst K g1 (tVar 0) (tVar 1)) F hb O (fun A outer s H E => pa_cons (pe_var (i := 1) rfl v1 d1 c1) pa_nil) (fun A outer s H E => pss_one (ps_ost (pe_var (i := 0) rfl v0 d0 c0) (pe_var (i := 1) rfl v1 d1 c1) (s1 _)))
    (fun _ _ _ _ _ => rfl) (fun _ _ _ _ _ => rfl) (fun _ _ _ _ _ => hm _) (fun _ _ _ _ _ => rfl) (fun _ _ _ _ _ => int_of F.sc.kind)) fun vs H Q E ⟨a, ws, e, hl, ha, q⟩ => ?_
  subst e
  match ws, hl with
  | [y1], _ =>
    refine ⟨rfl, a, [y1], rfl, ha, y1, rfl, by simp, ha, y1, rfl, .ref a, rfl, a, D, rfl, O, h1, .inl ⟨ha, fun dx n ne => ?_⟩⟩
    exact q dx n ne
theorem ini2 (F : IniF P K mg [x0, x1, x2] name qual params body scope dV kV doc pm ct an f cc cda D) (O : OexC K D)
    (hb : body = [.Expr (.Call (.Attribute (.Call (.Name "super" p0) [] [] p1) "__init__" p2) [.Name x1 p5, .Name x2 q5] [] p3) p4, .Assign [.Attribute (.Name x0 p6) g1 p7] (.Name x1 p8) p9, .Assign [.Attribute (.Name x0 q6) g2 q7] (.Name x2 q8) q9])
    (hm : ∀ env : Env, ∃ pl, eval (.Call (.Attribute (.Call (.Name "super" p0) [] [] p1) "__init__" p2) [.Name x1 p5, .Name x2 q5] [] p3) env = (do
      let ov ← attributeBase (.Call (.Name "super" p0) [] [] p1) "__init__" env (eval (.Call (.Name "super" p0) [] [] p1) env)
      standAt p2.atName
      let (g, first) ← holding [ov] (getMethod ov "__init__" pl)
      callWith p3 g first (backTo p3 (starEach [.Name x1 p5, .Name x2 q5] env)) []))
    (s1 : ∀ env : Env, swapsWith (.Name x1 p8) (some (.Attribute (.Name x0 p6) g1 p7)) p9.line env = pure false) (s2 : ∀ env : Env, swapsWith (.Name x2 q8) (some (.Attribute (.Name x0 q6) g2 q7)) q9.line env = pure false)
    (h1 : PySem.W.findIn K (.ref D) g1 = some none) (h2 : PySem.W.findIn K (.ref D) g2 = some none) (d0 : (x0 == ("__debug__" : Str)) = false := by decide) (d1 : (x1 == ("__debug__" : Str)) = false := by decide) (d2 : (x2 == ("__debug__" : Str)) = false := by decide)
    (c0 : (x0 == ("__classdict__" : Str)) = false := by decide) (c1 : (x1 == ("__classdict__" : Str)) = false := by decide) (c2 : (x2 == ("__classdict__" : Str)) = false := by decide) :
    FnOk P w K mg base (L2.CX P w) (k + 1) f (PySem.W.ksFn name qual params body scope dV kV doc pm an (.ref cda) ct cc) [x0, x1, x2] (SpI D [g2, g1]) := by
  have v0 : Vis scope x0 := .inl (F.sc.par x0 (by simp))
  have v1 : Vis scope x1 := .inl (F.sc.par x1 (by simp))
  have v2 : Vis scope x2 := .inl (F.sc.par x2 (by simp))
  refine FnOk.imp (ini_ok (w := w) (base := base) (k := k) (ta := tCons (tVar 1) (tCons (tVar 2) tNil)) (tr := tSeq (tOst K g1 (tVar 0) (tVar 1)) (tOst K g2 (tVar 0) (tVar 2))) F hb O (fun A outer s H E => pa_cons (pe_var (i := 1) rfl v1 d1 c1) (pa_cons (pe_var (i := 2) rfl v2 d2 c2) pa_nil))
    (fun A outer s H E => pss_cons (ps_ost (pe_var (i := 0) rfl v0 d0 c0) (pe_var (i := 1) rfl v1 d1 c1) (s1 _)) (pss_one (ps_ost (pe_var (i := 0) rfl v0 d0 c0) (pe_var (i := 2) rfl v2 d2 c2) (s2 _))))
    (fun _ _ _ _ _ => rfl) (fun _ _ _ _ _ => rfl) (fun _ _ _ _ _ => hm _) (fun _ _ _ _ _ => rfl) (fun _ _ _ _ _ => int_of F.sc.kind)) fun vs H Q E ⟨a, ws, e, hl, ha, q⟩ => ?_
  subst e
  match ws, hl with
  | [y1, y2], _ =>
    refine ⟨rfl, a, [y1, y2], rfl, ha, y1, rfl, y2, rfl, by simp, ha, y1, rfl, .ref a, rfl, a, D, rfl, O, h1, .inl ⟨ha, fun dx n ne => ?_⟩⟩
    refine ⟨y2, rfl, .ref a, rfl, a, D, rfl, O, h2, .inr ⟨dx, [(g1, y1)], upd_same, ?_, by simp, ?_⟩⟩
    · rw [upd_ne ne, upd_same]
    · have z := q dx n ne
      have : upd (upd (upd H dx (exd dx [(g1, y1)])) a (exo a D (some dx))) dx (exd dx [(g2, y2), (g1, y1)]) = upd (upd H dx (exd dx [(g2, y2), (g1, y1)])) a (exo a D (some dx)) := by
        funext b
        by_cases hb : b = dx
        · subst hb
          rw [upd_same, upd_ne ne, upd_same]
        · rw [upd_ne hb]
          by_cases hb2 : b = a
          · subst hb2
            rw [upd_same, upd_same]
          · rw [upd_ne hb2, upd_ne hb2, upd_ne hb, upd_ne hb]
      show Q .non _
      rw [this]
      exact z
end

/-! ### raise C(..) -/
/-- what is known of an own exception class, number c: its __init__ at fI -/
structure ExC (T : Th) (P : Program) (w : World) (mg : Str → Option Value) (base : Heap) (c : Nat) (fI : Addr) (fd : FuncData) (ps : List Str) (k : Nat) : Prop where
  O : OexC T.K (T.cl c)
  iC : PySem.W.findIn T.K (.ref (T.cl c)) "__init__" = some (some (.ref fI))
  tI : PySem.W.typeIn T.K (.ref fI) = some (.type "function")
  F : FnOk P w T.K mg base (L2.CX P w) k fI fd ps (SpI (T.cl c) (T.fn c))
  B : L2.Binds T.K fd ps []
section
variable {X : Cx} {T : Th} {b : Bs} {E : XK} {n k : Nat} {pos p p' : Pos} {e : Expr} {es : List Expr} {fr : AX} {fI : Addr} {fd : FuncData} {ps : List Str} {x : Str} {c : Nat}
def sRs (c m : Nat) (fa : AX) : SX := fun env w => (fa env w).bind fun ds _ w => if ds.length = m then .ex ⟨c, ds.reverse⟩ w else .no
theorem DRs.reverse : ∀ {G : Hp} {ds : List D} {vs : List V}, DRs T G ds vs → DRs T G ds.reverse vs.reverse
  | _, [], _, h => by rw [h.nil_inv]; exact .nil
  | _, d :: ds, _, h => by
    obtain ⟨v, r, rfl, h1, h2⟩ := h.cons_inv
    rw [List.reverse_cons, List.reverse_cons]
    exact (DRs.reverse h2).append (.one h1)
theorem mk_xend {g : Gh} {env : List Slot} {w : Pen} {σ : L2.St} {H : Hp} {ds : List D} {vs : List V} {dx : Addr} (R : RS T b g env w σ H) (q : DRs T g.G ds vs) (hl : ds.length = (T.fn c).length) (n : H dx = none) (h : XEnd T b E ⟨c, ds.reverse⟩ w) :
    E (.ref (T.cl c)) (some dx) (upd H dx (.xd ((T.fn c).zip vs.reverse))) := by
  have A : Alloc g.G H g.G (upd H dx (.xd ((T.fn c).zip vs.reverse))) := Alloc.new1 R.kept.gh n
  refine h g.G _ _ _ (R.alloc A).kept ⟨rfl, dx, vs.reverse, rfl, upd_same, ?_, q.reverse⟩
  rw [List.length_reverse, q.length, hl]
theorem sraise (cx : CO X T E n) (C : ExC T X.prog X.w X.mg X.base c fI fd ps k) (hk : k + 1 ≤ n) (hm : X.mg x = some (.ref (T.cl c))) (hsm : (T.fn c).length ≤ 1000) (ha : PA X (e :: es) (tAx T b E fr)) (hg : Gl X x := by rfl)
    (hdb : (x == ("__debug__" : Str)) = false := by decide) (he : starEach (e :: es) X.env = (false, eval e X.env) :: starEach es X.env := by rfl) (hpl : (backTo pos (starEach es X.env)).any (·.1) = false := by rfl) :
    PS X (.Raise (some (.Call (.Name x p) (e :: es) [] pos)) none p') (tSt T b E (sRs c (T.fn c).length fr)) := by
  have hK := cx.K
  refine (ps_raise cx.calm cx.tk (pmk_oex (dvs := []) (ds := []) (by rw [hK]; exact C.O) (by rw [hK]; exact C.iC) (by rw [hK]; exact C.tI) (by rw [hK]; exact C.F) (cx.room.mono hk) (by rw [hK]; exact C.B) .nil
    (passes_call (W := fun _ _ _ _ => False) LamX.takes0 fun _ _ _ _ h => h) hg hm ha hdb he hpl)).imp fun D' σ H ⟨g, env, w, R, p⟩ => ?_
  unfold sRs PSt at p
  rw [Pr.bind] at p
  refine ⟨g, env, w, R, p.mono fun ds env1 w1 p1 g1 vs H1 R1 l1 q1 => ?_⟩
  split at p1
  · rename_i hl
    have p1 : XEnd T b E ⟨c, ds.reverse⟩ w1 := p1
    have hz : vs.length = (T.fn c).length := q1.length.trans hl
    refine ⟨by rw [hz]; exact hsm, fun a na => ⟨a, vs, by rw [List.append_nil], hz, upd_same, fun dx nx ne => ?_⟩⟩
    have nd : H1 dx = none := by
      rw [upd_ne ne] at nx
      exact nx
    refine ⟨rfl, dx, _, upd_same, by rw [upd_ne ne, upd_same], nd, ?_⟩
    have eH : upd (del (upd (upd (upd H1 a (exo a (T.cl c) none)) dx (exd dx ((T.fn c).zip vs.reverse))) a (exo a (T.cl c) (some dx))) a) dx (.xd ((T.fn c).zip vs.reverse)) = upd H1 dx (.xd ((T.fn c).zip vs.reverse)) := by
      funext q
      by_cases hd : q = dx
      · subst hd
        rw [upd_same, upd_same]
      · rw [upd_ne hd, upd_ne hd]
        by_cases hq : q = a
        · subst hq
          rw [del_same, na]
        · rw [del_ne hq, upd_ne hq, upd_ne hd, upd_ne hq]
    rw [eH]
    exact mk_xend R1 q1 hl nd p1
  · exact p1.elim
end
end HK

/-! HKs: cells put aside. -/
namespace HK
open PySem PySem.Spec PySem.Calls PyProof.Rows L2
def cut (H : Hp) (cs : List Addr) : Hp := fun a => if a ∈ cs then none else H a
def paste (H H' : Hp) (cs : List Addr) : Hp := fun a => if a ∈ cs then H a else H' a
section
variable {H H' G G' : Hp} {cs : List Addr} {a : Addr} {o : HO}
theorem cut_in (h : a ∈ cs) : cut H cs a = none := if_pos h
theorem cut_out (h : a ∉ cs) : cut H cs a = H a := if_neg h
theorem paste_in (h : a ∈ cs) : paste H H' cs a = H a := if_pos h
theorem paste_out (h : a ∉ cs) : paste H H' cs a = H' a := if_neg h
theorem cut_some (h : cut H cs a = some o) : a ∉ cs ∧ H a = some o := by
  by_cases m : a ∈ cs
  · rw [cut_in m] at h
    cases h
  · rw [cut_out m] at h
    exact ⟨m, h⟩
/-- a cell's object -/
def isCell (o : Obj) : Prop := ∃ v, o.data = .cell v
theorem objO_tup {c : Addr} {ob : Obj} {xs : List V} : ObjO c ob ≠ .tup xs := fun z => by unfold ObjO at z; cases z
theorem objO_own {c x : Addr} {ob : Obj} : ObjO c ob ≠ .own x := fun z => by unfold ObjO at z; cases z
theorem objO_frz {c : Addr} {ob o : Obj} {u : HO} : ObjO c ob ≠ .frz o u := fun z => by unfold ObjO at z; cases z
theorem objO_tbl {c : Addr} {ob : Obj} {ps : Array Value} : ObjO c ob ≠ .tbl ps := fun z => by unfold ObjO at z; cases z
theorem objO_plain {c : Addr} {ob : Obj} : plainO (ObjO c ob) = false := rfl
theorem objO_code {c c' : Addr} {ob : Obj} {q : Str} (hi : isCell ob) {h : Heap} (hg : h.get? c = some ob) : ObjO c ob ≠ LamX.CodeO c q := fun z => by
  unfold ObjO LamX.CodeO at z
  injection z with z
  have z := congrFun z h
  have y : ∃ (oc : Obj) (vs : Array Value) (t : Tok), h.get? c = some oc ∧ oc.data = .fields vs ∧ vs[1]? = some (.str q t) := z ▸ hg
  obtain ⟨oc, vs, t, e, d, _⟩ := y
  rw [hg] at e
  cases e
  obtain ⟨v, hi⟩ := hi
  rw [hi] at d
  cases d
theorem objO_err {c d : Addr} {ob : Obj} {cls : Value} (hi : isCell ob) {h : Heap} (hg : h.get? c = some ob) : ObjO c ob ≠ ErrO cls d c := fun z => by
  unfold ObjO ErrO at z
  injection z with z
  have z := congrFun z h
  have y : ∃ (oe : Obj) (vs : Array Value), h.get? c = some oe ∧ Zc cls (some d) oe ∧ oe.data = .fields vs := z ▸ hg
  obtain ⟨oc, vs, e, _, dd⟩ := y
  rw [hg] at e
  cases e
  obtain ⟨v, hi⟩ := hi
  rw [hi] at dd
  cases dd
end
/-- at each of cs, if anything: a cell -/
def AreCells (H : Hp) (cs : List Addr) (h : Heap) : Prop := ∀ c ∈ cs, ∀ o, H c = some o → ∃ ob, o = ObjO c ob ∧ isCell ob ∧ h.get? c = some ob
section
variable {H H' G G' : Hp} {cs : List Addr} {a : Addr} {o : HO} {h h' : Heap} {P : Program} {w : World}
theorem AreCells.not (A : AreCells H cs h) (e : H a = some o) (n : ∀ ob, isCell ob → h.get? a = some ob → o ≠ ObjO a ob) : a ∉ cs := fun m => by
  obtain ⟨ob, e1, e2, e3⟩ := A a m o e
  exact n ob e2 e3 e1
theorem AreCells.lst (A : AreCells H cs h) {xs : List V} (e : H a = some (.lst xs)) : a ∉ cs := A.not e fun ob _ _ z => by unfold ObjO at z; cases z
theorem AreCells.tup (A : AreCells H cs h) {xs : List V} (e : H a = some (.tup xs)) : a ∉ cs := A.not e fun ob _ _ z => by unfold ObjO at z; cases z
theorem AreCells.own (A : AreCells H cs h) {x : Addr} (e : H a = some (.own x)) : a ∉ cs := A.not e fun ob _ _ z => by unfold ObjO at z; cases z
theorem AreCells.frz (A : AreCells H cs h) {x : Obj} {u : HO} (e : H a = some (.frz x u)) : a ∉ cs := A.not e fun ob _ _ z => by unfold ObjO at z; cases z
theorem AreCells.tbl (A : AreCells H cs h) {x : Array Value} (e : H a = some (.tbl x)) : a ∉ cs := A.not e fun ob _ _ z => by unfold ObjO at z; cases z
theorem AreCells.xd (A : AreCells H cs h) {x : List (Str × V)} (e : H a = some (.xd x)) : a ∉ cs := A.not e fun ob _ _ z => by unfold ObjO at z; cases z
theorem AreCells.plain (A : AreCells H cs h) (e : H a = some o) (p : plainO o = true) : a ∉ cs := A.not e fun ob _ _ z => by rw [z, objO_plain] at p; cases p
theorem AreCells.code (A : AreCells H cs h) {q : Str} (e : H a = some (LamX.CodeO a q)) : a ∉ cs := A.not e fun ob hi hg z => objO_code (c' := a) hi hg z.symm
theorem AreCells.err (A : AreCells H cs h) {d : Addr} {cls : Value} (e : H a = some (ErrO cls d a)) : a ∉ cs := A.not e fun ob hi hg z => objO_err hi hg z.symm
theorem AreCells.sub (A : AreCells H cs h) (s : ∀ a o, G a = some o → H a = some o) : AreCells G cs h := fun c hc o e => A c hc o (s c o e)
/-- the heap read without the cells -/
theorem HOk.cut (x : HOk P w H h) (A : AreCells H cs h) : HOk P w (cut H cs) h := fun b u e => by
  obtain ⟨m, e⟩ := cut_some e
  refine (x b u e).stay (fun _ _ _ q => q) (fun c q => ?_) fun c xs q => ?_
  · rw [cut_out (A.own q)]
    exact q
  · rw [cut_out (A.tup q)]
    exact q
/-- .. and with them again -/
theorem HOk.paste (x : HOk P w H' h') (A : AreCells H cs h) (n : ∀ c ∈ cs, H' c = none) (k : ∀ c ∈ cs, ∀ ob, h.get? c = some ob → h'.get? c = some ob) : HOk P w (paste H H' cs) h' := fun b u e => by
  by_cases m : b ∈ cs
  · rw [paste_in m] at e
    obtain ⟨ob, rfl, _, q⟩ := A b m u e
    exact ⟨k b m ob q, ⟨ob, k b m ob q⟩, fun _ _ y z => z _ y⟩
  · rw [paste_out m] at e
    have ne : ∀ {c o}, H' c = some o → c ∉ cs := fun {c o} q hm => by
      rw [n c hm] at q
      cases q
    refine (x b u e).stay (fun _ _ _ q => q) (fun c q => ?_) fun c xs q => ?_
    · rw [paste_out (ne q)]
      exact q
    · rw [paste_out (ne q)]
      exact q
theorem Env0.cut {K : PySem.W.Frag} {mg : Str → Option Value} {base : Heap} {A : Around} {outer : List Env} {s : Shared} (e : Env0 P w K mg base A outer s H) (C : AreCells H cs s.heap) : Env0 P w K mg base A outer s (cut H cs) := by
  refine ⟨e.frames, e.mod, fun b o q => ⟨(e.bs b o q).1, ?_⟩, e.bsz, e.funs, fun b hb => ?_, HOk.cut e.hok C, e.bare⟩
  · unfold HK.cut
    split
    · rfl
    · exact (e.bs b o q).2
  · unfold HK.cut
    split
    · rfl
    · exact e.frf b hb
/-- run without the cells, told with them -/
theorem cut_code {A : Around} {outer : List Env} {s : Shared} {code : Code} {Q Q' : VK} {E E' : XK} {M : Model} (all : ∀ c ∈ cs, ∃ o, H c = some o) (C : AreCells H cs s.heap) (frf : ∀ b ∈ frs outer, H b = none)
    (hQ : ∀ v H', (∀ c ∈ cs, H' c = none) → Q' v H' → Q v (paste H H' cs)) (hE : ∀ cls d H', (∀ c ∈ cs, H' c = none) → E' cls d H' → E cls d (paste H H' cs))
    (h : codeAny M A code (CR (L2.CX P w) outer P w (cut H cs) s Q' E') s) : codeAny M A code (CR (L2.CX P w) outer P w H s Q E) s := by
  have nf : ∀ c ∈ cs, c ∉ frs outer := fun c hc z => by
    obtain ⟨o, e⟩ := all c hc
    rw [frf c z] at e
    cases e
  have there : ∀ c ∈ cs, ∃ ob, s.heap.get? c = some ob := fun c hc => by
    obtain ⟨o, e⟩ := all c hc
    obtain ⟨ob, _, _, q⟩ := C c hc o e
    exact ⟨ob, q⟩
  have hn : ∀ {b}, H b = none → HK.cut H cs b = none := fun {b} n => by
    unfold HK.cut
    split
    · rfl
    · exact n
  have ncs : ∀ {b}, H b = none → b ∉ cs := fun {b} n m => by
    obtain ⟨o, e⟩ := all b m
    rw [n] at e
    cases e
  refine codeAny_mono h fun r s' hq => ?_
  cases r with
  | error u =>
    obtain ⟨a, B, H', cls, d, rfl, fl, hok, ub, na, os, ag, hE'⟩ := hq
    have n' : ∀ c ∈ cs, H' c = none := fun c hc => by
      obtain ⟨ob, q⟩ := there c hc
      exact ub.free c ob q (cut_in hc)
    have kb : ∀ c ∈ cs, ∀ ob, s.heap.get? c = some ob → B.get? c = some ob := fun c hc ob q => ub.keep c ob q (cut_in hc) (nf c hc)
    have nac : a ∉ cs := fun m => by
      obtain ⟨ob, q⟩ := there a m
      have z := kb a m ob q
      have y := fl.2.1
      rw [y] at z
      cases z
    refine ⟨a, B, HK.paste H H' cs, cls, d, rfl, fl, HOk.paste hok C n' kb, ⟨fun b o q n f => ub.keep b o q (hn n) f, ub.slot, fun b o q n => ?_, ub.there, fun b xs q => ?_, fun b o xs q => ?_, fun b ps q => ?_⟩, ?_, os, ag, hE _ _ _ n' hE'⟩
    · rw [paste_out (ncs n)]
      exact ub.free b o q (hn n)
    · rw [paste_out (C.tup q)]
      exact ub.tups b xs (by rw [cut_out (C.tup q)]; exact q)
    · rw [paste_out (C.frz q)]
      exact ub.frzs b o xs (by rw [cut_out (C.frz q)]; exact q)
    · rw [paste_out (C.tbl q)]
      exact ub.tbls b ps (by rw [cut_out (C.tbl q)]; exact q)
    · rw [paste_out nac]
      exact na
  | ok fl =>
    cases fl with
    | ret u =>
      obtain ⟨v, H', os, bare, un, hok, rv, q⟩ := hq
      have n' : ∀ c ∈ cs, H' c = none := fun c hc => by
        obtain ⟨ob, q⟩ := there c hc
        exact un.free c ob q (cut_in hc) (by simp)
      have kb : ∀ c ∈ cs, ∀ ob, s.heap.get? c = some ob → s'.heap.get? c = some ob := fun c hc ob q => un.keep c ob q (cut_in hc) (nf c hc) (by simp)
      refine ⟨v, HK.paste H H' cs, os, bare, ⟨fun b o q n f x => un.keep b o q (hn n) f x, fun b o q n f x => un.slot b o q (hn n) f x, fun b o q n x => ?_, un.there, fun b xs q => ?_, fun b o xs q => ?_, fun b ps q => ?_⟩, HOk.paste hok C n' kb, rv, hQ v H' n' q⟩
      · rw [paste_out (ncs n)]
        exact un.free b o q (hn n) x
      · rw [paste_out (C.tup q)]
        exact un.tups b xs (by rw [cut_out (C.tup q)]; exact q)
      · rw [paste_out (C.frz q)]
        exact un.frzs b o xs (by rw [cut_out (C.frz q)]; exact q)
      · rw [paste_out (C.tbl q)]
        exact un.tbls b ps (by rw [cut_out (C.tbl q)]; exact q)
    | next => exact False.elim hq
    | brk => exact False.elim hq
    | cont => exact False.elim hq
/-- the cells of cs, as objects -/
def withC (H : Hp) (cs : List Addr) (h : Heap) : Hp := fun a => if a ∈ cs then (h.get? a).map (ObjO a) else H a
theorem withC_in (m : a ∈ cs) {ob : Obj} (e : h.get? a = some ob) : withC H cs h a = some (ObjO a ob) := by
  unfold withC
  rw [if_pos m, e]
  rfl
theorem withC_out (m : a ∉ cs) : withC H cs h a = H a := if_neg m
theorem withC_up (n : ∀ c ∈ cs, H c = none) (e : H a = some o) : withC H cs h a = some o := by
  rw [withC_out fun m => by rw [n a m] at e; cases e]
  exact e
theorem withC_cells (n : ∀ c ∈ cs, ∃ ob, h.get? c = some ob ∧ isCell ob) : AreCells (withC H cs h) cs h := fun c hc o e => by
  obtain ⟨ob, q, hi⟩ := n c hc
  rw [withC_in hc q] at e
  cases e
  exact ⟨ob, rfl, hi, q⟩
/-- told with the cells, run without -/
theorem with_code {A : Around} {outer : List Env} {s : Shared} {code : Code} {Q Q' : VK} {E E' : XK} {M : Model} (n : ∀ c ∈ cs, H c = none) (hc : ∀ c ∈ cs, ∃ ob, s.heap.get? c = some ob ∧ isCell ob)
    (hQ : ∀ v H', Q' v H' → (∀ c ∈ cs, H' c = withC H cs s.heap c) ∧ Q v (cut H' cs)) (hE : ∀ cls d H', E' cls d H' → (∀ c ∈ cs, H' c = withC H cs s.heap c) ∧ E cls d (cut H' cs))
    (h : codeAny M A code (CR (L2.CX P w) outer P w (withC H cs s.heap) s Q' E') s) : codeAny M A code (CR (L2.CX P w) outer P w H s Q E) s := by
  have up : ∀ {b o}, H b = some o → withC H cs s.heap b = some o := fun {b o} e => withC_up n e
  have cells : ∀ {H' : Hp} {h' : Heap}, (∀ c ∈ cs, H' c = withC H cs s.heap c) → HOk P w H' h' → AreCells H' cs h' ∧ ∀ c ∈ cs, ∀ o, s.heap.get? c = some o → h'.get? c = some o := fun {H' h'} hs hok => by
    refine ⟨fun c m o e => ?_, fun c m o e => ?_⟩
    · obtain ⟨ob, q, hi⟩ := hc c m
      have z := hs c m
      rw [withC_in m q, e] at z
      cases z
      exact ⟨ob, rfl, hi, (hok c _ e).1⟩
    · have z := hs c m
      rw [withC_in m e] at z
      exact (hok c _ z).1
  refine codeAny_mono h fun r s' hq => ?_
  cases r with
  | error u =>
    obtain ⟨a, B, H', cls, d, rfl, fl, hok, ub, na, os, ag, hE'⟩ := hq
    obtain ⟨hs, e2⟩ := hE _ _ _ hE'
    obtain ⟨C, kb⟩ := cells hs hok
    refine ⟨a, B, HK.cut H' cs, cls, d, rfl, fl, HOk.cut hok C, ⟨fun b o q hn f => ?_, ub.slot, fun b o q hn => ?_, ub.there, fun b xs q => ?_, fun b o xs q => ?_, fun b ps q => ?_⟩, ?_, os, ag, e2⟩
    · by_cases m : b ∈ cs
      · exact kb b m o q
      · exact ub.keep b o q (by rw [withC_out m]; exact hn) f
    · by_cases m : b ∈ cs
      · exact cut_in m
      · rw [cut_out m]
        exact ub.free b o q (by rw [withC_out m]; exact hn)
    · have z := ub.tups b xs (up q)
      rw [cut_out (C.tup z)]
      exact z
    · have z := ub.frzs b o xs (up q)
      rw [cut_out (C.frz z)]
      exact z
    · obtain ⟨m, z⟩ := ub.tbls b ps (up q)
      exact ⟨m, by rw [cut_out (C.tbl z)]; exact z⟩
    · unfold HK.cut
      split
      · rfl
      · exact na
  | ok fl =>
    cases fl with
    | ret u =>
      obtain ⟨v, H', os, bare, un, hok, rv, q⟩ := hq
      obtain ⟨hs, e2⟩ := hQ _ _ q
      obtain ⟨C, kb⟩ := cells hs hok
      refine ⟨v, HK.cut H' cs, os, bare, ⟨fun b o q hn f x => ?_, fun b o q hn f x => ?_, fun b o q hn x => ?_, un.there, fun b xs q => ?_, fun b o xs q => ?_, fun b ps q => ?_⟩, HOk.cut hok C, rv, e2⟩
      · by_cases m : b ∈ cs
        · exact kb b m o q
        · exact un.keep b o q (by rw [withC_out m]; exact hn) f x
      · by_cases m : b ∈ cs
        · exact ⟨o.slots, kb b m o q⟩
        · exact un.slot b o q (by rw [withC_out m]; exact hn) f x
      · by_cases m : b ∈ cs
        · exact cut_in m
        · rw [cut_out m]
          exact un.free b o q (by rw [withC_out m]; exact hn) x
      · have z := un.tups b xs (up q)
        rw [cut_out (C.tup z)]
        exact z
      · have z := un.frzs b o xs (up q)
        rw [cut_out (C.frz z)]
        exact z
      · obtain ⟨m, z⟩ := un.tbls b ps (up q)
        exact ⟨m, by rw [cut_out (C.tbl z)]; exact z⟩
    | next => exact False.elim hq
    | brk => exact False.elim hq
    | cont => exact False.elim hq
theorem Env0.withC {K : PySem.W.Frag} {mg : Str → Option Value} {base : Heap} {A : Around} {outer : List Env} {s : Shared} (e : Env0 P w K mg base A outer s H) (n : ∀ c ∈ cs, H c = none) (hb : ∀ c ∈ cs, base.get? c = none) (hf : ∀ c ∈ cs, c ∉ frs outer) :
    Env0 P w K mg base A outer s (withC H cs s.heap) := by
  refine ⟨e.frames, e.mod, fun b o q => ⟨(e.bs b o q).1, ?_⟩, e.bsz, e.funs, fun b hm => ?_, fun b u q => ?_, e.bare⟩
  · rw [withC_out fun m => by rw [hb b m] at q; cases q]
    exact (e.bs b o q).2
  · rw [withC_out fun m => hf b m hm]
    exact e.frf b hm
  · by_cases m : b ∈ cs
    · unfold HK.withC at q
      rw [if_pos m] at q
      cases z : s.heap.get? b with
      | none => rw [z] at q; cases q
      | some ob =>
        rw [z] at q
        cases q
        exact ⟨z, ⟨ob, z⟩, fun _ _ y k => k _ y⟩
    · rw [withC_out m] at q
      exact (e.hok b u q).stay (fun _ _ _ q => q) (fun c q => withC_up n q) fun c xs q => withC_up n q
end

/-! ### data without functions -/
mutual
def noFn : D → Bool
  | .fn _ _ => false
  | .tup xs => noFns xs
  | .tpl xs => noFns xs
  | .lst xs => noFns xs
  | .dic _ vs => noFns vs
  | .dit _ vs => noFns vs
  | .ins _ fs => noFns fs
  | .err _ fs => noFns fs
  | _ => true
def noFns : List D → Bool
  | [] => true
  | d :: ds => noFn d && noFns ds
end
section
variable {T : Th} {H H' G G' : Hp} {cs : List Addr} {h : Heap}
mutual
theorem DR.cut (C : AreCells G cs h) : ∀ {d : D} {v : V}, DR T G d v → noFn d = true → DR T (cut G cs) d v
  | .non, _, k, _ => k
  | .bl _, _, k, _ => k
  | .int _, _, k, _ => k
  | .str _, _, k, _ => k
  | .pen, _, k, _ => k
  | .ty _, _, k, _ => k
  | .cls _, _, k, _ => k
  | .set _, _, k, _ => by
    unfold DR at k
    exact k.elim
  | .fn _ _, _, _, e => by unfold noFn at e; cases e
  | .tup ds, v, k, e => by
    unfold noFn at e
    unfold DR at k ⊢
    obtain ⟨a, vs, q, s, r⟩ := k
    exact ⟨a, vs, q, by rw [cut_out (C.tup s)]; exact s, DRs.cut C r e⟩
  | .tpl ds, v, k, e => by
    unfold noFn at e
    unfold DR at k ⊢
    obtain ⟨a, o, vs, q, s, z, r⟩ := k
    exact ⟨a, o, vs, q, by rw [cut_out (C.frz s)]; exact s, z, DRs.cut C r e⟩
  | .lst ds, v, k, e => by
    unfold noFn at e
    unfold DR at k ⊢
    obtain ⟨a, vs, q, s, r⟩ := k
    exact ⟨a, vs, q, by rw [cut_out (C.lst s)]; exact s, DRs.cut C r e⟩
  | .dic ks ds, v, k, e => by
    unfold noFn at e
    unfold DR at k ⊢
    obtain ⟨a, kvs, q, s, kk, r⟩ := k
    refine ⟨a, kvs, q, ?_, kk, DRs.cut C r e⟩
    rcases s with z | ⟨o, z⟩
    · exact .inl (by rw [cut_out (C.plain z rfl)]; exact z)
    · exact .inr ⟨o, by rw [cut_out (C.frz z)]; exact z⟩
  | .dit ks ds, v, k, e => by
    unfold noFn at e
    unfold DR at k ⊢
    obtain ⟨a, kvs, q, s, kk, r⟩ := k
    refine ⟨a, kvs, q, ?_, kk, DRs.cut C r e⟩
    rcases s with z | ⟨o, z⟩
    · exact .inl (by rw [cut_out (C.plain z rfl)]; exact z)
    · exact .inr ⟨o, by rw [cut_out (C.frz z)]; exact z⟩
  | .ins c fs, v, k, e => by
    unfold noFn at e
    unfold DR at k ⊢
    obtain ⟨a, dx, vs, q, s, z, r⟩ := k
    exact ⟨a, dx, vs, q, by rw [cut_out (C.plain s rfl)]; exact s, z, DRs.cut C r e⟩
  | .err c fs, v, k, e => by
    unfold noFn at e
    unfold DR at k ⊢
    obtain ⟨a, d, vs, q, s, s2, z, r⟩ := k
    exact ⟨a, d, vs, q, by rw [cut_out (C.err s)]; exact s, by rw [cut_out (C.xd s2)]; exact s2, z, DRs.cut C r e⟩
theorem DRs.cut (C : AreCells G cs h) : ∀ {ds : List D} {vs : List V}, DRs T G ds vs → noFns ds = true → DRs T (cut G cs) ds vs
  | [], _, k, _ => by
    rw [k.nil_inv]
    exact .nil
  | d :: ds, vs, k, e => by
    obtain ⟨v, r, rfl, h1, h2⟩ := k.cons_inv
    unfold noFns at e
    rw [Bool.and_eq_true] at e
    exact .cons (DR.cut C h1 e.1) (DRs.cut C h2 e.2)
end
end
end HK

/-! HKt: lambdas: the body's run. -/
namespace HK
open PySem PySem.Spec PySem.Calls PyProof.Rows L2
structure LamP (ps caps : List Str) (sc : Scope) : Prop where
  kind : sc.kind = .function
  co : sc.isCoroutine = false
  gen : sc.isGenerator = false
  nd : (ps ++ caps).Nodup
  par : ∀ x ∈ ps, sc.names.lookup x = some .local
  cap : ∀ x ∈ caps, sc.names.lookup x = some .free
  cell : ∀ y ∈ sc.names, y.2 ≠ .cell
  free : ∀ y ∈ sc.names, y.2 = .free → y.1 ∈ caps
def lamPB (ps caps : List Str) (sc : Scope) : Bool := decide (sc.kind = .function) && !sc.isCoroutine && !sc.isGenerator && decide (ps ++ caps).Nodup && ps.all (fun x => decide (sc.names.lookup x = some .local)) && caps.all (fun x => decide (sc.names.lookup x = some .free)) &&
  sc.names.all (fun y => !decide (y.2 = .cell) && (!decide (y.2 = .free) || caps.contains y.1))
theorem lamPB_ok {ps caps : List Str} {sc : Scope} (h : lamPB ps caps sc = true) : LamP ps caps sc := by
  unfold lamPB at h
  simp only [Bool.and_eq_true, decide_eq_true_eq, Bool.not_eq_true', List.all_eq_true, Bool.or_eq_true, decide_eq_false_iff_not] at h
  obtain ⟨⟨⟨⟨⟨⟨h1, h2⟩, h3⟩, h4⟩, h5⟩, h6⟩, h7⟩ := h
  refine ⟨h1, h2, h3, h4, h5, h6, fun y hy => (h7 y hy).1, fun y hy e => ?_⟩
  rcases (h7 y hy).2 with z | z
  · exact absurd e z
  · exact List.contains_iff_mem.mp z
section
variable {P : Program} {w : World} {K : PySem.W.Frag} {mg : Str → Option Value} {base : Heap} {ps : List Str} {L : Lam} {f c' : Addr} {cl : List (Str × Addr)} {A : Around} {outer : List Env} {s : Shared} {H : Hp} {E : XK}
abbrev lamE (L : Lam) (f c' : Addr) (cl : List (Str × Addr)) (n : Nat) : Env := PySem.W.envX L.qual L.scope n f (.ref c') cl
def lamC (P : Program) (w : World) (K : PySem.W.Frag) (mg : Str → Option Value) (base : Heap) (ps : List Str) (L : Lam) (f c' : Addr) (cl : List (Str × Addr)) (A : Around) (outer : List Env) (s : Shared) (H : Hp) (E : XK) : Cx where
  prog := P
  w := w
  K := K
  mg := mg
  base := base
  A := A.deeper (lamE L f c' cl s.heap.objs.size)
  N := ps ++ L.caps
  s_0 := s
  H_0 := H
  env := lamE L f c' cl s.heap.objs.size
  outer := outer
  stack := lamE L f c' cl s.heap.objs.size :: outer
  ex := []
  fn := fun _ => false
  calm := true
  pn := []
  xe := fun e s' => wpAny (model P w) (A.deeper (lamE L f c' cl s.heap.objs.size)) (leaving (lamE L f c' cl s.heap.objs.size) e) (fun _ s'' => L2.CX P w outer H s E e s'') (fun e' s'' => L2.CX P w outer H s E e' s'') s'
theorem lam_start (S : LamP ps L.caps L.scope) (hd : A.handled = none) (e0 : Env0 P w K mg base A outer s H) {vs cvs : List V} {us : List Value} (r : Vals vs us) (hl : vs.length = ps.length) (hcl : cvs.length = L.caps.length)
    (hc : ∀ (i : Nat) (x : Str) (v : V), L.caps[i]? = some x → cvs[i]? = some v → ∃ c u, cl.lookup x = some c ∧ RelV v u ∧ s.heap.IsCell c (some u)) (hcn : ∀ x c, cl.lookup x = some c → H c = none ∧ ∃ v, s.heap.IsCell c v)
    (inj : ∀ x y c, cl.lookup x = some c → cl.lookup y = some c → x = y) {h₁ : Heap} {tk : Nat} (hns : h₁.Ns s.heap.objs.size fun y => (ps.zip us).reverse.lookup y) (kp : ∀ b o, s.heap.get? b = some o → h₁.get? b = some o) :
    Inv (lamC P w K mg base ps L f c' cl A outer s H E) [] (L2.start (ps ++ L.caps) (vs ++ cvs)) H { s with heap := h₁, toks := tk } := by
  have noA : ∀ b : Addr, b ∉ (lamC P w K mg base ps L f c' cl A outer s H E).ex := fun b z => absurd (show b ∈ ([] : List Addr) from z) (by simp)
  have ndp : ps.Nodup := (List.nodup_append.mp S.nd).1
  refine ⟨⟨e0.mod, S.kind, rfl, rfl, Nat.le_refl _, fun y z c h1 h2 => inj y z c h1 h2, fun y hy => ?_, fun y c z _ => ?_, fun _ => hd, Around.frames_deeper e0.frames, .inr ⟨rfl, rfl⟩, fun b z => absurd z (noA b), e0.bs, e0.bsz, fun b _ _ => noA b, fun b z => absurd z (noA b), e0.funs, e0.frf⟩,
    rfl, e0.bare, Un.kept kp, ⟨_, hns, fun i y v h1 h2 h3 => ?_⟩, fun y c h => ?_, e0.hok.fresh (Nat.le_refl _), fun y c h => ?_, fun p hp => absurd (show p ∈ ([] : List (Addr × Obj)) from hp) (by simp), e0.hok.kept kp, ?_⟩
  · have hy : L.scope.names.lookup y = some .cell ∨ L.scope.names.lookup y = some .free := hy
    rcases hy with hy | hy
    · exact absurd rfl (S.cell _ (PySem.mem_of_lookup hy))
    · have z := S.free _ (PySem.mem_of_lookup hy) rfl
      obtain ⟨i, hi⟩ := List.getElem?_of_mem z
      have hi2 : i < cvs.length := by
        rw [hcl]
        exact (List.getElem?_eq_some_iff.mp hi).1
      obtain ⟨c, u, e, _⟩ := hc i y _ hi (List.getElem?_eq_getElem hi2)
      exact ⟨c, e⟩
  · have z : false = true := z
    cases z
  · have h1 : (ps ++ L.caps)[i]? = some y := h1
    have hv : (vs ++ cvs)[i]? = some v := by
      unfold L2.start at h2
      by_cases hi : i < (vs ++ cvs).length
      · rw [List.getElem?_append_left (by rw [List.length_map]; exact hi), List.getElem?_map] at h2
        cases e : (vs ++ cvs)[i]? with
        | none => rw [e] at h2; cases h2
        | some a => rw [e] at h2; cases h2; rfl
      · rw [List.getElem?_append_right (by rw [List.length_map]; omega), List.getElem?_replicate] at h2
        split at h2 <;> cases h2
    by_cases hi : i < ps.length
    · rw [List.getElem?_append_left hi] at h1
      rw [List.getElem?_append_left (by omega)] at hv
      obtain ⟨u, hu, rv⟩ := r.get hv
      exact ⟨u, rv, .inl ⟨S.par y (List.mem_of_getElem? h1), zip_look ndp h1 hu⟩⟩
    · rw [List.getElem?_append_right (by omega)] at h1
      rw [List.getElem?_append_right (by omega), hl] at hv
      obtain ⟨c, u, e, rv, o, ho, hd⟩ := hc _ y v h1 hv
      exact ⟨u, rv, .inr ⟨.inr (S.cap y (List.mem_of_getElem? h1)), c, e, o, kp _ _ ho, hd⟩⟩
  · obtain ⟨_, v, o, ho, hd⟩ := hcn y c h
    exact ⟨v, o, kp _ _ ho, hd⟩
  · exact (hcn y c h).1
  · unfold L2.start
    show _ = (ps ++ L.caps).length
    rw [List.length_append, List.length_map, List.length_replicate, List.length_append, List.length_append]
    omega
theorem co_lam {T : Th} {k : Nat} (hK : T.K = K) (S : LamP ps L.caps L.scope) (hr : Room k (A.deeper (lamE L f c' cl s.heap.objs.size))) : CO (lamC P w K mg base ps L f c' cl A outer s H E) T E k where
  K := hK.symm
  calm := rfl
  room := hr
  nd := S.nd
  tk := takes_of rfl rfl rfl rfl
  po := PassesOwn.leaving
end

/-! ### back with the cells -/
section
variable {T : Th} {G H G' H' : Hp} {cs : List Addr} {h : Heap} {w w' : Pen}
theorem PenI.cut (p : PenI T G H w) (C : AreCells H cs h) (gh : ∀ a o, G a = some o → H a = some o) : PenI T (cut G cs) (cut H cs) w := by
  refine ⟨fun q hq => ?_, fun a ps e => p.nt a ps (cut_some e).2, ?_, ?_⟩
  · obtain ⟨ps, h1, h2, h3⟩ := p.tabs q hq
    refine ⟨ps, by rw [cut_out (C.tbl h1)]; exact h1, h2, fun pos cv hc => ?_⟩
    obtain ⟨c, e1, e2⟩ := h3 pos cv hc
    exact ⟨c, e1, by rw [cut_out (C.code e2)]; exact e2⟩
  · obtain ⟨c, p1, p2⟩ := p.is
    exact ⟨c, by rw [cut_out (C.lst p1)]; exact p1, by rw [cut_out (C.lst (gh _ _ p2))]; exact p2⟩
  · unfold HK.cut
    split
    · rfl
    · exact p.no
theorem Le.paste (n : ∀ c ∈ cs, H' c = none) (gh : ∀ a o, G' a = some o → H' a = some o) : Le G' (paste G G' cs) := Le.of fun a o e => by
  rw [paste_out fun m => by
    have z := gh a o e
    rw [n a m] at z
    cases z]
  exact e
theorem Kept.paste (k : Kept T ⟨cut G cs, cut H cs⟩ G' H' w') (C : AreCells H cs h) (all : ∀ c ∈ cs, ∃ o, H c = some o) (gh : ∀ a o, G a = some o → H a = some o) (n : ∀ c ∈ cs, H' c = none) :
    Kept T ⟨G, H⟩ (paste G G' cs) (paste H H' cs) w' := by
  have CG : AreCells G cs h := C.sub gh
  have ne : ∀ {a o}, H' a = some o → a ∉ cs := fun {a o} e m => by
    rw [n a m] at e
    cases e
  have neG : ∀ {a o}, G' a = some o → a ∉ cs := fun {a o} e => ne (k.gh a o e)
  have lp := Le.paste (G := G) n k.gh
  refine ⟨fun a o e => ?_, ⟨fun q hq => ?_, fun a ps e => ?_, ?_, ?_⟩, ⟨fun a u r => ?_, fun a u hd e => ?_⟩, fun a o np nt e => ?_, fun a ps e => ?_, fun a o pu e => ?_⟩
  · by_cases m : a ∈ cs
    · rw [paste_in m] at e ⊢
      exact gh a o e
    · rw [paste_out m] at e ⊢
      exact k.gh a o e
  · obtain ⟨ps, h1, h2, h3⟩ := k.pen.tabs q hq
    refine ⟨ps, by rw [paste_out (ne h1)]; exact h1, h2, fun pos cv hc => ?_⟩
    obtain ⟨c, e1, e2⟩ := h3 pos cv hc
    exact ⟨c, e1, by rw [paste_out (ne e2)]; exact e2⟩
  · by_cases m : a ∈ cs
    · rw [paste_in m] at e
      exact CG.tbl e m
    · rw [paste_out m] at e
      exact k.pen.nt a ps e
  · obtain ⟨c, p1, p2⟩ := k.pen.is
    exact ⟨c, by rw [paste_out (ne p1)]; exact p1, by rw [paste_out (neG p2)]; exact p2⟩
  · obtain ⟨c, p1, p2⟩ := k.pen.is
    rw [paste_out (ne p1)]
    exact k.pen.no
  · have r : Rd G a u := r
    by_cases m : a ∈ cs
    · exact r.imp (fun z => by rw [paste_in m]; exact z) fun ⟨o, z⟩ => ⟨o, by rw [paste_in m]; exact z⟩
    · exact lp.rd a u (k.b1.rd a u (r.imp (fun z => (cut_out m).trans z) fun ⟨o, z⟩ => ⟨o, (cut_out m).trans z⟩))
  · by_cases m : a ∈ cs
    · rw [paste_in m]
      exact e
    · rw [paste_out m]
      exact k.b1.ex a u hd ((cut_out m).trans e)
  · have e : H a = some o := e
    by_cases m : a ∈ cs
    · rw [paste_in m]
      exact e
    · rw [paste_out m]
      exact k.b2 a o np nt ((cut_out m).trans e)
  · have e : H a = some (.tbl ps) := e
    have m := C.tbl e
    rw [paste_out m]
    exact k.b2t a ps ((cut_out m).trans e)
  · by_cases m : a ∈ cs
    · rw [paste_in m] at e
      exact (CG.plain e pu m).elim
    · rw [paste_out m] at e
      rcases k.b3 a o pu e with ⟨o', z⟩ | z
      · exact .inl ⟨o', (cut_some z).2⟩
      · have z : cut H cs a = none := z
        rw [cut_out m] at z
        exact .inr z
theorem XEnd.paste {E E' : XK} {x : Exn} (C : AreCells H cs h) (all : ∀ c ∈ cs, ∃ o, H c = some o) (gh : ∀ a o, G a = some o → H a = some o) (p : XEnd T ⟨G, H⟩ E x w')
    (hE : ∀ cls dc H', E cls dc (HK.paste H H' cs) → E' cls dc H') (hn : ∀ cls dc H', ¬ (∀ c ∈ cs, H' c = none) → E' cls dc H') : XEnd T ⟨cut G cs, cut H cs⟩ E' x w' := fun G' H' cls dc k r => by
  by_cases n : ∀ c ∈ cs, H' c = none
  · refine hE cls dc H' (p (HK.paste G G' cs) _ cls dc (k.paste C all gh n) ?_)
    obtain ⟨e, d, vs, e1, e2, e3, e4⟩ := r
    refine ⟨e, d, vs, e1, ?_, e3, e4.le (Le.paste n k.gh)⟩
    rw [paste_out fun m => by rw [n d m] at e2; cases e2]
    exact e2
  · exact hn cls dc H' n
theorem RVf.paste {v : V} {r : Slot} (k : Kept T ⟨cut G cs, cut H cs⟩ G' H' w') (n : ∀ c ∈ cs, H' c = none) (q : RVf T ⟨cut G cs, cut H cs⟩ G' H' v r) : RVf T ⟨G, H⟩ (HK.paste G G' cs) (HK.paste H H' cs) v r := by
  cases r with
  | no => exact q.elim
  | fr d => exact DR.le (Le.paste n k.gh) q
  | ow d =>
    obtain ⟨a, e, O⟩ := q
    obtain ⟨o, eo⟩ := O.own.there
    have m : a ∉ cs := fun m => by
      rw [n a m] at eo
      cases eo
    refine ⟨a, e, (paste_out m).trans O.no, O.np, ?_, O.own.keep (Le.paste n k.gh) fun o e => (paste_out m).trans e⟩
    have z : cut H cs a = none := O.nb
    rw [cut_out m] at z
    exact z
end

/-! ### a lambda called -/
/-- what the function values of the text do -/
abbrev AP := Nat → List D → FX
/-- number k does so -/
def Ap1 (T : Th) (P : Program) (w : World) (mg : Str → Option Value) (base : Heap) (n k : Nat) (m : List D → FX) : Prop := ∀ (caps : List D) (A : Around) (outer : List Env) (s : Shared) (H G : Hp) (wp : Pen) (f : Addr) (ds : List D) (vs : List V) (us : List Value) (Q : VK) (E : XK),
  Room n A → Env0 P w T.K mg base A outer s H → (∀ a o, G a = some o → H a = some o) → PenI T G H wp → DR T G (.fn k caps) (.ref f) → DRs T G ds vs → Vals vs us →
  Pr T ⟨G, H⟩ E (fun r _ w' => ∀ G' H' v, Kept T ⟨G, H⟩ G' H' w' → RVf T ⟨G, H⟩ G' H' v r → Q v H') (m caps ds wp) → codeAny (model P w) A (.call (.ref f) ⟨us, []⟩) (CR (L2.CX P w) outer P w H s Q E) s
def ApOk (T : Th) (P : Program) (w : World) (mg : Str → Option Value) (base : Heap) (n : Nat) (ap : AP) : Prop := ∀ k, Ap1 T P w mg base n k (ap k)
def lamM (m : Nat) (dfs : List D) (fb : EX) (caps : List D) : FX := fun ds wp =>
  if (noFns caps && noFns ds && ds.length + dfs.length + caps.length == m) = true then (fb (slots m (ds ++ dfs ++ caps)) wp).bind fun r _ wp => .ok r [] wp else .no
def apOne (k : Nat) (m : List D → FX) : AP := fun k' => if k' = k then m else fun _ _ _ => .no
theorem apOne_ok {T : Th} {P : Program} {w : World} {mg : Str → Option Value} {base : Heap} {n k : Nat} {m : List D → FX} (h : Ap1 T P w mg base n k m) : ApOk T P w mg base n (apOne k m) := fun k' caps A outer s H G wp f ds vs us Q E hr e0 gh pen hd q r p => by
  unfold apOne at p
  by_cases e : k' = k
  · subst e
    rw [if_pos rfl] at p
    exact h caps A outer s H G wp f ds vs us Q E hr e0 gh pen hd q r p
  · rw [if_neg e] at p
    exact p.elim
theorem cells_list {G : Hp} {cl : List (Str × Addr)} : ∀ {xs : List Str} {vs : List V}, CellsAt G cl xs vs → vs.length = xs.length ∧ ∀ (i : Nat) (x : Str) (v : V), xs[i]? = some x → vs[i]? = some v → ∃ (c : Addr) (o : Obj) (u : Value), cl.lookup x = some c ∧ G c = some (ObjO c o) ∧ o.data = .cell (some u) ∧ RelV v u
  | [], vs, h => by
    have h : vs = [] := h
    subst h
    exact ⟨rfl, fun i x v e => by simp at e⟩
  | x :: xs, vs, h => by
    obtain ⟨v, r, rfl, h1, h2⟩ := h
    obtain ⟨l, k⟩ := cells_list h2
    refine ⟨by rw [List.length_cons, List.length_cons, l], fun i y u e1 e2 => ?_⟩
    cases i with
    | zero =>
      simp at e1 e2
      subst e1
      subst e2
      exact h1
    | succ i => exact k i y u (by simpa using e1) (by simpa using e2)
section
variable {T : Th} {P : Program} {w : World} {mg : Str → Option Value} {base : Heap} {n k : Nat} {ps : List Str} {dfs : List D} {fb : EX}
theorem lam_run (S : LamP ps (T.lam k).caps (T.lam k).scope) (hdf : ∀ G, DRs T G dfs (T.lam k).dfs)
    (hbind : ∀ (s : Shared) (dV doc pm ctv : Value) (c' : Addr) (cl : List (Str × Addr)) (us dv : List Value), (us ++ dv).length = ps.length → Vals (T.lam k).dfs dv → ((dV = .none ∧ (T.lam k).dfs = []) ∨ ∃ t, dV = .ref t ∧ s.heap.get? t = some (PySem.W.kdv_tup dv)) →
      BindsTo s (PySem.W.kdv_fn "<lambda>" (T.lam k).qual (T.lam k).params (.expr (T.lam k).body) (T.lam k).scope cl dV doc pm (.ref c') ctv) ⟨us, []⟩ (ps.zip (us ++ dv)))
    (hbody : ∀ (f c' : Addr) (cl : List (Str × Addr)) (A : Around) (outer : List Env) (s : Shared) (H : Hp) (E : XK) (b : Bs), CO (lamC P w T.K mg base ps (T.lam k) f c' cl A outer s H E) T E n →
      PE (lamC P w T.K mg base ps (T.lam k) f c' cl A outer s H E) (T.lam k).body (tEx T b E fb)) : Ap1 T P w mg base (n + 1) k (lamM (ps ++ (T.lam k).caps).length dfs fb) := by
  intro caps A outer s H G wp f ds vs us Q E hr e0 gh pen hd q r p
  unfold lamM at p
  split at p
  · rename_i hc
    simp only [Bool.and_eq_true, beq_iff_eq] at hc
    obtain ⟨⟨hf1, hf2⟩, hlen⟩ := hc
    unfold DR at hd
    obtain ⟨cvs, ⟨cl, ⟨f0, c', pm, ctv, dV, doc, ef, hF, hC, hD⟩, hcells, dom, inj⟩, qc⟩ := hd
    cases ef
    obtain ⟨lc, hcell⟩ := cells_list hcells
    obtain ⟨cs, hcs⟩ : ∃ cs : List Addr, cs = (T.lam k).caps.map fun x => (cl.lookup x).getD 0 := ⟨_, rfl⟩
    have each : ∀ c ∈ cs, ∃ (o : Obj) (u : Value), G c = some (ObjO c o) ∧ o.data = .cell (some u) := fun c hm => by
      rw [hcs] at hm
      obtain ⟨x, hx, e⟩ := List.mem_map.mp hm
      obtain ⟨i, hi⟩ := List.getElem?_of_mem hx
      have hi2 : i < cvs.length := by
        rw [lc]
        exact (List.getElem?_eq_some_iff.mp hi).1
      obtain ⟨c1, o, u, e1, e2, e3, _⟩ := hcell i x _ hi (List.getElem?_eq_getElem hi2)
      rw [e1] at e
      cases e
      exact ⟨o, u, e2, e3⟩
    have all : ∀ c ∈ cs, ∃ o, H c = some o := fun c hm => by
      obtain ⟨o, u, e1, _⟩ := each c hm
      exact ⟨_, gh _ _ e1⟩
    have C : AreCells H cs s.heap := fun c hm o e => by
      obtain ⟨ob, u, e1, e2⟩ := each c hm
      have z := gh _ _ e1
      rw [e] at z
      cases z
      exact ⟨ob, rfl, ⟨_, e2⟩, (e0.hok c _ (gh _ _ e1)).1⟩
    have CG : AreCells G cs s.heap := C.sub gh
    refine cut_code (Q' := fun v H' => (∀ c ∈ cs, H' c = none) → Q v (paste H H' cs)) (E' := fun cls d H' => (∀ c ∈ cs, H' c = none) → E cls d (paste H H' cs)) all C e0.frf (fun v H' n z => z n) (fun cls d H' n z => z n) ?_
    have e1 := HK.Env0.cut e0 C
    have of1 : s.heap.get? f = some _ := (e0.hok f _ (gh _ _ hF)).1
    obtain ⟨⟨oc, cvs', tq, hoc, hdc, hvc⟩, _, _⟩ := e0.hok c' _ (gh _ _ hC)
    have lim : s.heap.NoLimit := e0.mod.nolimit.keeps fun b o e => (e0.bs b o e).1
    obtain ⟨dv, hdv, hdV⟩ : ∃ dv : List Value, Vals (T.lam k).dfs dv ∧ ((dV = .none ∧ (T.lam k).dfs = []) ∨ ∃ t, dV = .ref t ∧ s.heap.get? t = some (PySem.W.kdv_tup dv)) := by
      rcases hD with ⟨h1, h2⟩ | ⟨t, us, h1, h2, h3⟩
      · exact ⟨[], by rw [h2]; exact .nil, .inl ⟨h1, h2⟩⟩
      · exact ⟨us, h3, .inr ⟨t, h1, (e0.hok t _ (gh _ _ h2)).1⟩⟩
    have ldv : dv.length = dfs.length := by rw [← hdv.length, (hdf G).length]
    have lus : us.length = ds.length := by rw [← r.length, q.length]
    have lcap : caps.length = (T.lam k).caps.length := by rw [← lc, qc.length]
    rw [List.length_append] at hlen
    have ltot : (us ++ dv).length = ps.length := by rw [List.length_append]; omega
    refine PySem.W.kla_callFunE hr.depth of1 rfl S.co S.gen rfl ⟨c', oc, cvs', tq, rfl, hoc, hdc, hvc⟩ (hbind s dV doc pm ctv c' cl us dv ltot hdv hdV _ _ _ _ ?_)
    have ndp : ps.Nodup := (List.nodup_append.mp S.nd).1
    refine wpAny_newFunctionEnv S.cell (fun y hy => S.par _ (List.of_mem_zip (a := y.1) (b := y.2) hy).1) (fun h₁ hns hsb => ⟨lim.fresh _ hsb, ?_⟩) S.kind
    have kp : ∀ b o, s.heap.get? b = some o → h₁.get? b = some o := fun b o e => hsb.extBut b o (Nat.ne_of_lt (Heap.lt_size e)) (Heap.get?_push_of_some _ e)
    have J := lam_start (E := fun cls d H' => (∀ c ∈ cs, H' c = none) → E cls d (paste H H' cs)) (K := T.K) (mg := mg) (base := base) (L := T.lam k) (f := f) (c' := c') (cl := cl) (tk := s.toks + (ps.zip (us ++ dv)).length) S hr.hd e1 (vs := vs ++ (T.lam k).dfs) (cvs := cvs) (us := us ++ dv) (r.append hdv) (by rw [(r.append hdv).length]; exact ltot) lc
      (fun i x v h1 h2 => by
        obtain ⟨c, o, u, z1, z2, z3, z4⟩ := hcell i x v h1 h2
        exact ⟨c, u, z1, z4, o, (e0.hok c _ (gh _ _ z2)).1, z3⟩)
      (fun x c e => by
        have hm : c ∈ cs := by
          rw [hcs]
          exact List.mem_map.mpr ⟨x, dom x c e, by rw [e]; rfl⟩
        obtain ⟨o, u, z1, z2⟩ := each c hm
        exact ⟨cut_in hm, some u, o, (e0.hok c _ (gh _ _ z1)).1, z2⟩) inj hns kp
    show codeAny _ _ (.expr (T.lam k).body (lamE (T.lam k) f c' cl s.heap.objs.size)) _ _
    have run := hbody f c' cl A outer s (cut H cs) (fun cls d H' => (∀ c ∈ cs, H' c = none) → E cls d (paste H H' cs)) ⟨cut G cs, cut H cs⟩ (co_lam rfl S (hr.deeper _))
    have qd : DRs T (cut G cs) (ds ++ dfs ++ caps) (vs ++ (T.lam k).dfs ++ cvs) := (((DRs.cut CG q hf2).append (hdf _)).append (DRs.cut CG qc hf1))
    have R := RS.entry (N := ps ++ (T.lam k).caps) (fun a o e => by
      obtain ⟨m, e⟩ := cut_some e
      rw [cut_out m]
      exact gh a o e) (pen.cut C gh) qd (by rw [qd.length, List.length_append, List.length_append, List.length_append]; omega)
    rw [Pr.bind] at p
    refine PySem.W.kla_codeExpr (wpAny_mono (run.run [] _ _ (cut H cs) (fun v H' => (∀ c ∈ cs, H' c = none) → Q v (paste H H' cs)) J ⟨⟨cut G cs, fun _ => 0⟩, _, wp, R, ?_⟩) (fun v s' hq => ?_) fun e s' hq => hq)
    · cases hfb : fb (slots (ps ++ (T.lam k).caps).length (ds ++ dfs ++ caps)) wp with
      | no => rw [hfb] at p; exact p.elim
      | ex x w' =>
        rw [hfb] at p
        exact XEnd.paste C all gh p (fun cls dc H' h _ => h) fun cls dc H' h n => (h n).elim
      | ok res env' w' =>
        rw [hfb] at p
        intro g' v H' R' l' rv n
        refine p _ _ v (R'.kept.paste C all gh n) (RVf.paste R'.kept n ?_)
        cases res with
        | no => exact rv.elim
        | fr d => exact rv
        | ow d =>
          obtain ⟨a, e, O, _⟩ := rv
          exact ⟨a, e, O⟩
    · obtain ⟨w', H', J', rv, q⟩ := hq
      exact ⟨w', H', J'.os, J'.bare, J'.base, J'.hok, rv, q⟩
  · exact p.elim
end
end HK

/-! HKu: lambdas made and handed on; function values called. -/
namespace HK
open PySem PySem.Spec PySem.Calls PyProof.Rows L2
section
variable {X : Cx} {T : Th} {b : Bs} {E : XK} {n m : Nat}
theorem liftF_pr {mf : FX} {g0 g : Gh} {env : List Slot} {w : Pen} {σ : L2.St} {H : Hp} {Q : VK} {ds : List D} (R : RS T b g env w σ H) (l0 : Le g0.G g.G)
    (p : Pr T b E (fun r env' w' => ∀ g' v H', RS T b g' env' w' σ H' → Le g0.G g'.G → RV T b g' H' env' v r → Q v H') (liftF (mf ds w) env w)) :
    Pr T ⟨g.G, H⟩ E (fun r _ w' => ∀ G' H' v, Kept T ⟨g.G, H⟩ G' H' w' → RVf T ⟨g.G, H⟩ G' H' v r → Q v H') (mf ds w) := by
  unfold liftF at p
  cases e : mf ds w with
  | no => rw [e] at p; exact p.elim
  | ex x w' => rw [e] at p; exact XEnd.of R.kept p
  | ok r _ w' =>
    rw [e] at p
    intro G' H' v k' rv
    obtain ⟨R', rv'⟩ := R.call k' rv
    exact p ⟨G', g.ad⟩ v H' R' (l0.trans k'.b1) rv'

/-! ### a function value called -/
def xAp (i : Nat) (ap : AP) (fa : AX) : EX := fun env w => match env[i]? with
  | some (.fr (.fn k caps)) => (fa env w).bind fun ds env w => liftF (ap k caps ds w) env w
  | _ => .no
variable {ap : AP} {fr : AX} {e : Expr} {es : List Expr} {a : Str} {p1 p2 : Pos}
theorem ap_ok (c : CO X T E n) (hap : ApOk T X.prog X.w X.mg X.base m ap) (hm : m ≤ n) {pins : List (Addr × Obj)} {σ : L2.St} {H : Hp} {s : Shared} {Q : VK} {g0 g : Gh} {env : List Slot} {w : Pen} {k : Nat} {caps ds : List D} {f : Addr} {vs : List V} {us : List Value}
    (I : Inv X pins σ H s) (R : RS T b g env w σ H) (l0 : Le g0.G g.G) (hf : DR T g.G (.fn k caps) (.ref f)) (q : DRs T g.G ds vs) (r : Vals vs us)
    (p : Pr T b E (fun r env' w' => ∀ g' v H', RS T b g' env' w' σ H' → Le g0.G g'.G → RV T b g' H' env' v r → Q v H') (liftF (ap k caps ds w) env w)) :
    wpAny (model X.prog X.w) X.A (call (.ref f) us) (EP X pins σ Q) X.xe s := by
  have e0 : Env0 X.prog X.w T.K X.mg X.base X.A X.stack s H := by
    rw [← c.K]
    exact I.env0
  have z := hap k caps X.A X.stack s H g.G w f ds vs us Q E (c.room.mono hm) e0 R.kept.gh R.kept.pen hf q r (liftF_pr R l0 p)
  refine wpAny_call (codeAny_mono z fun r s' hq => ?_)
  cases r with
  | error e => exact passes_call c.tk (fun _ _ _ _ h => h) pins σ H s e s' I hq
  | ok fl =>
    cases fl with
    | ret u => exact I.after hq
    | next => exact False.elim hq
    | brk => exact False.elim hq
    | cont => exact False.elim hq
theorem fn_at {T : Th} {G H : Hp} {P : Program} {w : World} {h : Heap} {k : Nat} {caps : List D} {v : V} (hd : DR T G (.fn k caps) v) (gh : ∀ a o, G a = some o → H a = some o) (hok : HOk P w H h) : ∃ f, v = .ref f ∧ PySem.W.FnAt f h := by
  unfold DR at hd
  obtain ⟨cvs, ⟨cl, ⟨f0, c', pm, ctv, dV, doc, ef, hF, _⟩, _⟩, _⟩ := hd
  exact ⟨f0, ef, _, _, _, _, (hok f0 _ (gh _ _ hF)).1⟩
/-- a(e, ..), a a name that holds a function value -/
theorem cap (c : CO X T E n) (hap : ApOk T X.prog X.w X.mg X.base m ap) (hm : m ≤ n) (i : Nat) (ha : PA X (e :: es) (tAx T b E fr)) (hN : X.N[i]? = some a := by rfl)
    (hv : Vis X.env.scope a := by first | exact Or.inl rfl | exact Or.inr (Or.inl rfl) | exact Or.inr (Or.inr rfl)) (hd : (a == ("__debug__" : Str)) = false := by decide) (hcd : (a == ("__classdict__" : Str)) = false := by decide)
    (he : starEach (e :: es) X.env = (false, eval e X.env) :: starEach es X.env := by rfl) (hpl : (backTo p2 (starEach es X.env)).any (·.1) = false := by rfl) : PE X (.Call (.Name a p1) (e :: es) [] p2) (tEx T b E (xAp i ap fr)) := by
  refine ⟨fun pins s σ H Q I h => ?_⟩
  obtain ⟨g, env, w, R, p⟩ := h
  unfold xAp at p
  cases e1 : env[i]? with
  | none => rw [e1] at p; exact p.elim
  | some sl =>
    rw [e1] at p
    cases sl with
    | no => exact p.elim
    | ow d => exact p.elim
    | fr d =>
      cases d with
      | fn k caps =>
        obtain ⟨v, h1, h2⟩ := R.fr i _ e1
        obtain ⟨f, rfl, hfa⟩ := fn_at h2 R.kept.gh I.hok
        refine wpAny_Call_Name_kw (thn ((pe_var (pos := p1) (i := i) hN hv hd hcd).run pins s σ H (fun v H1 => v = .ref f ∧ H1 = H) I ⟨.ref f, h1, rfl, rfl⟩) fun u s1 ⟨v, H1, I1, r1, q1⟩ => ?_)
        obtain ⟨rfl, rfl⟩ := q1
        obtain rfl : u = Value.ref f := r1
        obtain ⟨_, ef, hfa1⟩ := fn_at h2 R.kept.gh I1.hok
        cases ef
        rw [Pr.bind] at p
        refine PySem.W.callWith_F hfa1 (thn (ha.run p2 pins s1 σ H1 (fun vs H2 => ∃ g' env' w' ds, RS T b g' env' w' σ H2 ∧ Le g.G g'.G ∧ DRs T g'.G ds vs ∧
          Pr T b E (fun r env' w' => ∀ g' v H', RS T b g' env' w' σ H' → Le g.G g'.G → RV T b g' H' env' v r → Q v H') (liftF (ap k caps ds w') env' w')) I1 ⟨g, env, w, R, p.mono fun ds env' w' z g' vs H2 R2 l2 q2 => ⟨g', env', w', ds, R2, l2, q2, z⟩⟩)
          fun us s2 ⟨vs, H2, I2, r2, g', env', w', ds, R2, l2, q2, z⟩ => ?_) he hpl
        obtain ⟨_, ef, hfa2⟩ := fn_at (h2.le l2) R2.kept.gh I2.hok
        cases ef
        exact ⟨hfa2, ap_ok c hap hm I2 R2 l2 (h2.le l2) q2 r2 z⟩
      | _ => exact p.elim
/-- a() -/
theorem cap0 (c : CO X T E n) (hap : ApOk T X.prog X.w X.mg X.base m ap) (hm : m ≤ n) (i : Nat) (hN : X.N[i]? = some a := by rfl)
    (hv : Vis X.env.scope a := by first | exact Or.inl rfl | exact Or.inr (Or.inl rfl) | exact Or.inr (Or.inr rfl)) (hd : (a == ("__debug__" : Str)) = false := by decide) (hcd : (a == ("__classdict__" : Str)) = false := by decide) :
    PE X (.Call (.Name a p1) [] [] p2) (tEx T b E (xAp i ap aN)) := by
  refine ⟨fun pins s σ H Q I h => ?_⟩
  obtain ⟨g, env, w, R, p⟩ := h
  unfold xAp at p
  cases e1 : env[i]? with
  | none => rw [e1] at p; exact p.elim
  | some sl =>
    rw [e1] at p
    cases sl with
    | no => exact p.elim
    | ow d => exact p.elim
    | fr d =>
      cases d with
      | fn k caps =>
        obtain ⟨v, h1, h2⟩ := R.fr i _ e1
        obtain ⟨f, rfl, hfa⟩ := fn_at h2 R.kept.gh I.hok
        refine wpAny_Call_Name_kw (thn ((pe_var (pos := p1) (i := i) hN hv hd hcd).run pins s σ H (fun v H1 => v = .ref f ∧ H1 = H) I ⟨.ref f, h1, rfl, rfl⟩) fun u s1 ⟨v, H1, I1, r1, q1⟩ => ?_)
        obtain ⟨rfl, rfl⟩ := q1
        obtain rfl : u = Value.ref f := r1
        obtain ⟨_, ef, hfa1⟩ := fn_at h2 R.kept.gh I1.hok
        cases ef
        exact PySem.W.callWith_F0 hfa1 (ap_ok c hap hm I1 R (Le.refl _) h2 .nil .nil p)
      | _ => exact p.elim
end

/-! ### a lambda made -/
/-- the heap behind it -/
structure Grow (tabs : List (Addr × Str)) (H H1 : Hp) : Prop where
  ext : LamX.ExtN H H1
  tb : ∀ a ps, H a = some (.tbl ps) → ∃ ps', H1 a = some (.tbl ps')
  tabs : LamX.Tabs tabs H1
section
variable {X : Cx} {pins : List (Addr × Obj)} {σ : L2.St} {H : Hp} {s : Shared} {tabs : List (Addr × Str)} {c P : Addr} {params : Arguments} {body : Expr} {scope : Scope} {pos : Pos} {E : Value → Shared → Prop} {Q : Value → Shared → Prop}
theorem Grow.laid {H1 : Hp} {a : Addr} {o : HO} (g : Grow tabs H H1) (n : H1 a = none) : Grow tabs H (upd H1 a o) := by
  refine ⟨fun b u e hn => ?_, fun b ps e => ?_, g.tabs.ext fun b u e => ?_⟩
  · have z := g.ext b u e hn
    rw [upd_ne (ne_of_none z n)]
    exact z
  · obtain ⟨ps', z⟩ := g.tb b ps e
    exact ⟨ps', by rw [upd_ne (ne_of_none z n)]; exact z⟩
  · rw [upd_ne (ne_of_none e n)]
    exact e
theorem Grow.refl (t : LamX.Tabs tabs H) : Grow tabs H H := ⟨LamX.ExtN.refl H, fun a ps e => ⟨ps, e⟩, t⟩
theorem Grow.trans {H1 H2 : Hp} (a : Grow tabs H H1) (b : Grow tabs H1 H2) : Grow tabs H H2 := ⟨a.ext.trans b.ext, fun c ps e => by
  obtain ⟨ps', z⟩ := a.tb c ps e
  exact b.tb c ps' z, b.tabs⟩
theorem objO_ok {Pr : Program} {w : World} {H : Hp} {h : Heap} {a : Addr} {o : Obj} (e : h.get? a = some o) : ObjOk Pr w H h a (ObjO a o) := ⟨e, ⟨o, e⟩, fun _ _ y k => k _ y⟩
theorem mk_tail {dV : Value} (I : Inv X pins σ H s) (TB : LamX.TabB X.base X.mg c P) (hcode : X.env.code = .ref c) (hm : (P, X.env.qual ++ "<lambda>") ∈ tabs) (hu : ∀ p ∈ tabs, p.1 = P → p.2 = X.env.qual ++ "<lambda>") (hT : LamX.Tabs tabs H)
    (hfree : ∀ y ∈ scope.names, y.2 = .free → ∃ c, X.env.cells.lookup y.1 = some c)
    (h : ∀ (f c' : Addr) (pm ctv doc : Value) (H1 : Hp) (s' : Shared), Inv X pins σ H1 s' → Grow tabs H H1 →
      H1 f = some (ObjO f (PySem.W.kdv_obj "<lambda>" (X.env.qual ++ "<lambda>") params (.expr body) scope (cloFrom X.env.cells scope.names []) dV doc pm c' ctv)) → H1 c' = some (LamX.CodeO c' (X.env.qual ++ "<lambda>")) → Q (.ref f) s') :
    wpAny (model X.prog X.w) X.A (makeTail "<lambda>" (X.env.qual ++ "<lambda>") params (.expr body) scope X.env dV .none none pos pos.line) Q E s := by
  obtain ⟨ps, hP, ht, ha⟩ := hT _ hm
  have bP : s.heap.BuiltinsAt X.mg P := TB.bm.keeps I.bk
  have hP' : s.heap.get? P = some { cls := .none, data := .fields ps } := I.hok P _ hP
  cases hc : codeAmong pos ps.toList with
  | none =>
    refine PySem.W.kdv_makeTail (mg := X.mg) (c := c) (P := P) (ps := ps) (closure_ok hfree) I.ok.glob (I.mod.glob.keeps I.bk) hcode (TB.code.keeps I.bk) hP' ht hc TB.gP bP fun c' ctv doc h' tk hx hge hlt hrec htb => ?_
    obtain ⟨c2, oc, vs, t, e2, hoc, hd, hv⟩ := hrec
    cases e2
    have nC : H c' = none := I.hok.fresh hge
    have I1 := LamX.inv_table (t' := tk) (more := #[rawInt pos.line, rawInt pos.col, .ref c']) I hP hx htb hge ⟨oc, vs, t, hoc, hd, hv⟩
    have hE : LamX.ExtN H (upd (upd H P (.tbl (ps ++ #[rawInt pos.line, rawInt pos.col, .ref c']))) c' (LamX.CodeO c' (X.env.qual ++ "<lambda>"))) := fun b o e n => by
      rw [upd_ne (ne_of_none e nC), upd_ne (fun z => n ps (Option.some.inj (e.symm.trans (by rw [z]; exact hP))))]
      exact e
    have eL : (ps ++ #[rawInt pos.line, rawInt pos.col, .ref c']).toList = ps.toList ++ [rawInt pos.line, rawInt pos.col, .ref c'] := by simp
    have G1 : Grow tabs H (upd (upd H P (.tbl (ps ++ #[rawInt pos.line, rawInt pos.col, .ref c']))) c' (LamX.CodeO c' (X.env.qual ++ "<lambda>"))) := by
      refine ⟨hE, fun b qs e => ?_, fun p hp => ?_⟩
      · by_cases hb : b = P
        · exact ⟨_, by rw [hb, upd_ne (ne_of_none hP nC), upd_same]⟩
        · exact ⟨qs, by rw [upd_ne (ne_of_none e nC), upd_ne hb]; exact e⟩
      · by_cases hb : p.1 = P
        · rw [hu p hp hb, hb]
          refine ⟨_, by rw [upd_ne (ne_of_none hP nC), upd_same], by rw [eL]; exact PySem.TriplesOk_snoc _ _ _ _ ht, fun p' cv hcv => ?_⟩
          rw [eL] at hcv
          rcases LamX.among_app _ ht hcv with z | z
          · obtain ⟨c0, e1, e2⟩ := ha p' cv z
            exact ⟨c0, e1, hE _ _ e2 LamX.codeO_ne⟩
          · exact ⟨c', z, upd_same⟩
        · obtain ⟨ps', a1, a2, a3⟩ := hT p hp
          refine ⟨ps', by rw [upd_ne (ne_of_none a1 nC), upd_ne hb]; exact a1, a2, fun p' cv hcv => ?_⟩
          obtain ⟨c0, e1, e2⟩ := a3 p' cv hcv
          exact ⟨c0, e1, hE _ _ e2 LamX.codeO_ne⟩
    have nF := I1.hok.fresh (Nat.le_refl _)
    have I2 := I1.laid (t' := tk) (a := h'.objs.size) (o := ObjO h'.objs.size (PySem.W.kdv_obj "<lambda>" (X.env.qual ++ "<lambda>") params (.expr body) scope (cloFrom X.env.cells scope.names []) dV doc ((X.mg "__name__").getD .none) c' ctv))
      (h' := h'.push (PySem.W.kdv_obj "<lambda>" (X.env.qual ++ "<lambda>") params (.expr body) scope (cloFrom X.env.cells scope.names []) dV doc ((X.mg "__name__").getD .none) c' ctv)) (fun b o e => Heap.get?_push_of_some _ e) (Nat.le_refl _) (objO_ok (Heap.get?_push_size _ rfl))
    refine h h'.objs.size c' ((X.mg "__name__").getD .none) ctv doc _ _ I2 (G1.laid nF) upd_same ?_
    rw [upd_ne (Nat.ne_of_lt hlt), upd_same]
  | some cv =>
    obtain ⟨c', e, hco⟩ := ha pos cv hc
    subst e
    refine PySem.W.kdv_makeTailHit (mg := X.mg) (c := c) (P := P) (ps := ps) (closure_ok hfree) I.ok.glob (I.mod.glob.keeps I.bk) hcode (TB.code.keeps I.bk) hP' ht hc bP fun ctv doc h' tk hx hsz => ?_
    have I1 : Inv X pins σ H { s with heap := h', toks := tk } := I.kept hx
    have nF : H h'.objs.size = none := I1.hok.fresh (Nat.le_refl _)
    have I2 := I1.laid (t' := tk) (a := h'.objs.size) (o := ObjO h'.objs.size (PySem.W.kdv_obj "<lambda>" (X.env.qual ++ "<lambda>") params (.expr body) scope (cloFrom X.env.cells scope.names []) dV doc ((X.mg "__name__").getD .none) c' ctv))
      (h' := h'.push (PySem.W.kdv_obj "<lambda>" (X.env.qual ++ "<lambda>") params (.expr body) scope (cloFrom X.env.cells scope.names []) dV doc ((X.mg "__name__").getD .none) c' ctv)) (fun b o e => Heap.get?_push_of_some _ e) (Nat.le_refl _) (objO_ok (Heap.get?_push_size _ rfl))
    refine h h'.objs.size c' ((X.mg "__name__").getD .none) ctv doc _ _ I2 ((Grow.refl hT).laid nF) upd_same ?_
    rw [upd_ne (ne_of_none hco nF)]
    exact hco
end
end HK

/-! HKv: lambdas handed on. -/
namespace HK
open PySem PySem.Spec PySem.Calls PyProof.Rows L2
/-- where a lambda of the text stands, as L tells -/
structure LamAt (X : Cx) (T : Th) (L : Lam) (params : Arguments) (body : Expr) (scope : Scope) : Prop where
  tb : ∃ c P, LamX.TabB X.base X.mg c P ∧ X.env.code = .ref c ∧ (P, X.env.qual ++ "<lambda>") ∈ T.tabs ∧ ∀ p ∈ T.tabs, p.1 = P → p.2 = X.env.qual ++ "<lambda>"
  qual : L.qual = X.env.qual ++ "<lambda>"
  par : L.params = params
  bd : L.body = body
  sc : L.scope = scope
  kw : params.kw_defaults = []
  dfs : (params.defaults = [] ∧ L.dfs = []) ∨ ∃ i j p, params.defaults = [.Constant (.int i) j p] ∧ L.dfs = [.int i]
  fr : ∀ y ∈ scope.names, y.2 = .free → ∃ c, X.env.cells.lookup y.1 = some c
section
variable {X : Cx} {T : Th} {L : Lam} {pins : List (Addr × Obj)} {σ : L2.St} {H : Hp} {s : Shared} {params : Arguments} {body : Expr} {scope : Scope} {pos : Pos} {E : Value → Shared → Prop} {Q : Value → Shared → Prop}
theorem mk_lam (A : LamAt X T L params body scope) (I : Inv X pins σ H s) (hT : LamX.Tabs T.tabs H)
    (h : ∀ (f : Addr) (H1 : Hp) (s' : Shared), Inv X pins σ H1 s' → Grow T.tabs H H1 → FunO H1 L (.ref f) (cloFrom X.env.cells scope.names []) → Q (.ref f) s') :
    wpAny (model X.prog X.w) X.A (eval (.Lambda params body scope pos) X.env) Q X.xe s := by
  obtain ⟨c, P, TB, hcode, hm, hu⟩ := A.tb
  rcases A.dfs with ⟨d0, d1⟩ | ⟨i, j, p, d0, d1⟩
  · refine PySem.W.kla_eval (by rw [defaultsOf_eq, A.kw, d0]; rfl) ?_
    rw [makeFunction_eq]
    simp only [List.zip_nil_right, List.filterMap_nil, List.isEmpty_nil, if_true, pure_bind]
    refine mk_tail I TB hcode hm hu hT A.fr fun f c' pm ctv doc H1 s' I1 g e1 e2 => h f H1 s' I1 g ⟨f, c', pm, ctv, .none, doc, rfl, ?_, ?_, .inl ⟨rfl, d1⟩⟩
    · rw [A.qual, A.par, A.bd, A.sc]
      exact e1
    · rw [A.qual]
      exact e2
  · refine PySem.W.kdv_lam (by rw [d0]; rfl) A.kw ?_
    rw [d0]
    refine PySem.W.kdv_all1 (thn ((pe_int (X := X) (i := i) (j := j) (pos := p)).run pins s σ H (fun v H1 => v = .int i ∧ H1 = H) I ⟨rfl, rfl⟩) fun u s1 ⟨v, H1, I1, r1, q1⟩ => PySem.W.kdv_all0 ?_)
    obtain ⟨rfl, rfl⟩ := q1
    rw [makeFunction_eq]
    simp only [List.zip_nil_right, List.filterMap_nil, List.isEmpty_nil, if_true, pure_bind, List.isEmpty_cons, Bool.false_eq_true, if_false]
    refine wpAny_bind (wpAny_newTextTuple ?_)
    have nT := I1.hok.fresh (Nat.le_refl _)
    have I2 := I1.laid (t' := s1.toks) (a := s1.heap.objs.size) (o := ObjO s1.heap.objs.size (PySem.W.kdv_tup [u])) (h' := s1.heap.push (PySem.W.kdv_tup [u])) (fun b o e => Heap.get?_push_of_some _ e) (Nat.le_refl _) (objO_ok (Heap.get?_push_size _ rfl))
    have gT : Grow T.tabs H1 (upd H1 s1.heap.objs.size (ObjO s1.heap.objs.size (PySem.W.kdv_tup [u]))) := (Grow.refl hT).laid nT
    refine mk_tail I2 TB hcode hm hu gT.tabs A.fr fun f c' pm ctv doc H2 s' I3 g e1 e2 => h f H2 s' I3 (gT.trans g) ⟨f, c', pm, ctv, _, doc, rfl, ?_, ?_, .inr ⟨s1.heap.objs.size, [u], rfl, g.ext _ _ upd_same (fun ps z => by unfold ObjO at z; cases z), ?_⟩⟩
    · rw [A.qual, A.par, A.bd, A.sc]
      exact e1
    · rw [A.qual]
      exact e2
    · rw [d1]
      exact .cons r1 .nil
end

/-! ### arguments with a lambda -/
abbrev LX := List Slot → Pen → Rv (List D × List D)
def tLx (X : Cx) (T : Th) (b : Bs) (E : XK) (L : Lam) (cl : List (Str × Addr)) (f : LX) : L2.St → Hp → (List V → V → List V → Hp → Prop) → Prop := fun σ H Q => ∃ g env w, RS T b g env w σ H ∧
  Pr T b E (fun ds env' w' => ∀ g' vs1 u vs2 H', RS T b g' env' w' σ H' → Le g.G g'.G → DRs T g'.G ds.1 vs1 → FunO g'.G L u cl → DRs T g'.G ds.2 vs2 → Q vs1 u vs2 H') (f env w)
structure PL (X : Cx) (es : List Expr) (t : L2.St → Hp → (List V → V → List V → Hp → Prop) → Prop) : Prop where
  run : ∀ (pos : Pos) (pins : List (Addr × Obj)) (s : Shared) (σ : L2.St) (H : Hp) (Q : List V → V → List V → Hp → Prop), Inv X pins σ H s → t σ H Q →
    wpAny (model X.prog X.w) X.A (spliced (backTo pos (starEach es X.env))) (fun us s' => ∃ vs1 u vs2 H', Inv X pins σ H' s' ∧ Vals (vs1 ++ u :: vs2) us ∧ Q vs1 u vs2 H') X.xe s
def lH (fr : AX) : LX := fun env w => (fr env w).bind fun ds env w => .ok ([], ds) env w
def lC (fa : EX) (fr : LX) : LX := fun env w => (fa env w).bind fun r env w => (fr env w).bind fun ds env w => .ok (r.dat :: ds.1, ds.2) env w
section
variable {X : Cx} {T : Th} {b : Bs} {E : XK} {n k : Nat} {L : Lam} {cl : List (Str × Addr)} {e : Expr} {es : List Expr} {fa : EX} {fr : AX} {fl : LX} {params : Arguments} {body : Expr} {scope : Scope} {pos : Pos}
theorem RS.growl {g : Gh} {env : List Slot} {w : Pen} {σ : L2.St} {H H1 : Hp} (R : RS T b g env w σ H) (gr : Grow T.tabs H H1) (l : List Addr) (hl : ∀ a ∈ l, ∃ o, H1 a = some o ∧ plainO o = false ∧ ∀ ps, o ≠ .tbl ps) :
    ∃ g', RS T b g' env w σ H1 ∧ Le g.G g'.G ∧ ∀ a ∈ l, g'.G a = H1 a := by
  have k := R.kept
  obtain ⟨G1, hG1⟩ : ∃ G1 : Hp, G1 = fun a => if a ∈ l then H1 a else g.G a := ⟨_, rfl⟩
  have gin : ∀ {a}, a ∈ l → G1 a = H1 a := fun {a} m => by rw [hG1]; exact if_pos m
  have gout : ∀ {a}, a ∉ l → G1 a = g.G a := fun {a} m => by rw [hG1]; exact if_neg m
  have up1 : ∀ a o, g.G a = some o → H1 a = some o := fun a o e => gr.ext a o (k.gh a o e) fun ps z => k.pen.nt a ps (z ▸ e)
  have up : ∀ a o, g.G a = some o → G1 a = some o := fun a o e => by
    by_cases m : a ∈ l
    · rw [gin m]
      exact up1 a o e
    · rw [gout m]
      exact e
  have out : ∀ {a o}, H1 a = some o → plainO o = true → a ∉ l := fun {a o} e n m => by
    obtain ⟨o', z, po, _⟩ := hl a m
    rw [e] at z
    cases z
    rw [n] at po
    cases po
  have K1 : Kept T b G1 H1 w := by
    refine ⟨fun a o e => ?_, ⟨gr.tabs, fun a ps e => ?_, ?_, ?_⟩, k.b1.trans (Le.of up), fun a o np nt e => gr.ext a o (k.b2 a o np nt e) nt, fun a ps e => ?_, fun a o po e => ?_⟩
    · by_cases m : a ∈ l
      · rw [gin m] at e
        exact e
      · rw [gout m] at e
        exact up1 a o e
    · by_cases m : a ∈ l
      · obtain ⟨o, z, _, nt⟩ := hl a m
        rw [gin m, z] at e
        exact nt ps (Option.some.inj e)
      · rw [gout m] at e
        exact k.pen.nt a ps e
    · obtain ⟨c, p1, p2⟩ := k.pen.is
      exact ⟨c, gr.ext _ _ p1 (fun ps z => by cases z), up _ _ p2⟩
    · obtain ⟨c, p1, p2⟩ := k.pen.is
      have z := gr.ext _ _ p1 (fun ps z => by cases z)
      rw [gout (out z rfl)]
      exact k.pen.no
    · obtain ⟨ps', z⟩ := k.b2t a ps e
      exact gr.tb a ps' z
    · by_cases m : a ∈ l
      · obtain ⟨o', z, po', _⟩ := hl a m
        rw [gin m, z] at e
        cases e
        rw [po] at po'
        cases po'
      · rw [gout m] at e
        exact k.b3 a o po e
  refine ⟨⟨G1, g.ad⟩, ⟨K1, R.len, fun i d e => ?_, fun i d e => ?_, R.inj⟩, Le.of up, fun a m => gin m⟩
  · obtain ⟨v, h1, h2⟩ := R.fr i d e
    exact ⟨v, h1, h2.le (Le.of up)⟩
  · obtain ⟨h1, h2⟩ := R.ow i d e
    obtain ⟨o, eo, po⟩ := h2.own.there'
    have z := gr.ext _ _ eo (plain_nt po)
    have m : g.ad i ∉ l := out z po
    refine ⟨h1, (gout m).trans h2.no, h2.np, h2.nb, h2.own.keep (Le.of up) fun o' eo' => ?_⟩
    rw [eo] at eo'
    cases eo'
    exact z
/-- the state behind a lambda's making -/
theorem RS.grow {g : Gh} {env : List Slot} {w : Pen} {σ : L2.St} {H H1 : Hp} {u : V} (R : RS T b g env w σ H) (gr : Grow T.tabs H H1) (fo : FunO H1 L u cl) : ∃ g', RS T b g' env w σ H1 ∧ Le g.G g'.G ∧ FunO g'.G L u cl := by
  obtain ⟨f, c', pm, ctv, dV, doc, rfl, e1, e2, e3⟩ := fo
  obtain ⟨l, hl, hf, hc', ht⟩ : ∃ l : List Addr, (∀ a ∈ l, ∃ o, H1 a = some o ∧ plainO o = false ∧ ∀ ps, o ≠ .tbl ps) ∧ f ∈ l ∧ c' ∈ l ∧ ∀ t, dV = .ref t → t ∈ l := by
    rcases e3 with ⟨h1, _⟩ | ⟨t, us, h1, h2, _⟩
    · refine ⟨[f, c'], fun a m => ?_, by simp, by simp, fun t e => by rw [h1] at e; cases e⟩
      rcases List.mem_cons.mp m with rfl | m
      · exact ⟨_, e1, rfl, fun ps z => by unfold ObjO at z; cases z⟩
      · rcases List.mem_singleton.mp m with rfl
        exact ⟨_, e2, rfl, fun ps z => LamX.codeO_ne ps z⟩
    · refine ⟨[f, c', t], fun a m => ?_, by simp, by simp, fun t' e => by rw [h1] at e; cases e; simp⟩
      rcases List.mem_cons.mp m with rfl | m
      · exact ⟨_, e1, rfl, fun ps z => by unfold ObjO at z; cases z⟩
      · rcases List.mem_cons.mp m with rfl | m
        · exact ⟨_, e2, rfl, fun ps z => LamX.codeO_ne ps z⟩
        · rcases List.mem_singleton.mp m with rfl
          exact ⟨_, h2, rfl, fun ps z => by unfold ObjO at z; cases z⟩
  obtain ⟨g', R', l', hg⟩ := R.growl gr l hl
  refine ⟨g', R', l', ⟨f, c', pm, ctv, dV, doc, rfl, (hg f hf).trans e1, (hg c' hc').trans e2, ?_⟩⟩
  rcases e3 with h1 | ⟨t, us, h1, h2, h3⟩
  · exact .inl h1
  · exact .inr ⟨t, us, h1, (hg t (ht t h1)).trans h2, h3⟩
/-- the lambda, then further arguments -/
theorem plh (A : LamAt X T L params body scope) (ha : PA X es (tAx T b E fr)) (hs : starEach (.Lambda params body scope pos :: es) X.env = (false, eval (.Lambda params body scope pos) X.env) :: starEach es X.env := by rfl) :
    PL X (.Lambda params body scope pos :: es) (tLx X T b E L (cloFrom X.env.cells scope.names []) (lH fr)) := by
  refine ⟨fun pos' pins s σ H Q I ⟨g, env, w, R, p⟩ => ?_⟩
  rw [hs]
  show wpAny _ _ (spliced ((false, eval (.Lambda params body scope pos) X.env) :: backTo pos' (starEach es X.env))) _ _ s
  refine Calls.spliced_cons (mk_lam A I R.kept.pen.tabs fun f H1 s1 I1 gr fo => ?_)
  obtain ⟨g1, R1, l1, fo1⟩ := RS.grow R gr fo
  unfold lH at p
  rw [Pr.bind] at p
  refine thn (ha.run pos' pins s1 σ H1 (fun vs H2 => Q [] (.ref f) vs H2) I1 ⟨g1, env, w, R1, p.mono fun ds env' w' z g' vs H2 R2 l2 q2 => ?_⟩) fun us s2 ⟨vs, H2, I2, r2, q2⟩ => ⟨[], .ref f, vs, H2, I2, .cons rfl r2, q2⟩
  exact z g' [] (.ref f) vs H2 R2 (l1.trans l2) .nil (fo1.le l2) q2
theorem plc (he : PE X e (tEx T b E fa)) (hr : PL X es (tLx X T b E L cl fl)) (hs : starEach (e :: es) X.env = (false, eval e X.env) :: starEach es X.env := by rfl) : PL X (e :: es) (tLx X T b E L cl (lC fa fl)) := by
  refine ⟨fun pos' pins s σ H Q I ⟨g, env, w, R, p⟩ => ?_⟩
  rw [hs]
  show wpAny _ _ (spliced ((false, eval e X.env) :: backTo pos' (starEach es X.env))) _ _ s
  unfold lC at p
  rw [Pr.bind] at p
  refine Calls.spliced_cons (thn (he.run pins s σ H (fun v H1 => ∃ g' env' w' r, RS T b g' env' w' σ H1 ∧ Le g.G g'.G ∧ RV T b g' H1 env' v r ∧
    Pr T b E (fun ds env' w' => ∀ g' vs1 u vs2 H', RS T b g' env' w' σ H' → Le g.G g'.G → DRs T g'.G ds.1 vs1 → FunO g'.G L u cl → DRs T g'.G ds.2 vs2 → Q vs1 u vs2 H') ((fl env' w').bind fun ds env w => .ok (r.dat :: ds.1, ds.2) env w)) I
    ⟨g, env, w, R, p.mono fun r env' w' z g' v H1 R1 l1 q1 => ⟨g', env', w', r, R1, l1, q1, z⟩⟩) fun u0 s1 ⟨v, H1, I1, r1, g1, env1, w1, r, R1, l1, q1, z⟩ => ?_)
  obtain ⟨g2, R2, l2, d2⟩ := R1.freeze q1
  rw [Pr.bind] at z
  refine thn (hr.run pos' pins s1 σ H1 (fun vs1 u vs2 H' => Q (v :: vs1) u vs2 H') I1 ⟨g2, env1, w1, R2, z.mono fun ds env' w' y g' vs1 u vs2 H' R3 l3 q1 fo q2 => ?_⟩) fun us s2 ⟨vs1, u, vs2, H2, I2, rr, q2⟩ => ⟨v :: vs1, u, vs2, H2, I2, .cons r1 rr, q2⟩
  exact y g' (v :: vs1) u vs2 H' R3 ((l1.trans l2).trans l3) (.cons (d2.le l3) q1) fo q2
end
end HK

/-! HKw: a def called with a lambda. -/
namespace HK
open PySem PySem.Spec PySem.Calls PyProof.Rows L2
section
variable {T : Th} {G H G' H' : Hp} {cs : List Addr} {h : Heap} {w w' : Pen} {d : D} {a : Addr}
theorem Own.cut (o : Own T G H a d) (CG : AreCells G cs h) (m : a ∉ cs) (e : noFn d = true) : Own T (cut G cs) (cut H cs) a d := by
  cases d with
  | lst ds =>
    obtain ⟨vs, q, r⟩ := o
    unfold noFn at e
    exact ⟨vs, (cut_out m).trans q, DRs.cut CG r e⟩
  | dic ks ds =>
    unfold noFn at e
    obtain ⟨kvs, q, k, r⟩ := o
    exact ⟨kvs, (cut_out m).trans q, k, DRs.cut CG r e⟩
  | dit ks ds =>
    unfold noFn at e
    obtain ⟨kvs, q, k, r⟩ := o
    exact ⟨kvs, (cut_out m).trans q, k, DRs.cut CG r e⟩
  | _ => exact o.elim
/-- what is known of the cells while they are told -/
structure Told (H : Hp) (cs : List Addr) (h : Heap) : Prop where
  n : ∀ c ∈ cs, H c = none
  c : ∀ c ∈ cs, ∃ ob, h.get? c = some ob ∧ isCell ob
theorem Told.up (t : Told H cs h) (s : ∀ a o, G a = some o → H a = some o) : Told G cs h := by
  refine ⟨fun c m => ?_, t.c⟩
  cases e : G c with
  | none => rfl
  | some o =>
    have z := s c o e
    rw [t.n c m] at z
    cases z
theorem Told.cells (t : Told H cs h) (pa : T.pa ∉ cs) (k : Kept T ⟨withC G cs h, withC H cs h⟩ G' H' w') : (∀ c ∈ cs, H' c = withC H cs h c) ∧ AreCells H' cs h := by
  have z : ∀ c ∈ cs, H' c = withC H cs h c := fun c m => by
    obtain ⟨ob, q, hi⟩ := t.c c m
    have e : withC H cs h c = some (ObjO c ob) := withC_in m q
    rw [e]
    exact k.b2 c _ (fun y => pa (y ▸ m)) (fun ps y => objO_tbl y) e
  refine ⟨z, fun c m o e => ?_⟩
  obtain ⟨ob, q, hi⟩ := t.c c m
  rw [z c m, withC_in m q] at e
  cases e
  exact ⟨ob, rfl, hi, q⟩
theorem Kept.cut (k : Kept T ⟨withC G cs h, withC H cs h⟩ G' H' w') (t : Told H cs h) (gh : ∀ a o, G a = some o → H a = some o) (pa : T.pa ∉ cs) : Kept T ⟨G, H⟩ (cut G' cs) (cut H' cs) w' := by
  obtain ⟨hs, C⟩ := t.cells pa k
  have tg := t.up gh
  have nG : ∀ {a o}, G a = some o → a ∉ cs := fun {a o} e m => by
    rw [tg.n a m] at e
    cases e
  have nH : ∀ {a o}, H a = some o → a ∉ cs := fun {a o} e m => by
    rw [t.n a m] at e
    cases e
  have lw : Le G (withC G cs h) := Le.of fun a o e => withC_up tg.n e
  refine ⟨fun a o e => ?_, k.pen.cut C k.gh, ⟨fun a u r => ?_, fun a u hd e => ?_⟩, fun a o np nt e => ?_, fun a ps e => ?_, fun a o po e => ?_⟩
  · obtain ⟨m, e⟩ := cut_some e
    rw [cut_out m]
    exact k.gh a o e
  · have m : a ∉ cs := r.elim nG fun ⟨o, e⟩ => nG e
    have z := k.b1.rd a u (lw.rd a u r)
    exact z.imp (fun z => (cut_out m).trans z) fun ⟨o, z⟩ => ⟨o, (cut_out m).trans z⟩
  · exact (cut_out (nG e)).trans (k.b1.ex a u hd (lw.ex a u hd e))
  · exact (cut_out (nH e)).trans (k.b2 a o np nt (withC_up t.n e))
  · obtain ⟨ps', z⟩ := k.b2t a ps (withC_up t.n e)
    exact ⟨ps', (cut_out (nH e)).trans z⟩
  · obtain ⟨m, e⟩ := cut_some e
    rcases k.b3 a o po e with ⟨o', z⟩ | z
    · have z : withC G cs h a = some o' := z
      rw [withC_out m] at z
      exact .inl ⟨o', z⟩
    · have z : withC H cs h a = none := z
      rw [withC_out m] at z
      exact .inr z
theorem RVf.cut {v : V} {r : Slot} (k : Kept T ⟨withC G cs h, withC H cs h⟩ G' H' w') (t : Told H cs h) (pa : T.pa ∉ cs) (q : RVf T ⟨withC G cs h, withC H cs h⟩ G' H' v r) (e : noFn r.dat = true) : RVf T ⟨G, H⟩ (cut G' cs) (cut H' cs) v r := by
  obtain ⟨hs, C⟩ := t.cells pa k
  cases r with
  | no => exact q.elim
  | fr d => exact DR.cut (C.sub k.gh) q e
  | ow d =>
    obtain ⟨a, ea, O⟩ := q
    obtain ⟨o, eo, po⟩ := O.own.there'
    have m := C.plain eo po
    refine ⟨a, ea, (cut_out m).trans O.no, O.np, ?_, O.own.cut (C.sub k.gh) m e⟩
    have z : withC H cs h a = none := O.nb
    rw [withC_out m] at z
    exact z
end
def chkR (r : Rv Slot) : Rv Slot := match r with
  | .ok s e w => if noFn s.dat = true then .ok s e w else .no
  | .ex x w => if noFns x.fs = true then .ex x w else .no
  | .no => .no
def capD (env : List Slot) : List Nat → Option (List D)
  | [] => some []
  | i :: is => match env[i]? with
    | some (.fr d) => (capD env is).map (d :: ·)
    | _ => none
def xFL (n : Nat) (m : FX) (dds : List D) (k : Nat) (caps : List Nat) (fr : LX) : EX := fun env w => (fr env w).bind fun ds env1 w1 => match capD (iceE env1 caps) caps with
  | some cds => if (ds.1 ++ .fn k cds :: ds.2 ++ dds).length = n then liftF (chkR (m (ds.1 ++ .fn k cds :: ds.2 ++ dds) w1)) (iceE env1 caps) w1 else .no
  | none => .no
theorem capD_some {env : List Slot} : ∀ {is : List Nat} {ds : List D}, capD env is = some ds → ds.length = is.length ∧ ∀ (j : Nat) (i : Nat), is[j]? = some i → ∃ d, ds[j]? = some d ∧ env[i]? = some (.fr d)
  | [], ds, e => by
    unfold capD at e
    cases e
    exact ⟨rfl, fun j i h => by simp at h⟩
  | i :: is, ds, e => by
    unfold capD at e
    cases e1 : env[i]? with
    | none => rw [e1] at e; cases e
    | some sl =>
      rw [e1] at e
      cases sl with
      | no => cases e
      | ow d => cases e
      | fr d =>
        have e : (capD env is).map (d :: ·) = some ds := e
        cases e2 : capD env is with
        | none => rw [e2] at e; cases e
        | some ds' =>
          rw [e2] at e
          cases e
          obtain ⟨l, h⟩ := capD_some e2
          refine ⟨by rw [List.length_cons, List.length_cons, l], fun j i' hj => ?_⟩
          cases j with
          | zero =>
            simp at hj
            subst hj
            exact ⟨d, rfl, e1⟩
          | succ j =>
            obtain ⟨d', h1, h2⟩ := h j i' (by simpa using hj)
            exact ⟨d', by simpa using h1, h2⟩
theorem cells_of {G : Hp} {cl : List (Str × Addr)} : ∀ {xs : List Str} {vs : List V}, vs.length = xs.length → (∀ (i : Nat) (x : Str) (v : V), xs[i]? = some x → vs[i]? = some v → ∃ (c : Addr) (o : Obj) (u : Value), cl.lookup x = some c ∧ G c = some (ObjO c o) ∧ o.data = .cell (some u) ∧ RelV v u) → CellsAt G cl xs vs
  | [], vs, l, _ => List.eq_nil_of_length_eq_zero l
  | x :: xs, [], l, _ => by cases l
  | x :: xs, v :: vs, l, h => ⟨v, vs, rfl, h 0 x v rfl rfl, cells_of (by simpa using l) fun i y u e1 e2 => h (i + 1) y u (by simpa using e1) (by simpa using e2)⟩
section
variable {X : Cx} {T : Th} {b : Bs} {E : XK} {n j k : Nat} {e : Expr} {es : List Expr} {fl : LX} {scope : Scope} {pos p : Pos} {f : Addr} {fd : FuncData} {ps : List Str} {m : FX} {x : Str} {dvs : List V} {ds : List Value} {dds : List D} {caps : List Nat}
/-- what a lambda captures, in the names of its maker -/
structure Caps (X : Cx) (L : Lam) (scope : Scope) (caps : List Nat) : Prop where
  names : ∀ (j : Nat) (y : Str), L.caps[j]? = some y → ∃ i, caps[j]? = some i ∧ X.N[i]? = some y
  len : caps.length = L.caps.length
  free : ∀ y ∈ L.caps, (y, NameKind.free) ∈ scope.names ∧ (X.env.scope.names.lookup y = some .cell ∨ X.env.scope.names.lookup y = some .free) ∧ X.fn y = true
  only : ∀ y ∈ scope.names, y.2 = .free → y.1 ∈ L.caps
theorem clo_look (hf : ∀ y ∈ scope.names, y.2 = .free → ∃ c, X.env.cells.lookup y.1 = some c) {y : Str} {c : Addr} (e : (cloFrom X.env.cells scope.names []).lookup y = some c) : (y, NameKind.free) ∈ scope.names ∧ X.env.cells.lookup y = some c := by
  rcases cloFrom_mem (PySem.mem_of_lookup e) with hm | ⟨h1, h2⟩
  · cases hm
  · obtain ⟨c1, hc⟩ := hf _ h1 rfl
    have hc : X.env.cells.lookup y = some c1 := hc
    refine ⟨h1, ?_⟩
    rw [h2, hc]
    rfl
theorem clo_has (hf : ∀ y ∈ scope.names, y.2 = .free → ∃ c, X.env.cells.lookup y.1 = some c) {y : Str} {c : Addr} (h : (y, NameKind.free) ∈ scope.names) (e : X.env.cells.lookup y = some c) : (cloFrom X.env.cells scope.names []).lookup y = some c := by
  obtain ⟨c', z⟩ := mem_lookup (cloFrom_has (cells := X.env.cells) (acc := []) h)
  rw [z]
  rw [(clo_look hf z).2] at e
  exact e
theorem DRs.at {G : Hp} : ∀ {ds : List D} {vs : List V}, vs.length = ds.length → (∀ (i : Nat) (d : D), ds[i]? = some d → ∃ v, vs[i]? = some v ∧ DR T G d v) → DRs T G ds vs
  | [], vs, l, _ => by rw [List.eq_nil_of_length_eq_zero l]; exact .nil
  | d :: ds, [], l, _ => by cases l
  | d :: ds, v :: vs, l, h => by
    obtain ⟨v', e, q⟩ := h 0 d rfl
    simp at e
    subst e
    exact .cons q (DRs.at (by simpa using l) fun i d' e => by
      obtain ⟨v', e2, q⟩ := h (i + 1) d' (by simpa using e)
      exact ⟨v', by simpa using e2, q⟩)
theorem cfl (c : CO X T E n) (F : FnOk X.prog X.w X.K X.mg X.base (L2.CX X.prog X.w) j f fd ps (SpM T ps.length m)) (hk : j ≤ n) (hm : X.mg x = some (.ref f)) (kp : PySem.W.keepIn X.K (.ref f) = true) (hb : Binds X.K fd ps ds) (hd : Vals dvs ds)
    (hdd : ∀ G, DRs T G dds dvs) (ha : PL X (e :: es) (tLx X T b E (T.lam k) (cloFrom X.env.cells scope.names []) fl)) (hc : Caps X (T.lam k) scope caps) (hfree : ∀ y ∈ scope.names, y.2 = .free → ∃ c, X.env.cells.lookup y.1 = some c)
    (hg : Gl X x := by rfl) (hdb : (x == ("__debug__" : Str)) = false := by decide) (he : starEach (e :: es) X.env = (false, eval e X.env) :: starEach es X.env := by rfl)
    (hpl : (backTo pos (starEach es X.env)).any (·.1) = false := by rfl) : PE X (.Call (.Name x p) (e :: es) [] pos) (tEx T b E (xFL ps.length m dds k caps fl)) := by
  refine ⟨fun pins s σ H Q I ⟨g, env, w, R, p⟩ => ?_⟩
  unfold xFL at p
  rw [Pr.bind] at p
  refine wpAny_Call_Name_kw (ld_glob I hg hm ?_ hdb)
  refine PySem.W.callWith_K (h₀ := X.base) I.ok.mod.kin kp (thn (ha.run pos pins s σ H (fun vs1 u vs2 H1 => ∃ g1 env1 w1 ds, RS T b g1 env1 w1 σ H1 ∧ Le g.G g1.G ∧ DRs T g1.G ds.1 vs1 ∧ FunO g1.G (T.lam k) u (cloFrom X.env.cells scope.names []) ∧ DRs T g1.G ds.2 vs2 ∧
      Pr T b E (fun r env' w' => ∀ g' v H', RS T b g' env' w' σ H' → Le g.G g'.G → RV T b g' H' env' v r → Q v H') (match capD (iceE env1 caps) caps with
        | some cds => if (ds.1 ++ .fn k cds :: ds.2 ++ dds).length = ps.length then liftF (chkR (m (ds.1 ++ .fn k cds :: ds.2 ++ dds) w1)) (iceE env1 caps) w1 else .no
        | none => .no)) I ⟨g, env, w, R, p.mono fun ds env1 w1 z g1 vs1 u vs2 H1 R1 l1 q1 fo q2 => ⟨g1, env1, w1, ds, R1, l1, q1, fo, q2, z⟩⟩)
    fun us s1 ⟨vs1, u, vs2, H1, I1, rv, g1, env1, w1, dd, R1, l1, q1, fo, q2, z⟩ => ⟨I1.kIn, ?_⟩) he hpl
  cases ecd : capD (iceE env1 caps) caps with
  | none => rw [ecd] at z; exact z.elim
  | some cds =>
    rw [ecd] at z
    have z : Pr T b E _ (if (dd.1 ++ .fn k cds :: dd.2 ++ dds).length = ps.length then liftF (chkR (m (dd.1 ++ .fn k cds :: dd.2 ++ dds) w1)) (iceE env1 caps) w1 else .no) := z
    split at z
    · rename_i hl
      obtain ⟨lcd, hcd⟩ := capD_some ecd
      obtain ⟨g2, R2, l2⟩ := R1.ice caps
      have k2 := R2.kept
      -- the captured values, their cells
      obtain ⟨cvs, hcvs⟩ : ∃ cvs : List V, cvs = caps.map fun i => ((σ[i]?).getD none).getD .non := ⟨_, rfl⟩
      have each : ∀ (i : Nat) (y : Str) (d : D), (T.lam k).caps[i]? = some y → cds[i]? = some d → ∃ v c o u, cvs[i]? = some v ∧ DR T g2.G d v ∧ X.env.cells.lookup y = some c ∧ s1.heap.get? c = some o ∧ o.data = .cell (some u) ∧ RelV v u := fun i y d h1 h2 => by
        obtain ⟨ii, e1, e2⟩ := hc.names i y h1
        obtain ⟨d', e3, e4⟩ := hcd i ii e1
        rw [h2] at e3
        cases e3
        obtain ⟨v, h3, h4⟩ := R2.fr ii d e4
        obtain ⟨mm, hn, hlk⟩ := I1.loc
        obtain ⟨f1, f2, f3⟩ := hc.free y (List.mem_of_getElem? h1)
        obtain ⟨u, ru, lk⟩ := hlk ii y v e2 h3 (.inr f2)
        rcases lk with ⟨l1, _⟩ | ⟨_, c, ec, o, ho, hd⟩
        · have l1 : X.env.scope.names.lookup y = some .local := l1
          rcases f2 with f2 | f2 <;> rw [f2] at l1 <;> cases l1
        · exact ⟨v, c, o, u, by rw [hcvs, List.getElem?_map, e1]; show some (((σ[ii]?).getD none).getD .non) = _; rw [h3]; rfl, h4, ec, ho, hd, ru⟩
      obtain ⟨cs, hcs⟩ : ∃ cs : List Addr, cs = (T.lam k).caps.map fun y => (X.env.cells.lookup y).getD 0 := ⟨_, rfl⟩
      have inCs : ∀ {y c}, y ∈ (T.lam k).caps → X.env.cells.lookup y = some c → c ∈ cs := fun {y c} hy e => by
        rw [hcs]
        exact List.mem_map.mpr ⟨y, hy, by rw [e]; rfl⟩
      have lcc : cds.length = (T.lam k).caps.length := by rw [lcd, hc.len]
      have ofCs : ∀ c ∈ cs, ∃ y, y ∈ (T.lam k).caps ∧ X.env.cells.lookup y = some c ∧ ∃ o u, s1.heap.get? c = some o ∧ o.data = .cell (some u) := fun c hm => by
        rw [hcs] at hm
        obtain ⟨y, hy, e⟩ := List.mem_map.mp hm
        obtain ⟨i, hi⟩ := List.getElem?_of_mem hy
        have hi2 : i < cds.length := by
          rw [lcc]
          exact (List.getElem?_eq_some_iff.mp hi).1
        obtain ⟨v, c', o, u, _, h1, h2, h3, h4, _⟩ := each i y _ hi (List.getElem?_eq_getElem hi2)
        rw [h2] at e
        cases e
        exact ⟨y, hy, h2, o, u, h3, h4⟩
      have told : Told H1 cs s1.heap := ⟨fun c hm => by
        obtain ⟨y, _, e, _⟩ := ofCs c hm
        exact I1.freeC y c e, fun c hm => by
        obtain ⟨y, _, _, o, u, h1, h2⟩ := ofCs c hm
        exact ⟨o, h1, _, h2⟩⟩
      have pa : T.pa ∉ cs := fun hm => by
        obtain ⟨c, p1, _⟩ := k2.pen.is
        rw [told.n _ hm] at p1
        cases p1
      have ab : ∀ c ∈ cs, X.s_0.heap.objs.size ≤ c := fun c hm => by
        obtain ⟨y, hy, e, _⟩ := ofCs c hm
        exact I1.ok.cab y c (hc.free y hy).2.2 e
      have nb : ∀ c ∈ cs, X.base.get? c = none := fun c hm => Heap.get?_none_of_le (Nat.le_trans I1.ok.bsz (ab c hm))
      have nf : ∀ c ∈ cs, c ∉ frs X.stack := fun c hm hz => by
        obtain ⟨y, hy, e, _⟩ := ofCs c hm
        rcases List.mem_cons.mp (I1.stkSub _ hz) with q | q
        · exact I1.cne y c e q
        · obtain ⟨_, o, ho, _⟩ := I1.ok.funs.mem q
          exact absurd (Nat.lt_of_lt_of_le (Heap.lt_size ho) (ab c hm)) (Nat.lt_irrefl _)
      have e0 : Env0 X.prog X.w T.K X.mg X.base X.A X.stack s1 H1 := by
        rw [← c.K]
        exact I1.env0
      have e1 := HK.Env0.withC e0 told.n nb nf
      have tG := told.up k2.gh
      have lw : Le g2.G (withC g2.G cs s1.heap) := Le.of fun a o e => withC_up tG.n e
      have gh' : ∀ a o, withC g2.G cs s1.heap a = some o → withC H1 cs s1.heap a = some o := fun a o e => by
        by_cases hm : a ∈ cs
        · unfold withC at e ⊢
          rw [if_pos hm] at e ⊢
          exact e
        · rw [withC_out hm] at e ⊢
          exact k2.gh a o e
      have pen' : PenI T (withC g2.G cs s1.heap) (withC H1 cs s1.heap) w1 := by
        refine ⟨k2.pen.tabs.ext fun a o e => withC_up told.n e, fun a ps e => ?_, ?_, (withC_out pa).trans k2.pen.no⟩
        · by_cases hm : a ∈ cs
          · obtain ⟨o, q, _⟩ := told.c a hm
            rw [withC_in hm q] at e
            exact objO_tbl (Option.some.inj e)
          · rw [withC_out hm] at e
            exact k2.pen.nt a ps e
        · obtain ⟨c, p1, p2⟩ := k2.pen.is
          exact ⟨c, withC_up told.n p1, withC_up tG.n p2⟩
      have lcv : cvs.length = cds.length := by rw [hcvs, List.length_map, lcd]
      have qcv : DRs T (withC g2.G cs s1.heap) cds cvs := (DRs.at lcv fun i d hi => by
        have hi2 : i < (T.lam k).caps.length := by
          rw [← lcc]
          exact (List.getElem?_eq_some_iff.mp hi).1
        obtain ⟨v, c', o, u, h0, h1, _⟩ := each i _ d (List.getElem?_eq_getElem hi2) hi
        exact ⟨v, h0, h1⟩).le lw
      have hfn : DR T (withC g2.G cs s1.heap) (.fn k cds) u := by
        unfold DR
        refine ⟨cvs, ⟨cloFrom X.env.cells scope.names [], fo.le (l2.trans lw), cells_of (lcv.trans lcc) fun i y v h1 h2 => ?_, fun y c e => hc.only _ (clo_look hfree e).1 rfl, fun y y' c e e' => I1.ok.inj y y' c (clo_look hfree e).2 (clo_look hfree e').2⟩, qcv⟩
        have hi2 : i < cds.length := by
          rw [← lcv]
          exact (List.getElem?_eq_some_iff.mp h2).1
        obtain ⟨v', c', o, u', h0, _, e3, e4, e5, e6⟩ := each i y _ h1 (List.getElem?_eq_getElem hi2)
        rw [h2] at h0
        cases h0
        exact ⟨c', o, u', clo_has hfree (hc.free y (List.mem_of_getElem? h1)).1 e3, withC_in (inCs (List.mem_of_getElem? h1) e3) e4, e5, e6⟩
      have qall : DRs T (withC g2.G cs s1.heap) (dd.1 ++ .fn k cds :: dd.2 ++ dds) (vs1 ++ u :: vs2 ++ dvs) := ((q1.le (l2.trans lw)).append (.cons hfn (q2.le (l2.trans lw)))).append (hdd _)
      have zz := liftF_pr (mf := fun ds w => chkR (m ds w)) R2 (l1.trans l2) z
      have sp : SpM T ps.length m (vs1 ++ u :: vs2 ++ dvs) (withC H1 cs s1.heap) (fun v H' => (∀ c ∈ cs, H' c = withC H1 cs s1.heap c) ∧ Q v (cut H' cs)) (fun cls d H' => (∀ c ∈ cs, H' c = withC H1 cs s1.heap c) ∧ E cls d (cut H' cs)) := by
        refine ⟨qall.length.trans hl, withC g2.G cs s1.heap, w1, dd.1 ++ .fn k cds :: dd.2 ++ dds, gh', pen', qall, ?_⟩
        cases em : m (dd.1 ++ .fn k cds :: dd.2 ++ dds) w1 with
        | no =>
          have zz : Pr T ⟨g2.G, H1⟩ E _ (chkR (m (dd.1 ++ .fn k cds :: dd.2 ++ dds) w1)) := zz
          rw [em] at zz
          exact zz.elim
        | ok r env' w' =>
          have zz : Pr T ⟨g2.G, H1⟩ E _ (chkR (m (dd.1 ++ .fn k cds :: dd.2 ++ dds) w1)) := zz
          rw [em] at zz
          have zz : Pr T ⟨g2.G, H1⟩ E _ (if noFn r.dat = true then Rv.ok r env' w' else .no) := zz
          split at zz
          · rename_i hno
            exact fun G' H' v k' rv => ⟨(told.cells pa k').1, zz _ _ v (k'.cut told k2.gh pa) (rv.cut k' told pa hno)⟩
          · exact zz.elim
        | ex xx w' =>
          have zz : Pr T ⟨g2.G, H1⟩ E _ (chkR (m (dd.1 ++ .fn k cds :: dd.2 ++ dds) w1)) := zz
          rw [em] at zz
          have zz : Pr T ⟨g2.G, H1⟩ E _ (if noFns xx.fs = true then Rv.ex xx w' else .no) := zz
          split at zz
          · rename_i hno
            intro G' H' cls dc k' r
            obtain ⟨hs, C⟩ := told.cells pa k'
            refine ⟨hs, zz _ _ cls dc (k'.cut told k2.gh pa) ?_⟩
            obtain ⟨e1, d, vs, e2, e3, e4, e5⟩ := r
            exact ⟨e1, d, vs, e2, (cut_out (C.xd e3)).trans e3, e4, DRs.cut (C.sub k'.gh) e5 hno⟩
          · exact zz.elim
      have hlen : (us ++ ds).length = ps.length := by
        rw [← (rv.append hd).length]
        exact qall.length.trans hl
      have rc := F.run X.A X.stack s1 _ ⟨us, []⟩ (us ++ ds) _ _ _ (c.room.mono hk) (by rw [c.K]; exact e1) (hb s1 us I1.kIn hlen) (rv.append hd) sp
      have rc2 := with_code (Q := Q) (E := E) told.n told.c (fun v H' h => h) (fun cls d H' h => h) rc
      refine wpAny_call (codeAny_mono rc2 fun r s' hq => ?_)
      cases r with
      | error e => exact passes_call c.tk (fun _ _ _ _ h => h) pins σ H1 s1 e s' I1 hq
      | ok fl =>
        cases fl with
        | ret u => exact I1.after hq
        | next => exact False.elim hq
        | brk => exact False.elim hq
        | cont => exact False.elim hq
    · exact z.elim
end
end HK

/-! HKx: attributes; an exception caught and held. -/
namespace HK
open PySem PySem.Spec PySem.Calls PyProof.Rows L2

/-! ### attributes -/
def fldD (te ti : List (Nat × Nat)) : D → Option Slot
  | .err c fs => (te.lookup c).bind fun i => (fs[i]?).map .fr
  | .ins c fs => (ti.lookup c).bind fun i => (fs[i]?).map .fr
  | _ => none
structure AtI (T : Th) (n : Str) (te ti : List (Nat × Nat)) : Prop where
  er : ∀ p ∈ te, (T.fn p.1)[p.2]? = some n ∧ (T.fn p.1).Nodup ∧ XfC T.K (T.cl p.1) ∧ PySem.W.findIn T.K (.ref (T.cl p.1)) n = some none
  ins : ∀ p ∈ ti, (T.fn p.1)[p.2]? = some n ∧ (T.fn p.1).Nodup ∧ Cls T.K (T.cl p.1) ∧ NoAttr T.K (T.cl p.1) n
theorem memL {c i : Nat} : ∀ {l : List (Nat × Nat)}, l.lookup c = some i → (c, i) ∈ l
  | [], h => by cases h
  | (k, v) :: r, h => by
    rw [List.lookup_cons] at h
    cases hb : c == k with
    | true =>
      rw [hb] at h
      obtain rfl := beq_iff_eq.mp hb
      cases h
      exact List.mem_cons_self
    | false =>
      rw [hb] at h
      exact List.mem_cons_of_mem _ (memL h)
theorem zipL : ∀ {ps : List Str} {us : List V} {i : Nat} {y : Str} {u : V}, ps.Nodup → ps[i]? = some y → us[i]? = some u → (ps.zip us).lookup y = some u
  | [], _, _, _, _, _, h, _ => by simp at h
  | p :: ps, [], _, _, _, _, _, h => by simp at h
  | p :: ps, v :: us, 0, y, u, nd, h1, h2 => by
    simp at h1 h2
    subst h1
    subst h2
    simp [List.lookup]
  | p :: ps, v :: us, i + 1, y, u, nd, h1, h2 => by
    have h1 : ps[i]? = some y := by simpa using h1
    have ne : (y == p) = false := by
      refine beq_eq_false_iff_ne.mpr fun z => ?_
      subst z
      exact (List.nodup_cons.mp nd).1 (List.mem_of_getElem? h1)
    rw [List.zip_cons_cons, List.lookup_cons, ne]
    exact zipL (List.nodup_cons.mp nd).2 h1 (by simpa using h2)
section
variable {X : Cx} {T : Th} {b : Bs} {E : XK} {n : Nat} {pos : Pos} {e : Expr} {fa : EX} {nm : Str} {te ti : List (Nat × Nat)}
theorem cat (hK : X.K = T.K) (A : AtI T nm te ti) (ha : PE X e (tEx T b E fa)) (hb : attributeBase e nm X.env (eval e X.env) = eval e X.env := by rfl) : PE X (.Attribute e nm pos) (tEx T b E (x1 (fldD te ti) fa)) := by
  refine ⟨fun pins s σ H Q I ⟨g, env, w, R, p⟩ => ?_⟩
  unfold x1 at p
  rw [Pr.bind] at p
  refine attr_of hb (thn (ha.run pins s σ H (fun v H1 => ∃ g' env' w' r, RS T b g' env' w' σ H1 ∧ Le g.G g'.G ∧ RV T b g' H1 env' v r ∧
    Pr T b E (fun r env' w' => ∀ g' v H', RS T b g' env' w' σ H' → Le g.G g'.G → RV T b g' H' env' v r → Q v H') (lift (fldD te ti r.dat) env' w')) I ⟨g, env, w, R, p.mono fun r env' w' z g' v H1 R1 l1 q1 => ⟨g', env', w', r, R1, l1, q1, z⟩⟩)
    fun u s1 ⟨v, H1, I1, r1, g1, env1, w1, r, R1, l1, q1, z⟩ => ?_)
  obtain ⟨g2, R2, l2, d2⟩ := R1.freeze q1
  obtain ⟨o, eo, k⟩ := lift_ok R2 (l1.trans l2) z
  cases er : r.dat with
  | err c fs =>
    rw [er] at eo d2
    have eo : ((te.lookup c).bind fun i => (fs[i]?).map Slot.fr) = some o := eo
    cases el : te.lookup c with
    | none => rw [el] at eo; cases eo
    | some i =>
      rw [el] at eo
      have eo : (fs[i]?).map Slot.fr = some o := eo
      cases ef : fs[i]? with
      | none => rw [ef] at eo; cases eo
      | some d =>
        rw [ef] at eo
        cases eo
        unfold DR at d2
        obtain ⟨a, dd, vs, rfl, e1, e2, hl, q⟩ := d2
        obtain rfl : u = Value.ref a := r1
        obtain ⟨a1, a2, XF, hno⟩ := A.er _ (memL el)
        obtain ⟨y, hy, qy⟩ := q.get ef
        have lk : ((T.fn c).zip vs).lookup nm = some y := zipL a2 a1 hy
        obtain ⟨oe, od, J, hod⟩ := err_inst I1 (R2.kept.gh _ _ e1) (R2.kept.gh _ _ e2)
        obtain ⟨mA, hns, hr⟩ := (show ObjOk X.prog X.w H1 s1.heap dd (.xd ((T.fn c).zip vs)) from I1.hok dd _ (R2.kept.gh _ _ e2))
        obtain ⟨od', ho, hlk⟩ := lookIn_ns hns
        rw [hod] at ho
        cases ho
        obtain ⟨u, hu, ru⟩ := RelO.some_of (v := y) (o := mA nm) (by rw [← lk]; exact hr nm)
        rw [← hK] at XF hno
        exact HandSPX.exc_get I1.kIn J XF.ga XF.gg XF.exC (PySem.W.findObj_own XF.hdC hno rfl (by rw [hlk, hu])) (handed_of ru) ⟨y, H1, I1.tok _, ru, k y g2.G H1 (Alloc.refl R2.kept.gh) qy⟩
  | ins c fs =>
    rw [er] at eo d2
    have eo : ((ti.lookup c).bind fun i => (fs[i]?).map Slot.fr) = some o := eo
    cases el : ti.lookup c with
    | none => rw [el] at eo; cases eo
    | some i =>
      rw [el] at eo
      have eo : (fs[i]?).map Slot.fr = some o := eo
      cases ef : fs[i]? with
      | none => rw [ef] at eo; cases eo
      | some d =>
        rw [ef] at eo
        cases eo
        unfold DR at d2
        obtain ⟨a, dd, vs, rfl, e1, hl, q⟩ := d2
        obtain rfl : u = Value.ref a := r1
        obtain ⟨a1, a2, C, hno⟩ := A.ins _ (memL el)
        obtain ⟨y, hy, qy⟩ := q.get ef
        have lk : ((T.fn c).zip vs).lookup nm = some y := zipL a2 a1 hy
        rw [← hK] at C hno
        exact getattr_ok I1 (R2.kept.gh _ _ e1) C hno lk fun u' s2 I2 ru => ⟨y, H1, I2, ru, k y g2.G H1 (Alloc.refl R2.kept.gh) qy⟩
  | _ => rw [er] at eo; cases eo
end

/-! ### an exception that stays -/
def ErrX (cls : Value) (d : Option Addr) (a : Addr) : HO := .ext fun h => ∃ (oe : Obj) (vs : Array Value), h.get? a = some oe ∧ Zc cls d oe ∧ oe.data = .fields vs
section
variable {X : Cx} {pins : List (Addr × Obj)} {σ : L2.St} {H : Hp} {s : Shared}
theorem Inv.adopt {a : Addr} {oe : Obj} {vs : Array Value} {cls : Value} {d : Option Addr} (I : Inv X pins σ H s) (ha : s.heap.get? a = some oe) (hz : Zc cls d oe) (hd : oe.data = .fields vs) (na : H a = none) (n0 : X.s_0.heap.get? a = none) (nL : a ≠ X.env.locals) (np : ∀ p ∈ X.pn ++ pins, p.1 ≠ a) :
    Inv X pins σ (upd H a (ErrX cls d a)) s := by
  have ne0 : ∀ {b o}, X.s_0.heap.get? b = some o → b ≠ a := fun {b o} e z => by
    rw [z, n0] at e
    cases e
  have nc : ∀ x c, X.env.cells.lookup x = some c → c ≠ a := fun x c e z => by
    obtain ⟨v, o, ho, hc⟩ := I.cell x c e
    rw [z, ha] at ho
    cases ho
    rw [hd] at hc
    cases hc
  refine ⟨I.ok, I.os, I.bare, ⟨I.base.keep, I.base.slot, fun b o e n x => ?_, I.base.there, fun b xs e => ?_, fun b o u e => ?_, fun b ps e => ?_⟩, I.loc, I.cell, ?_, fun x c e => ?_, fun p hp => ?_, fun b u e => ?_, I.len⟩
  · rw [upd_ne (ne0 e)]
    exact I.base.free b o e n x
  · have z := I.base.tups b xs e
    rw [upd_ne (ne_of_none z na)]
    exact z
  · have z := I.base.frzs b o u e
    rw [upd_ne (ne_of_none z na)]
    exact z
  · obtain ⟨m, z⟩ := I.base.tbls b ps e
    exact ⟨m, by rw [upd_ne (ne_of_none z na)]; exact z⟩
  · rw [upd_ne (Ne.symm nL)]
    exact I.free
  · rw [upd_ne (nc x c e)]
    exact I.freeC x c e
  · obtain ⟨h1, h2, h3⟩ := I.pin p hp
    exact ⟨h1, by rw [upd_ne (np p hp)]; exact h2, h3⟩
  · by_cases hb : b = a
    · subst hb
      rw [upd_same] at e
      cases e
      exact ⟨⟨oe, vs, ha, hz, hd⟩, ⟨oe, ha⟩, fun _ _ ⟨o, v, q, r⟩ k => ⟨o, v, k o q, r⟩⟩
    · rw [upd_ne hb] at e
      exact (I.hok b u e).stay (fun _ _ _ q => q) (fun c q => by rw [upd_ne (ne_of_none q na)]; exact q) fun c xs q => by rw [upd_ne (ne_of_none q na)]; exact q
end
/-- the wish of: except c as n (slot i): y = n (slot j) -/
def wHold (K : PySem.W.Frag) (c : Value) (i j : Nat) (Wout : WX) (D' : Ends) : WX := fun cls d σ H =>
  ∃ b, PySem.W.exmOne K cls c = some b ∧ (b = true → ∀ a, H a = none → D'.nx (((σ.set i (some (.ref a))).set j (some (.ref a))).set i none) (upd H a (ErrX cls d a))) ∧ (b = false → Wout cls d σ H)
section
variable {X : Cx} {x n y : Str} {c : Value} {i j : Nat} {body : List Stmt} {np q1 q2 q3 pos pos' : Pos} {tb : WX → TS} {Wout : WX}
theorem ps_hold (hs : X.stack = X.env :: X.outer) (hf : X.env.frame = some X.env.locals) (hex : X.ex = []) (hN : X.N.Nodup) (hi : X.N[i]? = some n) (hln : X.env.kindOf n = some .local) (hj : X.N[j]? = some y) (hly : X.env.kindOf y = some .local) (hij : i ≠ j) (hc : Names X x c) (tk : Takes X Wout)
    (hdn : (n == ("__debug__" : Str)) = false) (hcn : (n == ("__classdict__" : Str)) = false) (hsw : swapsWith (.Name n q2) (some (.Name y q1)) q3.line X.env = pure false)
    (hb : ∀ (W : WX) (pn : List (Addr × Obj)) (xe : Value → Shared → Prop), Takes (X.tr pn xe) W → PassesOwn (model X.prog X.w) X.A X.env xe → PSs (X.tr pn xe) body (tb W)) :
    PS X (.Try body [.ExceptHandler (some (.Name x np)) (some n) [.Assign [.Name y q1] (.Name n q2) q3] pos'] [] [] pos) (fun D' σ H => tb (wHold X.K c i j Wout D') D' σ H) := by
  refine ⟨fun pins s σ H D' I h => ?_⟩
  have ok := I.ok
  have hfr : X.A.frames = some (X.env :: X.outer) := by rw [ok.frames, hs]
  refine wpAny_Try_except (wpAny_mono ((hb (wHold X.K c i j Wout D') (X.pn ++ pins) (fun e s₁ => wpAny (model X.prog X.w) X.A (noteFrame e X.env) (fun _ s₂ => wpAny (model X.prog X.w) X.A (setFlight e none) (fun _ s₃ =>
    wpAny (model X.prog X.w) X.A (handleBy e X.env [.ExceptHandler (some (.Name x np)) (some n) [.Assign [.Name y q1] (.Name n q2) q3] pos']) (SP X pins D') X.xe s₃) X.xe s₂) X.xe s₁) (fun u s' xx => ?_) PassesOwn.looking).run [] s σ H D' (I.toTry _) h) (fun f s1 hsp => ?_) (fun e s1 he => he))
  · obtain ⟨a, B, sI, pins', σ', H', cls, d, rfl, J', nb, up, sky, na, os, ag, b, hb1, hyes, hno⟩ := xx
    have J : Inv X pins σ' H' sI := J'.ofTry ok
    rw [hs] at sky
    show wpAny (model X.prog X.w) X.A (noteFrame (.ref a) X.env) _ _ _
    refine Sky.land Zc.steady hfr hf sky fun h3 fl3 up3 => ?_
    have J3 : Inv X pins σ' H' { s' with heap := h3 } := J.landed nb fl3.1 (up.trans up3) os ag
    obtain ⟨oe3, vs3, he3, hz3, hd3⟩ := fl3.there
    have nfr : a ∉ frs (X.env :: X.outer) := fun hm => by
      obtain ⟨_, o', e', hnf⟩ := fl3.2.2.1.mem hm
      rw [he3] at e'
      cases e'
      exact hnf _ hd3
    have nL : a ≠ X.env.locals := fun z => nfr (List.mem_filterMap.mpr ⟨X.env, List.mem_cons_self, by rw [hf, z]⟩)
    have nF : a ∉ X.fs := fun hm => by
      obtain ⟨e, he, q⟩ := List.mem_filterMap.mp hm
      exact nfr (List.mem_filterMap.mpr ⟨e, List.mem_cons_of_mem _ he, q⟩)
    -- the object was not there
    have nI : sI.heap.get? a = none := by
      cases z : sI.heap.get? a with
      | none => rfl
      | some o =>
        have y := nb a o z (by rw [hs]; exact nfr)
        rw [fl3.2.1] at y
        cases y
    have n0 : X.s_0.heap.get? a = none := by
      cases z : X.s_0.heap.get? a with
      | none => rfl
      | some o =>
        obtain ⟨o', y⟩ := J.base.there a o z (by rw [hex]; simp)
        rw [nI] at y
        cases y
    have npn : ∀ p ∈ X.pn ++ pins, p.1 ≠ a := fun p hp z => by
      have y := (J.pin p hp).1
      rw [z, nI] at y
      cases y
    have S3 := J3.suite he3 hd3 na nL nF
    refine wpAny_handleBy_cons (codeAny_handlers_test ?_) (by intro q; cases q)
    have LT : PySem.W.Looks (model X.prog X.w) h3 (typeOf (.ref a)) cls := fun A Q E s k q => wpAny_typeOf_ref (k _ _ he3) (by rw [hz3.1]; exact q)
    have LM := PySem.W.exm_one (M := model X.prog X.w) (J3.kIn) LT hb1
    have test : ∀ {Q : Value → Shared → Prop} {E : Value → Shared → Prop}, Q c { s' with heap := h3 } → wpAny (model X.prog X.w) (X.A.mark (some (.ref a))) (eval (.Name x np) X.env) Q E { s' with heap := h3 } := fun {Q E} q => by
      obtain ⟨hg, hdbg, hm | ⟨hm, hv, hnn⟩⟩ := hc
      · exact ld_glob (X := X.suite a ((a, oe3) :: (X.pn ++ pins))) S3 hg hm q hdbg
      · exact ld_blt (X := X.suite a ((a, oe3) :: (X.pn ++ pins))) S3 hg hm hv q hnn hdbg
    refine test (LM.here ?_)
    cases b with
    | true =>
      refine codeAny_handlers_suite_as (HandSPX.lands_againZ fl3 fun h4 fl4 up4 => ?_)
      have J4 : Inv X pins σ' H' { s' with heap := h4 } := J.landed nb fl4.1 ((up.trans up3).trans up4) os ag
      obtain ⟨oe4, vs4, he4, hz4, hd4⟩ := fl4.there
      have S4 := J4.suite he4 hd4 na nL nF
      refine store_ok (X := X.suite a ((a, oe4) :: (X.pn ++ pins))) (v := .ref a) S4 hN hi (.inl hln) rfl (fun s5 S5 => ?_) (.inr hln)
      have hiσ : i < σ'.length := by
        rw [J.len]
        exact (List.getElem?_eq_some_iff.mp hi).1
      have st := ps_set (X := X.suite a ((a, oe4) :: (X.pn ++ pins))) (i := j) (pos := q3) (pos' := q1) hN hj (.inl hly) (pe_var (i := i) (pos := q2) hi (.inl hln) hdn hcn) hsw (.inr hly)
      refine wpAny_mono ((pss_one st).run [] s5 (σ'.set i (some (.ref a))) H' { nx := fun σ6 H6 => σ6 = (σ'.set i (some (.ref a))).set j (some (.ref a)) ∧ H6 = H', rt := fun _ _ => False } S5 ⟨.ref a, List.getElem?_set_self hiσ, rfl, rfl⟩) (fun f s6 hsp => ?_) (fun _ _ z => False.elim z)
      cases f with
      | next =>
        obtain ⟨σ6, H6, S6, rfl, rfl⟩ := hsp
        have J6 := S6.unsuite ok
        obtain ⟨p1, p2, p3, p4, p5⟩ := S6.pin (a, oe4) (List.mem_append_left _ List.mem_cons_self)
        have J6' : Inv X ((a, oe4) :: pins) _ H6 s6 := J6.pins_of fun p hp => by
          rcases List.mem_cons.mp hp with rfl | hp
          · exact ⟨p1, p2, p3, p4, p5⟩
          · exact J6.pin p (List.mem_append_right _ hp)
        refine gone_ok J6' hN hi hln fun s7 J7 => ?_
        have at7 := (J7.pin (a, oe4) (List.mem_append_right _ List.mem_cons_self)).1
        have J8 : Inv X pins _ H6 s7 := J7.pins_of fun p hp => J7.pin p (List.mem_append_right _ (List.mem_cons_of_mem _ hp))
        exact ⟨_, _, HK.Inv.adopt J8 at7 hz4 hd4 na n0 nL npn, hyes rfl a na⟩
      | brk =>
        obtain ⟨_, _, _, z⟩ := hsp
        exact False.elim z
      | cont =>
        obtain ⟨_, _, _, z⟩ := hsp
        exact False.elim z
      | ret u =>
        obtain ⟨_, _, _, _, _, z⟩ := hsp
        exact False.elim z
    | false =>
      show wpAny _ X.A (handleBy (.ref a) X.env []) _ _ _
      refine wpAny_handleBy_nil ?_
      obtain ⟨k1, k2, k3, oe, vs, TB, oT, ts', he, hz, hd, h1, hr⟩ := id fl3
      unfold PySem.passOn
      refine wpAny_bind (wpAny_field he hd h1 ?_)
      rw [if_neg (show ¬ ((Value.ref TB == Value.none) = true) from by simp)]
      have fin : wpAny (model X.prog X.w) X.A (setFlight (.ref a) X.env.frame) (fun _ s4 => wpAny (model X.prog X.w) X.A (throw (.ref a) : Sem Flow) (SP X pins D') X.xe s4) X.xe { s' with heap := h3 } := by
        rw [hf]
        refine HandSPX.setFlight_upZ fl3 fun h4 hh4 up4 => wpAny_throw (tk _ _ ?_)
        exact ⟨a, B, sI, pins, σ', H', cls, d, rfl, J, nb, (up.trans up3).trans up4, .inr (.inr (by rw [hs]; exact hh4)), na, os, ag, hno rfl⟩
      first
        | exact wpAny_bind (wpAny_pure (wpAny_bind fin))
        | exact wpAny_bind fin
  · cases f with
    | next =>
      obtain ⟨σ', H', J', q⟩ := hsp
      exact wpAny_execs_nil ⟨σ', H', J'.ofTry ok, q⟩
    | brk =>
      obtain ⟨σ', H', J', q⟩ := hsp
      exact ⟨σ', H', J'.ofTry ok, q⟩
    | cont =>
      obtain ⟨σ', H', J', q⟩ := hsp
      exact ⟨σ', H', J'.ofTry ok, q⟩
    | ret u =>
      obtain ⟨v, σ', H', J', r, q⟩ := hsp
      exact ⟨v, σ', H', J'.ofTry ok, r, q⟩
end
end HK

/-! HKy: try: return [a()] / x = a(), except c as n: y = n. -/
namespace HK
open PySem PySem.Spec PySem.Calls PyProof.Rows L2
/-- a() in a try: what it throws is told with the slots -/
def tAsk (T : Th) (b : Bs) (ap : AP) (i : Nat) (W : WX) : TE := fun σ H Q => ∃ g env w k caps, RS T b g env w σ H ∧ env[i]? = some (.fr (.fn k caps)) ∧ match ap k caps [] w with
  | .ok r _ w' => ∀ g' v H', RS T b g' env w' σ H' → Le g.G g'.G → RV T b g' H' env v r → Q v H'
  | .ex x w' => ∀ g' H' cls dc, RS T b g' env w' σ H' → Le g.G g'.G → XR T g'.G H' x cls dc → W cls dc σ H'
  | .no => False
section
variable {X : Cx} {T : Th} {b : Bs} {n m : Nat} {ap : AP} {a : Str} {p1 p2 : Pos} {W : WX}
theorem pe_ask (hK : X.K = T.K) (room : Room n X.A) (hap : ApOk T X.prog X.w X.mg X.base m ap) (hm : m ≤ n) (tk : Takes X W) (i : Nat) (hN : X.N[i]? = some a := by rfl)
    (hv : Vis X.env.scope a := by first | exact Or.inl rfl | exact Or.inr (Or.inl rfl) | exact Or.inr (Or.inr rfl)) (hd : (a == ("__debug__" : Str)) = false := by decide) (hcd : (a == ("__classdict__" : Str)) = false := by decide) :
    PE X (.Call (.Name a p1) [] [] p2) (tAsk T b ap i W) := by
  refine ⟨fun pins s σ H Q I ⟨g, env, w, k, caps, R, e1, p⟩ => ?_⟩
  obtain ⟨v, h1, h2⟩ := R.fr i _ e1
  obtain ⟨f, rfl, hfa⟩ := fn_at h2 R.kept.gh I.hok
  refine wpAny_Call_Name_kw (thn ((pe_var (pos := p1) (i := i) hN hv hd hcd).run pins s σ H (fun v H1 => v = .ref f ∧ H1 = H) I ⟨.ref f, h1, rfl, rfl⟩) fun u s1 ⟨v, H1, I1, r1, q1⟩ => ?_)
  obtain ⟨rfl, rfl⟩ := q1
  obtain rfl : u = Value.ref f := r1
  obtain ⟨_, ef, hfa1⟩ := fn_at h2 R.kept.gh I1.hok
  cases ef
  refine PySem.W.callWith_F0 hfa1 ?_
  have e0 : Env0 X.prog X.w T.K X.mg X.base X.A X.stack s1 H1 := by
    rw [← hK]
    exact I1.env0
  have z := hap k caps X.A X.stack s1 H1 g.G w f [] [] [] Q (fun cls d H' => W cls d σ H') (room.mono hm) e0 R.kept.gh R.kept.pen h2 .nil .nil (by
    cases e : ap k caps [] w with
    | no => rw [e] at p; exact p.elim
    | ok r e' w' =>
      rw [e] at p
      intro G' H' v k' rv
      obtain ⟨R', rv'⟩ := R.call k' rv
      exact p ⟨G', g.ad⟩ v H' R' k'.b1 rv'
    | ex x w' =>
      rw [e] at p
      intro G' H' cls dc k' r
      exact p ⟨G', g.ad⟩ H' cls dc (R.call (v := .non) (r := .fr .non) k' rfl).1 k'.b1 r)
  refine wpAny_call (codeAny_mono z fun r s' hq => ?_)
  cases r with
  | error e => exact tk _ _ (XE.of_call (W := W) I1 (fun _ _ _ h => h) hq)
  | ok fl =>
    cases fl with
    | ret u => exact I1.after hq
    | next => exact False.elim hq
    | brk => exact False.elim hq
    | cont => exact False.elim hq
end

def sTryR (i : Nat) (ap : AP) (ca : Nat → Option Bool) (j nn : Nat) : SX := fun env w => match env[i]? with
  | some (.fr (.fn k caps)) => match ap k caps [] w with
    | .ok r _ w' => .ok (.rt (.ow (.lst [r.dat]))) env w'
    | .ex x w' => match ca x.c with
      | some true => .ok .nx ((env.set j (.fr (.err x.c x.fs))).set nn .no) w'
      | some false => .ex x w'
      | none => .no
    | .no => .no
  | _ => .no
def sTryA (i : Nat) (ap : AP) (ca : Nat → Option Bool) (j nn q : Nat) : SX := fun env w => match env[i]? with
  | some (.fr (.fn k caps)) => match ap k caps [] w with
    | .ok r _ w' => .ok .nx (env.set q r) w'
    | .ex x w' => match ca x.c with
      | some true => .ok .nx ((env.set j (.fr (.err x.c x.fs))).set nn .no) w'
      | some false => .ex x w'
      | none => .no
    | .no => .no
  | _ => .no
theorem RS.clear {T : Th} {b : Bs} {g : Gh} {env : List Slot} {w : Pen} {σ : L2.St} {H : Hp} (R : RS T b g env w σ H) (i : Nat) (x : Option V) : RS T b g (env.set i .no) w (σ.set i x) H := by
  have ne : ∀ (j : Nat) (s : Slot), s ≠ .no → (env.set i .no)[j]? = some s → j ≠ i ∧ env[j]? = some s := fun j s hs e => by
    by_cases hj : i = j
    · subst hj
      by_cases hl : i < env.length
      · rw [List.getElem?_set_self hl] at e
        cases e
        exact absurd rfl hs
      · rw [List.getElem?_eq_none (by rw [List.length_set]; omega)] at e
        cases e
    · rw [List.getElem?_set_ne hj] at e
      exact ⟨Ne.symm hj, e⟩
  refine ⟨R.kept, by rw [List.length_set, List.length_set]; exact R.len, fun j d e => ?_, fun j d e => ?_, fun j j' d d' e e' => ?_⟩
  · obtain ⟨h1, h2⟩ := ne j _ (by intro z; cases z) e
    rw [List.getElem?_set_ne (Ne.symm h1)]
    exact R.fr j d h2
  · obtain ⟨h1, h2⟩ := ne j _ (by intro z; cases z) e
    rw [List.getElem?_set_ne (Ne.symm h1)]
    exact R.ow j d h2
  · exact R.inj j j' d d' (ne j _ (by intro z; cases z) e).2 (ne j' _ (by intro z; cases z) e').2
/-- the state with the exception held -/
theorem RS.held {T : Th} {b : Bs} {g : Gh} {env : List Slot} {w : Pen} {σ : L2.St} {H : Hp} {x : Exn} {cls : Value} {dc : Option Addr} {a : Addr} {i j : Nat} (R : RS T b g env w σ H) (r : XR T g.G H x cls dc) (na : H a = none) (hij : i ≠ j) :
    ∃ g', RS T b g' ((env.set j (.fr (.err x.c x.fs))).set i .no) w (((σ.set i (some (.ref a))).set j (some (.ref a))).set i none) (upd H a (ErrX cls dc a)) ∧ Le g.G g'.G := by
  obtain ⟨rfl, d, vs, rfl, e1, e2, e3⟩ := r
  have nd : d ≠ a := ne_of_none e1 na
  have gr : Grow T.tabs H (upd H a (ErrX (.ref (T.cl x.c)) (some d) a)) := (Grow.refl R.kept.pen.tabs).laid na
  obtain ⟨g1, R1, l1, hg⟩ := R.growl gr [d, a] fun c m => by
    rcases List.mem_cons.mp m with rfl | m
    · exact ⟨_, by rw [upd_ne nd]; exact e1, rfl, fun ps z => by cases z⟩
    · rcases List.mem_singleton.mp m with rfl
      exact ⟨_, upd_same, rfl, fun ps z => by unfold ErrX at z; cases z⟩
  have q : DR T g1.G (.err x.c x.fs) (.ref a) := by
    unfold DR
    refine ⟨a, d, vs, rfl, ?_, ?_, e2, e3.le l1⟩
    · rw [hg a (by simp), upd_same]
      rfl
    · rw [hg d (by simp), upd_ne nd]
      exact e1
  obtain ⟨g2, R2, e4⟩ := R1.set (r := .fr (.err x.c x.fs)) q j
  refine ⟨g2, ?_, by rw [e4]; exact l1⟩
  have R3 := RS.clear R2 i none
  have : ((σ.set i (some (.ref a))).set j (some (.ref a))).set i none = (σ.set j (some (.ref a))).set i none := by
    rw [List.set_comm _ _ hij, List.set_set]
  rw [this]
  exact R3
section
variable {X : Cx} {T : Th} {b : Bs} {E : XK} {n m : Nat} {ap : AP} {a x nx y z : Str} {C : Addr} {ca : Nat → Option Bool} {p1 p2 p3 p4 q1 q2 q3 np pos pos' : Pos}
theorem str (c : CO X T E n) (hap : ApOk T X.prog X.w X.mg X.base m ap) (hm : m ≤ n) (hs : X.stack = X.env :: X.outer) (hf : X.env.frame = some X.env.locals) (hex : X.ex = []) (i j k : Nat) (hN : X.N[i]? = some a) (hv : Vis X.env.scope a) (hj : X.N[j]? = some y) (hly : X.env.kindOf y = some .local) (hk : X.N[k]? = some nx) (hln : X.env.kindOf nx = some .local) (hkj : k ≠ j)
    (hc : Names X x (.ref C)) (hca : ∀ cn bb, ca cn = some bb → PySem.W.exmOne T.K (.ref (T.cl cn)) (.ref C) = some bb)
    (hsw : swapsWith (.Name nx q2) (some (.Name y q1)) q3.line X.env = pure false) (hdn : (nx == ("__debug__" : Str)) = false := by decide) (hcn : (nx == ("__classdict__" : Str)) = false := by decide)
    (hd : (a == ("__debug__" : Str)) = false := by decide) (hcd : (a == ("__classdict__" : Str)) = false := by decide) :
    PS X (.Try [.Return (some (.List [.Call (.Name a p1) [] [] p2] p3)) p4] [.ExceptHandler (some (.Name x np)) (some nx) [.Assign [.Name y q1] (.Name nx q2) q3] pos'] [] [] pos) (tSt T b E (sTryR i ap ca j k)) := by
  refine (ps_hold (Wout := fun cls d _ H => E cls d H) hs hf hex c.nd hk hln hj hly hkj hc c.tk hdn hcn hsw (fun W pn xe tk _ => pss_one (ps_ret (pe_lst (pa_cons (pe_ask (X := X.tr pn xe) (T := T) (b := b) (W := W) c.K c.room hap hm tk i hN hv hd hcd) pa_nil))))).imp fun D' σ H ⟨g, env, w, R, p⟩ => ?_
  unfold sTryR PSt at p
  cases e1 : env[i]? with
  | none => rw [e1] at p; exact p.elim
  | some sl =>
    rw [e1] at p
    cases sl with
    | no => exact p.elim
    | ow d => exact p.elim
    | fr d =>
      cases d with
      | fn kk caps =>
        refine ⟨g, env, w, kk, caps, R, e1, ?_⟩
        cases e2 : ap kk caps [] w with
        | no =>
          simp only [e2] at p
          exact p.elim
        | ok r e' w' =>
          simp only [e2] at p
          intro g' v H' R' l' rv
          obtain ⟨g2, R2, l2, d2⟩ := R'.freeze rv
          refine ⟨by show (1 : Nat) ≤ sizeLine; rw [sizeLine_eq]; omega, fun L nL => ?_⟩
          have A := Alloc.new1 (o := .lst [v]) R2.kept.gh nL
          have R3 := R2.alloc A
          exact p _ _ _ R3 (l'.trans l2) _ (R2.rva A (own_new R2 nL (.one d2)))
        | ex xx w' =>
          simp only [e2] at p
          intro g' H' cls dc R' l' r
          cases e3 : ca xx.c with
          | none =>
            simp only [e3] at p
            exact p.elim
          | some bb =>
            refine ⟨bb, by rw [c.K, r.1]; exact hca _ _ e3, fun hb aa na => ?_, fun hb => ?_⟩
            · subst hb
              simp only [e3] at p
              obtain ⟨g3, R3, l3⟩ := R'.held r na hkj
              exact p g3 _ _ R3 (l'.trans l3)
            · subst hb
              simp only [e3] at p
              have p : XEnd T b E xx w' := p
              exact p _ _ _ _ R'.kept r
      | _ => exact p.elim
theorem sta (c : CO X T E n) (hap : ApOk T X.prog X.w X.mg X.base m ap) (hm : m ≤ n) (hs : X.stack = X.env :: X.outer) (hf : X.env.frame = some X.env.locals) (hex : X.ex = []) (i j k q : Nat) (hN : X.N[i]? = some a) (hv : Vis X.env.scope a) (hj : X.N[j]? = some y) (hly : X.env.kindOf y = some .local) (hk : X.N[k]? = some nx) (hln : X.env.kindOf nx = some .local) (hkj : k ≠ j) (hq : X.N[q]? = some z) (hlz : X.env.kindOf z = some .local)
    (hc : Names X x (.ref C)) (hca : ∀ cn bb, ca cn = some bb → PySem.W.exmOne T.K (.ref (T.cl cn)) (.ref C) = some bb)
    (hsw2 : ∀ env : Env, swapsWith (.Call (.Name a p1) [] [] p2) (some (.Name z p3)) p4.line env = pure false) (hsw : swapsWith (.Name nx q2) (some (.Name y q1)) q3.line X.env = pure false) (hdn : (nx == ("__debug__" : Str)) = false := by decide) (hcn : (nx == ("__classdict__" : Str)) = false := by decide)
    (hd : (a == ("__debug__" : Str)) = false := by decide) (hcd : (a == ("__classdict__" : Str)) = false := by decide) :
    PS X (.Try [.Assign [.Name z p3] (.Call (.Name a p1) [] [] p2) p4] [.ExceptHandler (some (.Name x np)) (some nx) [.Assign [.Name y q1] (.Name nx q2) q3] pos'] [] [] pos) (tSt T b E (sTryA i ap ca j k q)) := by
  refine (ps_hold (Wout := fun cls d _ H => E cls d H) hs hf hex c.nd hk hln hj hly hkj hc c.tk hdn hcn hsw (fun W pn xe tk _ => pss_one (ps_set (X := X.tr pn xe) (i := q) c.nd hq (.inl hlz) (pe_ask (X := X.tr pn xe) (T := T) (b := b) (W := W) c.K c.room hap hm tk i hN hv hd hcd) (hsw2 _) (.inr hlz)))).imp fun D' σ H ⟨g, env, w, R, p⟩ => ?_
  unfold sTryA PSt at p
  cases e1 : env[i]? with
  | none => rw [e1] at p; exact p.elim
  | some sl =>
    rw [e1] at p
    cases sl with
    | no => exact p.elim
    | ow d => exact p.elim
    | fr d =>
      cases d with
      | fn kk caps =>
        refine ⟨g, env, w, kk, caps, R, e1, ?_⟩
        cases e2 : ap kk caps [] w with
        | no =>
          simp only [e2] at p
          exact p.elim
        | ok r e' w' =>
          simp only [e2] at p
          intro g' v H' R' l' rv
          obtain ⟨g2, R2, e4⟩ := R'.set rv q
          exact p g2 _ H' R2 (by rw [e4]; exact l')
        | ex xx w' =>
          simp only [e2] at p
          intro g' H' cls dc R' l' r
          cases e3 : ca xx.c with
          | none =>
            simp only [e3] at p
            exact p.elim
          | some bb =>
            refine ⟨bb, by rw [c.K, r.1]; exact hca _ _ e3, fun hb aa na => ?_, fun hb => ?_⟩
            · subst hb
              simp only [e3] at p
              obtain ⟨g3, R3, l3⟩ := R'.held r na hkj
              exact p g3 _ _ R3 (l'.trans l3)
            · subst hb
              simp only [e3] at p
              have p : XEnd T b E xx w' := p
              exact p _ _ _ _ R'.kept r
      | _ => exact p.elim
end
end HK

/-! HKz: the pen. -/
namespace HK
open PySem PySem.Spec PySem.Calls PyProof.Rows L2
/-- pen[k] -/
def penAt (w : Pen) : Nat → Option D
  | 0 => some (.lst (w.cells.map .int))
  | 1 => some (.int w.at_)
  | 2 => some (.int w.great)
  | _ => none
def xPg (i k : Nat) : EX := fun env w => match env[i]? with
  | some (.fr .pen) => lift ((penAt w k).map .fr) env w
  | _ => .no
/-- pen[k] = f -/
def penPut (w : Pen) (k : Nat) (v : Int) : Option Pen := if 0 ≤ v then match k with
  | 1 => some { w with at_ := v.toNat }
  | 2 => some { w with great := v.toNat }
  | _ => none
  else none
def sPs (i k : Nat) (f : EX) : SX := fun env w => (f env w).bind fun r env w => match r.dat, env[i]? with
  | .int v, some (.fr .pen) => match penPut w k v with
    | some w' => .ok .nx env w'
    | none => .no
  | _, _ => .no
section
variable {X : Cx} {T : Th} {b : Bs} {E : XK} {n : Nat} {pos p p1 p2 p3 : Pos} {x : Str} {e : Expr} {fa : EX}
theorem ints_dr {G : Hp} : ∀ {l : List Int}, DRs T G (l.map .int) (l.map V.int)
  | [] => .nil
  | i :: l => .cons rfl ints_dr
theorem cpg (hK : X.K = T.K) (i k : Nat) {j} (hN : X.N[i]? = some x := by rfl) (hv : Vis X.env.scope x := by first | exact Or.inl rfl | exact Or.inr (Or.inl rfl) | exact Or.inr (Or.inr rfl)) (hd : (x == ("__debug__" : Str)) = false := by decide)
    (hcd : (x == ("__classdict__" : Str)) = false := by decide) (hp : PlainIx (.Constant (.int (k : Nat)) j p1) := by intro _ _; rfl) : PE X (.Subscript (.Name x p) (.Constant (.int (k : Nat)) j p1) pos) (tEx T b E (xPg i k)) := by
  refine (pe_ix (ix_list) (pe_var (i := i) hN hv hd hcd) pe_int hp).imp fun σ H Q ⟨g, env, w, R, pr⟩ => ?_
  unfold xPg at pr
  cases e1 : env[i]? with
  | none => rw [e1] at pr; exact pr.elim
  | some sl =>
    rw [e1] at pr
    cases sl with
    | no => exact pr.elim
    | ow d => exact pr.elim
    | fr d =>
      cases d with
      | pen =>
        obtain ⟨v, h1, h2⟩ := R.fr i _ e1
        have h2 : v = .ref T.pa := h2
        subst h2
        obtain ⟨c, p1, p2⟩ := R.kept.pen.is
        obtain ⟨r, er, kk⟩ := lift_ok R (Le.refl _) pr
        refine ⟨_, h1, T.pa, [.ref c, .int w.at_, .int w.great], ((k : Nat) : Int), ?_⟩
        have fin : ∀ (v : V) (d : D), penAt w k = some d → DR T g.G d v → Q v H := fun v d ed h => by
          rw [ed] at er
          cases er
          exact kk v g.G H (Alloc.refl R.kept.gh) h
        by_cases k0 : k = 0
        · subst k0
          exact ⟨.ref c, rfl, rfl, .of p1, rfl, fin _ _ rfl (by unfold DR; exact ⟨c, _, rfl, p2, ints_dr⟩)⟩
        · by_cases k1 : k = 1
          · subst k1
            exact ⟨.int w.at_, rfl, rfl, .of p1, rfl, fin _ _ rfl rfl⟩
          · by_cases k2 : k = 2
            · subst k2
              exact ⟨.int w.great, rfl, rfl, .of p1, rfl, fin _ _ rfl rfl⟩
            · obtain ⟨m, rfl⟩ : ∃ m, k = m + 3 := ⟨k - 3, by omega⟩
              cases er
      | _ => exact pr.elim
/-- the pen written -/
theorem RS.pen {g : Gh} {env : List Slot} {w w' : Pen} {σ : L2.St} {H : Hp} {c : Addr} (R : RS T b g env w σ H) (hc : g.G c = some (.lst (w'.cells.map V.int))) : RS T b g env w' σ (upd H T.pa (.lst [.ref c, .int w'.at_, .int w'.great])) := by
  have k := R.kept
  obtain ⟨c0, p1, p2⟩ := k.pen.is
  have ne : ∀ {a o}, g.G a = some o → a ≠ T.pa := fun {a o} e z => by
    rw [z, k.pen.no] at e
    cases e
  refine ⟨⟨fun a o e => ?_, ⟨tabs_upd k.pen.tabs p1 rfl, k.pen.nt, ⟨c, upd_same, hc⟩, k.pen.no⟩, k.b1, fun a o np nt e => ?_, fun a ps e => ?_, k.b3⟩, R.len, R.fr, fun i d e => ?_, R.inj⟩
  · rw [upd_ne (ne e)]
    exact k.gh a o e
  · rw [upd_ne np]
    exact k.b2 a o np nt e
  · obtain ⟨ps', z⟩ := k.b2t a ps e
    have na : a ≠ T.pa := fun y => by
      rw [y, p1] at z
      cases z
    exact ⟨ps', by rw [upd_ne na]; exact z⟩
  · obtain ⟨h1, h2⟩ := R.ow i d e
    refine ⟨h1, h2.keep (Le.refl _) h2.no fun o q => ?_⟩
    rw [upd_ne h2.np]
    exact q
theorem sps (nd : X.N.Nodup) (i k : Nat) {j} (he : PE X e (tEx T b E fa)) (hN : X.N[i]? = some x := by rfl) (hv : Vis X.env.scope x := by first | exact Or.inl rfl | exact Or.inr (Or.inl rfl) | exact Or.inr (Or.inr rfl)) (hd : (x == ("__debug__" : Str)) = false := by decide)
    (hcd : (x == ("__classdict__" : Str)) = false := by decide) (hs : swapsWithSole [.Subscript (.Name x p) (.Constant (.int (k : Nat)) j p1) p2] e pos.line X.env = pure false := by rfl) (hw : swappedStores [.Subscript (.Name x p) (.Constant (.int (k : Nat)) j p1) p2] e X.env = pure none := by rfl) :
    PS X (.Assign [.Subscript (.Name x p) (.Constant (.int (k : Nat)) j p1) p2] e pos) (tSt T b E (sPs i k fa)) := by
  refine (ps_asg he (pg_sub (pe_var (i := i) hN hv hd hcd) pe_int set_list) hs hw).imp fun D' σ H ⟨g, env, w, R, pr⟩ => ?_
  unfold sPs PSt at pr
  rw [Pr.bind] at pr
  refine ⟨g, env, w, R, pr.mono fun r env1 w1 p1 g1 v H1 R1 l1 q1 => ?_⟩
  obtain ⟨g2, R2, l2, d2⟩ := R1.freeze q1
  cases er : r.dat with
  | int vi =>
    rw [er] at p1 d2
    have d2 : v = .int vi := d2
    subst d2
    cases e1 : env1[i]? with
    | none => rw [e1] at p1; exact p1.elim
    | some sl =>
      rw [e1] at p1
      cases sl with
      | no => exact p1.elim
      | ow d => exact p1.elim
      | fr d =>
        cases d with
        | pen =>
          obtain ⟨u, h1, h2⟩ := R2.fr i _ e1
          have h2 : u = .ref T.pa := h2
          subst h2
          obtain ⟨c, c1, c2⟩ := R2.kept.pen.is
          refine ⟨_, h1, T.pa, [.ref c, .int w1.at_, .int w1.great], ((k : Nat) : Int), ?_⟩
          have p1 : Pr T b E _ (match penPut w1 k vi with
            | some w' => Rv.ok Fl.nx env1 w'
            | none => .no) := p1
          unfold penPut at p1
          by_cases hv : 0 ≤ vi
          · rw [if_pos hv] at p1
            have en : ((vi.toNat : Nat) : Int) = vi := Int.toNat_of_nonneg hv
            by_cases k1 : k = 1
            · subst k1
              refine ⟨1, rfl, rfl, c1, rfl, ?_⟩
              have z := p1 g2 _ _ (R2.pen (w' := { w1 with at_ := vi.toNat }) c2) (l1.trans l2)
              show D'.nx _ (upd H1 T.pa (.lst [.ref c, .int vi, .int w1.great]))
              rw [← en]
              exact z
            · by_cases k2 : k = 2
              · subst k2
                refine ⟨2, rfl, rfl, c1, rfl, ?_⟩
                have z := p1 g2 _ _ (R2.pen (w' := { w1 with great := vi.toNat }) c2) (l1.trans l2)
                show D'.nx _ (upd H1 T.pa (.lst [.ref c, .int w1.at_, .int vi]))
                rw [← en]
                exact z
              · exfalso
                split at p1
                · rename_i e3
                  split at e3
                  · exact k1 rfl
                  · exact k2 rfl
                  · cases e3
                · exact p1.elim
          · rw [if_neg hv] at p1
            exact p1.elim
        | _ => exact p1.elim
  | _ => rw [er] at p1; exact p1.elim
end
end HK

/-! HKna: built-in functions on data. -/
namespace HK
open PySem PySem.Spec PySem.Calls PyProof.Rows L2
section
variable {X : Cx} {T : Th} {b : Bs} {E : XK} {n : Nat} {pos : Pos}
/-! ### int, abs, bool -/
def intD : D → Option Slot
  | .int i => some (.fr (.int i))
  | .bl k => some (.fr (.int (if k then 1 else 0)))
  | _ => none
theorem v_int : Call1V T (fun xs H Q => (∃ i, xs = [.int i] ∧ Q (.int i) H) ∨ ∃ k, xs = [.bl k] ∧ Q (.int (if k then 1 else 0)) H) intD := by
  intro G H x d r Q es gh hx q
  cases d with
  | int i =>
    cases es
    rw [hx.int]
    exact .inl ⟨i, rfl, same gh q rfl⟩
  | bl k =>
    cases es
    rw [hx.bl]
    exact .inr ⟨k, rfl, same gh q rfl⟩
  | _ => cases es
def absD : D → Option Slot
  | .int i => some (.fr (.int (if i < 0 then -i else i)))
  | _ => none
theorem v_abs : Call1V T (fun xs H Q => ∃ i, xs = [.int i] ∧ Q (.int (if i < 0 then -i else i)) H) absD := by
  intro G H x d r Q es gh hx q
  cases d with
  | int i =>
    cases es
    rw [hx.int]
    exact ⟨i, rfl, same gh q rfl⟩
  | _ => cases es
def boolD : D → Option Slot
  | .int i => some (.fr (.bl (i != 0)))
  | .bl k => some (.fr (.bl k))
  | _ => none
theorem v_bool : Call1V T (fun xs H Q => (∃ i, xs = [.int i] ∧ Q (.bl (i != 0)) H) ∨ ∃ k, xs = [.bl k] ∧ Q (.bl k) H) boolD := by
  intro G H x d r Q es gh hx q
  cases d with
  | int i =>
    cases es
    rw [hx.int]
    exact .inl ⟨i, rfl, same gh q rfl⟩
  | bl k =>
    cases es
    rw [hx.bl]
    exact .inr ⟨k, rfl, same gh q rfl⟩
  | _ => cases es
/-! ### tuple, list -/
def tupleD : D → Option Slot
  | .lst xs => some (.fr (.tpl xs))
  | .tup xs => some (.fr (.tup xs))
  | .tpl xs => some (.fr (.tpl xs))
  | _ => none
def rdTuple (K : PySem.W.Frag) : List V → Hp → VK → Prop := fun xs H Q => ∃ p ys, xs = [.ref p] ∧ ((SqL K H p ys ∧ ∀ l (o : Obj), H l = none → o.dict = none → Q (.ref l) (upd H l (.frz o (.tup ys)))) ∨ (SqT K H p ys ∧ Q (.ref p) H))
theorem call_tup2 : CallR X (.type "tuple") (rdTuple X.K) := by
  intro pins s σ H xs us Q I r h
  obtain ⟨p, ys, rfl, h⟩ := h
  obtain ⟨u, rfl, rx⟩ := vals1 r
  cases rx
  rcases h with ⟨hq, q⟩ | ⟨hq, q⟩
  · obtain ⟨its, r', pl, hz⟩ := I.list hq
    have hlen := r'.length
    refine call_tuple_list pl.isList (fun h' kp => ?_) (by simp only [List.size_toArray] <;> omega)
    have J : Inv X pins σ H { s with heap := h' } := I.kept (t' := s.toks) kp
    have hg : (h'.push { cls := .type "tuple", data := .seq its.toArray }).get? h'.objs.size = some { cls := .type "tuple", data := .seq its.toArray } := Heap.get?_push_size _ rfl
    have ob : ObjOk X.prog X.w (upd H h'.objs.size (.frz { cls := .type "tuple", data := .seq its.toArray } (.tup ys))) (h'.push { cls := .type "tuple", data := .seq its.toArray }) h'.objs.size (.frz { cls := .type "tuple", data := .seq its.toArray } (.tup ys)) :=
      ⟨hg, hz, its, r', IsTup.new _ _⟩
    exact ⟨.ref h'.objs.size, _, J.laid (t' := s.toks) (fun b o e => Heap.get?_push_of_some _ e) (Nat.le_refl _) ob, rfl, q _ _ (J.hok.fresh (Nat.le_refl _)) rfl⟩
  · obtain ⟨its, r', pl, hz⟩ := I.tuple hq
    exact call_tuple_same pl ⟨.ref p, H, I, rfl, q⟩
theorem v_tuple : CallV T (rdTuple T.K) (on1 tupleD) := by
  refine v_on1 ?_
  intro G H x d r Q es gh hx q
  have old : ∀ {xs : List D}, tupOf d = some xs → r = .fr d → rdTuple T.K [x] H Q := fun {xs} e er => by
    subst er
    obtain ⟨a, vs, ea, s, k⟩ := hx.tupOf gh e
    refine ⟨a, vs, by rw [ea], .inr ⟨s, ?_⟩⟩
    rw [← ea]
    exact same gh q (hx.frozen e)
  cases d with
  | lst xs =>
    cases es
    obtain ⟨a, vs, rfl, s, k⟩ := hx.lst gh
    refine ⟨a, vs, rfl, .inl ⟨.of s, fun l o nl od => ?_⟩⟩
    refine q _ _ _ (Alloc.new2 gh nl) ?_
    have ng : G l = none := by
      cases z : G l with
      | none => rfl
      | some u =>
        rw [gh l u z] at nl
        cases nl
    show DR T _ _ _
    unfold DR
    exact ⟨l, o, vs, rfl, upd_same, od, k.le (le_upd ng)⟩
  | tup xs => exact old rfl (Option.some.inj es).symm
  | tpl xs => exact old rfl (Option.some.inj es).symm
  | _ => cases es
def listD : D → Option Slot
  | .lst xs => some (.ow (.lst xs))
  | .tup xs => some (.ow (.lst xs))
  | _ => none
theorem v_list : CallV T (fun xs H Q => ∃ p ys, xs = [.ref p] ∧ (SqL T.K H p ys ∨ SqT T.K H p ys) ∧ ∀ l, H l = none → Q (.ref l) (upd H l (.lst ys))) (on1 listD) := by
  refine v_on1 ?_
  intro G H x d r Q es gh hx q
  cases d with
  | lst xs =>
    cases es
    obtain ⟨a, vs, rfl, s, k⟩ := hx.lst gh
    exact ⟨a, vs, rfl, .inl (.of s), fun l nl => newL gh q k nl⟩
  | tup xs =>
    cases es
    obtain ⟨a, vs, rfl, s, k⟩ := hx.tup gh
    exact ⟨a, vs, rfl, .inr (.of s), fun l nl => newL gh q k nl⟩
  | _ => cases es
/-! ### sum, any, all, min, max -/
def intsOf : List D → Option (List Int)
  | [] => some []
  | .int i :: r => (intsOf r).map (i :: ·)
  | _ => none
def blsOf : List D → Option (List Bool)
  | [] => some []
  | .bl i :: r => (blsOf r).map (i :: ·)
  | _ => none
theorem intsOf_ok {G : Hp} : ∀ {ds : List D} {vs : List V} {is : List Int}, DRs T G ds vs → intsOf ds = some is → vs = is.map V.int
  | [], _, _, h, e => by
    unfold intsOf at e
    cases e
    exact h.nil_inv
  | d :: ds, _, is, h, e => by
    obtain ⟨v, r, rfl, h1, h2⟩ := h.cons_inv
    cases d with
    | int i =>
      unfold intsOf at e
      cases z : intsOf ds with
      | none => rw [z] at e; cases e
      | some js =>
        rw [z] at e
        cases e
        have h1 : v = .int i := h1
        rw [h1, intsOf_ok h2 z]
        rfl
    | _ => cases e
theorem blsOf_ok {G : Hp} : ∀ {ds : List D} {vs : List V} {is : List Bool}, DRs T G ds vs → blsOf ds = some is → vs = is.map V.bl
  | [], _, _, h, e => by
    unfold blsOf at e
    cases e
    exact h.nil_inv
  | d :: ds, _, is, h, e => by
    obtain ⟨v, r, rfl, h1, h2⟩ := h.cons_inv
    cases d with
    | bl i =>
      unfold blsOf at e
      cases z : blsOf ds with
      | none => rw [z] at e; cases e
      | some js =>
        rw [z] at e
        cases e
        have h1 : v = .bl i := h1
        rw [h1, blsOf_ok h2 z]
        rfl
    | _ => cases e
def onInts (f : List Int → Option D) : D → Option Slot
  | .lst xs => (intsOf xs).bind fun is => (f is).map .fr
  | _ => none
def onBls (f : List Bool → Bool) : D → Option Slot
  | .lst xs => (blsOf xs).map fun is => .fr (.bl (f is))
  | _ => none
theorem v_sum : Call1V T (rSum T.K) (onInts fun is => some (.int is.sum)) := by
  intro G H x d r Q es gh hx q
  cases d with
  | lst xs =>
    have es : ((intsOf xs).bind fun is => (some (D.int is.sum)).map Slot.fr) = some r := es
    cases z : intsOf xs with
    | none => rw [z] at es; cases es
    | some is =>
      rw [z] at es
      cases es
      obtain ⟨a, vs, rfl, s, k⟩ := hx.lst gh
      rw [intsOf_ok k z] at s
      exact ⟨a, is, rfl, .of s, same gh q rfl⟩
  | _ => cases es
theorem v_all : Call1V T (rAll T.K) (onBls fun is => is.all id) := by
  intro G H x d r Q es gh hx q
  cases d with
  | lst xs =>
    have es : ((blsOf xs).map fun is => Slot.fr (.bl (is.all id))) = some r := es
    cases z : blsOf xs with
    | none => rw [z] at es; cases es
    | some is =>
      rw [z] at es
      cases es
      obtain ⟨a, vs, rfl, s, k⟩ := hx.lst gh
      rw [blsOf_ok k z] at s
      exact ⟨a, is, rfl, .of s, same gh q rfl⟩
  | _ => cases es
theorem v_any : Call1V T (rAny T.K) (onBls fun is => is.any id) := by
  intro G H x d r Q es gh hx q
  cases d with
  | lst xs =>
    have es : ((blsOf xs).map fun is => Slot.fr (.bl (is.any id))) = some r := es
    cases z : blsOf xs with
    | none => rw [z] at es; cases es
    | some is =>
      rw [z] at es
      cases es
      obtain ⟨a, vs, rfl, s, k⟩ := hx.lst gh
      rw [blsOf_ok k z] at s
      exact ⟨a, is, rfl, .of s, same gh q rfl⟩
  | _ => cases es
def maxI : List Int → Option D
  | [] => none
  | i :: r => some (.int (r.foldl (fun a b => if a < b then b else a) i))
def minI : List Int → Option D
  | [] => none
  | i :: r => some (.int (r.foldl (fun a b => if b < a then b else a) i))
theorem max_ok : ∀ (r : List Int) (i : Int), r.foldl (fun a b => if a < b then b else a) i ∈ i :: r ∧ ∀ y ∈ i :: r, y ≤ r.foldl (fun a b => if a < b then b else a) i
  | [], i => ⟨by simp, fun y hy => by simp at hy; simp [hy]⟩
  | j :: r, i => by
    rw [List.foldl_cons]
    by_cases hc : i < j
    · rw [if_pos hc]
      obtain ⟨h1, h2⟩ := max_ok r j
      refine ⟨List.mem_cons_of_mem _ h1, fun y hy => ?_⟩
      rcases List.mem_cons.mp hy with rfl | hy
      · have := h2 j List.mem_cons_self
        omega
      · exact h2 y hy
    · rw [if_neg hc]
      obtain ⟨h1, h2⟩ := max_ok r i
      refine ⟨(List.mem_cons.mp h1).elim (fun z => by rw [z]; exact List.mem_cons_self) fun z => List.mem_cons_of_mem _ (List.mem_cons_of_mem _ z), fun y hy => ?_⟩
      have h3 := h2 i List.mem_cons_self
      rcases List.mem_cons.mp hy with rfl | hy
      · exact h3
      · rcases List.mem_cons.mp hy with rfl | hy
        · omega
        · exact h2 y (List.mem_cons_of_mem _ hy)
theorem min_ok : ∀ (r : List Int) (i : Int), r.foldl (fun a b => if b < a then b else a) i ∈ i :: r ∧ ∀ y ∈ i :: r, r.foldl (fun a b => if b < a then b else a) i ≤ y
  | [], i => ⟨by simp, fun y hy => by simp at hy; simp [hy]⟩
  | j :: r, i => by
    rw [List.foldl_cons]
    by_cases hc : j < i
    · rw [if_pos hc]
      obtain ⟨h1, h2⟩ := min_ok r j
      refine ⟨List.mem_cons_of_mem _ h1, fun y hy => ?_⟩
      rcases List.mem_cons.mp hy with rfl | hy
      · have := h2 j List.mem_cons_self
        omega
      · exact h2 y hy
    · rw [if_neg hc]
      obtain ⟨h1, h2⟩ := min_ok r i
      refine ⟨(List.mem_cons.mp h1).elim (fun z => by rw [z]; exact List.mem_cons_self) fun z => List.mem_cons_of_mem _ (List.mem_cons_of_mem _ z), fun y hy => ?_⟩
      have h3 := h2 i List.mem_cons_self
      rcases List.mem_cons.mp hy with rfl | hy
      · exact h3
      · rcases List.mem_cons.mp hy with rfl | hy
        · omega
        · exact h2 y (List.mem_cons_of_mem _ hy)
theorem v_max : Call1V T (rMax T.K) (onInts maxI) := by
  intro G H x d r Q es gh hx q
  cases d with
  | lst xs =>
    have es : ((intsOf xs).bind fun is => (maxI is).map Slot.fr) = some r := es
    cases z : intsOf xs with
    | none => rw [z] at es; cases es
    | some is =>
      rw [z] at es
      cases is with
      | nil => cases es
      | cons i is =>
        cases es
        obtain ⟨a, vs, rfl, s, k⟩ := hx.lst gh
        rw [intsOf_ok k z] at s
        obtain ⟨h1, h2⟩ := max_ok is i
        refine ⟨a, i :: is, rfl, .of s, by simp, fun m hm hy => ?_⟩
        have e : m = is.foldl (fun a b => if a < b then b else a) i := Int.le_antisymm (h2 m hm) (hy _ h1)
        rw [e]
        exact same gh q rfl
  | _ => cases es
theorem v_min : Call1V T (rMin T.K) (onInts minI) := by
  intro G H x d r Q es gh hx q
  cases d with
  | lst xs =>
    have es : ((intsOf xs).bind fun is => (minI is).map Slot.fr) = some r := es
    cases z : intsOf xs with
    | none => rw [z] at es; cases es
    | some is =>
      rw [z] at es
      cases is with
      | nil => cases es
      | cons i is =>
        cases es
        obtain ⟨a, vs, rfl, s, k⟩ := hx.lst gh
        rw [intsOf_ok k z] at s
        obtain ⟨h1, h2⟩ := min_ok is i
        refine ⟨a, i :: is, rfl, .of s, by simp, fun m hm hy => ?_⟩
        have e : m = is.foldl (fun a b => if b < a then b else a) i := Int.le_antisymm (hy _ h1) (h2 m hm)
        rw [e]
        exact same gh q rfl
  | _ => cases es

/-! ### texts -/
def ltD : D → D → Option Slot
  | .int i, .int j => some (.fr (.bl (decide (i < j))))
  | .str s, .str t => some (.fr (.bl (decide (s < t))))
  | _, _ => none
theorem v_lt : OpV T (fun x y H Q => rI0 (fun i j => .bl (ltI i j)) x y H Q ∨ ∃ i j, x = .str i ∧ y = .str j ∧ Q (.bl (decide (i.cps.toList < j.cps.toList))) H) ltD := by
  intro G H x y d e r Q es gh hx hy q
  cases d with
  | int i =>
    cases e with
    | int j =>
      cases es
      rw [hx.int, hy.int]
      exact .inl ⟨i, j, rfl, rfl, same gh q rfl⟩
    | _ => cases es
  | str i =>
    cases e with
    | str j =>
      cases es
      rw [hx.str, hy.str]
      exact .inr ⟨_, _, rfl, rfl, same gh q rfl⟩
    | _ => cases es
  | _ => cases es
/-- one sign in a text -/
def inSD (neg : Bool) : D → D → Option Slot
  | .str [c], .str z => some (.fr (.bl (neg ^^ z.contains c)))
  | _, _ => none
theorem v_inS : OpV T (fun x y H Q => ∃ (c : Nat) (z : Str), x = .str ⟨#[c]⟩ ∧ y = .str z ∧ Q (.bl (decide (c ∈ z.cps.toList))) H) (inSD false) := by
  intro G H x y d e r Q es gh hx hy q
  cases d with
  | str s =>
    cases s with
    | nil => cases es
    | cons c s =>
      cases s with
      | cons _ _ => cases es
      | nil =>
        cases e with
        | str z =>
          cases es
          rw [hx.str, hy.str]
          refine ⟨c, mkS z, rfl, rfl, ?_⟩
          have : decide (c ∈ (mkS z).cps.toList) = (false ^^ z.contains c) := by
            rw [Bool.false_xor]
            show decide (c ∈ z) = z.contains c
            by_cases h : c ∈ z
            · rw [decide_eq_true h, List.contains_iff_mem.mpr h]
            · rw [decide_eq_false h]
              cases w : z.contains c with
              | false => rfl
              | true => exact absurd (List.contains_iff_mem.mp w) h
          rw [this]
          exact same gh q rfl
        | _ => cases es
  | _ => cases es
theorem v_notinS : OpV T (fun x y H Q => ∃ (c : Nat) (z : Str), x = .str ⟨#[c]⟩ ∧ y = .str z ∧ Q (.bl (!decide (c ∈ z.cps.toList))) H) (inSD true) := by
  intro G H x y d e r Q es gh hx hy q
  cases d with
  | str s =>
    cases s with
    | nil => cases es
    | cons c s =>
      cases s with
      | cons _ _ => cases es
      | nil =>
        cases e with
        | str z =>
          cases es
          rw [hx.str, hy.str]
          refine ⟨c, mkS z, rfl, rfl, ?_⟩
          have : (!decide (c ∈ (mkS z).cps.toList)) = (true ^^ z.contains c) := by
            rw [Bool.true_xor]
            show (!decide (c ∈ z)) = !z.contains c
            by_cases h : c ∈ z
            · rw [decide_eq_true h, List.contains_iff_mem.mpr h]
            · rw [decide_eq_false h]
              cases w : z.contains c with
              | false => rfl
              | true => exact absurd (List.contains_iff_mem.mp w) h
          rw [this]
          exact same gh q rfl
        | _ => cases es
  | _ => cases es
end
end HK

/-! HKnb: chains, slices, join, zip. -/
namespace HK
open PySem PySem.Spec PySem.Calls PyProof.Rows L2
section
variable {X : Cx} {T : Th} {b : Bs} {E : XK} {n : Nat} {pos p1 p2 : Pos} {e a c d : Expr} {fa fb fc : EX}
/-- a op c op' d -/
def xCh (sem sem' : D → D → Option Slot) (fa fb fc : EX) : EX := fun env w => (fa env w).bind fun r env w => (fb env w).bind fun q env w => match sem r.dat q.dat with
  | some (.fr (.bl true)) => (fc env w).bind fun u env w => lift (sem' q.dat u.dat) env w
  | some (.fr (.bl false)) => .ok (.fr (.bl false)) env w
  | _ => .no
theorem ch_ok {rd rd' : R2} {sem sem' : D → D → Option Slot} (hs : OpV T rd sem) (hs' : OpV T rd' sem') {σ : L2.St} {H : Hp} {Q : VK} (h : tEx T b E (xCh sem sem' fa fb fc) σ H Q) :
    tChain rd rd' (tEx T b E fa) (tEx T b E fb) (tEx T b E fc) σ H Q := by
  obtain ⟨g, env, w, R, p⟩ := h
  unfold xCh at p
  rw [Pr.bind] at p
  refine ⟨g, env, w, R, p.mono fun r env1 w1 p1 g1 x H1 R1 l1 q1 => ?_⟩
  obtain ⟨g2, R2, l2, d2⟩ := R1.freeze q1
  rw [Pr.bind] at p1
  refine ⟨g2, env1, w1, R2, p1.mono fun s env3 w3 p3 g3 y H3 R3 l3 q3 => ?_⟩
  obtain ⟨g4, R4, l4, d4⟩ := R3.freeze q3
  have lt : Le g.G g4.G := ((l1.trans l2).trans l3).trans l4
  cases er : sem r.dat s.dat with
  | none => rw [er] at p3; exact p3.elim
  | some sl =>
    rw [er] at p3
    cases sl with
    | no => exact p3.elim
    | ow _ => exact p3.elim
    | fr dd =>
      cases dd with
      | bl k =>
        refine hs g4.G H3 x y _ _ _ _ er R4.kept.gh (.inl (d2.le (l3.trans l4))) (.inl d4) fun v G' H' A rv => ?_
        have rv : v = .bl k := rv
        have R5 := R4.alloc A
        refine ⟨k, rv, ?_⟩
        cases k with
        | false =>
          rw [if_neg Bool.false_ne_true]
          exact p3 _ _ _ R5 (lt.trans (Le.of A.g)) rfl
        | true =>
          rw [if_pos rfl]
          have p3 : Pr T b E _ ((fc env3 w3).bind fun u env w => lift (sem' s.dat u.dat) env w) := p3
          rw [Pr.bind] at p3
          refine ⟨_, env3, w3, R5, p3.mono fun u env6 w6 p6 g6 z H6 R6 l6 q6 => ?_⟩
          obtain ⟨g7, R7, l7, d7⟩ := R6.freeze q6
          obtain ⟨o, eo, kk⟩ := lift_ok R7 (((lt.trans (Le.of A.g)).trans l6).trans l7) p6
          exact hs' g7.G H6 y z _ _ _ Q eo R7.kept.gh (.inl (d4.le (((Le.of A.g).trans l6).trans l7))) (.inl d7) kk
      | _ => exact p3.elim
theorem cch {op op' : CmpOp} {rd rd' : R2} {sem sem' : D → D → Option Slot} (ho : OpR X (compareOp op) rd) (hs : OpV T rd sem) (ho' : OpR X (compareOp op') rd') (hs' : OpV T rd' sem') (ha : PE X a (tEx T b E fa)) (hb : PE X c (tEx T b E fb)) (hc : PE X d (tEx T b E fc))
    (hm : lastMarks [op, op'] [c, d] = false := by with_unfolding_all rfl) : PE X (.Compare a [op, op'] [c, d] pos) (tEx T b E (xCh sem sem' fa fb fc)) := (pe_chain ho ho' ha hb hc hm).imp fun _ _ _ h => ch_ok hs hs' h
theorem ctch {op op' : CmpOp} {rd rd' : R2} {sem sem' : D → D → Option Slot} (ho : OpR X (compareOp op) rd) (hs : OpV T rd sem) (ho' : OpR X (compareOp op') rd') (hs' : OpV T rd' sem') (ha : PE X a (tEx T b E fa)) (hb : PE X c (tEx T b E fb)) (hc : PE X d (tEx T b E fc))
    (hm : lastMarks [op, op'] [c, d] = false := by with_unfolding_all rfl) : PT X (.Compare a [op, op'] [c, d] pos) (tTx T b E (tBl (xCh sem sem' fa fb fc))) := (pt_chain ho ho' ha hb hc hm).imp fun _ _ _ h => ch_ok hs hs' (bl_ok h)
/-! ### slices -/
def cutI : Option D → Option (Option Int)
  | none => some none
  | some (.int i) => some (some i)
  | _ => none
/-- a[lo:hi]; a part may be missing -/
abbrev PX := List Slot → Pen → Rv (Option Int)
def pNo : PX := fun env w => .ok none env w
def pYes (f : EX) : PX := fun env w => (f env w).bind fun r env w => match r.dat with
  | .int i => .ok (some i) env w
  | _ => .no
def xSl (fa : EX) (fl fh : PX) : EX := fun env w => (fa env w).bind fun r env w => (fl env w).bind fun l env w => (fh env w).bind fun h env w => lift (slD r.dat l h) env w
def tPx (T : Th) (b : Bs) (E : XK) (f : PX) : TO := fun σ H Q => ∃ g env w, RS T b g env w σ H ∧ Pr T b E (fun l env' w' => ∀ g' H', RS T b g' env' w' σ H' → Le g.G g'.G → Q l H') (f env w)
theorem _root_.L2.PO.imp {X : Cx} {e : Option Expr} {t t' : TO} (h : PO X e t) (k : ∀ σ H Q, t' σ H Q → t σ H Q) : PO X e t' := ⟨fun pins s σ H Q I q => h.run pins s σ H Q I (k σ H Q q)⟩
theorem pno : PO X none (tPx T b E pNo) := po_none.imp fun σ H Q ⟨g, env, w, R, p⟩ => p g H R (Le.refl _)
theorem pyes (h : PE X e (tEx T b E fa)) : PO X (some e) (tPx T b E (pYes fa)) := (po_some h).imp fun σ H Q ⟨g, env, w, R, p⟩ => by
  unfold pYes at p
  rw [Pr.bind] at p
  refine ⟨g, env, w, R, p.mono fun r env1 w1 p1 g1 x H1 R1 l1 q1 => ?_⟩
  obtain ⟨g2, R2, l2, d2⟩ := R1.freeze q1
  cases er : r.dat with
  | int i =>
    rw [er] at p1 d2
    exact ⟨i, d2, p1 g2 H1 R2 (l1.trans l2)⟩
  | _ => rw [er] at p1; exact p1.elim
def rdSl (K : PySem.W.Frag) : V → Option Int → Option Int → Hp → VK → Prop := fun x lo hi H Q => rSlL K x lo hi H Q ∨ rSlA K x lo hi H Q ∨ rSlS x lo hi H Q
theorem csl {lo hi : Option Expr} {fl fh : PX} (hK : X.K = T.K) (ha : PE X a (tEx T b E fa)) (hl : PO X lo (tPx T b E fl)) (hh : PO X hi (tPx T b E fh)) : PE X (.Subscript a (.Slice lo hi none p2) pos) (tEx T b E (xSl fa fl fh)) := by
  refine (pe_slice (sl_list.or (sl_tupA.or sl_str)) ha hl hh).imp fun σ H Q ⟨g, env, w, R, p⟩ => ?_
  unfold xSl at p
  rw [Pr.bind] at p
  refine ⟨g, env, w, R, p.mono fun r env1 w1 p1 g1 x H1 R1 l1 q1 => ?_⟩
  obtain ⟨g2, R2, l2, d2⟩ := R1.freeze q1
  rw [Pr.bind] at p1
  refine ⟨g2, env1, w1, R2, p1.mono fun l env3 w3 p3 g3 H3 R3 l3 => ?_⟩
  rw [Pr.bind] at p3
  refine ⟨g3, env3, w3, R3, p3.mono fun u env5 w5 p5 g5 H5 R5 l5 => ?_⟩
  obtain ⟨o, eo, k⟩ := lift_ok R5 (((l1.trans l2).trans l3).trans l5) p5
  have d5 := d2.le (l3.trans l5)
  have gh := R5.kept.gh
  rw [hK]
  cases er : r.dat with
  | lst xs =>
    rw [er] at eo d5
    cases eo
    obtain ⟨aa, vs, rfl, s, q⟩ := (show DO T g5.G H5 _ _ from .inl d5).lst gh
    refine .inl ⟨aa, vs, rfl, .of s, fun pp np => ?_⟩
    have e : cutV vs l u = (vs.drop (HT.sIx xs.length 0 l)).take (HT.sIx xs.length xs.length u - HT.sIx xs.length 0 l) := by
      unfold cutV
      rw [q.length]
    rw [e]
    exact newL gh k ((q.drop _).take _) np
  | tup xs =>
    rw [er] at eo d5
    cases eo
    obtain ⟨aa, vs, ea, s, q⟩ := (show DO T g5.G H5 _ _ from .inl d5).tup gh
    subst ea
    refine .inr (.inl ⟨aa, vs, rfl, .of s, fun z => ?_, fun z pp np => ?_⟩)
    · rw [q.length] at z
      have e : cutL xs l u = xs := by
        unfold cutL
        rw [z.1, z.2]
        simp
      rw [e] at k
      exact same gh k d5
    · have e : cutV vs l u = (vs.drop (HT.sIx xs.length 0 l)).take (HT.sIx xs.length xs.length u - HT.sIx xs.length 0 l) := by
        unfold cutV
        rw [q.length]
      rw [e]
      exact newT gh k ((q.drop _).take _) np
  | tpl xs =>
    rw [er] at eo d5
    have eo : (if HT.sIx xs.length 0 l = 0 ∧ HT.sIx xs.length xs.length u = xs.length then some (Slot.fr (.tpl xs)) else some (Slot.fr (.tup (cutL xs l u)))) = some o := eo
    obtain ⟨aa, vs, ea, s, q⟩ := (show DO T g5.G H5 _ _ from .inl d5).tpl gh
    subst ea
    refine .inr (.inl ⟨aa, vs, rfl, .inl s, fun z => ?_, fun z pp np => ?_⟩)
    · rw [q.length] at z
      rw [if_pos z] at eo
      cases eo
      exact same gh k d5
    · rw [q.length] at z
      rw [if_neg z] at eo
      cases eo
      have e : cutV vs l u = (vs.drop (HT.sIx xs.length 0 l)).take (HT.sIx xs.length xs.length u - HT.sIx xs.length 0 l) := by
        unfold cutV
        rw [q.length]
      rw [e]
      exact newT gh k ((q.drop _).take _) np
  | str s =>
    rw [er] at eo d5
    have eo : (if s.length ≤ LINE then some (Slot.fr (.str (cutL s l u))) else none) = some o := eo
    split at eo
    · rename_i hl
      cases eo
      have d5 : x = .str (mkS s) := d5
      subst d5
      refine .inr (.inr ⟨mkS s, rfl, by rw [line_eq]; exact hl, ?_⟩)
      have e : cutS (mkS s) l u = mkS (cutL s l u) := rfl
      rw [e]
      exact same gh k rfl
    · cases eo
  | _ => rw [er] at eo; cases eo
end
end HK

/-! HKnc: join, text times int, list of a text, zip. -/
namespace HK
open PySem PySem.Spec PySem.Calls PyProof.Rows L2
def joinL (sep : List Nat) : List (List Nat) → List Nat
  | [] => []
  | [x] => x
  | x :: y :: r => x ++ sep ++ joinL sep (y :: r)
theorem join_eq (sep : List Nat) : ∀ ys : List (List Nat), Txt.join (mkS sep) (ys.map mkS) = mkS (joinL sep ys) := by
  intro ys
  unfold Txt.join
  rw [PySem.StrLaws.glued_eq_join]
  induction ys with
  | nil => rfl
  | cons x r ih =>
    cases r with
    | nil => rfl
    | cons y r =>
      show mkS x ++ mkS sep ++ Str.join (mkS sep) ((y :: r).map mkS) = mkS (x ++ sep ++ joinL sep (y :: r))
      rw [ih, mkS_append, mkS_append]
def strsOf : List D → Option (List (List Nat))
  | [] => some []
  | .str i :: r => (strsOf r).map (i :: ·)
  | _ => none
section
variable {X : Cx} {T : Th} {b : Bs} {E : XK} {n : Nat} {pos p1 p2 apos : Pos} {e o a c d : Expr} {fa fb fc : EX}
theorem strsOf_ok {G : Hp} : ∀ {ds : List D} {vs : List V} {is : List (List Nat)}, DRs T G ds vs → strsOf ds = some is → vs = (is.map mkS).map V.str
  | [], _, _, h, e => by
    unfold strsOf at e
    cases e
    exact h.nil_inv
  | d :: ds, _, is, h, e => by
    obtain ⟨v, r, rfl, h1, h2⟩ := h.cons_inv
    cases d with
    | str i =>
      unfold strsOf at e
      cases z : strsOf ds with
      | none => rw [z] at e; cases e
      | some js =>
        rw [z] at e
        cases e
        have h1 : v = .str (mkS i) := h1
        rw [h1, strsOf_ok h2 z]
        rfl
    | _ => cases e
def joinD (s : List Nat) : D → Option Slot
  | .lst ys => (strsOf ys).bind fun zs => if (zs.map List.length).sum + zs.length * s.length ≤ LINE then some (.fr (.str (joinL s zs))) else none
  | .tup ys => (strsOf ys).bind fun zs => if (zs.map List.length).sum + zs.length * s.length ≤ LINE then some (.fr (.str (joinL s zs))) else none
  | _ => none
def xJn (fa fb : EX) : EX := fun env w => (fa env w).bind fun r env w => match r.dat with
  | .str s => (fb env w).bind fun q env w => lift (joinD s q.dat) env w
  | _ => .no
theorem cjn (hK : X.K = T.K) (ho : PE X o (tEx T b E fa)) (he : PE X e (tEx T b E fb)) (hs : starEach [e] X.env = [(false, eval e X.env)] := by rfl) (hbase : attributeBase o "join" X.env (eval o X.env) = eval o X.env := by rfl) (hline : (apos.endLine == pos.line) = true := by rfl) :
    PE X (.Call (.Attribute o "join" apos) [e] [] pos) (tEx T b E (xJn fa fb)) := by
  refine (pe_join ho he hs hbase hline).imp fun σ H Q ⟨g, env, w, R, p⟩ => ?_
  unfold xJn at p
  rw [Pr.bind] at p
  refine ⟨g, env, w, R, p.mono fun r env1 w1 p1 g1 x H1 R1 l1 q1 => ?_⟩
  obtain ⟨g2, R2, l2, d2⟩ := R1.freeze q1
  cases er : r.dat with
  | str s =>
    rw [er] at p1 d2
    have d2 : x = .str (mkS s) := d2
    subst d2
    have p1 : Pr T b E _ ((fb env1 w1).bind fun q env w => lift (joinD s q.dat) env w) := p1
    rw [Pr.bind] at p1
    refine ⟨⟨_, rfl⟩, g2, env1, w1, R2, p1.mono fun q env3 w3 p3 g3 y H3 R3 l3 q3 => ?_⟩
    obtain ⟨g4, R4, l4, d4⟩ := R3.freeze q3
    obtain ⟨u, eo, k⟩ := lift_ok R4 (((l1.trans l2).trans l3).trans l4) p3
    rw [hK]
    have fin : ∀ (ys : List D) (a : Addr) (vs : List V), y = .ref a → DRs T g4.G ys vs → (SqL T.K H3 a vs ∨ SqT T.K H3 a vs) → ((strsOf ys).bind fun zs => if (zs.map List.length).sum + zs.length * s.length ≤ LINE then some (Slot.fr (.str (joinL s zs))) else none) = some u →
        ∃ a p, ∃ ys : List Str, V.str (mkS s) = .str a ∧ [y] = [.ref p] ∧ (SqL T.K H3 p (ys.map V.str) ∨ SqT T.K H3 p (ys.map V.str)) ∧ (ys.map (·.length)).sum + ys.length * a.length ≤ 16777216 ∧ Q (.str (Txt.join a ys)) H3 := fun ys a vs ey q sq eo => by
      cases z : strsOf ys with
      | none => rw [z] at eo; cases eo
      | some zs =>
        rw [z] at eo
        have eo : (if (zs.map List.length).sum + zs.length * s.length ≤ LINE then some (Slot.fr (.str (joinL s zs))) else none) = some u := eo
        split at eo
        · rename_i hl
          cases eo
          rw [strsOf_ok q z] at sq
          refine ⟨mkS s, a, zs.map mkS, rfl, by rw [ey], sq, ?_, ?_⟩
          · have e1 : ((zs.map mkS).map (·.length)) = zs.map List.length := by
              rw [List.map_map]
              rfl
            rw [e1, List.length_map]
            exact hl
          · rw [join_eq]
            exact same R4.kept.gh k rfl
        · cases eo
    cases eq : q.dat with
    | lst ys =>
      rw [eq] at eo d4
      obtain ⟨aa, vs, ey, st, qq⟩ := (show DO T g4.G H3 _ _ from .inl d4).lst R4.kept.gh
      exact fin ys aa vs ey qq (.inl (.of st)) eo
    | tup ys =>
      rw [eq] at eo d4
      obtain ⟨aa, vs, ey, st, qq⟩ := (show DO T g4.G H3 _ _ from .inl d4).tup R4.kept.gh
      exact fin ys aa vs ey qq (.inr (.of st)) eo
    | _ => rw [eq] at eo; cases eo
  | _ => rw [er] at p1; exact p1.elim

/-! ### a text times an int -/
theorem reps_arr (a : Array Nat) : ∀ (k : Nat) (acc : Array Nat), (List.replicate k a).foldl (· ++ ·) acc = ⟨acc.toList ++ (List.replicate k a.toList).flatten⟩
  | 0, acc => by simp
  | k + 1, acc => by
    rw [List.replicate_succ, List.foldl_cons, reps_arr a k, List.replicate_succ, List.flatten_cons]
    simp
theorem op_mulS : OpR X (binaryOp .Mult) (fun x y H Q => ∃ s k, x = .str s ∧ y = .int k ∧ MulOk s k ∧ Q (.str (Txt.mul s k)) H) := by
  intro pins s σ H x y v u Q I rx ry h
  obtain ⟨z, k, rfl, rfl, ok, q⟩ := h
  obtain ⟨t, rfl⟩ := rx
  obtain ⟨t', rfl⟩ := ry
  exact SB.mul ok fun t2 kk => ⟨.str (Txt.mul z k), H, I.tok _, ⟨_, rfl⟩, q⟩
def mulSD : D → D → Option Slot
  | .int i, .int j => if (small64 i || small64 j) = true then some (.fr (.int (i * j))) else none
  | .str s, .int j => if 0 ≤ j ∧ s.length * j.toNat ≤ LINE ∧ j ≤ LINE then some (.fr (.str (List.replicate j.toNat s).flatten)) else none
  | _, _ => none
theorem v_mulS : OpV T (fun x y H Q => rI CMul (fun i j => .int (i * j)) x y H Q ∨ ∃ s k, x = .str s ∧ y = .int k ∧ MulOk s k ∧ Q (.str (Txt.mul s k)) H) mulSD := by
  intro G H x y d e r Q es gh hx hy q
  cases d with
  | int i =>
    cases e with
    | int j => exact .inl (v_mul G H x y (.int i) (.int j) r Q es gh hx hy q)
    | _ => cases es
  | str s =>
    cases e with
    | int j =>
      have es : (if 0 ≤ j ∧ s.length * j.toNat ≤ LINE ∧ j ≤ LINE then some (Slot.fr (.str (List.replicate j.toNat s).flatten)) else none) = some r := es
      split at es
      · rename_i hc
        obtain ⟨h0, hl, hj⟩ := hc
        cases es
        rw [hx.str, hy.int]
        refine .inr ⟨mkS s, j, rfl, rfl, ⟨?_, fun h1 _ => ?_, fun h1 _ => ?_⟩, ?_⟩
        · unfold LINE at hj
          rw [decide_eq_false (by omega), decide_eq_false (by omega)]
          rfl
        · have hj1 : 1 ≤ j := by omega
          have e1 : ((mkS s).length : Int) = s.length := rfl
          rw [e1]
          have : (s.length : Int) * j ≤ 2 ^ 63 - 1 := by
            have e2 : ((s.length * j.toNat : Nat) : Int) = (s.length : Int) * j := by
              rw [Int.natCast_mul, Int.toNat_of_nonneg h0]
            rw [← e2]
            unfold LINE at hl
            omega
          have := (Int.le_ediv_iff_mul_le (by omega : 0 < j)).mpr this
          omega
        · have e1 : (mkS s).length = s.length := rfl
          rw [e1]
          show decide (s.length * j.toNat > sizeLine) = false
          exact decide_eq_false (by rw [line_eq]; omega)
        · have e1 : Txt.mul (mkS s) j = mkS (List.replicate j.toNat s).flatten := by
            unfold Txt.mul
            by_cases h1 : j < 1
            · rw [if_pos h1]
              have : j = 0 := by omega
              subst this
              rfl
            · rw [if_neg h1]
              by_cases h2 : (j == 1 || (mkS s).length == 0) = true
              · rw [if_pos h2]
                rcases Bool.or_eq_true_iff.mp h2 with h3 | h3
                · obtain rfl := beq_iff_eq.mp h3
                  show mkS s = mkS (List.replicate 1 s).flatten
                  simp [List.replicate_succ]
                · have : s = [] := List.eq_nil_of_length_eq_zero (beq_iff_eq.mp h3)
                  subst this
                  congr 1
                  induction j.toNat with
                  | zero => rfl
                  | succ n ih => rw [List.replicate_succ, List.flatten_cons]; exact ih
              · rw [if_neg h2, reps_arr]
                show (⟨_⟩ : Str) = ⟨_⟩
                congr 1
          rw [e1]
          exact same gh q rfl
      · cases es
    | _ => cases es
  | _ => cases es

/-! ### list of a text -/
theorem vals_at : ∀ {xs : List V} {us : List Value}, xs.length = us.length → (∀ (i : Nat) (x : V) (u : Value), xs[i]? = some x → us[i]? = some u → RelV x u) → Vals xs us
  | [], [], _, _ => .nil
  | [], _ :: _, h, _ => by cases h
  | _ :: _, [], h, _ => by cases h
  | x :: xs, u :: us, h, k => .cons (k 0 x u rfl rfl) (vals_at (by simpa using h) fun i y w e1 e2 => k (i + 1) y w (by simpa using e1) (by simpa using e2))
theorem call_listS (hc : X.calm = true) : CallR X (.type "list") (fun xs H Q => ∃ z, xs = [.str z] ∧ z.length ≤ sizeLine ∧ ∀ p, H p = none → Q (.ref p) (upd H p (.lst (z.cps.toList.map fun c => V.str ⟨#[c]⟩)))) := by
  intro pins s σ H xs us Q I r h
  obtain ⟨z, rfl, hl, q⟩ := h
  cases r with
  | cons rz rr =>
    cases rr
    obtain ⟨t, rfl⟩ := rz
    refine call_list_str (I.ok.hd hc) z t (hn := hl) fun h' tk acc' c' hk hS' hacc => ?_
    have nH : H s.heap.objs.size = none := I.hok.fresh (Nat.le_refl _)
    have rv : Vals (z.cps.toList.map fun c => V.str ⟨#[c]⟩) acc'.toList := by
      refine vals_at ?_ fun i x u e1 e2 => ?_
      · rw [List.length_map, Array.length_toList, Array.length_toList, hacc.1]
      · obtain ⟨c, t2, h1, rfl⟩ := hacc.2 i u (by simpa using e2)
        rw [List.getElem?_map, Array.getElem?_toList, h1] at e1
        cases e1
        exact ⟨t2, rfl⟩
    have ob : ObjOk X.prog X.w (upd H s.heap.objs.size (.lst (z.cps.toList.map fun c => V.str ⟨#[c]⟩))) h' s.heap.objs.size (.lst (z.cps.toList.map fun c => V.str ⟨#[c]⟩)) :=
      ⟨by rw [List.length_map]; exact hl, acc'.toList, c', rv, by simpa using hS'⟩
    exact ⟨.ref s.heap.objs.size, _, I.laid (t' := tk) hk (Nat.le_refl _) ob, rfl, q _ nH⟩
def listSD : D → Option Slot
  | .lst xs => some (.ow (.lst xs))
  | .tup xs => some (.ow (.lst xs))
  | .tpl xs => some (.ow (.lst xs))
  | .str s => if s.length ≤ LINE then some (.ow (.lst (s.map fun c => .str [c]))) else none
  | _ => none
theorem chars_dr {G : Hp} : ∀ {s : List Nat}, DRs T G (s.map fun c => D.str [c]) (s.map fun c => V.str ⟨#[c]⟩)
  | [] => .nil
  | c :: s => .cons rfl chars_dr
def rdList (K : PySem.W.Frag) : List V → Hp → VK → Prop := fun xs H Q => (∃ p ys, xs = [.ref p] ∧ (SqL K H p ys ∨ SqT K H p ys) ∧ ∀ l, H l = none → Q (.ref l) (upd H l (.lst ys))) ∨
  ∃ z, xs = [.str z] ∧ z.length ≤ sizeLine ∧ ∀ p, H p = none → Q (.ref p) (upd H p (.lst (z.cps.toList.map fun c => V.str ⟨#[c]⟩)))
theorem v_listS : CallV T (rdList T.K) (on1 listSD) := by
  refine v_on1 ?_
  intro G H x d r Q es gh hx q
  cases d with
  | lst xs =>
    cases es
    obtain ⟨a, vs, rfl, s, k⟩ := hx.lst gh
    exact .inl ⟨a, vs, rfl, .inl (.of s), fun l nl => newL gh q k nl⟩
  | tup xs =>
    cases es
    obtain ⟨a, vs, rfl, s, k⟩ := hx.tup gh
    exact .inl ⟨a, vs, rfl, .inr (.of s), fun l nl => newL gh q k nl⟩
  | tpl xs =>
    cases es
    obtain ⟨a, vs, rfl, s, k⟩ := hx.tpl gh
    exact .inl ⟨a, vs, rfl, .inr (.inl s), fun l nl => newL gh q k nl⟩
  | str s =>
    have es : (if s.length ≤ LINE then some (Slot.ow (.lst (s.map fun c => D.str [c]))) else none) = some r := es
    split at es
    · rename_i hl
      cases es
      rw [hx.str]
      exact .inr ⟨mkS s, rfl, by rw [line_eq]; exact hl, fun l nl => newL gh q chars_dr nl⟩
    · cases es
  | _ => cases es
theorem call_listSD (hc : X.calm = true) : CallR X (.type "list") (rdList X.K) := call_list_of.or (call_listS hc)

/-! ### zip -/
def zipD : List D → List D → List D
  | x :: xs, y :: ys => .tup [x, y] :: zipD xs ys
  | _, _ => []
theorem zipD_get : ∀ {xs ys : List D} {i : Nat} {x y : D}, xs[i]? = some x → ys[i]? = some y → (zipD xs ys)[i]? = some (.tup [x, y])
  | [], _, _, _, _, h, _ => by simp at h
  | _ :: _, [], _, _, _, _, h => by simp at h
  | x :: xs, y :: ys, 0, _, _, h1, h2 => by
    simp at h1 h2
    subst h1
    subst h2
    rfl
  | x :: xs, y :: ys, i + 1, _, _, h1, h2 => by
    unfold zipD
    exact zipD_get (xs := xs) (ys := ys) (i := i) (by simpa using h1) (by simpa using h2)
theorem zipD_length : ∀ {xs ys : List D}, (zipD xs ys).length = min xs.length ys.length
  | [], ys => by simp [zipD]
  | x :: xs, [] => by simp [zipD]
  | x :: xs, y :: ys => by
    unfold zipD
    rw [List.length_cons, zipD_length, List.length_cons, List.length_cons]
    omega
def zip2D : List D → Option (List D)
  | [.lst xs, .lst ys] => some (zipD xs ys)
  | [d, e] => match tupOf d, tupOf e with
    | some xs, some ys => some (zipD xs ys)
    | _, _ => none
  | _ => none
theorem pair_new {G H : Hp} {p : Addr} {x y : V} {d e : D} (gh : ∀ a o, G a = some o → H a = some o) (np : H p = none) (hx : DR T G d x) (hy : DR T G e y) : Alloc G H (upd G p (.tup [x, y])) (upd H p (.tup [x, y])) ∧ DR T (upd G p (.tup [x, y])) (.tup [d, e]) (.ref p) := by
  have ng : G p = none := by
    cases z : G p with
    | none => rfl
    | some u =>
      rw [gh p u z] at np
      cases np
  refine ⟨Alloc.new2 gh np, ?_⟩
  unfold DR
  exact ⟨p, _, rfl, upd_same, .cons (hx.le (le_upd ng)) (.cons (hy.le (le_upd ng)) .nil)⟩
theorem jok_zip {G : Hp} {a c : Addr} {vs us : List V} {ds es : List D} (s1 : G a = some (.lst vs)) (q1 : DRs T G ds vs) (s2 : G c = some (.lst us)) (q2 : DRs T G es us) : JOk T G (Itz T.K a c) (zipD ds es) := by
  refine ⟨fun H => SqL T.K H a vs ∧ SqL T.K H c us, YPair (fun i => vs[i]?) (fun i => us[i]?), walk_zip (by rw [zipD_length, q1.length, q2.length]), fun G' H' l k => ⟨.of (k _ _ (l.ex _ _ rfl s1)), .of (k _ _ (l.ex _ _ rfl s2))⟩, fun i H x H' G' hi l k y => ?_⟩
  obtain ⟨p, x1, x2, rfl, np, rfl, e1, e2⟩ := y
  obtain ⟨d1, h1, r1⟩ := q1.get' e1
  obtain ⟨d2, h2, r2⟩ := q2.get' e2
  obtain ⟨A, r⟩ := pair_new k np (r1.le l) (r2.le l)
  exact ⟨_, A, _, zipD_get h1 h2, r⟩
end
end HK

/-! HKnd: zip walked; pairs assigned; own lists changed. -/
namespace HK
open PySem PySem.Spec PySem.Calls PyProof.Rows L2
section
variable {X : Cx} {T : Th} {b : Bs} {E : XK} {n : Nat} {pos p p1 p2 apos tpos : Pos} {e e2 o a c d : Expr} {es elts : List Expr} {fa fb fc : EX} {fr : AX}
theorem walk_zipT2 {K : PySem.W.Frag} {a c : Addr} {xs ys : List V} {n : Nat} (hn : n = min xs.length ys.length) : Walk (RZ.ItzT K a c) n (fun H => SqT K H a xs ∧ SqT K H c ys) (YPair (fun i => xs[i]?) (fun i => ys[i]?)) := by
  subst hn
  refine ⟨fun i _ hi q => ?_, fun _ q => ⟨xs, ys, q.1, q.2, by omega⟩, fun i H v H' _ q y => ?_⟩
  · have h1 : i < xs.length := by omega
    have h2 : i < ys.length := by omega
    exact ⟨xs, ys, xs[i], ys[i], q.1, q.2, by simp [h1], by simp [h2]⟩
  · obtain ⟨T, x, z, h1, h2, h3, h4, h5⟩ := y
    exact ⟨T, x, z, h1, h2, h3, h4 xs q.1, h5 ys q.2⟩
theorem le_sqT {G G' H' : Hp} {a : Addr} {vs : List V} (s : Rd G a (.tup vs)) (l : Le G G') (k : ∀ a o, G' a = some o → H' a = some o) : SqT T.K H' a vs := .inl ((l.rd _ _ s).imp (k _ _) fun ⟨o, e⟩ => ⟨o, k _ _ e⟩)
theorem jok_zipT {G : Hp} {a c : Addr} {vs us : List V} {ds es : List D} (s1 : Rd G a (.tup vs)) (q1 : DRs T G ds vs) (s2 : Rd G c (.tup us)) (q2 : DRs T G es us) : JOk T G (RZ.ItzT T.K a c) (zipD ds es) := by
  refine ⟨fun H => SqT T.K H a vs ∧ SqT T.K H c us, YPair (fun i => vs[i]?) (fun i => us[i]?), walk_zipT2 (by rw [zipD_length, q1.length, q2.length]), fun G' H' l k => ⟨le_sqT s1 l k, le_sqT s2 l k⟩, fun i H x H' G' hi l k y => ?_⟩
  obtain ⟨p, x1, x2, rfl, np, rfl, e1, e2⟩ := y
  obtain ⟨d1, h1, r1⟩ := q1.get' e1
  obtain ⟨d2, h2, r2⟩ := q2.get' e2
  obtain ⟨A, r⟩ := pair_new k np (r1.le l) (r2.le l)
  exact ⟨_, A, _, zipD_get h1 h2, r⟩
theorem DR.tupOf {G : Hp} {d : D} {ds : List D} {v : V} (h : DR T G d v) (e : HK.tupOf d = some ds) : ∃ a vs, v = .ref a ∧ Rd G a (.tup vs) ∧ DRs T G ds vs := by
  cases d with
  | tup xs =>
    cases e
    unfold DR at h
    obtain ⟨a, vs, e, s, r⟩ := h
    exact ⟨a, vs, e, .inl s, r⟩
  | tpl xs =>
    cases e
    unfold DR at h
    obtain ⟨a, o, vs, e, s, _, r⟩ := h
    exact ⟨a, vs, e, .inr ⟨o, s⟩, r⟩
  | _ => cases e
def iZ2 (f : AX) : IX := fun env w => (f env w).bind fun ds env w => liftA (zip2D ds) env w
theorem iz2 {kk : Nat} (hK : X.K = T.K) (hm : X.mg "zip" = none) (ha : PA X [e, e2] (tAx T b E fr)) (hg : Gl X "zip" := by rfl)
    (hs : starEach [e, e2] X.env = (false, eval e X.env) :: starEach [e2] X.env := by rfl) (hpl : (backTo pos (starEach [e2] X.env)).any (·.1) = false := by rfl) :
    PI X (.Tuple elts kk tpos) (.Call (.Name "zip" p) [e, e2] [] pos) (tIt T b E (iZ2 fr)) := by
  refine (RZ.pi_zipA hg hm ha hs hpl).imp fun σ H R ⟨g, env, w, S, q⟩ => ?_
  unfold iZ2 at q
  rw [Pr.bind] at q
  refine ⟨g, env, w, S, q.mono fun ds env1 w1 p1 g1 vs H1 R1 l1 q1 => ?_⟩
  rw [hK]
  unfold liftA at p1
  have two : ∀ (d e : D), ds = [d, e] → (match tupOf d, tupOf e with
      | some xs, some ys => some (zipD xs ys)
      | _, _ => none) = zip2D ds → ∃ (a c : Addr) (xs ys : List V), vs = [.ref a, .ref c] ∧ ((SqL T.K H1 a xs ∧ SqL T.K H1 c ys ∧ R (Itz T.K a c) H1) ∨ (SqT T.K H1 a xs ∧ SqT T.K H1 c ys ∧ R (RZ.ItzT T.K a c) H1)) := fun d e eds ez => by
    subst eds
    rw [← ez] at p1
    cases e1 : tupOf d with
    | none => rw [e1] at p1; exact p1.elim
    | some xs =>
      cases e2 : tupOf e with
      | none => rw [e1, e2] at p1; exact p1.elim
      | some ys =>
        rw [e1, e2] at p1
        obtain ⟨v1, r1, rfl, d1, q1⟩ := q1.cons_inv
        obtain ⟨v2, r2, rfl, d2, q1⟩ := q1.cons_inv
        obtain rfl := q1.nil_inv
        obtain ⟨a1, vs, rfl, s1, k1⟩ := DR.tupOf d1 e1
        obtain ⟨a2, us, rfl, s2, k2⟩ := DR.tupOf d2 e2
        exact ⟨a1, a2, vs, us, rfl, .inr ⟨le_sqT s1 (Le.refl _) R1.kept.gh, le_sqT s2 (Le.refl _) R1.kept.gh, p1 g1 H1 _ R1 l1 (jok_zipT s1 k1 s2 k2)⟩⟩
  match ds, p1, q1, two with
  | [.lst xs, .lst ys], p1, q1, _ =>
    obtain ⟨v1, r1, rfl, d1, q1⟩ := q1.cons_inv
    obtain ⟨v2, r2, rfl, d2, q1⟩ := q1.cons_inv
    obtain rfl := q1.nil_inv
    unfold DR at d1 d2
    obtain ⟨a1, vs, rfl, s1, k1⟩ := d1
    obtain ⟨a2, us, rfl, s2, k2⟩ := d2
    exact ⟨a1, a2, vs, us, rfl, .inl ⟨.of (R1.kept.gh _ _ s1), .of (R1.kept.gh _ _ s2), p1 g1 H1 _ R1 l1 (jok_zip s1 k1 s2 k2)⟩⟩
  | [.tup xs, e], p1, q1, two => exact two _ _ rfl (by cases e <;> rfl)
  | [.tpl xs, e], p1, q1, two => exact two _ _ rfl (by cases e <;> rfl)
  | [], p1, _, _ => exact p1.elim
  | [_], p1, _, _ => exact (by cases ‹D› <;> exact p1.elim)
  | d1 :: d2 :: d3 :: r, p1, _, _ => exact (by cases d1 <;> cases d2 <;> exact p1.elim)
end
end HK

/-! HKne: pairs of names assigned; own lists changed. -/
namespace HK
open PySem PySem.Spec PySem.Calls PyProof.Rows L2
section
variable {X : Cx} {T : Th} {b : Bs} {E : XK} {n : Nat} {pos p p1 p2 apos px py pt cpos : Pos} {e e2 o a c d : Expr} {es elts : List Expr} {fa fb fc : EX} {fr : AX} {x y : Str}
def sPar (i j : Nat) (fr : AX) : SX := fun env w => (fr env w).bind fun ds env w => match ds with
  | [d, e] => .ok .nx ((env.set i (.fr d)).set j (.fr e)) w
  | _ => .no
theorem spar {i j : Nat} {kt k2 pt2} (cx : CO X T E n) (ha : PA X [a, c] (tAx T b E fr)) (hw : swappedStores [.Tuple [.Name x px, .Name y py] kt pt] (.Tuple [a, c] k2 pt2) X.env = pure (some [x, y])) (hij : i ≠ j := by decide) (hi : X.N[i]? = some x := by rfl) (hj : X.N[j]? = some y := by rfl)
    (hx : X.env.scope.names.lookup x = some .local := by rfl) (hy : X.env.scope.names.lookup y = some .local := by rfl) (hs : swapsWithSole [.Tuple [.Name x px, .Name y py] kt pt] (.Tuple [a, c] k2 pt2) pos.line X.env = pure false := by rfl) :
    PS X (.Assign [.Tuple [.Name x px, .Name y py] kt pt] (.Tuple [a, c] k2 pt2) pos) (tSt T b E (sPar i j fr)) := by
  refine (ps_par cx.calm cx.nd hi hj hij hx hy ha hw hs).imp fun D' σ H ⟨g, env, w, R, q⟩ => ?_
  unfold sPar PSt at q
  rw [Pr.bind] at q
  refine ⟨g, env, w, R, q.mono fun ds env1 w1 p1 g1 vs H1 R1 l1 q1 => ?_⟩
  match ds, p1, q1 with
  | [d, e], p1, q1 =>
    obtain ⟨v1, r1, rfl, d1, q1⟩ := q1.cons_inv
    obtain ⟨v2, r2, rfl, d2, q1⟩ := q1.cons_inv
    obtain rfl := q1.nil_inv
    obtain ⟨g2, R2, e2⟩ := R1.set (r := .fr d) d1 i
    obtain ⟨g3, R3, e3⟩ := R2.set (r := .fr e) (show RV T b g2 H1 _ v2 (.fr e) from by show DR T g2.G e v2; rw [e2]; exact d2) j
    exact ⟨v1, v2, rfl, p1 g3 _ H1 R3 (by rw [e3, e2]; exact l1)⟩
  | [], p1, _ => exact p1.elim
  | [_], p1, _ => exact p1.elim
  | _ :: _ :: _ :: _, p1, _ => exact p1.elim
/-- a value, taken apart by a target -/
def sTg (f : EX) (set : GX) : SX := fun env w => (f env w).bind fun r env w => match set r.dat env with
  | some env' => .ok .nx env' w
  | none => .no
theorem stg {tg : Expr} {g : TG} {set : GX} {is : List Nat} (he : PE X e (tEx T b E fa)) (hg : PG X tg g) (hgv : GV T b g set is) (hs : swapsWithSole [tg] e pos.line X.env = pure false := by rfl) (hw : swappedStores [tg] e X.env = pure none := by rfl)
    (h1 : (assignEach [tg] X.env).map (·.2) = [assign tg X.env] := by rfl) : PS X (.Assign [tg] e pos) (tSt T b E (sTg fa set)) := by
  refine (ps_asg he hg hs hw h1).imp fun D' σ H ⟨g0, env, w, R, q⟩ => ?_
  unfold sTg PSt at q
  rw [Pr.bind] at q
  refine ⟨g0, env, w, R, q.mono fun r env1 w1 p1 g1 v H1 R1 l1 q1 => ?_⟩
  obtain ⟨g2, R2, l2, d2⟩ := R1.freeze q1
  cases es : set r.dat env1 with
  | none => rw [es] at p1; exact p1.elim
  | some env' =>
    rw [es] at p1
    exact hgv g2 env1 w1 σ H1 v _ env' _ R2 d2 es fun gh' σ' R3 l3 _ => p1 gh' σ' H1 R3 ((l1.trans l2).trans l3)

/-! ### own lists changed -/
theorem RS.putOwn {g : Gh} {env : List Slot} {w : Pen} {σ : L2.St} {H : Hp} {i : Nat} {d d' : D} {u : HO} (R : RS T b g env w σ H) (e : env[i]? = some (.ow d)) (ow : Own T g.G (upd H (g.ad i) u) (g.ad i) d') : RS T b g (env.set i (.ow d')) w σ (upd H (g.ad i) u) := by
  obtain ⟨h1, O⟩ := R.ow i d e
  obtain ⟨o0, eo, po⟩ := O.own.there'
  have k := R.kept
  have hi : i < env.length := (List.getElem?_eq_some_iff.mp e).1
  have ne : ∀ {c z}, g.G c = some z → c ≠ g.ad i := fun {c z} q y => by
    rw [y, O.no] at q
    cases q
  have back : ∀ (j : Nat) (s : Slot), j ≠ i → (env.set i (.ow d'))[j]? = some s → env[j]? = some s := fun j s hj q => by
    rw [List.getElem?_set_ne (Ne.symm hj)] at q
    exact q
  have any : ∀ (j : Nat) (c : D), (env.set i (.ow d'))[j]? = some (.ow c) → ∃ c', env[j]? = some (.ow c') := fun j c q => by
    by_cases hj : j = i
    · subst hj
      exact ⟨d, e⟩
    · exact ⟨c, back j _ hj q⟩
  refine ⟨⟨fun c z q => ?_, ⟨tabs_upd k.pen.tabs eo po, k.pen.nt, ?_, k.pen.no⟩, k.b1, fun c z m n q => ?_, fun c ps q => ?_, k.b3⟩, by rw [List.length_set]; exact R.len, fun j c q => ?_, fun j c q => ?_, fun j j' c c' q q' => ?_⟩
  · rw [upd_ne (ne q)]
    exact k.gh c z q
  · obtain ⟨c, p1, p2⟩ := k.pen.is
    exact ⟨c, by rw [upd_ne (Ne.symm O.np)]; exact p1, p2⟩
  · rw [upd_ne fun y => by rw [y, O.nb] at q; cases q]
    exact k.b2 c z m n q
  · rw [upd_ne fun y => by rw [y, O.nb] at q; cases q]
    exact k.b2t c ps q
  · have hj : j ≠ i := fun y => by
      subst y
      rw [List.getElem?_set_self hi] at q
      cases q
    exact R.fr j c (back j _ hj q)
  · by_cases hj : j = i
    · subst hj
      rw [List.getElem?_set_self hi] at q
      cases q
      exact ⟨h1, O.no, O.np, O.nb, ow⟩
    · obtain ⟨q1, q2⟩ := R.ow j c (back j _ hj q)
      refine ⟨q1, q2.keep (Le.refl _) q2.no fun z y => ?_⟩
      rw [upd_ne fun y => hj (R.inj j i c d (back j _ hj q) e y)]
      exact y
  · obtain ⟨c1, z1⟩ := any j c q
    obtain ⟨c2, z2⟩ := any j' c' q'
    exact R.inj j j' c1 c2 z1 z2
def sAp (i : Nat) (fr : AX) : SX := fun env w => match env[i]? with
  | some (.ow (.lst _)) => (fr env w).bind fun ds env w => match ds, env[i]? with
    | [d], some (.ow (.lst xs)) => if xs.length < LINE then .ok .nx (env.set i (.ow (.lst (xs ++ [d])))) w else .no
    | _, _ => .no
  | _ => .no
def oneL : List D → Option (List D)
  | [.lst ys] => some ys
  | _ => none
theorem oneL_some {ds ys : List D} (h : oneL ds = some ys) : ds = [.lst ys] := by
  unfold oneL at h
  split at h
  · cases h
    rfl
  · cases h
def sXt (i : Nat) (fr : AX) : SX := fun env w => match env[i]? with
  | some (.ow (.lst _)) => (fr env w).bind fun ds env w => match oneL ds, env[i]? with
    | some ys, some (.ow (.lst xs)) => if xs.length + ys.length ≤ LINE then .ok .nx (env.set i (.ow (.lst (xs ++ ys)))) w else .no
    | _, _ => .no
  | _ => .no
theorem sap (i : Nat) {x : Str} (ha : PA X [e] (tAx T b E fr)) (hN : X.N[i]? = some x := by rfl) (hv : Vis X.env.scope x := by first | exact Or.inl rfl | exact Or.inr (Or.inl rfl) | exact Or.inr (Or.inr rfl)) (hd : (x == ("__debug__" : Str)) = false := by decide)
    (hcd : (x == ("__classdict__" : Str)) = false := by decide) (hbase : attributeBase (.Name x p) "append" X.env (eval (.Name x p) X.env) = eval (.Name x p) X.env := by rfl)
    (hfew : ((backTo cpos (starEach [e] X.env)).all (fun x => !x.1) && (backToKw cpos (keywordEach [] X.env)).all (fun x => x.1.isSome)
      && decide (([e] : List Expr).length + ([] : List Keyword).length + (if ([] : List Keyword).isEmpty then 0 else 1) < 30)) = true := by rfl)
    (hline : (apos.endLine == cpos.line) = true := by rfl) (hst : starEach [e] X.env = (false, eval e X.env) :: starEach [] X.env := by rfl) (hsw : swapsWith (.Call (.Attribute (.Name x p) "append" apos) [e] [] cpos) none pos.line X.env = pure false := by rfl) :
    PS X (.Expr (.Call (.Attribute (.Name x p) "append" apos) [e] [] cpos) pos) (tSt T b E (sAp i fr)) := by
  refine (ps_expr (pe_bm F.plainAttrs_list F.slot_list_append F.type_list_append mt_append (pe_var (i := i) hN hv hd hcd) ha hbase hfew hline hst (by rfl)) hsw).imp fun D' σ H ⟨g, env, w, R, q⟩ => ?_
  unfold sAp PSt at q
  cases e0 : env[i]? with
  | none => rw [e0] at q; exact q.elim
  | some sl =>
    rw [e0] at q
    cases sl with
    | no => exact q.elim
    | fr _ => exact q.elim
    | ow dd =>
      cases dd with
      | lst xs0 =>
        obtain ⟨h1, O⟩ := R.ow i _ e0
        obtain ⟨vs0, hH, _⟩ := O.own
        refine ⟨_, h1, .inl ⟨rfl, _, .of hH⟩, g, env, w, R, ?_⟩
        have q : Pr T b E _ ((fr env w).bind fun ds env w => match ds, env[i]? with
          | [d], some (.ow (.lst xs)) => if xs.length < LINE then Rv.ok Fl.nx (env.set i (.ow (.lst (xs ++ [d])))) w else .no
          | _, _ => .no) := q
        rw [Pr.bind] at q
        refine q.mono fun ds env1 w1 p1 g1 vs H1 R1 l1 q1 => ?_
        match ds, p1, q1 with
        | [d], p1, q1 =>
          obtain ⟨v1, r1, rfl, d1, q1⟩ := q1.cons_inv
          obtain rfl := q1.nil_inv
          cases e1 : env1[i]? with
          | none => simp only [e1] at p1; exact p1.elim
          | some sl =>
            simp only [e1] at p1
            cases sl with
            | no => exact p1.elim
            | fr _ => exact p1.elim
            | ow d2 =>
              cases d2 with
              | lst xs =>
                have p1 : Pr T b E _ (if xs.length < LINE then Rv.ok Fl.nx (env1.set i (.ow (.lst (xs ++ [d])))) w1 else .no) := p1
                split at p1
                · rename_i hl
                  obtain ⟨h2, O2⟩ := R1.ow i _ e1
                  rw [h1] at h2
                  have ea : g.ad i = g1.ad i := V.ref.inj (Option.some.inj (Option.some.inj h2))
                  rw [ea]
                  obtain ⟨vs2, hH2, k2⟩ := O2.own
                  refine ⟨g1.ad i, vs2, v1, rfl, rfl, hH2, by rw [k2.length, line_eq]; exact hl, ?_⟩
                  have z := R1.putOwn (d' := .lst (xs ++ [d])) (u := .lst (vs2 ++ [v1])) e1 ⟨_, upd_same, k2.append (.one d1)⟩
                  exact p1 g1 _ _ z l1
                · exact p1.elim
              | _ => exact p1.elim
        | [], p1, _ => exact p1.elim
        | _ :: _ :: _, p1, _ => exact p1.elim
      | _ => exact q.elim
theorem sxt (i : Nat) {x : Str} (ha : PA X [e] (tAx T b E fr)) (hN : X.N[i]? = some x := by rfl) (hv : Vis X.env.scope x := by first | exact Or.inl rfl | exact Or.inr (Or.inl rfl) | exact Or.inr (Or.inr rfl)) (hd : (x == ("__debug__" : Str)) = false := by decide)
    (hcd : (x == ("__classdict__" : Str)) = false := by decide) (hbase : attributeBase (.Name x p) "extend" X.env (eval (.Name x p) X.env) = eval (.Name x p) X.env := by rfl)
    (hfew : ((backTo cpos (starEach [e] X.env)).all (fun x => !x.1) && (backToKw cpos (keywordEach [] X.env)).all (fun x => x.1.isSome)
      && decide (([e] : List Expr).length + ([] : List Keyword).length + (if ([] : List Keyword).isEmpty then 0 else 1) < 30)) = true := by rfl)
    (hline : (apos.endLine == cpos.line) = true := by rfl) (hst : starEach [e] X.env = (false, eval e X.env) :: starEach [] X.env := by rfl) (hsw : swapsWith (.Call (.Attribute (.Name x p) "extend" apos) [e] [] cpos) none pos.line X.env = pure false := by rfl) :
    PS X (.Expr (.Call (.Attribute (.Name x p) "extend" apos) [e] [] cpos) pos) (tSt T b E (sXt i fr)) := by
  refine (ps_expr (pe_bm F.plainAttrs_list F.slot_list_extend F.type_list_extend mt_extend (pe_var (i := i) hN hv hd hcd) ha hbase hfew hline hst (by rfl)) hsw).imp fun D' σ H ⟨g, env, w, R, q⟩ => ?_
  unfold sXt PSt at q
  cases e0 : env[i]? with
  | none => rw [e0] at q; exact q.elim
  | some sl =>
    rw [e0] at q
    cases sl with
    | no => exact q.elim
    | fr _ => exact q.elim
    | ow dd =>
      cases dd with
      | lst xs0 =>
        obtain ⟨h1, O⟩ := R.ow i _ e0
        obtain ⟨vs0, hH, _⟩ := O.own
        refine ⟨_, h1, .inl ⟨rfl, _, .of hH⟩, g, env, w, R, ?_⟩
        have q : Pr T b E _ ((fr env w).bind fun ds env w => match oneL ds, env[i]? with
          | some ys, some (.ow (.lst xs)) => if xs.length + ys.length ≤ LINE then Rv.ok Fl.nx (env.set i (.ow (.lst (xs ++ ys)))) w else .no
          | _, _ => .no) := q
        rw [Pr.bind] at q
        refine q.mono fun ds env1 w1 p1 g1 vs H1 R1 l1 q1 => ?_
        cases eo : oneL ds with
        | none => simp only [eo] at p1; exact p1.elim
        | some ys =>
          simp only [eo] at p1
          obtain rfl := oneL_some eo
          obtain ⟨v1, r1, rfl, d1, q1⟩ := q1.cons_inv
          obtain rfl := q1.nil_inv
          cases e1 : env1[i]? with
          | none => simp only [e1] at p1; exact p1.elim
          | some sl =>
            simp only [e1] at p1
            cases sl with
            | no => exact p1.elim
            | fr _ => exact p1.elim
            | ow d2 =>
              cases d2 with
              | lst xs =>
                have p1 : Pr T b E _ (if xs.length + ys.length ≤ LINE then Rv.ok Fl.nx (env1.set i (.ow (.lst (xs ++ ys)))) w1 else .no) := p1
                split at p1
                · rename_i hl
                  obtain ⟨h2, O2⟩ := R1.ow i _ e1
                  rw [h1] at h2
                  have ea : g.ad i = g1.ad i := V.ref.inj (Option.some.inj (Option.some.inj h2))
                  rw [ea]
                  obtain ⟨vs2, hH2, k2⟩ := O2.own
                  obtain ⟨a1, vs3, rfl, s3, k3⟩ := (show DO T g1.G H1 _ _ from .inl d1).lst R1.kept.gh
                  refine ⟨g1.ad i, a1, vs2, vs3, rfl, rfl, hH2, s3, by rw [k2.length, k3.length, line_eq]; exact hl, ?_⟩
                  have z := R1.putOwn (d' := .lst (xs ++ ys)) (u := .lst (vs2 ++ vs3)) e1 ⟨_, upd_same, k2.append k3⟩
                  exact p1 g1 _ _ z l1
                · exact p1.elim
              | _ => exact p1.elim
      | _ => exact q.elim
end
end HK

/-! HKnf: dicts. -/
namespace HK
open PySem PySem.Spec PySem.Calls PyProof.Rows L2
def keyEq : D → D → Bool
  | .int i, .int j => i == j
  | .str s, .str t => s == t
  | _, _ => false
def hasD (ks : List D) (k : D) : Bool := ks.any fun k' => keyEq k' k
def getD_ : List D → List D → D → Option D
  | k' :: ks, v :: vs, k => if keyEq k' k = true then some v else getD_ ks vs k
  | _, _, _ => none
def setVs : List D → List D → D → D → List D
  | k' :: ks, v' :: vs, k, v => (if keyEq k' k = true then v else v') :: setVs ks vs k v
  | _, vs, _, _ => vs
def putD (p : List D × List D) (k v : D) : List D × List D := if hasD p.1 k = true then (p.1, setVs p.1 p.2 k v) else (p.1 ++ [k], p.2 ++ [v])
theorem keyEq_ok {d e : D} {a b : Key} (h : keyOf d = some a) (k : keyOf e = some b) : keyEq d e = decide (a = b) := by
  cases d with
  | int i =>
    cases e with
    | int j =>
      cases h
      cases k
      show (i == j) = _
      rw [key_ll]
    | str t =>
      cases h
      cases k
      rw [key_lr]
      rfl
    | _ => cases k
  | str s =>
    cases e with
    | int j =>
      cases h
      cases k
      rw [key_rl]
      rfl
    | str t =>
      cases h
      cases k
      rw [key_rr]
      show (s == t) = _
      by_cases e : s = t
      · subst e
        simp
      · rw [decide_eq_false fun z => e (mkS_inj z)]
        exact beq_eq_false_iff_ne.mpr e
    | _ => cases k
  | _ => cases h
/-- the keys and values told -/
structure KVs (T : Th) (G : Hp) (ks vs : List D) (kvs : List (Key × V)) : Prop where
  k : ks.map keyOf = kvs.map (fun p => some p.1)
  v : DRs T G vs (kvs.map (·.2))
section
variable {T : Th} {G G' H : Hp}
theorem KVs.nil : KVs T G [] [] [] := ⟨rfl, .nil⟩
theorem KVs.cons_inv {ks vs : List D} {p : Key × V} {kvs : List (Key × V)} (h : KVs T G ks vs (p :: kvs)) : ∃ k ks' v vs', ks = k :: ks' ∧ vs = v :: vs' ∧ keyOf k = some p.1 ∧ DR T G v p.2 ∧ KVs T G ks' vs' kvs := by
  obtain ⟨hk, hv⟩ := h
  cases ks with
  | nil => cases hk
  | cons k ks =>
    cases vs with
    | nil => exact absurd hv.nil_inv (by simp)
    | cons v vs =>
      rw [List.map_cons, List.map_cons] at hk
      injection hk with h1 h2
      rw [List.map_cons] at hv
      obtain ⟨u, r, e, h3, h4⟩ := hv.cons_inv
      injection e with e1 e2
      subst e1 e2
      exact ⟨k, ks, v, vs, rfl, rfl, h1, h3, h2, h4⟩
theorem KVs.cons {ks vs : List D} {k v : D} {p : Key × V} {kvs : List (Key × V)} (h : KVs T G ks vs kvs) (hk : keyOf k = some p.1) (hv : DR T G v p.2) : KVs T G (k :: ks) (v :: vs) (p :: kvs) :=
  ⟨by rw [List.map_cons, List.map_cons, hk, h.k], by rw [List.map_cons]; exact .cons hv h.v⟩
theorem KVs.le {ks vs : List D} {kvs : List (Key × V)} (h : KVs T G ks vs kvs) (l : Le G G') : KVs T G' ks vs kvs := ⟨h.k, h.v.le l⟩
theorem KVs.nil_inv {ks vs : List D} (h : KVs T G ks vs []) : ks = [] ∧ vs = [] := by
  obtain ⟨hk, hv⟩ := h
  have h1 : ks.length = 0 := by
    have := congrArg List.length hk
    simpa using this
  have h2 := hv.length
  exact ⟨List.eq_nil_of_length_eq_zero h1, List.eq_nil_of_length_eq_zero h2.symm⟩
theorem KVs.get : ∀ {kvs : List (Key × V)} {ks vs : List D} {k : D} {kk : Key}, KVs T G ks vs kvs → keyOf k = some kk → (∃ d v, getD_ ks vs k = some d ∧ valV kvs kk = some v ∧ DR T G d v) ∨ (getD_ ks vs k = none ∧ valV kvs kk = none)
  | [], ks, vs, k, kk, h, hk => by
    obtain ⟨rfl, rfl⟩ := h.nil_inv
    exact .inr ⟨rfl, valV_nil⟩
  | p :: kvs, ks, vs, k, kk, h, hk => by
    obtain ⟨k1, ks', v1, vs', rfl, rfl, h1, h2, h3⟩ := h.cons_inv
    unfold getD_
    rw [keyEq_ok h1 hk]
    by_cases e : p.1 = kk
    · rw [if_pos (decide_eq_true e), valV_pos e]
      exact .inl ⟨v1, p.2, rfl, rfl, h2⟩
    · rw [if_neg (by rw [decide_eq_false e]; exact Bool.false_ne_true)]
      have : valV (p :: kvs) kk = valV kvs kk := by
        unfold valV
        rw [List.find?_cons, decide_eq_false e]
      rw [this]
      exact KVs.get h3 hk
theorem KVs.has : ∀ {kvs : List (Key × V)} {ks vs : List D} {k : D} {kk : Key}, KVs T G ks vs kvs → keyOf k = some kk → hasD ks k = kvs.any (fun kv => decide (kv.1 = kk))
  | [], ks, vs, k, kk, h, hk => by
    obtain ⟨rfl, rfl⟩ := h.nil_inv
    rfl
  | p :: kvs, ks, vs, k, kk, h, hk => by
    obtain ⟨k1, ks', v1, vs', rfl, rfl, h1, h2, h3⟩ := h.cons_inv
    unfold hasD
    rw [List.any_cons, List.any_cons, keyEq_ok h1 hk]
    congr 1
    exact KVs.has h3 hk
theorem KVs.setv : ∀ {kvs : List (Key × V)} {ks vs : List D} {k v : D} {kk : Key} {u : V}, KVs T G ks vs kvs → keyOf k = some kk → DR T G v u → KVs T G ks (setVs ks vs k v) (kvs.map fun kv => if kv.1 = kk then (kv.1, u) else kv)
  | [], ks, vs, k, v, kk, u, h, hk, hv => by
    obtain ⟨rfl, rfl⟩ := h.nil_inv
    exact .nil
  | p :: kvs, ks, vs, k, v, kk, u, h, hk, hv => by
    obtain ⟨k1, ks', v1, vs', rfl, rfl, h1, h2, h3⟩ := h.cons_inv
    unfold setVs
    rw [List.map_cons, keyEq_ok h1 hk]
    by_cases e : p.1 = kk
    · rw [if_pos (decide_eq_true e), if_pos e]
      exact (KVs.setv h3 hk hv).cons h1 hv
    · rw [if_neg (by rw [decide_eq_false e]; exact Bool.false_ne_true), if_neg e]
      exact (KVs.setv h3 hk hv).cons h1 h2
theorem KVs.put {kvs : List (Key × V)} {ks vs : List D} {k v : D} {kk : Key} {u : V} (h : KVs T G ks vs kvs) (hk : keyOf k = some kk) (hv : DR T G v u) : KVs T G (putD (ks, vs) k v).1 (putD (ks, vs) k v).2 (putK kvs kk u) := by
  unfold putD putK
  show KVs T G (if hasD ks k = true then (ks, setVs ks vs k v) else (ks ++ [k], vs ++ [v])).1 (if hasD ks k = true then (ks, setVs ks vs k v) else (ks ++ [k], vs ++ [v])).2 _
  rw [h.has hk]
  split
  · exact h.setv hk hv
  · refine ⟨?_, ?_⟩
    · rw [List.map_append, List.map_append, h.k]
      simp [hk]
    · rw [List.map_append]
      exact h.v.append (.one hv)
theorem KVs.length {kvs : List (Key × V)} {ks vs : List D} (h : KVs T G ks vs kvs) : kvs.length = ks.length ∧ vs.length = ks.length := by
  have h1 := congrArg List.length h.k
  have h2 := h.v.length
  simp only [List.length_map] at h1 h2
  omega
end
/-- the pairs of a list -/
def pairsOf : List D → Option (List (D × D))
  | [] => some []
  | d :: r => match tupOf d with
    | some [k, v] => if (keyOf k).isSome = true then (pairsOf r).map ((k, v) :: ·) else none
    | _ => none
def mergeD (ps : List (D × D)) : List D × List D := ps.foldl (fun acc p => putD acc p.1 p.2) ([], [])
def dictD : D → Option Slot
  | .lst xs => (pairsOf xs).map fun ps => .ow (.dic (mergeD ps).1 (mergeD ps).2)
  | .tpl xs => (pairsOf xs).map fun ps => .ow (.dic (mergeD ps).1 (mergeD ps).2)
  | _ => none
section
variable {T : Th} {G H : Hp}
theorem KVs.merge : ∀ {ps : List (D × D)} {rs : List (Key × V)} {p : List D × List D} {kvs : List (Key × V)}, Paired (fun (a : D × D) (b : Key × V) => keyOf a.1 = some b.1 ∧ DR T G a.2 b.2) ps rs → KVs T G p.1 p.2 kvs →
    KVs T G (ps.foldl (fun acc p => putD acc p.1 p.2) p).1 (ps.foldl (fun acc p => putD acc p.1 p.2) p).2 (mergeK kvs rs)
  | [], [], p, kvs, .nil, h => h
  | a :: ps, c :: rs, p, kvs, .cons ⟨h1, h2⟩ t, h => by
    rw [List.foldl_cons]
    exact KVs.merge (ps := ps) (rs := rs) (p := putD p a.1 a.2) (kvs := putK kvs c.1 c.2) t (KVs.put h h1 h2)
theorem pairs_ok {K : PySem.W.Frag} (gh : ∀ a o, G a = some o → H a = some o) : ∀ {ds : List D} {vs : List V} {ps : List (D × D)}, DRs T G ds vs → pairsOf ds = some ps → ∃ (as : List Addr) (rs : List (Key × V)), vs = as.map V.ref ∧ Paired (fun p kv => SqT K H p [kV kv.1, kv.2]) as rs ∧
    Paired (fun (a : D × D) (b : Key × V) => keyOf a.1 = some b.1 ∧ DR T G a.2 b.2) ps rs
  | [], vs, ps, h, e => by
    unfold pairsOf at e
    cases e
    exact ⟨[], [], h.nil_inv, .nil, .nil⟩
  | d :: ds, vs, ps, h, e => by
    obtain ⟨v, r, rfl, h1, h2⟩ := h.cons_inv
    have e : (match tupOf d with
      | some [k, v] => if (keyOf k).isSome = true then (pairsOf ds).map ((k, v) :: ·) else none
      | _ => none) = some ps := e
    cases et : tupOf d with
    | none => rw [et] at e; cases e
    | some l =>
      rw [et] at e
      match l, e, et with
      | [], e, _ => cases e
      | [_], e, _ => cases e
      | _ :: _ :: _ :: _, e, _ => cases e
      | [k, v'], e, et =>
        have e : (if (keyOf k).isSome = true then (pairsOf ds).map ((k, v') :: ·) else none) = some ps := e
        split at e
        · rename_i hk
          cases z : pairsOf ds with
          | none => rw [z] at e; cases e
          | some ps' =>
            rw [z] at e
            cases e
            obtain ⟨as, rs, e1, e2, e3⟩ := pairs_ok (K := K) gh h2 z
            obtain ⟨kk, ek⟩ := Option.isSome_iff_exists.mp hk
            obtain ⟨a, us, rfl, s, q⟩ := DR.tupOf h1 et
            obtain ⟨u1, r1, rfl, d1, q⟩ := q.cons_inv
            obtain ⟨u2, r2, rfl, d2, q⟩ := q.cons_inv
            obtain rfl := q.nil_inv
            have hu1 : u1 = kV kk := by
              cases k with
              | int i => cases ek; exact d1
              | str s => cases ek; exact d1
              | _ => cases ek
            exact ⟨a :: as, (kk, u2) :: rs, by rw [e1]; rfl, .cons (by rw [← hu1]; exact .inl (s.imp (gh _ _) fun ⟨o, q⟩ => ⟨o, gh _ _ q⟩)) e2, .cons ⟨ek, d2⟩ e3⟩
        · cases e
end
end HK

/-! HKng: dict(..), d.get(k, x), dict displays. -/
namespace HK
open PySem PySem.Spec PySem.Calls PyProof.Rows L2
section
variable {X : Cx} {T : Th} {b : Bs} {E : XK} {n : Nat} {pos p p1 p2 apos cpos : Pos} {e e2 o a c d : Expr} {fa fb fc : EX}
theorem vals_list {prs : List (Key × Value)} {ps : List Addr} {h : Heap} (hl : prs.length = ps.length) (hp : ∀ (j : Nat) (q : Key × Value), prs[j]? = some q → ∃ (b : Addr) (u : Value), ps[j]? = some b ∧ IsTup h b #[u, q.2] ∧ keyIs q.1 u = true) :
    ∃ vps : List (Value × Value), vps.length = prs.length ∧ ∀ (j : Nat) (k v : Value), vps[j]? = some (k, v) → ∃ (q : Key × Value) (b : Addr), prs[j]? = some q ∧ v = q.2 ∧ keyIs q.1 k = true ∧ ps[j]? = some b ∧ IsTup h b #[k, v] := by
  induction prs generalizing ps with
  | nil => exact ⟨[], rfl, fun j k v e => by simp at e⟩
  | cons q prs ih =>
    cases ps with
    | nil => cases hl
    | cons b ps =>
      obtain ⟨vps, l, hv⟩ := ih (ps := ps) (by simpa using hl) fun j q e => by
        obtain ⟨b, u, h1, h2⟩ := hp (j + 1) q (by simpa using e)
        exact ⟨b, u, by simpa using h1, h2⟩
      obtain ⟨b0, u, h1, h2, h3⟩ := hp 0 q rfl
      refine ⟨(u, q.2) :: vps, by rw [List.length_cons, List.length_cons, l], fun j k v e => ?_⟩
      cases j with
      | zero =>
        simp at e
        obtain ⟨rfl, rfl⟩ := e
        exact ⟨q, b0, rfl, rfl, h3, h1, h2⟩
      | succ j =>
        obtain ⟨q', b', z1, z2, z3, z4, z5⟩ := hv j k v (by simpa using e)
        exact ⟨q', b', by simpa using z1, z2, z3, by simpa using z4, z5⟩
theorem call_dictPT (hcalm : X.calm = true) : CallR X (.type "dict") (fun xs H Q => ∃ (a : Addr) (o : Obj) (ps : List Addr) (kvs : List (Key × V)), xs = [.ref a] ∧ H a = some (.frz o (.tup (ps.map V.ref))) ∧ o.dict = none ∧ Paired (fun p kv => SqT X.K H p [kV kv.1, kv.2]) ps kvs ∧
    ∀ p, H p = none → Q (.ref p) (upd H p (.dK (mergeK [] kvs)))) := by
  intro pins s σ H xs us Q I r q
  obtain ⟨a, o, ps, kvs, ex, hq, hd, hp, q⟩ := q
  subst ex
  obtain ⟨u, eu, rx⟩ := vals1 r
  subst eu
  cases rx
  obtain ⟨ho, hz, its, rv, o', ho', hc, n', hdat⟩ := (show ObjOk X.prog X.w H s.heap a (.frz o (.tup (ps.map V.ref))) from I.hok a _ hq)
  rw [ho] at ho'
  cases ho'
  have ei := refs_at rv
  subst ei
  rw [List.length_map] at hz
  obtain ⟨prs, rel, hl, hpr⟩ := pairs_of I hp
  obtain ⟨vps, lv, hv⟩ := vals_list hl hpr
  have P := PySem.PairArg.tuple (prog := X.prog) (w := X.w) a (ps.map Value.ref).toArray (fun j => (ps[j]?).getD 0) vps
  refine _root_.PySem.call_dict_pairs (knd := mixKind X.prog X.w) (kvs := prs) P (I.ok.hd hcalm) ⟨⟨o, n', ho, hc, hd, hdat⟩, by simp [lv, hl], fun j k v e => ?_⟩ ⟨lv.symm, fun j k v e => ?_⟩ (by rw [lv, hl]; exact hz) fun h' tk hd' k => ?_
  · obtain ⟨q', b', z1, z2, z3, z4, z5⟩ := hv j k v e
    refine ⟨by simp [z4], ?_⟩
    show PairAt _ ((ps[j]?).getD 0) k v
    rw [z4]
    exact .inl z5
  · obtain ⟨q', b', z1, z2, z3, z4, z5⟩ := hv j k v e
    exact ⟨q'.1, by rw [z1, z2], z3⟩
  · have hm : (s.heap.objs.size == sysModules) = false := beq_eq_false_iff_ne.mpr (Nat.ne_of_gt I.big)
    have hlen : (mergeK [] kvs).length ≤ sizeLine := by
      refine Nat.le_trans (length_mergeK kvs []) ?_
      rw [List.length_nil, Nat.zero_add, rel.length, hl]
      exact hz
    exact ⟨.ref s.heap.objs.size, upd H s.heap.objs.size (.dK (mergeK [] kvs)), I.laid (t' := tk) (fun b o e => k b o (by simp) e) (Nat.le_refl _) (show ObjOk X.prog X.w _ _ _ (.dK (mergeK [] kvs)) from ⟨hlen, hm, merged [] prs, KV.merge rel .nil, hd'⟩), rfl, q _ (I.hok.fresh (Nat.le_refl _))⟩
def rdDict (K : PySem.W.Frag) : List V → Hp → VK → Prop := fun xs H Q => (∃ (a : Addr) (ps : List Addr) (kvs : List (Key × V)), xs = [.ref a] ∧ SqL K H a (ps.map V.ref) ∧ Paired (fun p kv => SqT K H p [kV kv.1, kv.2]) ps kvs ∧ ∀ p, H p = none → Q (.ref p) (upd H p (.dK (mergeK [] kvs)))) ∨
  ∃ (a : Addr) (o : Obj) (ps : List Addr) (kvs : List (Key × V)), xs = [.ref a] ∧ H a = some (.frz o (.tup (ps.map V.ref))) ∧ o.dict = none ∧ Paired (fun p kv => SqT K H p [kV kv.1, kv.2]) ps kvs ∧ ∀ p, H p = none → Q (.ref p) (upd H p (.dK (mergeK [] kvs)))
theorem call_dictX (hc : X.calm = true) : CallR X (.type "dict") (rdDict X.K) := (call_dictP hc).or (call_dictPT hc)
theorem new_dic {G H : Hp} {Q : VK} {ks vs : List D} {kvs : List (Key × V)} {p : Addr} (gh : ∀ a o, G a = some o → H a = some o) (q : ∀ v G' H', Alloc G H G' H' → RVa T G' H H' v (.ow (.dic ks vs)) → Q v H') (h : KVs T G ks vs kvs) (np : H p = none) : Q (.ref p) (upd H p (.dK kvs)) := by
  refine q _ G _ (Alloc.new1 gh np) ⟨p, rfl, ?_, np, kvs, upd_same, h.k, h.v⟩
  cases z : G p with
  | none => rfl
  | some u =>
    rw [gh p u z] at np
    cases np
theorem v_dict : CallV T (rdDict T.K) (on1 dictD) := by
  refine v_on1 ?_
  intro G H x d r Q es gh hx q
  cases d with
  | lst xs =>
    have es : ((pairsOf xs).map fun ps => Slot.ow (.dic (mergeD ps).1 (mergeD ps).2)) = some r := es
    cases z : pairsOf xs with
    | none => rw [z] at es; cases es
    | some ps =>
      rw [z] at es
      cases es
      obtain ⟨a, vs, rfl, s, k⟩ := hx.lst gh
      obtain ⟨as, rs, e1, e2, e3⟩ := pairs_ok (K := T.K) gh k z
      subst e1
      exact .inl ⟨a, as, rs, rfl, .of s, e2, fun p np => new_dic gh q (KVs.merge (p := ([], [])) e3 .nil) np⟩
  | tpl xs =>
    have es : ((pairsOf xs).map fun ps => Slot.ow (.dic (mergeD ps).1 (mergeD ps).2)) = some r := es
    cases z : pairsOf xs with
    | none => rw [z] at es; cases es
    | some ps =>
      rw [z] at es
      cases es
      rcases hx with hx | ⟨_, _, z⟩
      · unfold DR at hx
        obtain ⟨a, o, vs, rfl, s, od, k⟩ := hx
        obtain ⟨as, rs, e1, e2, e3⟩ := pairs_ok (K := T.K) gh k z
        subst e1
        exact .inr ⟨a, o, as, rs, rfl, gh _ _ s, od, e2, fun p np => new_dic gh q (KVs.merge (p := ([], [])) e3 .nil) np⟩
      · exact z.elim
  | _ => cases es
end
end HK

/-! HKnh: d.get(k, x). -/
namespace HK
open PySem PySem.Spec PySem.Calls PyProof.Rows L2
def get3 (ks vs : List D) (k x : D) : Option Slot := match keyOf k with
  | some _ => some (.fr ((getD_ ks vs k).getD x))
  | none => none
def isDict : D → Option (List D × List D)
  | .dic ks vs => some (ks, vs)
  | _ => none
def xGet (fo fk fx : EX) : EX := fun env w => (fo env w).bind fun r env w => match isDict r.dat with
  | some p => (fk env w).bind fun k env w => (fx env w).bind fun x env w => lift (get3 p.1 p.2 k.dat x.dat) env w
  | none => .no
section
variable {X : Cx} {T : Th} {b : Bs} {E : XK} {n : Nat} {apos cpos : Pos} {o e f : Expr} {fo fk fx : EX}
theorem get_room {A : Around} (r : Room n A) : A.units + 1 < cLine := by
  have := r.units
  omega
theorem cget (C : CO X T E n) (ho : PE X o (tEx T b E fo)) (he : PE X e (tEx T b E fk)) (hf : PE X f (tEx T b E fx)) (m : M2 X o "get" apos e f cpos := by exact ⟨rfl, rfl, rfl, rfl⟩) : PE X (.Call (.Attribute o "get" apos) [e, f] [] cpos) (tEx T b E (xGet fo fk fx)) := by
  refine (pe_dget2 (get_room C.room) ho he hf m).imp fun σ H Q ⟨g, env, w, R, p⟩ => ?_
  unfold xGet at p
  rw [Pr.bind] at p
  refine ⟨g, env, w, R, p.mono fun r env1 w1 p1 g1 x H1 R1 l1 q1 => ?_⟩
  obtain ⟨g2, R2, l2, d2⟩ := R1.freeze q1
  cases hd : isDict r.dat with
  | none => rw [hd] at p1; exact p1.elim
  | some pr =>
    rw [hd] at p1
    obtain ⟨ks, vs⟩ := pr
    have er : r.dat = .dic ks vs := by
      cases z : r.dat <;> rw [z] at hd <;> cases hd
      rfl
    rw [er] at d2
    unfold DR at d2
    obtain ⟨a, kvs, rfl, rd, hk, hv⟩ := d2
    have rd1 := (Le.of R2.kept.gh).rd _ _ rd
    refine ⟨a, rfl, .inl ⟨kvs, rd1⟩, ?_⟩
    have p1 : Pr T b E _ ((fk env1 w1).bind fun k env w => (fx env w).bind fun x env w => lift (get3 ks vs k.dat x.dat) env w) := p1
    rw [Pr.bind] at p1
    refine ⟨g2, env1, w1, R2, p1.mono fun k env3 w3 p3 g3 y H3 R3 l3 q3 => ?_⟩
    obtain ⟨g4, R4, l4, d4⟩ := R3.freeze q3
    rw [Pr.bind] at p3
    refine ⟨g4, env3, w3, R4, p3.mono fun x env5 w5 p5 g5 z H5 R5 l5 q5 => ?_⟩
    obtain ⟨g6, R6, l6, d6⟩ := R5.freeze q5
    obtain ⟨u, eu, kk⟩ := lift_ok R6 (((((l1.trans l2).trans l3).trans l4).trans l5).trans l6) p5
    unfold get3 at eu
    cases ek : keyOf k.dat with
    | none => rw [ek] at eu; cases eu
    | some key =>
      rw [ek] at eu
      cases eu
      have lx := ((l3.trans l4).trans l5).trans l6
      have KX : KVs T g6.G ks vs kvs := ⟨hk, hv.le lx⟩
      have hy : y = kV key := by
        cases hkd : k.dat with
        | int i => rw [hkd] at ek d4; cases ek; exact d4
        | str s => rw [hkd] at ek d4; cases ek; exact d4
        | _ => rw [hkd] at ek; cases ek
      refine ⟨valV kvs key, .inl ⟨kvs, key, (Le.of R6.kept.gh).rd _ _ (lx.rd _ _ rd), hy, rfl⟩, ?_⟩
      rcases KX.get ek with ⟨d, v, e1, e2, e3⟩ | ⟨e1, e2⟩
      · rw [e2]
        refine kk v g6.G H5 (Alloc.refl R6.kept.gh) ?_
        rw [e1]
        exact e3
      · rw [e2]
        refine kk z g6.G H5 (Alloc.refl R6.kept.gh) ?_
        rw [e1]
        exact d6
end
end HK

/-! HKni: calls with keywords. -/
namespace HK
open PySem PySem.Spec PySem.Calls PyProof.Rows L2
/-- the items at the places told -/
def pickL {α : Type} (ix : List Nat) (xs : List α) : List α := ix.filterMap fun i => xs[i]?
theorem pick_vals : ∀ {ix : List Nat} {vs : List V} {us : List Value}, Vals vs us → Vals (pickL ix vs) (pickL ix us)
  | [], _, _, _ => .nil
  | i :: ix, vs, us, r => by
    have ih := pick_vals (ix := ix) r
    unfold pickL at ih ⊢
    rw [List.filterMap_cons, List.filterMap_cons]
    cases hi : vs[i]? with
    | none =>
      have : us[i]? = none := by
        rw [List.getElem?_eq_none_iff] at hi ⊢
        rw [← r.length]
        exact hi
      rw [this]
      exact ih
    | some v =>
      obtain ⟨u, hu, ru⟩ : ∃ u, us[i]? = some u ∧ RelV v u := by
        clear ih
        induction r generalizing i with
        | nil => simp at hi
        | cons h t ih =>
          cases i with
          | zero =>
            simp at hi
            subst hi
            exact ⟨_, rfl, h⟩
          | succ i =>
            obtain ⟨u, q, z⟩ := ih i (by simpa using hi)
            exact ⟨u, by simpa using q, z⟩
      rw [hu]
      exact .cons ru ih
section
variable {T : Th} {G : Hp}
theorem pick_drs : ∀ {ix : List Nat} {ds : List D} {vs : List V}, DRs T G ds vs → DRs T G (pickL ix ds) (pickL ix vs)
  | [], _, _, _ => .nil
  | i :: ix, ds, vs, r => by
    have ih := pick_drs (ix := ix) r
    unfold pickL at ih ⊢
    rw [List.filterMap_cons, List.filterMap_cons]
    cases hi : ds[i]? with
    | none =>
      have : vs[i]? = none := by
        rw [List.getElem?_eq_none_iff] at hi ⊢
        rw [r.length]
        exact hi
      rw [this]
      exact ih
    | some d =>
      obtain ⟨v, hv, q⟩ := r.get hi
      rw [hv]
      exact .cons q ih
end
section
variable {K : PySem.W.Frag} {x qual : Str} {params : Arguments} {body : List Stmt} {scope : Scope} {kws : List (Str × V)} {f : Addr} {fd : FuncData} {ps : List Str}
/-- a def without defaults, called by n values and the keywords ks -/
theorem _root_.L2.FunD.kbP (F : FunD K x qual params body scope [] kws f fd) (n : Nat) (ks : List Str) (ix : List Nat)
    (h : ∀ (kV doc pm : Value) (an : Option Addr) (cdv ct : Value) (us ws : List Value), us.length = n → ws.length = ks.length →
      bindArgs (PySem.W.fnOf x qual params body scope .none kV doc pm an cdv ct) ⟨us, ks.zip ws⟩ = pure (ps.zip (pickL ix (us ++ ws)))) :
    KBn K fd ps n ks (fun us ws => pickL ix (us ++ ws)) (fun vs zs => pickL ix (vs ++ zs)) := by
  obtain ⟨oc, od, dV, kV, doc, pm, an, cdv, ct, osl, rfl, lk, hcd, hD, hK⟩ := F.ex
  rcases hD with ⟨_, rfl⟩ | ⟨e, _⟩
  · exact ⟨fun s us ws _ l1 l2 => .of_eq (h kV doc pm an cdv ct us ws l1 l2), fun r1 r2 => pick_vals (r1.append r2)⟩
  · exact absurd rfl e
end
def xFK (n np nk : Nat) (ix : List Nat) (m : FX) (fa fk : AX) : EX := fun env w => (fa env w).bind fun ds env w => (fk env w).bind fun zs env w =>
  if ds.length = np ∧ zs.length = nk ∧ (pickL ix (ds ++ zs)).length = n then liftF (m (pickL ix (ds ++ zs)) w) env w else .no
section
variable {X : Cx} {T : Th} {b : Bs} {E : XK} {n k np : Nat} {pos p kpos : Pos} {e : Expr} {es : List Expr} {fr fk : AX} {fe : EX} {f : Addr} {fd : FuncData} {ps ks : List Str} {m : FX} {x : Str} {ix : List Nat} {kws : List Keyword} {nm : Option Str}
theorem kn : PK X [] (tAx T b E aN) := ⟨fun pos pins s σ H Q I ⟨g, env, w, R, p⟩ => pk_nil.run pos pins s σ H Q I (p g [] H R (Le.refl _) .nil)⟩
theorem kc (ha : PE X e (tEx T b E fe)) (hr : PK X kws (tAx T b E fr)) : PK X (⟨nm, e, kpos⟩ :: kws) (tAx T b E (aC fe fr)) := by
  refine ⟨fun pos pins s σ H Q I ⟨g, env, w, R, p⟩ => (pk_cons ha hr).run pos pins s σ H Q I ?_⟩
  unfold aC at p
  rw [Pr.bind] at p
  refine ⟨g, env, w, R, p.mono fun r env1 w1 p1 g1 x H1 R1 l1 q1 => ?_⟩
  obtain ⟨g2, R2, l2, d2⟩ := R1.freeze q1
  rw [Pr.bind] at p1
  exact ⟨g2, env1, w1, R2, p1.mono fun ds env3 w3 p3 g3 vs H3 R3 l3 q3 => p3 g3 (x :: vs) H3 R3 ((l1.trans l2).trans l3) (.cons (d2.le l3) q3)⟩
/-- f(e, .., k = v, ..) -/
theorem cfk (c : CO X T E n) (F : FnOk X.prog X.w X.K X.mg X.base (L2.CX X.prog X.w) k f fd ps (SpM T ps.length m)) (hk : k ≤ n) (hm : X.mg x = some (.ref f)) (kp : PySem.W.keepIn X.K (.ref f) = true)
    (hb : KBn X.K fd ps np ks (fun us ws => pickL ix (us ++ ws)) (fun vs zs => pickL ix (vs ++ zs))) (ha : PA X (e :: es) (tAx T b E fr)) (hkw : PK X kws (tAx T b E fk))
    (hg : Gl X x := by rfl) (hall : (backToKw pos (keywordEach kws X.env)).all (·.1.isSome) = true := by rfl) (hks : (backToKw pos (keywordEach kws X.env)).filterMap (·.1) = ks := by rfl)
    (hdb : (x == ("__debug__" : Str)) = false := by decide) (he : starEach (e :: es) X.env = (false, eval e X.env) :: starEach es X.env := by rfl)
    (hpl : ((backTo pos (starEach (e :: es) X.env)).any (·.1) || (backToKw pos (keywordEach kws X.env)).any (·.1.isNone)) = false := by rfl) : PE X (.Call (.Name x p) (e :: es) kws pos) (tEx T b E (xFK ps.length np ks.length ix m fr fk)) := by
  refine (pe_callN F (c.room.mono hk) hg hm kp hb (passes_call c.tk fun _ _ _ _ h => h) ha hkw hall hks hdb he hpl).imp fun σ H Q ⟨g, env, w, R, p⟩ => ?_
  unfold xFK at p
  rw [Pr.bind] at p
  refine ⟨g, env, w, R, p.mono fun as env1 w1 p1 g1 vs H1 R1 l1 q1 => ?_⟩
  rw [Pr.bind] at p1
  refine ⟨g1, env1, w1, R1, p1.mono fun zs env3 w3 p3 g3 us H3 R3 l3 q3 => ?_⟩
  have q4 : DRs T g3.G (pickL ix (as ++ zs)) (pickL ix (vs ++ us)) := pick_drs ((q1.le l3).append q3)
  split at p3
  · rename_i hl
    exact ⟨q1.length.trans hl.1, q3.length.trans hl.2.1, liftF_ok R3 (l1.trans l3) q4 (q4.length.trans hl.2.2) p3⟩
  · exact p3.elim
/-- f(k = v, ..) -/
theorem cfk0 (c : CO X T E n) (F : FnOk X.prog X.w X.K X.mg X.base (L2.CX X.prog X.w) k f fd ps (SpM T ps.length m)) (hk : k ≤ n) (hm : X.mg x = some (.ref f)) (kp : PySem.W.keepIn X.K (.ref f) = true)
    (hb : KBn X.K fd ps 0 ks (fun us ws => pickL ix (us ++ ws)) (fun vs zs => pickL ix (vs ++ zs))) (hkw : PK X kws (tAx T b E fk))
    (hg : Gl X x := by rfl) (hall : (backToKw pos (keywordEach kws X.env)).all (·.1.isSome) = true := by rfl) (hks : (backToKw pos (keywordEach kws X.env)).filterMap (·.1) = ks := by rfl)
    (hdb : (x == ("__debug__" : Str)) = false := by decide)
    (hpl : ((backTo pos (starEach [] X.env)).any (·.1) || (backToKw pos (keywordEach kws X.env)).any (·.1.isNone)) = false := by rfl) : PE X (.Call (.Name x p) [] kws pos) (tEx T b E (xFK ps.length 0 ks.length ix m aN fk)) := by
  refine ⟨fun pins s σ H Q I ⟨g, env, w, R, p⟩ => ?_⟩
  refine wpAny_Call_Name_kw (ld_glob I hg hm ?_ hdb)
  unfold xFK at p
  have p : Pr T b E _ ((fk env w).bind fun zs env w => if ([] : List D).length = 0 ∧ zs.length = ks.length ∧ (pickL ix ([] ++ zs)).length = ps.length then liftF (m (pickL ix ([] ++ zs)) w) env w else .no) := p
  rw [Pr.bind] at p
  refine PySem.W.callWith_KW0 (h₀ := X.base) I.ok.mod.kin kp hall ?_ hpl
  refine thn (hkw.run pos pins s σ H (fun us H1 => ∃ g1 env1 w1 zs, RS T b g1 env1 w1 σ H1 ∧ Le g.G g1.G ∧ DRs T g1.G zs us ∧ Pr T b E (fun r env' w' => ∀ g' v H', RS T b g' env' w' σ H' → Le g.G g'.G → RV T b g' H' env' v r → Q v H')
    (if ([] : List D).length = 0 ∧ zs.length = ks.length ∧ (pickL ix ([] ++ zs)).length = ps.length then liftF (m (pickL ix ([] ++ zs)) w1) env1 w1 else .no)) I
    ⟨g, env, w, R, p.mono fun zs env1 w1 p1 g1 us H1 R1 l1 q1 => ⟨g1, env1, w1, zs, R1, l1, q1, p1⟩⟩) fun ws s2 ⟨us, H2, I2, rz, g1, env1, w1, zs, R1, l1, q1, p1⟩ => ⟨I2.kIn, ?_⟩
  rw [hks]
  split at p1
  · rename_i hl
    have q4 : DRs T g1.G (pickL ix ([] ++ zs)) (pickL ix ([] ++ us)) := pick_drs q1
    exact run_fnN (us := []) (vs := []) F (c.room.mono hk) hb (passes_call c.tk fun _ _ _ _ h => h) I2 .nil rz rfl (q1.length.trans hl.2.1) (liftF_ok R1 l1 q4 (q4.length.trans hl.2.2) p1)
  · exact p1.elim
end
end HK

/-! HKnj: dicts written out; names of the module. -/
namespace HK
open PySem PySem.Spec PySem.Calls PyProof.Rows L2
theorem upd2 {H : Hp} {p : Addr} {o o' : HO} : upd (upd H p o) p o' = upd H p o' := by
  funext a
  by_cases h : a = p
  · subst h
    rw [upd_same, upd_same]
  · rw [upd_ne h, upd_ne h, upd_ne h]
theorem tPairs_c {σ : L2.St} {H : Hp} : ∀ (ps : List (V × V)) {Q : List (V × V) → Hp → Prop}, Q ps H → tPairs (ps.map fun p => (tC p.1, tC p.2)) σ H Q
  | [], Q, h => h
  | p :: ps, Q, h => tPairs_c ps (Q := fun qs H => Q (p :: qs) H) h
def xDc (ps : List (D × D)) : EX := fun env w => .ok (.ow (.dic (mergeD ps).1 (mergeD ps).2)) env w
def xDn : EX := fun env w => .ok (.ow (.dic [] [])) env w
def xDt : EX := fun env w => .ok (.ow (.dit [] [])) env w
section
variable {X : Cx} {T : Th} {b : Bs} {E : XK} {n : Nat} {pos : Pos}
/-- {k: v, ..}, all constants -/
theorem cdc {keys : List (Option Expr)} {values : List Expr} (ps : List (D × D)) (kvs : List (Key × V)) (h : PPs X pos keys values ((kvs.map fun kv => (kV kv.1, kv.2)).map fun p => (tC p.1, tC p.2))) (hq : ∀ G, Paired (fun (a : D × D) (b : Key × V) => keyOf a.1 = some b.1 ∧ DR T G a.2 b.2) ps kvs)
    (hz : kvs.length ≤ 15 := by decide) (hall : keys.all (·.isSome) = true := by rfl) (hl : keys.length = values.length := by rfl) (h0 : keys ≠ [] := by simp) (h15 : keys.length ≤ 15 := by decide) : PE X (.Dict keys values pos) (tEx T b E (xDc ps)) := by
  refine (pe_disp h hall hl h0 h15).imp fun σ H Q ⟨g, env, w, R, p⟩ a na => ?_
  refine tPairs_c (kvs.map fun kv => (kV kv.1, kv.2)) (Q := fun qs H2 => H2 a = some (.dK []) ∧ ∃ kvs : List (Key × V), qs = kvs.map (fun kv => (kV kv.1, kv.2)) ∧ kvs.length ≤ 15 ∧ Q (.ref a) (upd H2 a (.dK (mergeK [] kvs)))) ⟨upd_same, kvs, rfl, hz, ?_⟩
  rw [upd2]
  have k : KVs T g.G (mergeD ps).1 (mergeD ps).2 (mergeK [] kvs) := KVs.merge (p := ([], [])) (hq g.G) .nil
  exact new_dic (T := T) (G := g.G) R.kept.gh (fun v G' H' A q => p ⟨G', g.ad⟩ v H' (R.alloc A) (Le.of A.g) (R.rva A q)) k na
theorem cdn : PE X (.Dict [] [] pos) (tEx T b E xDn) := pe_dnewK.imp fun σ H Q ⟨g, env, w, R, p⟩ a na =>
  new_dic (T := T) (G := g.G) R.kept.gh (fun v G' H' A q => p ⟨G', g.ad⟩ v H' (R.alloc A) (Le.of A.g) (R.rva A q)) .nil na
theorem new_dit {G H : Hp} {Q : VK} {p : Addr} (gh : ∀ a o, G a = some o → H a = some o) (q : ∀ v G' H', Alloc G H G' H' → RVa T G' H H' v (.ow (.dit [] [])) → Q v H') (np : H p = none) : Q (.ref p) (upd H p (.dT [])) := by
  refine q _ G _ (Alloc.new1 gh np) ⟨p, rfl, ?_, np, [], upd_same, rfl, .nil⟩
  cases z : G p with
  | none => rfl
  | some u =>
    rw [gh p u z] at np
    cases np
theorem cdt : PE X (.Dict [] [] pos) (tEx T b E xDt) := pe_dnewT.imp fun σ H Q ⟨g, env, w, R, p⟩ a na =>
  new_dit (T := T) (G := g.G) R.kept.gh (fun v G' H' A q => p ⟨G', g.ad⟩ v H' (R.alloc A) (Le.of A.g) (R.rva A q)) na
/-- a name of the module, of the built-ins -/
theorem cgl {x : Str} {v : V} {u : Value} {d : D} (hm : X.mg x = some u) (r : RelV v u) (q : ∀ G, DR T G d v) (hg : Gl X x := by rfl) (hd : (x == ("__debug__" : Str)) = false := by decide) : PE X (.Name x pos) (tEx T b E (xC d)) := c_of (pe_glob hg hm r hd) q
theorem cgb {x : Str} {v : V} {u : Value} {d : D} (hm : X.mg x = none) (hv : bootBuiltins x = some u) (r : RelV v u) (q : ∀ G, DR T G d v) (hg : Gl X x := by rfl) (hn : x ≠ "__name__" := by decide) (hd : (x == ("__debug__" : Str)) = false := by decide) : PE X (.Name x pos) (tEx T b E (xC d)) :=
  c_of (pe_bltn hg hm hv r hn hd) q
/-- a built-in type, a class of the module, by name -/
theorem cgt {x : Str} (k : Nat) (hm : X.mg x = none) (hv : bootBuiltins x = some (.type (tyName k)) := by rfl) (hg : Gl X x := by rfl) (hn : x ≠ "__name__" := by decide) (hd : (x == ("__debug__" : Str)) = false := by decide) : PE X (.Name x pos) (tEx T b E (xC (.ty k))) :=
  cgb (v := .ty (tyName k)) hm hv rfl (fun _ => rfl) hg hn hd
theorem cgc {x : Str} (c : Nat) (hm : X.mg x = some (.ref (T.cl c))) (hg : Gl X x := by rfl) (hd : (x == ("__debug__" : Str)) = false := by decide) : PE X (.Name x pos) (tEx T b E (xC (.cls c))) :=
  cgl (v := .ref (T.cl c)) hm rfl (fun _ => rfl) hg hd
theorem cgs {x : Str} (s : List Nat) (tk : Tok) (hm : X.mg x = some (.str (mkS s) tk)) (hg : Gl X x := by rfl) (hd : (x == ("__debug__" : Str)) = false := by decide) : PE X (.Name x pos) (tEx T b E (xC (.str s))) :=
  cgl (v := .str (mkS s)) hm ⟨tk, rfl⟩ (fun _ => rfl) hg hd
theorem cgi {x : Str} (i : Int) (tk : Tok) (hm : X.mg x = some (.int i tk)) (hg : Gl X x := by rfl) (hd : (x == ("__debug__" : Str)) = false := by decide) : PE X (.Name x pos) (tEx T b E (xC (.int i))) :=
  cgl (v := .int i) hm ⟨tk, rfl⟩ (fun _ => rfl) hg hd
end
end HK

/-! HKnk: what is never come to. -/
namespace HK
open PySem PySem.Spec PySem.Calls PyProof.Rows L2
def xNo : EX := fun _ _ => .no
def tNo : TX := fun _ _ => .no
def sNo : SX := fun _ _ => .no
section
variable {X : Cx} {T : Th} {b : Bs} {E : XK}
theorem noE {e : Expr} : PE X e (tEx T b E xNo) := ⟨fun _ _ _ _ _ _ ⟨_, _, _, _, p⟩ => p.elim⟩
theorem noT {e : Expr} : PT X e (tTx T b E tNo) := ⟨fun _ _ _ _ _ _ ⟨_, _, _, _, p⟩ => p.elim⟩
theorem noS {e : Stmt} : PS X e (tSt T b E sNo) := ⟨fun _ _ _ _ _ _ ⟨_, _, _, _, p⟩ => p.elim⟩
theorem noSs {e : List Stmt} : PSs X e (tSt T b E sNo) := ⟨fun _ _ _ _ _ _ ⟨_, _, _, _, p⟩ => p.elim⟩
end
end HK

/-! HKnl: parts of texts by their places; lambdas of a def; the law's end. -/
namespace HK
open PySem PySem.Spec PySem.Calls PyProof.Rows L2
/-! ### places -/
def noX : Expr := .Constant .none 0 ⟨0, 0, 0, 0⟩
def noP : Stmt := .Pass ⟨0, 0, 0, 0⟩
/-- a statement's expression -/
def exS : Stmt → Expr
  | .Assign _ v _ => v
  | .Return (some v) _ => v
  | .Expr v _ => v
  | .If t _ _ _ => t
  | .AugAssign _ _ v _ => v
  | .For _ it _ _ _ => it
  | _ => noX
/-- a statement's suites -/
def suS : Stmt → Nat → List Stmt
  | .If _ b _ _, 0 => b
  | .If _ _ b _, _ => b
  | .For _ _ b _ _, 0 => b
  | .While _ b _ _, 0 => b
  | _, _ => []
/-- an expression's parts -/
def eK : Expr → Nat → Expr
  | .List es _, i => es.getD i noX
  | .Tuple es _ _, i => es.getD i noX
  | .Call f es _ _, i => (f :: es).getD i noX
  | .BinOp a _ b _, i => [a, b].getD i noX
  | .Compare a _ bs _, i => (a :: bs).getD i noX
  | .BoolOp _ es _, i => es.getD i noX
  | .UnaryOp _ a _, _ => a
  | .IfExp a b c _, i => [a, b, c].getD i noX
  | .Subscript a b _, i => [a, b].getD i noX
  | .Attribute a _ _, _ => a
  | .ListComp a _ _ _, _ => a
  | _, _ => noX
/-- a keyword call's parts -/
def lamPs : Expr → Arguments
  | .Lambda ps _ _ _ => ps
  | _ => ⟨[], [], none, [], [], none, []⟩
def lamBd : Expr → Expr
  | .Lambda _ b _ _ => b
  | _ => noX
def lamSc : Expr → Scope
  | .Lambda _ _ s _ => s
  | _ => ⟨.function, [], false, false, []⟩
def mkLam (qual : Str) (e : Expr) (caps : List Str) (dfs : List V) : Lam := ⟨qual, lamPs e, lamBd e, lamSc e, caps, dfs⟩
/-! ### what the function values of a text do -/
def apL (ls : List (List D → FX)) : AP := fun k => (ls[k]?).getD fun _ _ _ => .no
theorem ap1_no {T : Th} {P : Program} {w : World} {mg : Str → Option Value} {base : Heap} {n k : Nat} : Ap1 T P w mg base n k (fun _ _ _ => .no) := fun caps A outer s H G wp f ds vs us Q E hr e0 gh pen hd q r p => p.elim
theorem Ap1.mono {T : Th} {P : Program} {w : World} {mg : Str → Option Value} {base : Heap} {n m k : Nat} {f : List D → FX} (h : Ap1 T P w mg base n k f) (hn : n ≤ m) : Ap1 T P w mg base m k f :=
  fun caps A outer s H G wp f ds vs us Q E hr e0 gh pen hd q r p => h caps A outer s H G wp f ds vs us Q E (hr.mono hn) e0 gh pen hd q r p
theorem apL_ok {T : Th} {P : Program} {w : World} {mg : Str → Option Value} {base : Heap} {n : Nat} {ls : List (List D → FX)} (h : ∀ k f, ls[k]? = some f → Ap1 T P w mg base n k f) : ApOk T P w mg base n (apL ls) := fun k => by
  unfold apL
  cases e : ls[k]? with
  | none => exact ap1_no
  | some f => exact h k f e
/-! ### lambdas of a def -/
theorem lam_free {sc scope : Scope} {n : Nat} (h : scope.names.all (fun y => !decide (y.2 = .free) || decide (sc.names.lookup y.1 = some .cell)) = true) : ∀ y ∈ scope.names, y.2 = .free → ∃ c, (cellsFrom n sc.names []).lookup y.1 = some c := fun y hy e => by
  have z := List.all_eq_true.mp h y hy
  simp only [Bool.or_eq_true, Bool.not_eq_true', decide_eq_false_iff_not, decide_eq_true_eq] at z
  rcases z with z | z
  · exact absurd e z
  · exact cell_has z
theorem caps_by {X : Cx} {L : Lam} {scope : Scope} {caps : List Nat} (h0 : ∀ x, X.fn x = true) (h1 : caps.map (fun i => X.N[i]?) = L.caps.map some)
    (h2 : L.caps.all (fun y => scope.names.contains (y, NameKind.free) && decide (X.env.scope.names.lookup y = some .cell)) = true) (h3 : scope.names.all (fun y => !decide (y.2 = .free) || L.caps.contains y.1) = true) : Caps X L scope caps where
  names := fun j y e => by
    have z : (L.caps.map some)[j]? = some (some y) := by rw [List.getElem?_map, e]; rfl
    rw [← h1, List.getElem?_map] at z
    cases q : caps[j]? with
    | none => rw [q] at z; cases z
    | some i =>
      rw [q] at z
      exact ⟨i, rfl, Option.some.inj z⟩
  len := by
    have z := congrArg List.length h1
    simpa using z
  free := fun y hy => by
    have z := List.all_eq_true.mp h2 y hy
    simp only [Bool.and_eq_true, decide_eq_true_eq] at z
    exact ⟨List.contains_iff_mem.mp z.1, .inl z.2, h0 y⟩
  only := fun y hy e => by
    have z := List.all_eq_true.mp h3 y hy
    simp only [Bool.or_eq_true, Bool.not_eq_true', decide_eq_false_iff_not] at z
    rcases z with z | z
    · exact absurd e z
    · exact List.contains_iff_mem.mp z
/-- how a lambda's arguments bind -/
theorem lam_bind {L : Lam} {ps : List Str} (n m : Nat) (hn : ps.length = n + m) (hm : L.dfs.length = m)
    (h0 : L.dfs = [] → ∀ (doc pm ctv cd : Value) (cl : List (Str × Addr)) (us : List Value), us.length = ps.length → bindArgs (PySem.W.kdv_fn "<lambda>" L.qual L.params (.expr L.body) L.scope cl .none doc pm cd ctv) ⟨us, []⟩ = pure (ps.zip us))
    (h1 : ∀ (t : Addr) (doc pm ctv cd : Value) (cl : List (Str × Addr)) (us dv : List Value), us.length = n → dv.length = m → ∃ kk, bindArgs (PySem.W.kdv_fn "<lambda>" L.qual L.params (.expr L.body) L.scope cl (.ref t) doc pm cd ctv) ⟨us, []⟩ = seqItems? (.ref t) >>= kk ∧ kk (some dv.toArray) = pure (ps.zip (us ++ dv)))
    (s : Shared) (dV doc pm ctv : Value) (c' : Addr) (cl : List (Str × Addr)) (us dv : List Value) (hl : (us ++ dv).length = ps.length) (hv : Vals L.dfs dv) (hD : (dV = .none ∧ L.dfs = []) ∨ ∃ t, dV = .ref t ∧ s.heap.get? t = some (PySem.W.kdv_tup dv)) :
      BindsTo s (PySem.W.kdv_fn "<lambda>" L.qual L.params (.expr L.body) L.scope cl dV doc pm (.ref c') ctv) ⟨us, []⟩ (ps.zip (us ++ dv)) := by
  rcases hD with ⟨rfl, e⟩ | ⟨t, rfl, e⟩
  · rw [e] at hv
    cases hv
    rw [List.append_nil] at hl ⊢
    exact .of_eq (h0 e _ _ _ _ _ us hl)
  · have hd : dv.length = m := hv.length.symm.trans hm
    obtain ⟨kk, e1, e2⟩ := h1 t doc pm ctv (.ref c') cl us dv (by rw [List.length_append] at hl; omega) hd
    exact BindsTo.of_defaults rfl e rfl e1 e2
end HK

/-! HKnm: the pen is made; the law's own def; its end. -/
namespace HK
open PySem PySem.Spec PySem.Calls PyProof.Rows L2
/-- _law_pen(script) -/
def SpPen (K : PySem.W.Frag) : Sp := fun vs H Q _ => ∃ (a : Addr) (ns : List Int), vs = [.ref a] ∧ SqL K H a (ns.map V.int) ∧ ns.length ≤ 63 ∧
  ∀ (H' : Hp) (c p : Addr), c ≠ p → H c = none → H p = none → (∀ b o, H b = some o → H' b = some o) → H' c = some (.lst (ns.map V.int)) → H' p = some (.lst [.ref c, .int 0, .int 0]) → Q (.ref p) H'
/-- its reading: list(script[:63]), 0, 0 -/
def tPen0 (K : PySem.W.Frag) : TE := tLst (tCons (tCB (fun xs H Q => ∃ p ys, xs = [V.ref p] ∧ (SqL K H p ys ∨ SqT K H p ys) ∧ ∀ l, H l = none → Q (.ref l) (upd H l (.lst ys))) (tCons (tSl (rSlL K) (tVar 0) tNoPart (tPart (tC (.int 63)))) tNil)) (tCons (tC (.int 0)) (tCons (tC (.int 0)) tNil)))
theorem cut63 {xs : List V} (h : xs.length ≤ 63) : cutV xs none (some 63) = xs := by
  unfold cutV
  rw [show HT.sIx xs.length xs.length (some 63) = min 63 xs.length from HT.sIx_nat xs.length xs.length 63, HT.sIx_none]
  rw [List.drop_zero, Nat.sub_zero, Nat.min_eq_right h]
  exact List.take_length
theorem pen0_ok {K : PySem.W.Frag} {vs : List V} {H : Hp} {Q : VK} {E : XK} {nx : L2.St → Hp → Prop} (h : SpPen K vs H Q E) : tRet (tPen0 K) { nx := nx, rt := Q } (L2.start ["script"] vs) H := by
  obtain ⟨a, ns, rfl, hS, hl, q⟩ := h
  have len : (ns.map V.int).length ≤ 63 := by rw [List.length_map]; exact hl
  refine ⟨.ref a, rfl, 63, rfl, a, ns.map V.int, rfl, hS, fun t nt => ?_⟩
  have e : cutV (ns.map V.int) none (some 63) = ns.map V.int := cut63 len
  rw [e]
  refine ⟨t, ns.map V.int, rfl, .inl (.inl (.inl upd_same)), fun c nc => ⟨by show 3 ≤ sizeLine; rw [sizeLine_eq]; omega, fun p np => ?_⟩⟩
  have ct : c ≠ t := fun z => by rw [z, upd_same] at nc; cases nc
  have pc : p ≠ c := fun z => by rw [z, upd_same] at np; cases np
  have pt : p ≠ t := fun z => by rw [upd_ne pc, z, upd_same] at np; cases np
  rw [upd_ne ct] at nc
  rw [upd_ne pc, upd_ne pt] at np
  refine q _ c p pc.symm nc np (fun b o eb => ?_) ?_ upd_same
  · have bt : b ≠ t := fun z => by rw [z, nt] at eb; cases eb
    have bc : b ≠ c := fun z => by rw [z, nc] at eb; cases eb
    have bp : b ≠ p := fun z => by rw [z, np] at eb; cases eb
    rw [upd_ne bp, upd_ne bc, upd_ne bt]
    exact eb
  · rw [upd_ne pc.symm, upd_same]
/-- pen = _law_pen(script) -/
def tPen (K : PySem.W.Frag) (i : Nat) : TS := tAsg (tCall (SpPen K) [] E0 (tCons (tVar 0) tNil)) (gName i)
/-- the law's promise -/
def SpLaw (K : PySem.W.Frag) (tabs : List (Addr × Str)) : Sp := fun vs H Q _ => ∃ (a : Addr) (ns : List Int), vs = [.ref a] ∧ SqL K H a (ns.map V.int) ∧ ns.length ≤ 63 ∧ (∀ z ∈ ns, Builtin.Int.intBits z ≤ 1048576) ∧ LamX.Tabs tabs H ∧ ∀ H', Q (.bl true) H'
/-- what the rest of the law answers -/
def Says (r : Rv Fl) : Prop := ∃ env w, r = .ok (.rt (.fr (.bl true))) env w
theorem tabs_up {tabs : List (Addr × Str)} {H H' : Hp} (h : LamX.Tabs tabs H) (u : ∀ b o, H b = some o → H' b = some o) : LamX.Tabs tabs H' := fun p hp => by
  obtain ⟨ps, e, z⟩ := h p hp
  exact ⟨ps, u _ _ e, z.1, fun pos cv q => let ⟨c, h1, h2⟩ := z.2 pos cv q; ⟨c, h1, u _ _ h2⟩⟩
theorem law_start {T : Th} {N : List Str} {m : SX} {a : Addr} {ns : List Int} {H H' : Hp} {c p : Addr} {D : L2.Ends} {E : XK} (hN : 2 ≤ N.length) (ht : LamX.Tabs T.tabs H) (cp : c ≠ p) (nc : H c = none) (np : H p = none) (up : ∀ b o, H b = some o → H' b = some o)
    (hc : H' c = some (.lst (ns.map V.int))) (hp : H' p = some (.lst [.ref c, .int 0, .int 0])) (hT : T.pa = p) (hm : Says (m (.no :: .fr .pen :: List.replicate (N.length - 2) .no) ⟨ns, 0, 0⟩)) (hQ : ∀ H', D.rt (.bl true) H') :
    ∃ b : Bs, tSt T b E m D ((L2.start N [.ref a]).set 1 (some (.ref p))) H' := by
  obtain ⟨G, hG⟩ : ∃ G : Hp, G = fun b => if b = c then some (.lst (ns.map V.int)) else none := ⟨_, rfl⟩
  have Gc : G c = some (.lst (ns.map V.int)) := by rw [hG]; exact if_pos rfl
  have Gs : ∀ {b o}, G b = some o → b = c ∧ o = .lst (ns.map V.int) := fun {b o} e => by
    rw [hG] at e
    have e : (if b = c then some (HO.lst (ns.map V.int)) else none) = some o := e
    by_cases z : b = c
    · rw [if_pos z] at e
      exact ⟨z, (Option.some.inj e).symm⟩
    · rw [if_neg z] at e
      cases e
  have gh : ∀ b o, G b = some o → H' b = some o := fun b o e => by
    obtain ⟨rfl, rfl⟩ := Gs e
    exact hc
  have pen : PenI T G H' ⟨ns, 0, 0⟩ := ⟨tabs_up ht up, fun b ps e => (by
      obtain ⟨_, z⟩ := Gs e
      cases z), ⟨c, by rw [hT]; exact hp, Gc⟩, by
      rw [hT]
      cases z : G p with
      | none => rfl
      | some o => exact absurd (Gs z).1 (Ne.symm cp)⟩
  refine ⟨⟨G, H'⟩, ⟨G, fun _ => 0⟩, .no :: .fr .pen :: List.replicate (N.length - 2) .no, ⟨ns, 0, 0⟩, ⟨.start gh pen, ?_, fun j d e => ?_, fun j d e => ?_, fun j k d d' e => ?_⟩, ?_⟩
  · unfold L2.start
    simp
    omega
  · match j, e with
    | 0, e => cases e
    | 1, e =>
      cases e
      refine ⟨.ref p, ?_, by unfold DR; rw [hT]⟩
      unfold L2.start
      match N, hN with
      | _ :: _ :: _, _ => rfl
    | j + 2, e =>
      rw [List.getElem?_cons_succ, List.getElem?_cons_succ, List.getElem?_replicate] at e
      split at e <;> cases e
  · match j, e with
    | 0, e => cases e
    | 1, e => cases e
    | j + 2, e =>
      rw [List.getElem?_cons_succ, List.getElem?_cons_succ, List.getElem?_replicate] at e
      split at e <;> cases e
  · match j, e with
    | 0, e => cases e
    | 1, e => cases e
    | j + 2, e =>
      rw [List.getElem?_cons_succ, List.getElem?_cons_succ, List.getElem?_replicate] at e
      split at e <;> cases e
  · obtain ⟨env, w, e⟩ := hm
    rw [e]
    intro g' σ' H2 R' l' v rv
    have rv : v = .bl true := rv
    subst rv
    exact hQ H2
/-- THE RULE for the law's own def -/
theorem law_ok {P : Program} {w : World} {K : PySem.W.Frag} {mg : Str → Option Value} {base : Heap} {k : Nat} {fl ca : Addr} {name qual : Str} {params : Arguments} {body rest : List Stmt} {s0 : Stmt} {scope : Scope} {dV kV doc pm ct oc : Value} {an od : Option Addr}
    {osl : Array (Option Value)} {N : List Str} {m : SX} {tabs : List (Addr × Str)} {T : Addr → Th} (lk : K.lookup fl = some ⟨oc, od, .func (PySem.W.fnOf name qual params body scope dV kV doc pm an (.ref ca) ct), osl⟩) (hcd : PySem.W.codeIn K (.ref ca) qual = true) (S : FnScope N ["script"] scope)
    (hb : body = s0 :: rest) (hN : 2 ≤ N.length) (hK : ∀ pa, (T pa).K = K) (hpa : ∀ pa, (T pa).pa = pa) (htb : ∀ pa, (T pa).tabs = tabs)
    (h0 : ∀ (A : Around) (outer : List Env) (s : Shared) (H : Hp) (E : XK), Room k (A.deeper (envOfC qual scope s.heap.objs.size fl (.ref ca))) → PS (cxOf (L2.CX P w) P w K mg base N qual scope fl (.ref ca) A outer s H E) s0 (tPen K 1))
    (h1 : ∀ (pa : Addr) (A : Around) (outer : List Env) (s : Shared) (H : Hp) (E : XK) (b : Bs), CO (cxOf (L2.CX P w) P w K mg base N qual scope fl (.ref ca) A outer s H E) (T pa) E k → PSs (cxOf (L2.CX P w) P w K mg base N qual scope fl (.ref ca) A outer s H E) rest (tSt (T pa) b E m))
    (hm : ∀ ns : List Int, ns.length ≤ 63 → (∀ z ∈ ns, Builtin.Int.intBits z ≤ 1048576) → Says (m (.no :: .fr .pen :: List.replicate (N.length - 2) .no) ⟨ns, 0, 0⟩)) :
    FnOk P w K mg base (L2.CX P w) (k + 1) fl (PySem.W.fnOf name qual params body scope dV kV doc pm an (.ref ca) ct) ["script"] (SpLaw K tabs) := by
  refine fn_of lk hcd S (fun vs H Q E h => ?_) fun A outer s H vs Q E hr h => ?_
  · obtain ⟨a, ns, rfl, _⟩ := h
    rfl
  · obtain ⟨a, ns, rfl, hS, hl, hz, ht, hq⟩ := h
    subst hb
    refine ⟨tSeq (tPen K 1) fun D σ H => ∃ (pa : Addr) (b : Bs), tSt (T pa) b E m D σ H, pss_cons (h0 A outer s H E hr) ⟨fun pins s' σ H' D I ⟨pa, b, z⟩ => (h1 pa A outer s H E b (co_def (hK pa) S hr)).run pins s' σ H' D I z⟩, ?_⟩
    refine ⟨.ref a, ?_, a, ns, rfl, hS, hl, fun H' c p cp nc np up hc hp => ?_⟩
    · unfold L2.start
      match N, hN with
      | _ :: _ :: _, _ => rfl
    · obtain ⟨b, z⟩ := law_start (T := T p) (E := E) (D := { nx := fun _ H' => Q .non H', rt := Q }) hN (by rw [htb]; exact ht) cp nc np up hc hp (hpa p) (hm ns hl hz) hq
      exact ⟨p, b, z⟩
end HK

/-! HKnn: what the top has written, looked at by programs; facts of the classes. -/
namespace HK
open PySem PySem.Spec PySem.Calls PyProof.Rows L2
section
variable {K : PySem.W.Frag} {h : Heap} {mg : Str → Option Value} {x : Str}
/-- the address under a name of the module -/
def adr (K : PySem.W.Frag) (x : Str) : Addr := match PySem.W.nsIn K mainGlobals x with
  | some (some (.ref a)) => a
  | _ => 0
theorem adr_of {C : Addr} (a : PySem.W.nsIn K mainGlobals x = some (some (.ref C))) : adr K x = C := by
  unfold adr
  rw [a]
def noneIn (K : PySem.W.Frag) (xs : List Str) : Bool := xs.all fun x => decide (PySem.W.nsIn K mainGlobals x = some none)
theorem noneIn_ok {xs : List Str} (X : K.In h) (G : h.Ns mainGlobals mg) (z : noneIn K xs = true) (hx : x ∈ xs) : mg x = none :=
  PySem.W.mg_none_of X G (of_decide_eq_true (List.all_eq_true.mp z x hx))
def strIn (K : PySem.W.Frag) (x : Str) (cs : List Nat) : Bool := match PySem.W.nsIn K mainGlobals x with
  | some (some (.str s _)) => decide (s = mkS cs)
  | _ => false
theorem strIn_ok {cs : List Nat} (X : K.In h) (G : h.Ns mainGlobals mg) (z : strIn K x cs = true) : ∃ tk, mg x = some (.str (mkS cs) tk) := by
  unfold strIn at z
  split at z
  · rename_i s t e
    have z := of_decide_eq_true z
    subst z
    exact ⟨t, PySem.W.mg_of X G e⟩
  · cases z
def intIn (K : PySem.W.Frag) (x : Str) (i : Int) : Bool := match PySem.W.nsIn K mainGlobals x with
  | some (some (.int j _)) => decide (j = i)
  | _ => false
theorem intIn_ok {i : Int} (X : K.In h) (G : h.Ns mainGlobals mg) (z : intIn K x i = true) : ∃ tk, mg x = some (.int i tk) := by
  unfold intIn at z
  split at z
  · rename_i s t e
    have z := of_decide_eq_true z
    subst z
    exact ⟨t, PySem.W.mg_of X G e⟩
  · cases z
/-- a def as it stands behind the top -/
def FunAt (K : PySem.W.Frag) (x : Str) (st : Stmt) : Prop := ∃ a d, PySem.W.nsIn K mainGlobals x = some (some (.ref a)) ∧ FunD K x x (defArgs st) (defBody st) (defScope st) [] [] a d
theorem funAt {st : Stmt} {f : Addr} {oc : Value} {od an : Option Addr} {osl : Array (Option Value)} {kV doc pm cdv ct : Value} (a : PySem.W.nsIn K mainGlobals x = some (some (.ref f)))
    (l : K.lookup f = some ⟨oc, od, .func (PySem.W.fnOf x x (defArgs st) (defBody st) (defScope st) .none kV doc pm an cdv ct), osl⟩) (c : PySem.W.codeIn K cdv x = true) (k : PySem.W.keepIn K (.ref f) = true) : FunAt K x st :=
  ⟨f, _, a, ⟨oc, od, .none, kV, doc, pm, an, cdv, ct, osl, rfl, l, c, .inl ⟨rfl, rfl⟩, .inl rfl⟩, k⟩
/-- a class's own suite -/
def clB : Stmt → Nat → Stmt
  | .ClassDef (body := b) .., i => b.getD i noP
  | _, _ => noP
/-- an own exception class, its __init__ at fI -/
def ExcAt (P : Program) (K : PySem.W.Frag) (mg : Str → Option Value) (x : Str) (ps fs : List Str) : Prop := ∃ C fI fd, PySem.W.nsIn K mainGlobals x = some (some (.ref C)) ∧ OexC K C ∧ PySem.W.findIn K (.ref C) "__init__" = some (some (.ref fI)) ∧ PySem.W.typeIn K (.ref fI) = some (.type "function") ∧
  (∀ (w : World) (base : Heap), FnOk P w K mg base (L2.CX P w) 2 fI fd ps (SpI C fs)) ∧ L2.Binds K fd ps []
end
/-- the facts of the classes at cl, by look -/
def kitF (K : PySem.W.Frag) (cl : List Addr) (sub : Nat → Nat → Bool) : Bool :=
  [0, 1, 2, 3, 4, 5, 7].all (fun t => cl.all fun C => decide (PySem.W.kitOne K (.type (tyName t)) (.ref C) = some false)) &&
  (cl.all (fun C => [0, 1, 2, 3, 4, 5].all fun t => decide (PySem.W.kitOne K (.ref C) (.type (tyName t)) = some false)) &&
  (cl.zipIdx.all (fun p => cl.zipIdx.all fun q => decide (PySem.W.kitOne K (.ref p.1) (.ref q.1) = some (sub p.2 q.2))) &&
  cl.all fun C => decide (PySem.W.findIn K (.ref C) "__getattribute__" = some (some (.builtin "BaseException.__getattribute__"))) && decide (PySem.W.findIn K (.ref C) "__getattr__" = some none) && decide (PySem.W.subIn K (.ref C) (.type "BaseException") = some true) &&
    PySem.W.hasDictIn K C && decide (PySem.W.findIn K (.ref C) "__class__" = some (some (.builtin "object.__class__"))) && decide (PySem.W.specialIn K (.builtin "object.__class__") "__get__" = some (some (.builtin "getset_descriptor.__get__"))) &&
    decide (PySem.W.takesIn K (.builtin "object.__class__") = some true) && decide (PySem.W.mroIn K C (.type "object") = some true)))
theorem zipIdx_mem {cl : List Addr} {c : Nat} (h : c < cl.length) : ((cl[c]?).getD 0, c) ∈ cl.zipIdx := by
  rw [List.mem_zipIdx_iff_getElem?]
  rw [List.getElem?_eq_getElem h]
  rfl
theorem getD_mem {cl : List Addr} {c : Nat} (h : c < cl.length) : (cl[c]?).getD 0 ∈ cl := by
  rw [List.getElem?_eq_getElem h]
  exact List.getElem_mem h
theorem kitF_ok {T : Th} {cl : List Addr} {es : List Nat} {sub : Nat → Nat → Bool} (hc : ∀ c, T.cl c = (cl[c]?).getD 0) (he : ∀ c ∈ es, c < cl.length) (z : kitF T.K cl sub = true) : ClsI T [] es sub := by
  unfold kitF at z
  simp only [Bool.and_eq_true, List.all_eq_true, decide_eq_true_eq] at z
  obtain ⟨z1, z2, z3, z4⟩ := z
  refine ⟨fun t ht c h => ?_, fun c h t ht => ?_, fun c h c' h' => ?_, fun c h => ?_, fun c h => ?_⟩
  · rw [List.nil_append] at h
    rw [hc]
    exact z1 t ht _ (getD_mem (he c h))
  · rw [List.nil_append] at h
    rw [hc]
    exact z2 _ (getD_mem (he c h)) t ht
  · rw [List.nil_append] at h h'
    rw [hc, hc]
    exact z3 _ (zipIdx_mem (he c h)) _ (zipIdx_mem (he c' h'))
  · exact absurd h (by simp)
  · have y := z4 _ (getD_mem (he c h))
    rw [hc]
    obtain ⟨⟨⟨⟨⟨⟨⟨y1, y2⟩, y3⟩, y4⟩, y5⟩, y6⟩, y7⟩, y8⟩ := y
    exact ⟨y1, y2, y3, y4, y5, y6, y7, y8⟩
/-- a field n of the exceptions of te -/
def attF (K : PySem.W.Frag) (cl : List Addr) (n : Str) (te : List (Nat × Nat)) : Bool := te.all fun p => decide (PySem.W.findIn K (.ref ((cl[p.1]?).getD 0)) "__getattribute__" = some (some (.builtin "BaseException.__getattribute__"))) && decide (PySem.W.findIn K (.ref ((cl[p.1]?).getD 0)) "__getattr__" = some none) &&
  decide (PySem.W.subIn K (.ref ((cl[p.1]?).getD 0)) (.type "BaseException") = some true) && PySem.W.hasDictIn K ((cl[p.1]?).getD 0) && decide (PySem.W.findIn K (.ref ((cl[p.1]?).getD 0)) n = some none)
theorem attF_ok {T : Th} {cl : List Addr} {n : Str} {te : List (Nat × Nat)} (hc : ∀ c, T.cl c = (cl[c]?).getD 0) (hf : te.all (fun p => decide ((T.fn p.1)[p.2]? = some n) && decide (T.fn p.1).Nodup) = true) (z : attF T.K cl n te = true) : AtI T n te [] := by
  unfold attF at z
  simp only [Bool.and_eq_true, List.all_eq_true, decide_eq_true_eq] at z hf
  refine ⟨fun p hp => ?_, fun p hp => absurd hp (by simp)⟩
  obtain ⟨⟨⟨⟨z1, z2⟩, z3⟩, z4⟩, z5⟩ := z p hp
  obtain ⟨h1, h2⟩ := hf p hp
  rw [hc]
  exact ⟨h1, h2, ⟨z1, z2, z3, z4⟩, z5⟩
/-- what an except clause's class C says of the classes -/
def exmF (K : PySem.W.Frag) (cl : List Addr) (C : Addr) (tb : List (Nat × Bool)) : Bool := tb.all fun p => decide (PySem.W.exmOne K (.ref ((cl[p.1]?).getD 0)) (.ref C) = some p.2)
theorem lookup_memB {c : Nat} {bb : Bool} : ∀ {l : List (Nat × Bool)}, l.lookup c = some bb → (c, bb) ∈ l
  | [], h => by cases h
  | (k, v) :: r, h => by
    rw [List.lookup_cons] at h
    cases hb : c == k with
    | true =>
      rw [hb] at h
      obtain rfl := beq_iff_eq.mp hb
      cases h
      exact List.mem_cons_self
    | false =>
      rw [hb] at h
      exact List.mem_cons_of_mem _ (lookup_memB h)
theorem exmF_ok {K : PySem.W.Frag} {cl : List Addr} {C : Addr} {tb : List (Nat × Bool)} (z : exmF K cl C tb = true) : ∀ cn bb, tb.lookup cn = some bb → PySem.W.exmOne K (.ref ((cl[cn]?).getD 0)) (.ref C) = some bb := fun cn bb e => by
  unfold exmF at z
  simp only [List.all_eq_true, decide_eq_true_eq] at z
  exact z _ (lookup_memB e)
end HK

/-! HL: what the mirrors give, step by step. -/
namespace HK
open PySem PySem.Spec PySem.Calls PyProof.Rows L2
section
variable {α β : Type}
def Gv (r : Rv α) (Q : α → List Slot → Pen → Prop) : Prop := match r with
  | .ok a e w => Q a e w
  | _ => False
theorem gv_bind {r : Rv α} {k : α → List Slot → Pen → Rv β} {Q : β → List Slot → Pen → Prop} (h : Gv r fun a e w => Gv (k a e w) Q) : Gv (r.bind k) Q := by
  cases r with
  | ok a e w => exact h
  | ex x w => exact h.elim
  | no => exact h.elim
theorem Gv.mono {r : Rv α} {Q Q' : α → List Slot → Pen → Prop} (h : Gv r Q) (k : ∀ a e w, Q a e w → Q' a e w) : Gv r Q' := by
  cases r with
  | ok a e w => exact k _ _ _ h
  | ex x w => exact h.elim
  | no => exact h.elim
theorem Gv.ex {r : Rv α} {Q : α → List Slot → Pen → Prop} (h : Gv r Q) : ∃ a e w, r = .ok a e w ∧ Q a e w := by
  cases r with
  | ok a e w => exact ⟨a, e, w, rfl, h⟩
  | ex x w => exact h.elim
  | no => exact h.elim
theorem gv_of {r : Rv α} {a : α} {e : List Slot} {w : Pen} {Q : α → List Slot → Pen → Prop} (h : r = .ok a e w) (q : Q a e w) : Gv r Q := by
  rw [h]
  exact q
end
def IsD (s : Slot) (d : D) : Prop := s = .fr d ∨ s = .ow d
section
variable {env : List Slot} {w : Pen} {Q : Slot → List Slot → Pen → Prop} {QB : Bool → List Slot → Pen → Prop} {QA : List D → List Slot → Pen → Prop} {QF : Fl → List Slot → Pen → Prop} {fa fb fc : EX} {ta tb : TX} {ra : AX} {f g : SX} {i n : Nat} {d : D}
theorem gv_C (q : Q (.fr d) env w) : Gv (xC d env w) Q := q
theorem gv_V (h : env[i]? = some (.fr d)) (q : Q (.fr d) env w) : Gv (xV i env w) Q := by
  unfold xV
  rw [h]
  exact q
theorem gv_Vd {s : Slot} (h : env[i]? = some s) (hs : IsD s d) (q : Q (.fr d) (env.set i (.fr d)) w) : Gv (xV i env w) Q := by
  rcases hs with rfl | rfl
  · refine gv_V h ?_
    have e : env.set i (.fr d) = env := by
      obtain ⟨hi, z⟩ := List.getElem?_eq_some_iff.mp h
      rw [← z]
      exact List.set_getElem_self hi
    rw [e] at q
    exact q
  · unfold xV
    rw [h]
    exact q
theorem gv_lift {o : Option Slot} {r : Slot} (h : o = some r) (q : Q r env w) : Gv (lift o env w) Q := by
  rw [h]
  exact q
theorem gv_1 {sem : D → Option Slot} (h : Gv (fa env w) fun r e w => Gv (lift (sem r.dat) e w) Q) : Gv (x1 sem fa env w) Q := gv_bind h
theorem gv_2 {sem : D → D → Option Slot} (h : Gv (fa env w) fun r e w => Gv (fb e w) fun q e w => Gv (lift (sem r.dat q.dat) e w) Q) : Gv (x2 sem fa fb env w) Q := gv_bind (h.mono fun _ _ _ z => gv_bind z)
theorem gv_Cl {sem : List D → Option Slot} (h : Gv (ra env w) fun ds e w => Gv (lift (sem ds) e w) Q) : Gv (xCl sem ra env w) Q := gv_bind h
theorem gv_N (q : QA [] env w) : Gv (aN env w) QA := q
theorem gv_aC (h : Gv (fa env w) fun r e w => Gv (ra e w) fun ds e w => QA (r.dat :: ds) e w) : Gv (aC fa ra env w) QA := gv_bind (h.mono fun _ _ _ z => gv_bind z)
theorem gv_F {m : FX} {dds : List D} (h : Gv (ra env w) fun ds e w => (ds ++ dds).length = n ∧ Gv (m (ds ++ dds) w) fun r _ w => Q r e w) : Gv (xF n m dds ra env w) Q := gv_bind (h.mono fun ds e w ⟨hl, z⟩ => by
  show Gv (if (ds ++ dds).length = n then liftF (m (ds ++ dds) w) e w else .no) Q
  rw [if_pos hl]
  obtain ⟨a, e1, w1, z1, z2⟩ := z.ex
  rw [z1]
  exact z2)
theorem gv_FK {m : FX} {np nk : Nat} {ix : List Nat} {fk : AX} (h : Gv (ra env w) fun ds e w => Gv (fk e w) fun zs e w => (ds.length = np ∧ zs.length = nk ∧ (pickL ix (ds ++ zs)).length = n) ∧ Gv (m (pickL ix (ds ++ zs)) w) fun r _ w => Q r e w) : Gv (xFK n np nk ix m ra fk env w) Q :=
  gv_bind (h.mono fun ds e w z => gv_bind (z.mono fun zs e w ⟨hl, z⟩ => by
    show Gv (if ds.length = np ∧ zs.length = nk ∧ (pickL ix (ds ++ zs)).length = n then liftF (m (pickL ix (ds ++ zs)) w) e w else .no) Q
    rw [if_pos hl]
    obtain ⟨a, e1, w1, z1, z2⟩ := z.ex
    rw [z1]
    exact z2))
theorem gv_An (h : Gv (fa env w) fun r e w => ∃ b, r.dat = .bl b ∧ (b = true → Gv (fb e w) Q) ∧ (b = false → Q (.fr (.bl false)) e w)) : Gv (xAn fa fb env w) Q := gv_bind (h.mono fun r e w ⟨b, hb, h1, h2⟩ => by
  show Gv (match r.dat with
    | .bl true => fb e w
    | .bl false => .ok (.fr (.bl false)) e w
    | _ => .no) Q
  rw [hb]
  cases b with
  | true => exact h1 rfl
  | false => exact h2 rfl)
theorem gv_Or (h : Gv (fa env w) fun r e w => ∃ b, r.dat = .bl b ∧ (b = true → Q (.fr (.bl true)) e w) ∧ (b = false → Gv (fb e w) Q)) : Gv (xOr fa fb env w) Q := gv_bind (h.mono fun r e w ⟨b, hb, h1, h2⟩ => by
  show Gv (match r.dat with
    | .bl true => .ok (.fr (.bl true)) e w
    | .bl false => fb e w
    | _ => .no) Q
  rw [hb]
  cases b with
  | true => exact h1 rfl
  | false => exact h2 rfl)
theorem gv_Bl (h : Gv (fa env w) fun r e w => ∃ b, r.dat = .bl b ∧ QB b e w) : Gv (tBl fa env w) QB := gv_bind (h.mono fun r e w ⟨b, hb, z⟩ => by
  show Gv (liftB (isB r.dat) e w) QB
  rw [hb]
  exact z)
theorem gv_Tr (h : Gv (fa env w) fun r e w => ∃ b, truthD r.dat = some b ∧ QB b e w) : Gv (tTr fa env w) QB := gv_bind (h.mono fun r e w ⟨b, hb, z⟩ => by
  show Gv (liftB (truthD r.dat) e w) QB
  rw [hb]
  exact z)
theorem gv_Nt (h : Gv (ta env w) fun b e w => QB (!b) e w) : Gv (tNt ta env w) QB := gv_bind h
theorem gv_tAn (h : Gv (ta env w) fun b e w => (b = true → Gv (tb e w) QB) ∧ (b = false → QB false e w)) : Gv (tAn ta tb env w) QB := gv_bind (h.mono fun b e w ⟨h1, h2⟩ => by
  cases b with
  | true => exact h1 rfl
  | false => exact h2 rfl)
theorem gv_tOr (h : Gv (ta env w) fun b e w => (b = true → QB true e w) ∧ (b = false → Gv (tb e w) QB)) : Gv (tOrx ta tb env w) QB := gv_bind (h.mono fun b e w ⟨h1, h2⟩ => by
  cases b with
  | true => exact h1 rfl
  | false => exact h2 rfl)
theorem gv_If (h : Gv (ta env w) fun b e w => (b = true → Gv (fa e w) Q) ∧ (b = false → Gv (fb e w) Q)) : Gv (xIf ta fa fb env w) Q := gv_bind (h.mono fun b e w ⟨h1, h2⟩ => by
  cases b with
  | true => exact h1 rfl
  | false => exact h2 rfl)
theorem gv_I (h : Gv (ta env w) fun b e w => (b = true → Gv (f e w) QF) ∧ (b = false → Gv (g e w) QF)) : Gv (sI ta f g env w) QF := gv_bind (h.mono fun b e w ⟨h1, h2⟩ => by
  cases b with
  | true => exact h1 rfl
  | false => exact h2 rfl)
theorem gv_sN (q : QF .nx env w) : Gv (sN env w) QF := q
theorem gv_Q (h : Gv (f env w) fun fl e w => match fl with
    | .nx => Gv (g e w) QF
    | o => QF o e w) : Gv (sQ f g env w) QF := gv_bind (h.mono fun fl e w z => by
  cases fl with
  | nx => exact z
  | _ => exact z)
theorem gv_A (h : Gv (fa env w) fun r e w => QF .nx (e.set i r) w) : Gv (sA i fa env w) QF := gv_bind h
theorem gv_R (h : Gv (fa env w) fun r e w => QF (.rt r) e w) : Gv (sR fa env w) QF := gv_bind h
theorem gv_Tp (h : Gv (ra env w) fun ds e w => ds.length ≤ LINE ∧ Q (.fr (.tup ds)) e w) : Gv (xTp ra env w) Q := gv_bind (h.mono fun ds e w ⟨hl, z⟩ => by
  show Gv (lift (lineS ds (.fr (.tup ds))) e w) Q
  unfold lineS
  rw [if_pos hl]
  exact z)
theorem gv_Ls (h : Gv (ra env w) fun ds e w => ds.length ≤ LINE ∧ Q (.ow (.lst ds)) e w) : Gv (xLs ra env w) Q := gv_bind (h.mono fun ds e w ⟨hl, z⟩ => by
  show Gv (lift (lineS ds (.ow (.lst ds))) e w) Q
  unfold lineS
  rw [if_pos hl]
  exact z)
theorem gv_iV (h : Gv (fa env w) fun r e w => ∃ ds, walkD r.dat = some ds ∧ QA ds e w) : Gv (iV fa env w) QA := gv_bind (h.mono fun r e w ⟨ds, hd, z⟩ => by
  show Gv (liftA (walkD r.dat) e w) QA
  rw [hd]
  exact z)
theorem gv_iR1 (h : Gv (ra env w) fun ds e w => ∃ xs, range1D ds = some xs ∧ QA xs e w) : Gv (iR1 ra env w) QA := gv_bind (h.mono fun r e w ⟨ds, hd, z⟩ => by
  show Gv (liftA (range1D r) e w) QA
  rw [hd]
  exact z)
theorem gv_Get {fo fk fx : EX} (h : Gv (fo env w) fun r e w => ∃ p, isDict r.dat = some p ∧ Gv (fk e w) fun k e w => Gv (fx e w) fun x e w => Gv (lift (get3 p.1 p.2 k.dat x.dat) e w) Q) : Gv (xGet fo fk fx env w) Q := gv_bind (h.mono fun r e w ⟨p, hp, z⟩ => by
  show Gv (match isDict r.dat with
    | some p => (fk e w).bind fun k env w => (fx env w).bind fun x env w => lift (get3 p.1 p.2 k.dat x.dat) env w
    | none => .no) Q
  rw [hp]
  exact gv_bind (z.mono fun _ _ _ z => gv_bind z))
theorem gv_Jn (h : Gv (fa env w) fun r e w => ∃ s, r.dat = .str s ∧ Gv (fb e w) fun q e w => Gv (lift (joinD s q.dat) e w) Q) : Gv (xJn fa fb env w) Q := gv_bind (h.mono fun r e w ⟨s, hs, z⟩ => by
  show Gv (match r.dat with
    | .str s => (fb e w).bind fun q env w => lift (joinD s q.dat) env w
    | _ => .no) Q
  rw [hs]
  exact gv_bind z)
theorem gv_Pg {k : Nat} {x : D} (h : env[i]? = some (.fr .pen)) (hx : penAt w k = some x) (q : Q (.fr x) env w) : Gv (xPg i k env w) Q := by
  unfold xPg
  rw [h]
  show Gv (lift ((penAt w k).map .fr) env w) Q
  rw [hx]
  exact q
theorem gv_Ps {k : Nat} (h : Gv (fa env w) fun r e w => ∃ v w', r.dat = .int v ∧ e[i]? = some (.fr .pen) ∧ penPut w k v = some w' ∧ QF .nx e w') : Gv (sPs i k fa env w) QF := gv_bind (h.mono fun r e w ⟨v, w', hv, he, hp, z⟩ => by
  show Gv (match r.dat, e[i]? with
    | .int v, some (.fr .pen) => match penPut w k v with
      | some w' => .ok .nx e w'
      | none => .no
    | _, _ => .no) QF
  rw [hv, he]
  show Gv (match penPut w k v with
      | some w' => Rv.ok .nx e w'
      | none => .no) QF
  rw [hp]
  exact z)
theorem gv_run {ds : List D} {m : Nat} (h : Gv (f (slots m ds) w) fun fl _ w => match fl with
    | .nx => Q (.fr .non) [] w
    | .rt r => Q r [] w
    | _ => False) : Gv (runB m f ds w) Q := gv_bind (h.mono fun fl e w z => by
  cases fl with
  | nx => exact z
  | rt r => exact z
  | bk => exact z.elim
  | ct => exact z.elim)
theorem gv_run2 {ds : List D} {m : Nat} {r : Slot} (h : Gv (f (slots m ds) w) fun fl _ w' => fl = .rt r ∧ w' = w) : runB m f ds w = .ok r [] w := by
  obtain ⟨fl, e, w', h1, rfl, rfl⟩ := h.ex
  unfold runB
  rw [h1]
  rfl
theorem gv_Ch {sem sem' : D → D → Option Slot} (h : Gv (fa env w) fun r e w => Gv (fb e w) fun q e w => ∃ b, sem r.dat q.dat = some (.fr (.bl b)) ∧ (b = true → Gv (fc e w) fun u e w => Gv (lift (sem' q.dat u.dat) e w) Q) ∧ (b = false → Q (.fr (.bl false)) e w)) : Gv (xCh sem sem' fa fb fc env w) Q :=
  gv_bind (h.mono fun r e w z => gv_bind (z.mono fun q e w ⟨b, hb, h1, h2⟩ => by
    show Gv (match sem r.dat q.dat with
      | some (.fr (.bl true)) => (fc e w).bind fun u env w => lift (sem' q.dat u.dat) env w
      | some (.fr (.bl false)) => .ok (.fr (.bl false)) e w
      | _ => .no) Q
    rw [hb]
    cases b with
    | true => exact gv_bind (h1 rfl)
    | false => exact h2 rfl))
end
/-! ### walks -/
inductive All2 {α β : Type} (V : α → β → Prop) : List α → List β → Prop where
  | nil : All2 V [] []
  | cons {a b as bs} : V a b → All2 V as bs → All2 V (a :: as) (b :: bs)
theorem All2.length {α β : Type} {V : α → β → Prop} {as : List α} {bs : List β} (h : All2 V as bs) : as.length = bs.length := by
  induction h with
  | nil => rfl
  | cons _ _ ih => rw [List.length_cons, List.length_cons, ih]
section
variable {I : Nat → Pen → Prop} {J : List Slot → Prop} {V : D → D → Prop} {c i : Nat} {tst : TX} {fe : EX} {it : IX}
/-- a comprehension over one name, with a test -/
theorem gv_lcX (hJ : ∀ e s, J e → J (e.set i s)) : ∀ {ds : List D} {n N : Nat} {env : List Slot} {w : Pen}, n + c * ds.length ≤ N → J env → frozenAt env i = true → i < env.length → I n w →
    (∀ d ∈ ds, ∀ n w e, n + c ≤ N → J e → e[i]? = some (.fr d) → I n w → Gv (tst e w) fun k e1 w1 => J e1 ∧ e1[i]? = some (.fr d) ∧ if k = true then Gv (fe e1 w1) fun r e2 w2 => J e2 ∧ e2[i]? = some (.fr d) ∧ I (n + c) w2 ∧ V d r.dat else I (n + c) w1) →
    Gv (lcX [i] (gN i) tst fe ds env w) fun rs e w' => J e ∧ frozenAt e i = true ∧ i < e.length ∧ I (n + c * ds.length) w' ∧ ∃ ds', ds'.Sublist ds ∧ All2 V ds' rs
  | [], n, N, env, w, hN, j, fz, hi, iw, h => ⟨j, fz, hi, by simpa using iw, [], List.Sublist.refl _, .nil⟩
  | d :: ds, n, N, env, w, hN, j, fz, hi, iw, h => by
    unfold lcX
    rw [if_pos (by simp [fz])]
    have j1 : J ((wipeE env [i]).set i (.fr d)) := hJ _ _ (hJ _ _ j)
    have e1 : ((wipeE env [i]).set i (.fr d))[i]? = some (.fr d) := by
      unfold wipeE wipeE
      rw [List.getElem?_set_self (by rw [List.length_set]; exact hi)]
    rw [List.length_cons, Nat.mul_add, Nat.mul_one] at hN
    obtain ⟨k, e2, w2, z, j2, f2, z2⟩ := (h d List.mem_cons_self n w _ (by omega) j1 e1 iw).ex
    have frz : ∀ {e : List Slot}, e[i]? = some (.fr d) → frozenAt e i = true ∧ i < e.length := fun {e} q => ⟨by unfold frozenAt; rw [q], (List.getElem?_eq_some_iff.mp q).1⟩
    show Gv ((noex (tst ((wipeE env [i]).set i (.fr d)) w)).bind _) _
    rw [z]
    show Gv (if k = true then _ else _) _
    have more : ∀ d' ∈ ds, ∀ n w e, n + c ≤ N → J e → e[i]? = some (.fr d') → I n w → _ := fun d' hd' => h d' (List.mem_cons_of_mem _ hd')
    cases k with
    | true =>
      rw [if_pos rfl] at z2 ⊢
      obtain ⟨r, e3, w3, z3, j3, f3, i3, v3⟩ := z2.ex
      rw [z3]
      have ih := gv_lcX hJ (ds := ds) (n := n + c) (N := N) (by omega) j3 (frz f3).1 (frz f3).2 i3 more
      show Gv ((lcX [i] (gN i) tst fe ds e3 w3).bind fun rs e w => .ok (r.dat :: rs) e w) _
      refine gv_bind (ih.mono fun rs e w' ⟨q1, q2, q3, q4, ds', q5, q6⟩ => ⟨q1, q2, q3, ?_, d :: ds', q5.cons_cons d, .cons v3 q6⟩)
      rw [List.length_cons, Nat.mul_add, Nat.mul_one]
      have e : n + (c * ds.length + c) = n + c + c * ds.length := by omega
      rw [e]
      exact q4
    | false =>
      rw [if_neg Bool.false_ne_true] at z2 ⊢
      have ih := gv_lcX hJ (ds := ds) (n := n + c) (N := N) (by omega) j2 (frz f2).1 (frz f2).2 z2 more
      refine ih.mono fun rs e w' ⟨q1, q2, q3, q4, ds', q5, q6⟩ => ⟨q1, q2, q3, ?_, ds', q5.cons d, q6⟩
      rw [List.length_cons, Nat.mul_add, Nat.mul_one]
      have e : n + (c * ds.length + c) = n + c + c * ds.length := by omega
      rw [e]
      exact q4
/-- .. without a test -/
theorem gv_lcT (hJ : ∀ e s, J e → J (e.set i s)) : ∀ {ds : List D} {n N : Nat} {env : List Slot} {w : Pen}, n + c * ds.length ≤ N → J env → frozenAt env i = true → i < env.length → I n w →
    (∀ d ∈ ds, ∀ n w e, n + c ≤ N → J e → e[i]? = some (.fr d) → I n w → Gv (fe e w) fun r e2 w2 => J e2 ∧ e2[i]? = some (.fr d) ∧ I (n + c) w2 ∧ V d r.dat) →
    Gv (lcX [i] (gN i) tT fe ds env w) fun rs e w' => J e ∧ frozenAt e i = true ∧ i < e.length ∧ I (n + c * ds.length) w' ∧ All2 V ds rs
  | [], n, N, env, w, hN, j, fz, hi, iw, h => ⟨j, fz, hi, by simpa using iw, .nil⟩
  | d :: ds, n, N, env, w, hN, j, fz, hi, iw, h => by
    unfold lcX
    rw [if_pos (by simp [fz])]
    have j1 : J ((wipeE env [i]).set i (.fr d)) := hJ _ _ (hJ _ _ j)
    have e1 : ((wipeE env [i]).set i (.fr d))[i]? = some (.fr d) := by
      unfold wipeE wipeE
      rw [List.getElem?_set_self (by rw [List.length_set]; exact hi)]
    rw [List.length_cons, Nat.mul_add, Nat.mul_one] at hN
    obtain ⟨r, e3, w3, z3, j3, f3, i3, v3⟩ := (h d List.mem_cons_self n w _ (by omega) j1 e1 iw).ex
    have frz : ∀ {e : List Slot}, e[i]? = some (.fr d) → frozenAt e i = true ∧ i < e.length := fun {e} q => ⟨by unfold frozenAt; rw [q], (List.getElem?_eq_some_iff.mp q).1⟩
    show Gv ((noex (fe ((wipeE env [i]).set i (.fr d)) w)).bind _) _
    rw [z3]
    have more : ∀ d' ∈ ds, ∀ n w e, n + c ≤ N → J e → e[i]? = some (.fr d') → I n w → _ := fun d' hd' => h d' (List.mem_cons_of_mem _ hd')
    have ih := gv_lcT hJ (ds := ds) (n := n + c) (N := N) (by omega) j3 (frz f3).1 (frz f3).2 i3 more
    show Gv ((lcX [i] (gN i) tT fe ds e3 w3).bind fun rs e w => .ok (r.dat :: rs) e w) _
    refine gv_bind (ih.mono fun rs e w' ⟨q1, q2, q3, q4, q6⟩ => ⟨q1, q2, q3, ?_, .cons v3 q6⟩)
    rw [List.length_cons, Nat.mul_add, Nat.mul_one]
    have e : n + (c * ds.length + c) = n + c + c * ds.length := by omega
    rw [e]
    exact q4
theorem ice_J (hJ : ∀ e s, J e → J (e.set i s)) {env : List Slot} (j : J env) : J (iceE env [i]) ∧ frozenAt (iceE env [i]) i = true ∧ (iceE env [i]).length = env.length := by
  unfold iceE
  show J (match env[i]? with
    | some (.ow d) => env.set i (.fr d)
    | _ => env) ∧ _
  cases e : env[i]? with
  | none =>
    refine ⟨j, ?_, ?_⟩
    · show frozenAt (match env[i]? with
        | some (.ow d) => env.set i (.fr d)
        | _ => env) i = true
      rw [e]
      unfold frozenAt
      rw [e]
    · show (match env[i]? with
        | some (.ow d) => env.set i (.fr d)
        | _ => env).length = env.length
      rw [e]
  | some s =>
    cases s with
    | ow d =>
      refine ⟨hJ _ _ j, ?_, ?_⟩
      · show frozenAt (match env[i]? with
          | some (.ow d) => env.set i (.fr d)
          | _ => env) i = true
        rw [e]
        show frozenAt (env.set i (.fr d)) i = true
        unfold frozenAt
        rw [List.getElem?_set_self (List.getElem?_eq_some_iff.mp e).1]
      · show (match env[i]? with
          | some (.ow d) => env.set i (.fr d)
          | _ => env).length = env.length
        rw [e]
        exact List.length_set
    | fr d =>
      refine ⟨j, ?_, ?_⟩
      · show frozenAt (match env[i]? with
          | some (.ow d) => env.set i (.fr d)
          | _ => env) i = true
        rw [e]
        unfold frozenAt
        rw [e]
      · show (match env[i]? with
          | some (.ow d) => env.set i (.fr d)
          | _ => env).length = env.length
        rw [e]
    | no =>
      refine ⟨j, ?_, ?_⟩
      · show frozenAt (match env[i]? with
          | some (.ow d) => env.set i (.fr d)
          | _ => env) i = true
        rw [e]
        unfold frozenAt
        rw [e]
      · show (match env[i]? with
          | some (.ow d) => env.set i (.fr d)
          | _ => env).length = env.length
        rw [e]
theorem rest_J (hJ : ∀ e s, J e → J (e.set i s)) {e2 e1 : List Slot} (j : J e2) : J (restE (wipeE e2 [i]) e1 [i]) := by
  have j1 : J (wipeE e2 [i]) := hJ _ _ j
  unfold restE
  cases e1[i]? with
  | none => exact j1
  | some s => exact hJ _ _ j1
/-- [fe for i in it if tst] -/
theorem gv_Lc {Q : Slot → List Slot → Pen → Prop} {env : List Slot} {w : Pen} {n N : Nat} (hJ : ∀ e s, J e → J (e.set i s))
    (hit : Gv (it env w) fun ds e w => J e ∧ i < e.length ∧ I n w ∧ ds.length ≤ LINE ∧ n + c * ds.length ≤ N ∧
      (∀ d ∈ ds, ∀ n w e, n + c ≤ N → J e → e[i]? = some (.fr d) → I n w → Gv (tst e w) fun k e1 w1 => J e1 ∧ e1[i]? = some (.fr d) ∧ if k = true then Gv (fe e1 w1) fun r e2 w2 => J e2 ∧ e2[i]? = some (.fr d) ∧ I (n + c) w2 ∧ V d r.dat else I (n + c) w1) ∧
      ∀ ds' rs e w', ds'.Sublist ds → All2 V ds' rs → J e → I (n + c * ds.length) w' → Q (.ow (.lst rs)) e w') : Gv (xLc [i] it (gN i) tst fe env w) Q := gv_bind (hit.mono fun ds e w ⟨j, hi, iw, hl, hN, h, q⟩ => by
  show Gv (if [i].all (fun i => decide (i < e.length)) = true ∧ ds.length ≤ LINE then _ else _) Q
  rw [if_pos ⟨by simp [hi], hl⟩]
  obtain ⟨j1, f1, l1⟩ := ice_J hJ j
  refine gv_bind ((gv_lcX hJ hN j1 f1 (by rw [l1]; exact hi) iw h).mono fun rs e2 w2 ⟨q1, q2, q3, q4, ds', q5, q6⟩ => ?_)
  show Gv (if [i].all (frozenAt e2) = true then _ else _) Q
  rw [if_pos (by simp [q2])]
  exact q ds' rs _ w2 q5 q6 (rest_J hJ q1) q4)
/-- [fe for i in it] -/
theorem gv_Lt {Q : Slot → List Slot → Pen → Prop} {env : List Slot} {w : Pen} {n N : Nat} (hJ : ∀ e s, J e → J (e.set i s))
    (hit : Gv (it env w) fun ds e w => J e ∧ i < e.length ∧ I n w ∧ ds.length ≤ LINE ∧ n + c * ds.length ≤ N ∧
      (∀ d ∈ ds, ∀ n w e, n + c ≤ N → J e → e[i]? = some (.fr d) → I n w → Gv (fe e w) fun r e2 w2 => J e2 ∧ e2[i]? = some (.fr d) ∧ I (n + c) w2 ∧ V d r.dat) ∧
      ∀ rs e w', All2 V ds rs → J e → I (n + c * ds.length) w' → Q (.ow (.lst rs)) e w') : Gv (xLc [i] it (gN i) tT fe env w) Q := gv_bind (hit.mono fun ds e w ⟨j, hi, iw, hl, hN, h, q⟩ => by
  show Gv (if [i].all (fun i => decide (i < e.length)) = true ∧ ds.length ≤ LINE then _ else _) Q
  rw [if_pos ⟨by simp [hi], hl⟩]
  obtain ⟨j1, f1, l1⟩ := ice_J hJ j
  refine gv_bind ((gv_lcT hJ hN j1 f1 (by rw [l1]; exact hi) iw h).mono fun rs e2 w2 ⟨q1, q2, q3, q4, q6⟩ => ?_)
  show Gv (if [i].all (frozenAt e2) = true then _ else _) Q
  rw [if_pos (by simp [q2])]
  exact q rs _ w2 q6 (rest_J hJ q1) q4)
end
/-! ### loops -/
theorem gv_loop {J : Nat → List Slot → Pen → Prop} {set : GX} {body : SX} {QF : Fl → List Slot → Pen → Prop} : ∀ {ds : List D} {j : Nat} {env : List Slot} {w : Pen}, J j env w →
    (∀ k d, ds[k]? = some d → ∀ env w, J (j + k) env w → ∃ env1, set d env = some env1 ∧ Gv (body env1 w) fun fl e w => fl = .nx ∧ J (j + k + 1) e w) → (∀ env w, J (j + ds.length) env w → QF .nx env w) → Gv (loopX set body ds env w) QF
  | [], j, env, w, jj, h, q => q env w jj
  | d :: ds, j, env, w, jj, h, q => by
    obtain ⟨env1, e1, z⟩ := h 0 d rfl env w jj
    unfold loopX
    rw [e1]
    refine gv_bind (z.mono fun fl e w ⟨hf, j'⟩ => ?_)
    subst hf
    refine gv_loop (ds := ds) (j := j + 1) j' (fun k d' hk env w jk => ?_) (fun env w jk => q env w ?_)
    · have e : j + 1 + k = j + (k + 1) := by omega
      rw [e] at jk ⊢
      exact h (k + 1) d' (by simpa using hk) env w jk
    · rw [List.length_cons]
      have e : j + (ds.length + 1) = j + 1 + ds.length := by omega
      rw [e]
      exact jk
theorem gv_sF {J : Nat → List Slot → Pen → Prop} {it : IX} {set : GX} {body : SX} {env : List Slot} {w : Pen} {QF : Fl → List Slot → Pen → Prop} (hit : Gv (it env w) fun ds e w => J 0 e w ∧
    (∀ k d, ds[k]? = some d → ∀ env w, J k env w → ∃ env1, set d env = some env1 ∧ Gv (body env1 w) fun fl e w => fl = .nx ∧ J (k + 1) e w) ∧ (∀ env w, J ds.length env w → QF .nx env w)) : Gv (sF it set body env w) QF :=
  gv_bind (hit.mono fun ds e w ⟨j, h, q⟩ => gv_loop (j := 0) j (fun k d hk env w jk => by
    rw [Nat.zero_add] at jk ⊢
    exact h k d hk env w jk) (fun env w jk => q env w (by rw [Nat.zero_add] at jk; exact jk)))
end HK

/-! HLb: operations with a condition. -/
namespace HK
open PySem PySem.Spec PySem.Calls PyProof.Rows L2
section
variable {env : List Slot} {w : Pen} {Q : Slot → List Slot → Pen → Prop} {QF : Fl → List Slot → Pen → Prop} {i j : Int} {k : Nat} {fa : EX}
theorem gv_mod (h : 0 < j) (q : Q (.fr (.int (i % j))) env w) : Gv (lift (modD (.int i) (.int j)) env w) Q := gv_lift (if_pos h) q
theorem gv_fdiv (h : 0 < j) (h2 : j < 1073741824) (q : Q (.fr (.int (i / j))) env w) : Gv (lift (fdivD (.int i) (.int j)) env w) Q := gv_lift (if_pos ⟨h, h2⟩) q
theorem gv_pow (h : 0 ≤ j) (h2 : j ≤ 1000000) (h3 : i.natAbs < 2 ^ 64) (q : Q (.fr (.int (i ^ j.toNat))) env w) : Gv (lift (powD (.int i) (.int j)) env w) Q := gv_lift (if_pos ⟨h, h2, h3⟩) q
theorem small64_of (h : -(2 ^ 64) < i) (h2 : i < 2 ^ 64) : small64 i = true := by
  unfold small64
  simp only [Bool.and_eq_true, decide_eq_true_eq]
  exact ⟨h, h2⟩
theorem gv_mulL (h : -(2 ^ 64) < i) (h2 : i < 2 ^ 64) (q : Q (.fr (.int (i * j))) env w) : Gv (lift (mulSD (.int i) (.int j)) env w) Q := gv_lift (if_pos (by rw [small64_of h h2]; rfl)) q
theorem gv_mulR (h : -(2 ^ 64) < j) (h2 : j < 2 ^ 64) (q : Q (.fr (.int (i * j))) env w) : Gv (lift (mulSD (.int i) (.int j)) env w) Q := gv_lift (if_pos (by rw [small64_of h h2, Bool.or_true])) q
theorem gv_mod' {d e : D} (hd : d = .int i) (he : e = .int j) (h : 0 < j) (q : Q (.fr (.int (i % j))) env w) : Gv (lift (modD d e) env w) Q := by subst hd he; exact gv_mod h q
theorem gv_fdiv' {d e : D} (hd : d = .int i) (he : e = .int j) (h : 0 < j) (h2 : j < 1073741824) (q : Q (.fr (.int (i / j))) env w) : Gv (lift (fdivD d e) env w) Q := by subst hd he; exact gv_fdiv h h2 q
theorem gv_mulL' {d e : D} (hd : d = .int i) (he : e = .int j) (h : -(2 ^ 64) < i) (h2 : i < 2 ^ 64) (q : Q (.fr (.int (i * j))) env w) : Gv (lift (mulSD d e) env w) Q := by subst hd he; exact gv_mulL h h2 q
theorem gv_mulR' {d e : D} (hd : d = .int i) (he : e = .int j) (h : -(2 ^ 64) < j) (h2 : j < 2 ^ 64) (q : Q (.fr (.int (i * j))) env w) : Gv (lift (mulSD d e) env w) Q := by subst hd he; exact gv_mulR h h2 q
theorem gv_Ps' (h : Gv (fa env w) fun r e w => ∃ v, r.dat = .int v ∧ e[k]? = some (.fr .pen) ∧ 0 ≤ v ∧ QF .nx e { w with at_ := v.toNat }) : Gv (sPs k 1 fa env w) QF := gv_Ps (h.mono fun r e w ⟨v, h1, h2, h3, h4⟩ => ⟨v, _, h1, h2, if_pos h3, h4⟩)
theorem gv_Pt' (h : Gv (fa env w) fun r e w => ∃ v, r.dat = .int v ∧ e[k]? = some (.fr .pen) ∧ 0 ≤ v ∧ QF .nx e { w with great := v.toNat }) : Gv (sPs k 2 fa env w) QF := gv_Ps (h.mono fun r e w ⟨v, h1, h2, h3, h4⟩ => ⟨v, _, h1, h2, if_pos h3, h4⟩)
theorem ne_int {i j : Int} : neD (.int i) (.int j) = some (.fr (.bl (!decide (i = j)))) := by
  unfold neD eqP toPy
  simp only [show (SeqAt.shaped (.int i) && SeqAt.shaped (.int j)) = true by with_unfolding_all rfl, if_true]
  congr 1
  show Slot.fr (.bl (true ^^ PyData.eqv (.int i) (.int j))) = _
  rw [show PyData.eqv (.int i) (.int j) = (i == j) by with_unfolding_all rfl]
  by_cases h : i = j
  · subst h
    simp
  · simp [h]
theorem eq_int {i j : Int} : eqD (.int i) (.int j) = some (.fr (.bl (decide (i = j)))) := by
  unfold eqD eqP toPy
  simp only [show (SeqAt.shaped (.int i) && SeqAt.shaped (.int j)) = true by with_unfolding_all rfl, if_true]
  congr 1
  show Slot.fr (.bl (false ^^ PyData.eqv (.int i) (.int j))) = _
  rw [show PyData.eqv (.int i) (.int j) = (i == j) by with_unfolding_all rfl]
  by_cases h : i = j
  · subst h
    simp
  · simp [h]
end
end HK

/-! HLc: the pen's cells. -/
namespace HK
open PySem PySem.Spec PySem.Calls PyProof.Rows L2
theorem toPys_ints : ∀ ns : List Int, toPys (ns.map .int) = some (ns.map PyData.int)
  | [] => by unfold toPys; rfl
  | n :: ns => by
    show toPys (.int n :: ns.map .int) = _
    unfold toPys
    rw [toPys_ints ns]
    unfold toPy
    rfl
theorem eqP_of {neg : Bool} {p q : PyData} (h1 : SeqAt.shaped p = true) (h2 : SeqAt.shaped q = true) : eqP neg (some p) (some q) = some (.fr (.bl (neg ^^ PyData.eqv p q))) := by
  show (if (SeqAt.shaped p && SeqAt.shaped q) = true then some (Slot.fr (.bl (neg ^^ PyData.eqv p q))) else none) = _
  rw [h1, h2]
  rfl
theorem ne_cells (ns : List Int) : neD (.lst (ns.map .int)) (.lst []) = some (.fr (.bl (!ns.isEmpty))) := by
  have h1 : toPy (.lst (ns.map .int)) = some (.list (ns.map PyData.int)) := by
    unfold toPy
    rw [toPys_ints]
    rfl
  have h2 : toPy (.lst []) = some (.list (([] : List Int).map PyData.int)) := by
    unfold toPy toPys
    rfl
  unfold neD
  rw [h1, h2, eqP_of (PySem.W.ke_shaped_ints _) (PySem.W.ke_shaped_ints _)]
  cases ns with
  | nil => with_unfolding_all rfl
  | cons n r => with_unfolding_all rfl
theorem atI_mod {ns : List Int} {k : Nat} (h : ns ≠ []) : ∃ c : Int, atI (ns.map D.int) ((k : Int) % (ns.length : Nat)) = some (.int c) := by
  have hl : 0 < ns.length := List.length_pos_iff.mpr h
  have h1 : (0 : Int) ≤ (k : Int) % (ns.length : Nat) := Int.emod_nonneg _ (by omega)
  have h2 : (k : Int) % (ns.length : Nat) < (ns.length : Nat) := Int.emod_lt_of_pos _ (by omega)
  obtain ⟨j, hj⟩ : ∃ j : Nat, (k : Int) % (ns.length : Nat) = j := ⟨((k : Int) % (ns.length : Nat)).toNat, by omega⟩
  rw [hj] at h2 ⊢
  have h3 : j < ns.length := by omega
  refine ⟨ns[j], ?_⟩
  unfold atI ixN
  rw [List.length_map, if_pos (by omega), if_pos h2]
  show (ns.map D.int)[(j : Int).toNat]? = _
  rw [Int.toNat_natCast, List.getElem?_map, List.getElem?_eq_getElem h3]
  rfl
end HK

/-! HLd: slots that hold data; lists of choices. -/
namespace HK
open PySem PySem.Spec PySem.Calls PyProof.Rows L2
def At (e : List Slot) (i : Nat) (d : D) : Prop := ∃ s, e[i]? = some s ∧ IsD s d
theorem At.ne {e : List Slot} {i j : Nat} {d : D} {s : Slot} (h : At e i d) (n : j ≠ i) : At (e.set j s) i d := by
  obtain ⟨t, h1, h2⟩ := h
  exact ⟨t, by rw [List.getElem?_set_ne n]; exact h1, h2⟩
theorem At.same {e : List Slot} {i : Nat} {d : D} {s : Slot} (h : i < e.length) (n : IsD s d) : At (e.set i s) i d := ⟨s, List.getElem?_set_self h, n⟩
theorem IsD.uniq {s : Slot} {d d' : D} (h : IsD s d) (k : IsD s d') : d = d' := by
  rcases h with rfl | rfl <;> rcases k with k | k <;> cases k <;> rfl
theorem At.read {e : List Slot} {i j : Nat} {d d' : D} (h : At e i d) (k : At e j d') : At (e.set j (.fr d')) i d := by
  by_cases n : j = i
  · subst n
    obtain ⟨s, h1, h2⟩ := h
    obtain ⟨t, k1, k2⟩ := k
    rw [h1] at k1
    cases k1
    have := h2.uniq k2
    subst this
    exact .same (List.getElem?_eq_some_iff.mp h1).1 (.inl rfl)
  · exact h.ne n
structure Has (n : Nat) (ls : List (Nat × D)) (e : List Slot) : Prop where
  len : e.length = n
  at_ : ∀ p ∈ ls, At e p.1 p.2
section
variable {n i j : Nat} {ls ls' : List (Nat × D)} {e : List Slot} {d : D} {s : Slot}
theorem Has.set (h : Has n ls e) (k : ls.all (fun p => p.1 != j) = true) : Has n ls (e.set j s) := ⟨by rw [List.length_set]; exact h.len, fun p hp => (h.at_ p hp).ne fun z => by
  have := List.all_eq_true.mp k p hp
  simp [z] at this⟩
theorem Has.put (h : Has n ls e) (hj : j < n) (hs : IsD s d) (k : ls.all (fun p => p.1 != j) = true) : Has n ((j, d) :: ls) (e.set j s) := ⟨by rw [List.length_set]; exact h.len, fun p hp => by
  rcases List.mem_cons.mp hp with rfl | hp
  · exact .same (by rw [h.len]; exact hj) hs
  · exact (h.set k).at_ p hp⟩
theorem Has.sub (h : Has n ls e) (k : ∀ p ∈ ls', p ∈ ls) : Has n ls' e := ⟨h.len, fun p hp => h.at_ p (k p hp)⟩
theorem Has.read (h : Has n ls e) (k : At e j d) : Has n ls (e.set j (.fr d)) := ⟨by rw [List.length_set]; exact h.len, fun p hp => (h.at_ p hp).read k⟩
theorem gv_H {w : Pen} {Q : Slot → List Slot → Pen → Prop} (h : Has n ls e) (k : (i, d) ∈ ls) (q : Has n ls (e.set i (.fr d)) → Q (.fr d) (e.set i (.fr d)) w) : Gv (xV i e w) Q := by
  obtain ⟨t, h1, h2⟩ := h.at_ _ k
  exact gv_Vd h1 h2 (q (h.read (h.at_ _ k)))
end
/-! ### lists of choices -/
def subs {α : Type} : List α → List (List α)
  | [] => [[]]
  | x :: xs => subs xs ++ (subs xs).map (x :: ·)
theorem subs_mem {α : Type} {s l : List α} (h : s.Sublist l) : s ∈ subs l := by
  induction h with
  | slnil => simp [subs]
  | cons a _ ih => unfold subs; exact List.mem_append.mpr (.inl ih)
  | cons_cons a _ ih => unfold subs; exact List.mem_append.mpr (.inr (List.mem_map.mpr ⟨_, ih, rfl⟩))
theorem map_each {α β : Type} {f g : α → β} : ∀ {l : List α}, l.map f = l.map g → ∀ x ∈ l, f x = g x
  | [], _, x, h => by cases h
  | y :: l, e, x, h => by
    rw [List.map_cons, List.map_cons] at e
    injection e with e1 e2
    rcases List.mem_cons.mp h with rfl | h
    · exact e1
    · exact map_each e2 x h
def prodL {α β : Type} (xs : List α) (ys : List β) : List (α × β) := xs.flatMap fun x => ys.map fun y => (x, y)
theorem prodL_mem {α β : Type} {xs : List α} {ys : List β} {x : α} {y : β} (h : x ∈ xs) (k : y ∈ ys) : (x, y) ∈ prodL xs ys := List.mem_flatMap.mpr ⟨x, h, List.mem_map.mpr ⟨y, k, rfl⟩⟩
/-! ### what comprehensions give -/
theorem all2_map {α β : Type} {g : α → β} : ∀ {as : List α} {bs : List β}, All2 (fun a b => b = g a) as bs → bs = as.map g
  | [], [], .nil => rfl
  | a :: as, b :: bs, .cons h k => by rw [List.map_cons, h, all2_map k]
theorem all2_of {α β γ : Type} {V : β → γ → Prop} {g : α → β} {f : α → γ} : ∀ {as : List α} {bs : List γ}, All2 V (as.map g) bs → (∀ a ∈ as, ∀ b, V (g a) b → b = f a) → bs = as.map f
  | [], [], _, _ => rfl
  | [], b :: bs, h, _ => by cases h
  | a :: as, [], h, _ => by cases h
  | a :: as, b :: bs, h, k => by
    cases h with
    | cons h1 h2 =>
      rw [List.map_cons, k a List.mem_cons_self b h1, all2_of h2 fun a ha => k a (List.mem_cons_of_mem _ ha)]
theorem All2.imp {α β : Type} {V W : α → β → Prop} {as : List α} {bs : List β} (h : All2 V as bs) (k : ∀ a b, a ∈ as → V a b → W a b) : All2 W as bs := by
  induction h with
  | nil => exact .nil
  | cons h1 h2 ih => exact .cons (k _ _ List.mem_cons_self h1) (ih fun a b ha => k a b (List.mem_cons_of_mem _ ha))
theorem bls_true {α : Type} : ∀ {l : List α}, blsOf (l.map fun _ => D.bl true) = some (l.map fun _ => true)
  | [] => rfl
  | _ :: l => by
    show (blsOf (l.map fun _ => D.bl true)).map (true :: ·) = _
    rw [bls_true]
    rfl
theorem all_true {α : Type} {l : List α} : (l.map fun _ => true).all id = true := by
  rw [List.all_eq_true]
  intro x h
  obtain ⟨_, _, rfl⟩ := List.mem_map.mp h
  rfl
theorem ints_map {α : Type} {g : α → Int} : ∀ {l : List α}, intsOf (l.map fun x => D.int (g x)) = some (l.map g)
  | [] => rfl
  | x :: l => by
    show (intsOf (l.map fun x => D.int (g x))).map (g x :: ·) = _
    rw [ints_map]
    rfl
theorem strs_map {α : Type} {g : α → List Nat} : ∀ {l : List α}, strsOf (l.map fun x => D.str (g x)) = some (l.map g)
  | [] => rfl
  | x :: l => by
    show (strsOf (l.map fun x => D.str (g x))).map (g x :: ·) = _
    rw [strs_map]
    rfl
end HK

/-! HLe: a def called with a lambda, statements one behind another. -/
namespace HK
open PySem PySem.Spec PySem.Calls PyProof.Rows L2
theorem ice_has {n : Nat} {ls : List (Nat × D)} {e : List Slot} : ∀ {caps : List Nat}, (∀ i ∈ caps, ∃ d, (i, d) ∈ ls) → Has n ls e → Has n ls (iceE e caps) ∧ ∀ i ∈ caps, ∀ d, (i, d) ∈ ls → (iceE e caps)[i]? = some (.fr d)
  | [], _, h => ⟨h, fun i hi => absurd hi (by simp)⟩
  | v :: vs, hc, h => by
    obtain ⟨h1, h2⟩ := ice_has (caps := vs) (fun i hi => hc i (List.mem_cons_of_mem _ hi)) h
    obtain ⟨d, hd⟩ := hc v List.mem_cons_self
    obtain ⟨s, e1, e2⟩ := h1.at_ _ hd
    have new : Has n ls (iceE e (v :: vs)) ∧ (iceE e (v :: vs))[v]? = some (.fr d) ∧ ∀ i, i ≠ v → (iceE e (v :: vs))[i]? = (iceE e vs)[i]? := by
      have e1 : (iceE e vs)[v]? = some s := e1
      have eq : iceE e (v :: vs) = match (iceE e vs)[v]? with
        | some (.ow d) => (iceE e vs).set v (.fr d)
        | _ => iceE e vs := rfl
      rw [eq, e1]
      rcases e2 with rfl | rfl
      · exact ⟨h1, e1, fun _ _ => rfl⟩
      · exact ⟨h1.read (h1.at_ _ hd), List.getElem?_set_self (List.getElem?_eq_some_iff.mp e1).1, fun i hi => List.getElem?_set_ne (Ne.symm hi)⟩
    refine ⟨new.1, fun i hi d' hd' => ?_⟩
    by_cases z : i = v
    · subst z
      obtain ⟨s', k1, k2⟩ := new.1.at_ _ hd'
      have k1 : (iceE e (i :: vs))[i]? = some s' := k1
      rw [new.2.1] at k1
      cases k1
      rw [new.2.1]
      rcases k2 with k2 | k2 <;> cases k2
      rfl
    · rw [new.2.2 i z]
      rcases List.mem_cons.mp hi with hi | hi
      · exact absurd hi z
      · exact h2 i hi d' hd'
theorem capD_of {e : List Slot} {g : Nat → D} : ∀ {caps : List Nat}, (∀ i ∈ caps, e[i]? = some (.fr (g i))) → capD e caps = some (caps.map g)
  | [], _ => rfl
  | i :: is, h => by
    unfold capD
    rw [h i List.mem_cons_self]
    show (capD e is).map (g i :: ·) = _
    rw [capD_of fun j hj => h j (List.mem_cons_of_mem _ hj)]
    rfl
/-- f(lambda: ..) -/
theorem gv_FL {n k N : Nat} {m : FX} {caps : List Nat} {g : Nat → D} {ls : List (Nat × D)} {env : List Slot} {w : Pen} {Q : Slot → List Slot → Pen → Prop} (h : Has N ls env) (hc : ∀ i ∈ caps, (i, g i) ∈ ls) (hn : n = 1) {r : Slot} {w' : Pen} (hm : chkR (m [.fn k (caps.map g)] w) = .ok r [] w')
    (q : Has N ls (iceE env caps) → Q r (iceE env caps) w') : Gv (xFL n m [] k caps (lH aN) env w) Q := by
  subst hn
  obtain ⟨h1, h2⟩ := ice_has (caps := caps) (fun i hi => ⟨_, hc i hi⟩) h
  show Gv (match capD (iceE env caps) caps with
    | some cds => if (([] : List D) ++ D.fn k cds :: [] ++ []).length = 1 then liftF (chkR (m ([] ++ D.fn k cds :: [] ++ []) w)) (iceE env caps) w else .no
    | none => .no) Q
  rw [capD_of fun i hi => h2 i hi _ (hc i hi)]
  show Gv (if ([D.fn k (caps.map g)] : List D).length = 1 then liftF (chkR (m [D.fn k (caps.map g)] w)) (iceE env caps) w else .no) Q
  rw [if_pos (show ([D.fn k (caps.map g)] : List D).length = 1 from rfl), hm]
  exact q h1
theorem gv_seq {f g : SX} {e : List Slot} {w : Pen} {QF : Fl → List Slot → Pen → Prop} (h : Gv (f e w) fun fl e w => fl = .nx ∧ Gv (g e w) QF) : Gv (sQ f g e w) QF := gv_Q (h.mono fun fl e w ⟨z, k⟩ => by
  subst z
  exact k)
theorem gv_same {f : EX} {a : Slot} {env : List Slot} {w : Pen} {Q : Slot → List Slot → Pen → Prop} (h : f env w = .ok a env w) (q : Q a env w) : Gv (f env w) Q := gv_of h q
theorem says_of {r : Rv Fl} (h : Gv r fun fl _ _ => fl = .rt (.fr (.bl true))) : Says r := by
  obtain ⟨fl, e, w, h1, rfl⟩ := h.ex
  exact ⟨e, w, h1⟩
end HK

namespace L_k01
open HK PySem PySem.Spec PySem.Calls PyProof.Rows L2
def top (i : Nat) : Stmt := PySem.Challenge.pw_hindkeys_k01_prices.main.body.getD i noP
def subE (a b : Nat) : Bool := a == b || b == 0
def te_line : List (Nat × Nat) := [(8, 1)]
def ti_line : List (Nat × Nat) := []
def te_most : List (Nat × Nat) := [(13, 0)]
def ti_most : List (Nat × Nat) := []
def te_part : List (Nat × Nat) := [(1, 0), (2, 0), (3, 0), (4, 0), (5, 0), (6, 0), (7, 0), (10, 0)]
def ti_part : List (Nat × Nat) := []
def te_what : List (Nat × Nat) := [(13, 1)]
def ti_what : List (Nat × Nat) := []
def te_word : List (Nat × Nat) := [(8, 0), (9, 0), (11, 0)]
def ti_word : List (Nat × Nat) := []
abbrev s_is_integer : Stmt := top 2
abbrev s_is_between : Stmt := top 3
abbrev s_is_listed : Stmt := top 4
abbrev s_is_row : Stmt := top 5
abbrev s_is_word : Stmt := top 6
abbrev s_ascends : Stmt := top 7
abbrev s_fixed : Stmt := top 24
abbrev s_is_price : Stmt := top 29
abbrev s_are_prices : Stmt := top 30
abbrev s_price_in : Stmt := top 31
abbrev s_cost_in : Stmt := top 32
abbrev s_need_prices : Stmt := top 33
abbrev s_price_of : Stmt := top 34
abbrev s_cost_of : Stmt := top 35
abbrev s__law_pen : Stmt := top 37
abbrev s__law_draw : Stmt := top 38
abbrev s__law_pick : Stmt := top 39
abbrev s__law_heard : Stmt := top 40
abbrev s_law : Stmt := top 41
def xt_FarError : List (Nat × Bool) := [(0, true), (1, true), (2, true), (3, true), (4, true), (5, true), (6, true), (7, true), (8, true), (9, true), (10, true), (11, true), (12, true), (13, true)]
def ca_FarError : Nat → Option Bool := fun c => xt_FarError.lookup c
/-! ### the lambdas -/
def lamQ : Str := (envOfC "law" (defScope s_law) 0 0 .none).qual ++ "<lambda>"
def q_law_0 : Stmt := ((defBody s_law).drop 1).getD 0 noP
def q_law_0a_0 : Stmt := (suS q_law_0 0).getD 0 noP
def q_law_0a_1 : Stmt := (suS q_law_0 0).getD 1 noP
def q_law_0a_2 : Stmt := (suS q_law_0 0).getD 2 noP
def q_law_0a_3 : Stmt := (suS q_law_0 0).getD 3 noP
def q_law_0a_4 : Stmt := (suS q_law_0 0).getD 4 noP
def q_law_0a_5 : Stmt := (suS q_law_0 0).getD 5 noP
def q_law_1 : Stmt := ((defBody s_law).drop 1).getD 1 noP
def q_law_2 : Stmt := ((defBody s_law).drop 1).getD 2 noP
def q_law_3 : Stmt := ((defBody s_law).drop 1).getD 3 noP
def q_law_4 : Stmt := ((defBody s_law).drop 1).getD 4 noP
def q_law_5 : Stmt := ((defBody s_law).drop 1).getD 5 noP
def q_law_6 : Stmt := ((defBody s_law).drop 1).getD 6 noP
def q_law_7 : Stmt := ((defBody s_law).drop 1).getD 7 noP
def e_lam_0 : Expr := (eK (eK (exS q_law_6) 0) 1)
def lam_0 : Lam := mkLam lamQ e_lam_0 ["bad", "none"] []
def e_lam_1 : Expr := (eK (eK (exS q_law_6) 1) 1)
def lam_1 : Lam := mkLam lamQ e_lam_1 ["none"] [V.int 0]
def e_lam_2 : Expr := (eK (eK (exS q_law_6) 2) 1)
def lam_2 : Lam := mkLam lamQ e_lam_2 ["bad", "lone"] [V.int 0]
def e_lam_3 : Expr := (eK (eK (exS q_law_6) 3) 1)
def lam_3 : Lam := mkLam lamQ e_lam_3 ["lone"] [V.int 0]
def lam_ (k : Nat) : Lam := ([lam_0, lam_1, lam_2, lam_3][k]?).getD ⟨"", ⟨[], [], none, [], [], none, []⟩, noX, ⟨.function, [], false, false, []⟩, [], []⟩
/-! ### what the top has written -/
structure Txt (K : PySem.W.Frag) (mg : Str → Option Value) where
  fl : Addr
  ca : Addr
  pt : Addr
  a_is_integer : Addr
  d_is_integer : FuncData
  F_is_integer : FunD K "is_integer" "is_integer" (defArgs s_is_integer) (defBody s_is_integer) (defScope s_is_integer) [] [] a_is_integer d_is_integer
  g_is_integer : mg "is_integer" = some (.ref a_is_integer)
  a_is_between : Addr
  d_is_between : FuncData
  F_is_between : FunD K "is_between" "is_between" (defArgs s_is_between) (defBody s_is_between) (defScope s_is_between) [] [] a_is_between d_is_between
  g_is_between : mg "is_between" = some (.ref a_is_between)
  a_is_listed : Addr
  d_is_listed : FuncData
  F_is_listed : FunD K "is_listed" "is_listed" (defArgs s_is_listed) (defBody s_is_listed) (defScope s_is_listed) [] [] a_is_listed d_is_listed
  g_is_listed : mg "is_listed" = some (.ref a_is_listed)
  a_is_row : Addr
  d_is_row : FuncData
  F_is_row : FunD K "is_row" "is_row" (defArgs s_is_row) (defBody s_is_row) (defScope s_is_row) [] [] a_is_row d_is_row
  g_is_row : mg "is_row" = some (.ref a_is_row)
  a_is_word : Addr
  d_is_word : FuncData
  F_is_word : FunD K "is_word" "is_word" (defArgs s_is_word) (defBody s_is_word) (defScope s_is_word) [] [] a_is_word d_is_word
  g_is_word : mg "is_word" = some (.ref a_is_word)
  a_ascends : Addr
  d_ascends : FuncData
  F_ascends : FunD K "ascends" "ascends" (defArgs s_ascends) (defBody s_ascends) (defScope s_ascends) [] [] a_ascends d_ascends
  g_ascends : mg "ascends" = some (.ref a_ascends)
  a_fixed : Addr
  d_fixed : FuncData
  F_fixed : FunD K "fixed" "fixed" (defArgs s_fixed) (defBody s_fixed) (defScope s_fixed) [] [] a_fixed d_fixed
  g_fixed : mg "fixed" = some (.ref a_fixed)
  a_is_price : Addr
  d_is_price : FuncData
  F_is_price : FunD K "is_price" "is_price" (defArgs s_is_price) (defBody s_is_price) (defScope s_is_price) [] [] a_is_price d_is_price
  g_is_price : mg "is_price" = some (.ref a_is_price)
  a_are_prices : Addr
  d_are_prices : FuncData
  F_are_prices : FunD K "are_prices" "are_prices" (defArgs s_are_prices) (defBody s_are_prices) (defScope s_are_prices) [] [] a_are_prices d_are_prices
  g_are_prices : mg "are_prices" = some (.ref a_are_prices)
  a_price_in : Addr
  d_price_in : FuncData
  F_price_in : FunD K "price_in" "price_in" (defArgs s_price_in) (defBody s_price_in) (defScope s_price_in) [] [] a_price_in d_price_in
  g_price_in : mg "price_in" = some (.ref a_price_in)
  a_cost_in : Addr
  d_cost_in : FuncData
  F_cost_in : FunD K "cost_in" "cost_in" (defArgs s_cost_in) (defBody s_cost_in) (defScope s_cost_in) [] [] a_cost_in d_cost_in
  g_cost_in : mg "cost_in" = some (.ref a_cost_in)
  a_need_prices : Addr
  d_need_prices : FuncData
  F_need_prices : FunD K "need_prices" "need_prices" (defArgs s_need_prices) (defBody s_need_prices) (defScope s_need_prices) [] [] a_need_prices d_need_prices
  g_need_prices : mg "need_prices" = some (.ref a_need_prices)
  a_price_of : Addr
  d_price_of : FuncData
  F_price_of : FunD K "price_of" "price_of" (defArgs s_price_of) (defBody s_price_of) (defScope s_price_of) [] [] a_price_of d_price_of
  g_price_of : mg "price_of" = some (.ref a_price_of)
  a_cost_of : Addr
  d_cost_of : FuncData
  F_cost_of : FunD K "cost_of" "cost_of" (defArgs s_cost_of) (defBody s_cost_of) (defScope s_cost_of) [] [] a_cost_of d_cost_of
  g_cost_of : mg "cost_of" = some (.ref a_cost_of)
  a__law_draw : Addr
  d__law_draw : FuncData
  F__law_draw : FunD K "_law_draw" "_law_draw" (defArgs s__law_draw) (defBody s__law_draw) (defScope s__law_draw) [] [] a__law_draw d__law_draw
  g__law_draw : mg "_law_draw" = some (.ref a__law_draw)
  a__law_pick : Addr
  d__law_pick : FuncData
  F__law_pick : FunD K "_law_pick" "_law_pick" (defArgs s__law_pick) (defBody s__law_pick) (defScope s__law_pick) [] [] a__law_pick d__law_pick
  g__law_pick : mg "_law_pick" = some (.ref a__law_pick)
  a__law_heard : Addr
  d__law_heard : FuncData
  F__law_heard : FunD K "_law_heard" "_law_heard" (defArgs s__law_heard) (defBody s__law_heard) (defScope s__law_heard) [] [] a__law_heard d__law_heard
  g__law_heard : mg "_law_heard" = some (.ref a__law_heard)
  a__law_pen : Addr
  d__law_pen : FuncData
  F__law_pen : FunD K "_law_pen" "_law_pen" (defArgs s__law_pen) (defBody s__law_pen) (defScope s__law_pen) [] [] a__law_pen d__law_pen
  g__law_pen : mg "_law_pen" = some (.ref a__law_pen)
  z_abs : mg "abs" = none
  z_all : mg "all" = none
  z_bool : mg "bool" = none
  z_dict : mg "dict" = none
  z_int : mg "int" = none
  z_isinstance : mg "isinstance" = none
  z_len : mg "len" = none
  z_list : mg "list" = none
  z_range : mg "range" = none
  z_str : mg "str" = none
  z_sum : mg "sum" = none
  z_tuple : mg "tuple" = none
  z_zip : mg "zip" = none
  k_LETTERS : Tok
  g_LETTERS : mg "LETTERS" = some (.str (mkS [97, 98, 99, 100, 101, 102, 103, 104, 105, 106, 107, 108, 109, 110, 111, 112, 113, 114, 115, 116, 117, 118, 119, 120, 121, 122]) k_LETTERS)
  k_MOST_PRICE : Tok
  g_MOST_PRICE : mg "MOST_PRICE" = some (.int 20 k_MOST_PRICE)
  k_PLAIN_PRICE : Tok
  g_PLAIN_PRICE : mg "PLAIN_PRICE" = some (.int 1 k_PLAIN_PRICE)
  k_MOST_WORD : Tok
  g_MOST_WORD : mg "MOST_WORD" = some (.int 4000 k_MOST_WORD)
  a_FarError : Addr
  g_FarError : mg "FarError" = some (.ref a_FarError)
  a_BadValue : Addr
  g_BadValue : mg "BadValue" = some (.ref a_BadValue)
  a_BadNumber : Addr
  g_BadNumber : mg "BadNumber" = some (.ref a_BadNumber)
  a_BadBook : Addr
  g_BadBook : mg "BadBook" = some (.ref a_BadBook)
  a_BadWeb : Addr
  g_BadWeb : mg "BadWeb" = some (.ref a_BadWeb)
  a_BadTask : Addr
  g_BadTask : mg "BadTask" = some (.ref a_BadTask)
  a_BadTypist : Addr
  g_BadTypist : mg "BadTypist" = some (.ref a_BadTypist)
  a_BadPaper : Addr
  g_BadPaper : mg "BadPaper" = some (.ref a_BadPaper)
  a_BadText : Addr
  g_BadText : mg "BadText" = some (.ref a_BadText)
  a_BadLine : Addr
  g_BadLine : mg "BadLine" = some (.ref a_BadLine)
  a_Misfit : Addr
  g_Misfit : mg "Misfit" = some (.ref a_Misfit)
  a_Nothing : Addr
  g_Nothing : mg "Nothing" = some (.ref a_Nothing)
  a_NoName : Addr
  g_NoName : mg "NoName" = some (.ref a_NoName)
  a_TooMany : Addr
  g_TooMany : mg "TooMany" = some (.ref a_TooMany)
variable {P : Program} {w : World} {K : PySem.W.Frag} {mg : Str → Option Value} {base : Heap}
def cls_ (t : Txt K mg) (c : Nat) : Addr := ([t.a_FarError, t.a_BadValue, t.a_BadNumber, t.a_BadBook, t.a_BadWeb, t.a_BadTask, t.a_BadTypist, t.a_BadPaper, t.a_BadText, t.a_BadLine, t.a_Misfit, t.a_Nothing, t.a_NoName, t.a_TooMany][c]?).getD 0
def fn_ (c : Nat) : List Str := (([[], ["part"], ["part"], ["part"], ["part"], ["part"], ["part"], ["part"], ["word", "line"], ["word"], ["part"], ["word"], ["name"], ["most", "what"]] : List (List Str))[c]?).getD []
def th (t : Txt K mg) (pa : Addr) : Th := { K := K, pa := pa, cl := cls_ t, fn := fn_, tabs := [(t.pt, lamQ)], lam := lam_ }
theorem cl_FarError (t : Txt K mg) : mg "FarError" = some (.ref (cls_ t 0)) := t.g_FarError
theorem cl_BadValue (t : Txt K mg) : mg "BadValue" = some (.ref (cls_ t 1)) := t.g_BadValue
theorem cl_BadNumber (t : Txt K mg) : mg "BadNumber" = some (.ref (cls_ t 2)) := t.g_BadNumber
theorem cl_BadBook (t : Txt K mg) : mg "BadBook" = some (.ref (cls_ t 3)) := t.g_BadBook
theorem cl_BadWeb (t : Txt K mg) : mg "BadWeb" = some (.ref (cls_ t 4)) := t.g_BadWeb
theorem cl_BadTask (t : Txt K mg) : mg "BadTask" = some (.ref (cls_ t 5)) := t.g_BadTask
theorem cl_BadTypist (t : Txt K mg) : mg "BadTypist" = some (.ref (cls_ t 6)) := t.g_BadTypist
theorem cl_BadPaper (t : Txt K mg) : mg "BadPaper" = some (.ref (cls_ t 7)) := t.g_BadPaper
theorem cl_BadText (t : Txt K mg) : mg "BadText" = some (.ref (cls_ t 8)) := t.g_BadText
theorem cl_BadLine (t : Txt K mg) : mg "BadLine" = some (.ref (cls_ t 9)) := t.g_BadLine
theorem cl_Misfit (t : Txt K mg) : mg "Misfit" = some (.ref (cls_ t 10)) := t.g_Misfit
theorem cl_Nothing (t : Txt K mg) : mg "Nothing" = some (.ref (cls_ t 11)) := t.g_Nothing
theorem cl_NoName (t : Txt K mg) : mg "NoName" = some (.ref (cls_ t 12)) := t.g_NoName
theorem cl_TooMany (t : Txt K mg) : mg "TooMany" = some (.ref (cls_ t 13)) := t.g_TooMany
structure Inf (P : Program) (t : Txt K mg) (pa : Addr) : Prop where
  ci : ClsI (th t pa) [] [0, 1, 2, 3, 4, 5, 6, 7, 8, 9, 10, 11, 12, 13] subE
  at_line : AtI (th t pa) "line" te_line ti_line
  at_most : AtI (th t pa) "most" te_most ti_most
  at_part : AtI (th t pa) "part" te_part ti_part
  at_what : AtI (th t pa) "what" te_what ti_what
  at_word : AtI (th t pa) "word" te_word ti_word
  xm_FarError : ∀ cn bb, ca_FarError cn = some bb → PySem.W.exmOne K (.ref (cls_ t cn)) (.ref (cls_ t 0)) = some bb
  ec_BadValue : ∀ (w : World) (base : Heap), ∃ fI fd, ExC (th t pa) P w mg base 1 fI fd ["self", "part"] 2
  ec_BadNumber : ∀ (w : World) (base : Heap), ∃ fI fd, ExC (th t pa) P w mg base 2 fI fd ["self", "part"] 2
  ec_BadBook : ∀ (w : World) (base : Heap), ∃ fI fd, ExC (th t pa) P w mg base 3 fI fd ["self", "part"] 2
  ec_BadWeb : ∀ (w : World) (base : Heap), ∃ fI fd, ExC (th t pa) P w mg base 4 fI fd ["self", "part"] 2
  ec_BadTask : ∀ (w : World) (base : Heap), ∃ fI fd, ExC (th t pa) P w mg base 5 fI fd ["self", "part"] 2
  ec_BadTypist : ∀ (w : World) (base : Heap), ∃ fI fd, ExC (th t pa) P w mg base 6 fI fd ["self", "part"] 2
  ec_BadPaper : ∀ (w : World) (base : Heap), ∃ fI fd, ExC (th t pa) P w mg base 7 fI fd ["self", "part"] 2
  ec_BadText : ∀ (w : World) (base : Heap), ∃ fI fd, ExC (th t pa) P w mg base 8 fI fd ["self", "line", "word"] 2
  ec_BadLine : ∀ (w : World) (base : Heap), ∃ fI fd, ExC (th t pa) P w mg base 9 fI fd ["self", "word"] 2
  ec_Misfit : ∀ (w : World) (base : Heap), ∃ fI fd, ExC (th t pa) P w mg base 10 fI fd ["self", "part"] 2
  ec_Nothing : ∀ (w : World) (base : Heap), ∃ fI fd, ExC (th t pa) P w mg base 11 fI fd ["self", "word"] 2
  ec_NoName : ∀ (w : World) (base : Heap), ∃ fI fd, ExC (th t pa) P w mg base 12 fI fd ["self", "name"] 2
  ec_TooMany : ∀ (w : World) (base : Heap), ∃ fI fd, ExC (th t pa) P w mg base 13 fI fd ["self", "what", "most"] 2
/-! ### the defs -/
def m_is_integer : FX := runB 1 (sR (xAn (xCl (isiD [] [0, 1, 2, 3, 4, 5, 6, 7, 8, 9, 10, 11, 12, 13] subE) (aC (xV 0) (aC (xC (.ty 0)) aN))) (x1 nD (xCl (isiD [] [0, 1, 2, 3, 4, 5, 6, 7, 8, 9, 10, 11, 12, 13] subE) (aC (xV 0) (aC (xC (.ty 2)) aN))))))
theorem sc_is_integer : FnScope ["value"] ["value"] (defScope s_is_integer) := ⟨rfl, rfl, rfl, by decide +kernel, rfl, by decide +kernel, by decide +kernel⟩
theorem bi_is_integer (t : Txt K mg) : Binds K t.d_is_integer ["value"] [] := t.F_is_integer.bindsN fun _ _ _ _ _ _ us hl => match us, hl with | [_], _ => rfl
theorem ok_is_integer (t : Txt K mg) (pa : Addr) (I : Inf P t pa) : FnOk P w K mg base (L2.CX P w) 1 t.a_is_integer t.d_is_integer ["value"] (SpM (th t pa) 1 m_is_integer) := by
  refine fn_ok t.F_is_integer sc_is_integer rfl (by decide) fun cdv A outer s H E b c => ?_
  exact (s1 (sr (va2 (cb call_isiD (v_isi I.ci) t.z_isinstance rfl (ac (cv 0) (ac (cgt 0 t.z_int) an))) (ve1 (vn (cb call_isiD (v_isi I.ci) t.z_isinstance rfl (ac (cv 0) (ac (cgt 2 t.z_bool) an))))))))
def m_is_between : FX := runB 3 (sR (xAn (xF 1 m_is_integer [] (aC (xV 0) aN)) (xCh (ordD leI) (ordD leI) (xV 1) (xV 0) (xV 2))))
theorem sc_is_between : FnScope ["value", "least", "most"] ["value", "least", "most"] (defScope s_is_between) := ⟨rfl, rfl, rfl, by decide +kernel, rfl, by decide +kernel, by decide +kernel⟩
theorem bi_is_between (t : Txt K mg) : Binds K t.d_is_between ["value", "least", "most"] [] := t.F_is_between.bindsN fun _ _ _ _ _ _ us hl => match us, hl with | [_, _, _], _ => rfl
theorem ok_is_between (t : Txt K mg) (pa : Addr) (I : Inf P t pa) : FnOk P w K mg base (L2.CX P w) 2 t.a_is_between t.d_is_between ["value", "least", "most"] (SpM (th t pa) 3 m_is_between) := by
  refine fn_ok t.F_is_between sc_is_between rfl (by decide) fun cdv A outer s H E b c => ?_
  exact (s1 (sr (va2 (cf (ps := ["value"]) c (ok_is_integer t pa I) (by decide) t.g_is_integer t.F_is_integer.kp (bi_is_integer t) .nil (fun _ => .nil) (ac (cv 0) an)) (ve1 (cch op_le (v_ord (f := leI)) op_le (v_ord (f := leI)) (cv 1) (cv 0) (cv 2))))))
def m_is_listed : FX := runB 1 (sR (xCl (isiD [] [0, 1, 2, 3, 4, 5, 6, 7, 8, 9, 10, 11, 12, 13] subE) (aC (xV 0) (aC (xTp (aC (xC (.ty 3)) (aC (xC (.ty 4)) aN))) aN))))
theorem sc_is_listed : FnScope ["value"] ["value"] (defScope s_is_listed) := ⟨rfl, rfl, rfl, by decide +kernel, rfl, by decide +kernel, by decide +kernel⟩
theorem bi_is_listed (t : Txt K mg) : Binds K t.d_is_listed ["value"] [] := t.F_is_listed.bindsN fun _ _ _ _ _ _ us hl => match us, hl with | [_], _ => rfl
theorem ok_is_listed (t : Txt K mg) (pa : Addr) (I : Inf P t pa) : FnOk P w K mg base (L2.CX P w) 1 t.a_is_listed t.d_is_listed ["value"] (SpM (th t pa) 1 m_is_listed) := by
  refine fn_ok t.F_is_listed sc_is_listed rfl (by decide) fun cdv A outer s H E b c => ?_
  exact (s1 (sr (cb call_isiD (v_isi I.ci) t.z_isinstance rfl (ac (cv 0) (ac (ctp (ac (cgt 3 t.z_list) (ac (cgt 4 t.z_tuple) an))) an)))))
def m_is_row : FX := runB 2 (sR (xAn (xF 1 m_is_listed [] (aC (xV 0) aN)) (x2 eqD (xCl (on1 lenD) (aC (xV 0) aN)) (xV 1))))
theorem sc_is_row : FnScope ["value", "many"] ["value", "many"] (defScope s_is_row) := ⟨rfl, rfl, rfl, by decide +kernel, rfl, by decide +kernel, by decide +kernel⟩
theorem bi_is_row (t : Txt K mg) : Binds K t.d_is_row ["value", "many"] [] := t.F_is_row.bindsN fun _ _ _ _ _ _ us hl => match us, hl with | [_, _], _ => rfl
theorem ok_is_row (t : Txt K mg) (pa : Addr) (I : Inf P t pa) : FnOk P w K mg base (L2.CX P w) 2 t.a_is_row t.d_is_row ["value", "many"] (SpM (th t pa) 2 m_is_row) := by
  refine fn_ok t.F_is_row sc_is_row rfl (by decide) fun cdv A outer s H E b c => ?_
  exact (s1 (sr (va2 (cf (ps := ["value"]) c (ok_is_listed t pa I) (by decide) t.g_is_listed t.F_is_listed.kp (bi_is_listed t) .nil (fun _ => .nil) (ac (cv 0) an)) (ve1 (cc (op_eqD c.room.units) v_eq (cb call_len (v_on1 v_len1) t.z_len rfl (ac (cv 0) an)) (cv 1) (by first | rfl | exact nomark _))))))
def m_is_word : FX := runB 3 (sR (xAn (xCl (isiD [] [0, 1, 2, 3, 4, 5, 6, 7, 8, 9, 10, 11, 12, 13] subE) (aC (xV 0) (aC (xC (.ty 1)) aN))) (xAn (x2 (ordD leI) (xCl (on1 lenD) (aC (xV 0) aN)) (xV 1)) (xCl (on1 (onBls fun is => is.all id)) (aC (xLc [2] (iV (xV 0)) (gN 2) tT (x2 (inSD false) (xV 2) (xC (.str [97, 98, 99, 100, 101, 102, 103, 104, 105, 106, 107, 108, 109, 110, 111, 112, 113, 114, 115, 116, 117, 118, 119, 120, 121, 122])))) aN)))))
theorem sc_is_word : FnScope ["value", "most", "sign"] ["value", "most"] (defScope s_is_word) := ⟨rfl, rfl, rfl, by decide +kernel, rfl, by decide +kernel, by decide +kernel⟩
theorem bi_is_word (t : Txt K mg) : Binds K t.d_is_word ["value", "most"] [] := t.F_is_word.bindsN fun _ _ _ _ _ _ us hl => match us, hl with | [_, _], _ => rfl
theorem ok_is_word (t : Txt K mg) (pa : Addr) (I : Inf P t pa) : FnOk P w K mg base (L2.CX P w) 1 t.a_is_word t.d_is_word ["value", "most"] (SpM (th t pa) 2 m_is_word) := by
  refine fn_ok t.F_is_word sc_is_word rfl (by decide) fun cdv A outer s H E b c => ?_
  exact (s1 (sr (va2 (cb call_isiD (v_isi I.ci) t.z_isinstance rfl (ac (cv 0) (ac (cgt 1 t.z_str) an))) (va2 (cc op_le (v_ord (f := leI)) (cb call_len (v_on1 v_len1) t.z_len rfl (ac (cv 0) an)) (cv 1) (by first | rfl | exact nomark _)) (ve1 (cb (cr_all c.calm) (v_on1 v_all) t.z_all rfl (ac (clc c [("sign", 2)] (iv rfl (cv 0)) (blkOk_by (by first | rfl | decide +kernel)) (fun _ _ _ _ _ => (pg_name (i := 2) (by exact c.nd) (by rfl) (by first | exact Or.inl rfl | exact Or.inr rfl))) (fun _ => (gn 2)) (by decide) (fun _ _ _ _ _ _ c => pn) (fun _ _ _ _ _ _ c => (cc op_in_sign v_inS (cv 2) (cgs [97, 98, 99, 100, 101, 102, 103, 104, 105, 106, 107, 108, 109, 110, 111, 112, 113, 114, 115, 116, 117, 118, 119, 120, 121, 122] t.k_LETTERS t.g_LETTERS) (by first | rfl | exact nomark _)))) an)))))))
def m_ascends : FX := runB 3 (sR (xCl (on1 (onBls fun is => is.all id)) (aC (xLc [1, 2] (iZ2 (aC (xV 0) (aC (xSl (xV 0) (pYes (xC (.int 1))) pNo) aN))) (gT 2 (gC (gN 1) (gC (gN 2) gZ))) tT (x2 ltD (xV 1) (xV 2))) aN)))
theorem sc_ascends : FnScope ["some", "one", "other"] ["some"] (defScope s_ascends) := ⟨rfl, rfl, rfl, by decide +kernel, rfl, by decide +kernel, by decide +kernel⟩
theorem bi_ascends (t : Txt K mg) : Binds K t.d_ascends ["some"] [] := t.F_ascends.bindsN fun _ _ _ _ _ _ us hl => match us, hl with | [_], _ => rfl
theorem ok_ascends (t : Txt K mg) (pa : Addr) (I : Inf P t pa) : FnOk P w K mg base (L2.CX P w) 1 t.a_ascends t.d_ascends ["some"] (SpM (th t pa) 1 m_ascends) := by
  refine fn_ok t.F_ascends sc_ascends rfl (by decide) fun cdv A outer s H E b c => ?_
  exact (s1 (sr (cb (cr_all c.calm) (v_on1 v_all) t.z_all rfl (ac (clc c [("one", 1), ("other", 2)] (iz2 rfl t.z_zip (ac (cv 0) (ac (csl rfl (cv 0) (pyes ci) pno) an))) (blkOk_by (by first | rfl | decide +kernel)) (fun _ _ _ _ _ => (pg_tup (by exact c.calm) (pgs_cons (pg_name (i := 1) (by exact c.nd) (by rfl) (by first | exact Or.inl rfl | exact Or.inr rfl)) (pgs_cons (pg_name (i := 2) (by exact c.nd) (by rfl) (by first | exact Or.inl rfl | exact Or.inr rfl)) pgs_nil)))) (fun _ => (gt rfl (gc (gn 1) (gc (gn 2) gz)))) (by decide) (fun _ _ _ _ _ _ c => pn) (fun _ _ _ _ _ _ c => (cc (op_lt.or op_lt_str) v_lt (cv 1) (cv 2) (by first | rfl | exact nomark _)))) an))))
def m_fixed : Nat → FX
  | 0 => runB 3 sNo
  | q + 1 => runB 3 (sQ (sI (tTr (xCl (isiD [] [0, 1, 2, 3, 4, 5, 6, 7, 8, 9, 10, 11, 12, 13] subE) (aC (xV 0) (aC (xTp (aC (xC (.ty 3)) (aC (xC (.ty 4)) aN))) aN)))) (sR (xCl (on1 tupleD) (aC (xLc [2] (iV (xV 0)) (gN 2) tT (xF 1 (m_fixed q) [] (aC (xV 2) aN))) aN))) sN) (sQ (sI (tTr (xCl (isiD [] [0, 1, 2, 3, 4, 5, 6, 7, 8, 9, 10, 11, 12, 13] subE) (aC (xV 0) (aC (xC (.ty 5)) aN)))) (sR xNo) sN) (sR (xV 0))))
theorem sc_fixed : FnScope ["value", "key", "one"] ["value"] (defScope s_fixed) := ⟨rfl, rfl, rfl, by decide +kernel, rfl, by decide +kernel, by decide +kernel⟩
theorem bi_fixed (t : Txt K mg) : Binds K t.d_fixed ["value"] [] := t.F_fixed.bindsN fun _ _ _ _ _ _ us hl => match us, hl with | [_], _ => rfl
theorem ok_fixed (t : Txt K mg) (pa : Addr) (I : Inf P t pa) : ∀ q, FnOk P w K mg base (L2.CX P w) (q + 1) t.a_fixed t.d_fixed ["value"] (SpM (th t pa) 1 (m_fixed q))
  | 0 => fn_ok t.F_fixed sc_fixed rfl (by decide) fun cdv A outer s H E b c => noSs
  | q + 1 => by
    refine fn_ok t.F_fixed sc_fixed rfl (by decide) fun cdv A outer s H E b c => ?_
    exact (sq (si (ct rfl (cb call_isiD (v_isi I.ci) t.z_isinstance rfl (ac (cv 0) (ac (ctp (ac (cgt 3 t.z_list) (ac (cgt 4 t.z_tuple) an))) an)))) (s1 (sr (cty call_tup2 v_tuple t.z_tuple rfl (ac (clc c [("one", 2)] (iv rfl (cv 0)) (blkOk_by (by first | rfl | decide +kernel)) (fun _ _ _ _ _ => (pg_name (i := 2) (by exact c.nd) (by rfl) (by first | exact Or.inl rfl | exact Or.inr rfl))) (fun _ => (gn 2)) (by decide) (fun _ _ _ _ _ _ c => pn) (fun _ _ _ _ _ _ c => (cf (ps := ["value"]) c (ok_fixed t pa I q) (Nat.le_refl _) t.g_fixed t.F_fixed.kp (bi_fixed t) .nil (fun _ => .nil) (ac (cv 2) an)))) an)))) sn) (sq (si (ct rfl (cb call_isiD (v_isi I.ci) t.z_isinstance rfl (ac (cv 0) (ac (cgt 5 t.z_dict) an)))) (s1 (sr noE)) sn) (s1 (sr (cv 0)))))
def m_is_price : FX := runB 1 (sR (xAn (xF 2 m_is_row [] (aC (xV 0) (aC (xC (.int 2)) aN))) (xAn (xF 2 m_is_word [] (aC (x2 ixD (xV 0) (xC (.int 0))) (aC (xC (.int 1)) aN))) (xAn (x2 neD (x2 ixD (xV 0) (xC (.int 0))) (xC (.str []))) (xF 3 m_is_between [] (aC (x2 ixD (xV 0) (xC (.int 1))) (aC (xC (.int 0)) (aC (xC (.int 20)) aN))))))))
theorem sc_is_price : FnScope ["value"] ["value"] (defScope s_is_price) := ⟨rfl, rfl, rfl, by decide +kernel, rfl, by decide +kernel, by decide +kernel⟩
theorem bi_is_price (t : Txt K mg) : Binds K t.d_is_price ["value"] [] := t.F_is_price.bindsN fun _ _ _ _ _ _ us hl => match us, hl with | [_], _ => rfl
theorem ok_is_price (t : Txt K mg) (pa : Addr) (I : Inf P t pa) : FnOk P w K mg base (L2.CX P w) 3 t.a_is_price t.d_is_price ["value"] (SpM (th t pa) 1 m_is_price) := by
  refine fn_ok t.F_is_price sc_is_price rfl (by decide) fun cdv A outer s H E b c => ?_
  exact (s1 (sr (va2 (cf (ps := ["value", "many"]) c (ok_is_row t pa I) (by decide) t.g_is_row t.F_is_row.kp (bi_is_row t) .nil (fun _ => .nil) (ac (cv 0) (ac ci an))) (va2 (cf (ps := ["value", "most"]) c (ok_is_word t pa I) (by decide) t.g_is_word t.F_is_word.kp (bi_is_word t) .nil (fun _ => .nil) (ac (cx ix_seq v_ix (cv 0) ci (fun _ _ => rfl)) (ac ci an))) (va2 (cc (op_neD c.room.units) v_ne (cx ix_seq v_ix (cv 0) ci (fun _ _ => rfl)) (cs []) (by first | rfl | exact nomark _)) (ve1 (cf (ps := ["value", "least", "most"]) c (ok_is_between t pa I) (by decide) t.g_is_between t.F_is_between.kp (bi_is_between t) .nil (fun _ => .nil) (ac (cx ix_seq v_ix (cv 0) ci (fun _ _ => rfl)) (ac ci (ac (cgi 20 t.k_MOST_PRICE t.g_MOST_PRICE) an))))))))))
def m_are_prices : FX := runB 2 (sQ (sI (tOrx (tNt (tTr (xF 1 m_is_listed [] (aC (xV 0) aN)))) (tNt (tTr (xCl (on1 (onBls fun is => is.all id)) (aC (xLc [1] (iV (xV 0)) (gN 1) tT (xF 1 m_is_price [] (aC (xV 1) aN))) aN))))) (sR (xC (.bl false))) sN) (sR (xF 1 m_ascends [] (aC (xLc [1] (iV (xV 0)) (gN 1) tT (x2 ixD (xV 1) (xC (.int 0)))) aN))))
theorem sc_are_prices : FnScope ["value", "row"] ["value"] (defScope s_are_prices) := ⟨rfl, rfl, rfl, by decide +kernel, rfl, by decide +kernel, by decide +kernel⟩
theorem bi_are_prices (t : Txt K mg) : Binds K t.d_are_prices ["value"] [] := t.F_are_prices.bindsN fun _ _ _ _ _ _ us hl => match us, hl with | [_], _ => rfl
theorem ok_are_prices (t : Txt K mg) (pa : Addr) (I : Inf P t pa) : FnOk P w K mg base (L2.CX P w) 4 t.a_are_prices t.d_are_prices ["value"] (SpM (th t pa) 1 m_are_prices) := by
  refine fn_ok t.F_are_prices sc_are_prices rfl (by decide) fun cdv A outer s H E b c => ?_
  exact (sq (si (L2.PW.pt (co2 (ctn (ct rfl (cf (ps := ["value"]) c (ok_is_listed t pa I) (by decide) t.g_is_listed t.F_is_listed.kp (bi_is_listed t) .nil (fun _ => .nil) (ac (cv 0) an)))) (co1 (ctn (ct rfl (cb (cr_all c.calm) (v_on1 v_all) t.z_all rfl (ac (clc c [("row", 1)] (iv rfl (cv 0)) (blkOk_by (by first | rfl | decide +kernel)) (fun _ _ _ _ _ => (pg_name (i := 1) (by exact c.nd) (by rfl) (by first | exact Or.inl rfl | exact Or.inr rfl))) (fun _ => (gn 1)) (by decide) (fun _ _ _ _ _ _ c => pn) (fun _ _ _ _ _ _ c => (cf (ps := ["value"]) c (ok_is_price t pa I) (by decide) t.g_is_price t.F_is_price.kp (bi_is_price t) .nil (fun _ => .nil) (ac (cv 1) an)))) an))))))) (s1 (sr cbl)) sn) (s1 (sr (cf (ps := ["some"]) c (ok_ascends t pa I) (by decide) t.g_ascends t.F_ascends.kp (bi_ascends t) .nil (fun _ => .nil) (ac (clc c [("row", 1)] (iv rfl (cv 0)) (blkOk_by (by first | rfl | decide +kernel)) (fun _ _ _ _ _ => (pg_name (i := 1) (by exact c.nd) (by rfl) (by first | exact Or.inl rfl | exact Or.inr rfl))) (fun _ => (gn 1)) (by decide) (fun _ _ _ _ _ _ c => pn) (fun _ _ _ _ _ _ c => (cx ix_seq v_ix (cv 1) ci (fun _ _ => rfl)))) an)))))
def m_price_in : FX := runB 2 (sR (xGet (xCl (on1 dictD) (aC (xV 0) aN)) (xV 1) (xC (.int 1))))
theorem sc_price_in : FnScope ["prices", "letter"] ["prices", "letter"] (defScope s_price_in) := ⟨rfl, rfl, rfl, by decide +kernel, rfl, by decide +kernel, by decide +kernel⟩
theorem bi_price_in (t : Txt K mg) : Binds K t.d_price_in ["prices", "letter"] [] := t.F_price_in.bindsN fun _ _ _ _ _ _ us hl => match us, hl with | [_, _], _ => rfl
theorem ok_price_in (t : Txt K mg) (pa : Addr) (I : Inf P t pa) : FnOk P w K mg base (L2.CX P w) 1 t.a_price_in t.d_price_in ["prices", "letter"] (SpM (th t pa) 2 m_price_in) := by
  refine fn_ok t.F_price_in sc_price_in rfl (by decide) fun cdv A outer s H E b c => ?_
  exact (s1 (sr (cget c (cty (call_dictX c.calm) v_dict t.z_dict rfl (ac (cv 0) an)) (cv 1) (cgi 1 t.k_PLAIN_PRICE t.g_PLAIN_PRICE))))
def m_cost_in : FX := runB 4 (sQ (sA 2 (xCl (on1 dictD) (aC (xV 0) aN))) (sR (xCl (on1 (onInts fun is => some (.int is.sum))) (aC (xLc [3] (iV (xV 1)) (gN 3) tT (xGet (xV 2) (xV 3) (xC (.int 1)))) aN))))
theorem sc_cost_in : FnScope ["prices", "word", "told", "letter"] ["prices", "word"] (defScope s_cost_in) := ⟨rfl, rfl, rfl, by decide +kernel, rfl, by decide +kernel, by decide +kernel⟩
theorem bi_cost_in (t : Txt K mg) : Binds K t.d_cost_in ["prices", "word"] [] := t.F_cost_in.bindsN fun _ _ _ _ _ _ us hl => match us, hl with | [_, _], _ => rfl
theorem ok_cost_in (t : Txt K mg) (pa : Addr) (I : Inf P t pa) : FnOk P w K mg base (L2.CX P w) 1 t.a_cost_in t.d_cost_in ["prices", "word"] (SpM (th t pa) 2 m_cost_in) := by
  refine fn_ok t.F_cost_in sc_cost_in rfl (by decide) fun cdv A outer s H E b c => ?_
  exact (sq (sa (i := 2) c.nd (cty (call_dictX c.calm) v_dict t.z_dict rfl (ac (cv 0) an))) (s1 (sr (cb (cr_sum c.calm) (v_on1 v_sum) t.z_sum rfl (ac (clc c [("letter", 3)] (iv rfl (cv 1)) (blkOk_by (by first | rfl | decide +kernel)) (fun _ _ _ _ _ => (pg_name (i := 3) (by exact c.nd) (by rfl) (by first | exact Or.inl rfl | exact Or.inr rfl))) (fun _ => (gn 3)) (by decide) (fun _ _ _ _ _ _ c => pn) (fun _ _ _ _ _ _ c => (cget c (cv 2) (cv 3) (cgi 1 t.k_PLAIN_PRICE t.g_PLAIN_PRICE)))) an)))))
def m_need_prices : FX := runB 1 (sQ (sI (tNt (tTr (xF 1 m_are_prices [] (aC (xV 0) aN)))) (sRs 1 1 (aC (xC (.str [112, 114, 105, 99, 101, 115])) aN)) sN) (sR (xF 1 (m_fixed 12) [] (aC (xV 0) aN))))
theorem sc_need_prices : FnScope ["prices"] ["prices"] (defScope s_need_prices) := ⟨rfl, rfl, rfl, by decide +kernel, rfl, by decide +kernel, by decide +kernel⟩
theorem bi_need_prices (t : Txt K mg) : Binds K t.d_need_prices ["prices"] [] := t.F_need_prices.bindsN fun _ _ _ _ _ _ us hl => match us, hl with | [_], _ => rfl
theorem ok_need_prices (t : Txt K mg) (pa : Addr) (I : Inf P t pa) : FnOk P w K mg base (L2.CX P w) 14 t.a_need_prices t.d_need_prices ["prices"] (SpM (th t pa) 1 m_need_prices) := by
  obtain ⟨fI_BadValue, fd_BadValue, ec_BadValue⟩ := I.ec_BadValue w base
  refine fn_ok t.F_need_prices sc_need_prices rfl (by decide) fun cdv A outer s H E b c => ?_
  exact (sq (si (ctn (ct rfl (cf (ps := ["value"]) c (ok_are_prices t pa I) (by decide) t.g_are_prices t.F_are_prices.kp (bi_are_prices t) .nil (fun _ => .nil) (ac (cv 0) an)))) (s1 (sraise c ec_BadValue (by decide) (cl_BadValue t) (show (fn_ 1).length ≤ 1000 from by decide) (ac (cs [112, 114, 105, 99, 101, 115]) an))) sn) (s1 (sr (cf (ps := ["value"]) c (ok_fixed t pa I 12) (by decide) t.g_fixed t.F_fixed.kp (bi_fixed t) .nil (fun _ => .nil) (ac (cv 0) an)))))
def m_price_of : FX := runB 3 (sQ (sA 2 (xF 1 m_need_prices [] (aC (xV 0) aN))) (sQ (sI (tOrx (tNt (tTr (xF 2 m_is_word [] (aC (xV 1) (aC (xC (.int 1)) aN))))) (tBl (x2 eqD (xV 1) (xC (.str []))))) (sRs 1 1 (aC (xC (.str [108, 101, 116, 116, 101, 114])) aN)) sN) (sR (xF 2 m_price_in [] (aC (xV 2) (aC (xV 1) aN))))))
theorem sc_price_of : FnScope ["prices", "letter", "told"] ["prices", "letter"] (defScope s_price_of) := ⟨rfl, rfl, rfl, by decide +kernel, rfl, by decide +kernel, by decide +kernel⟩
theorem bi_price_of (t : Txt K mg) : Binds K t.d_price_of ["prices", "letter"] [] := t.F_price_of.bindsN fun _ _ _ _ _ _ us hl => match us, hl with | [_, _], _ => rfl
theorem kb_price_of_0_letter_prices (t : Txt K mg) : KBn K t.d_price_of ["prices", "letter"] 0 ["letter", "prices"] (fun us ws => pickL [1, 0] (us ++ ws)) (fun vs zs => pickL [1, 0] (vs ++ zs)) := t.F_price_of.kbP 0 ["letter", "prices"] [1, 0] fun _ _ _ _ _ _ us ws h1 h2 => match us, ws, h1, h2 with | [], [_, _], _, _ => rfl
theorem ok_price_of (t : Txt K mg) (pa : Addr) (I : Inf P t pa) : FnOk P w K mg base (L2.CX P w) 15 t.a_price_of t.d_price_of ["prices", "letter"] (SpM (th t pa) 2 m_price_of) := by
  obtain ⟨fI_BadValue, fd_BadValue, ec_BadValue⟩ := I.ec_BadValue w base
  refine fn_ok t.F_price_of sc_price_of rfl (by decide) fun cdv A outer s H E b c => ?_
  exact (sq (sa (i := 2) c.nd (cf (ps := ["prices"]) c (ok_need_prices t pa I) (by decide) t.g_need_prices t.F_need_prices.kp (bi_need_prices t) .nil (fun _ => .nil) (ac (cv 0) an))) (sq (si (L2.PW.pt (co2 (ctn (ct rfl (cf (ps := ["value", "most"]) c (ok_is_word t pa I) (by decide) t.g_is_word t.F_is_word.kp (bi_is_word t) .nil (fun _ => .nil) (ac (cv 1) (ac ci an))))) (co1 (ctc (op_eqD c.room.units) v_eq (cv 1) (cs []) (by first | rfl | exact nomark _))))) (s1 (sraise c ec_BadValue (by decide) (cl_BadValue t) (show (fn_ 1).length ≤ 1000 from by decide) (ac (cs [108, 101, 116, 116, 101, 114]) an))) sn) (s1 (sr (cf (ps := ["prices", "letter"]) c (ok_price_in t pa I) (by decide) t.g_price_in t.F_price_in.kp (bi_price_in t) .nil (fun _ => .nil) (ac (cv 2) (ac (cv 1) an)))))))
def m_cost_of : FX := runB 3 (sQ (sA 2 (xF 1 m_need_prices [] (aC (xV 0) aN))) (sQ (sI (tNt (tTr (xF 2 m_is_word [] (aC (xV 1) (aC (xC (.int 4000)) aN))))) (sRs 1 1 (aC (xC (.str [119, 111, 114, 100])) aN)) sN) (sR (xF 2 m_cost_in [] (aC (xV 2) (aC (xV 1) aN))))))
theorem sc_cost_of : FnScope ["prices", "word", "told"] ["prices", "word"] (defScope s_cost_of) := ⟨rfl, rfl, rfl, by decide +kernel, rfl, by decide +kernel, by decide +kernel⟩
theorem bi_cost_of (t : Txt K mg) : Binds K t.d_cost_of ["prices", "word"] [] := t.F_cost_of.bindsN fun _ _ _ _ _ _ us hl => match us, hl with | [_, _], _ => rfl
theorem kb_cost_of_0_word_prices (t : Txt K mg) : KBn K t.d_cost_of ["prices", "word"] 0 ["word", "prices"] (fun us ws => pickL [1, 0] (us ++ ws)) (fun vs zs => pickL [1, 0] (vs ++ zs)) := t.F_cost_of.kbP 0 ["word", "prices"] [1, 0] fun _ _ _ _ _ _ us ws h1 h2 => match us, ws, h1, h2 with | [], [_, _], _, _ => rfl
theorem ok_cost_of (t : Txt K mg) (pa : Addr) (I : Inf P t pa) : FnOk P w K mg base (L2.CX P w) 15 t.a_cost_of t.d_cost_of ["prices", "word"] (SpM (th t pa) 2 m_cost_of) := by
  obtain ⟨fI_BadValue, fd_BadValue, ec_BadValue⟩ := I.ec_BadValue w base
  refine fn_ok t.F_cost_of sc_cost_of rfl (by decide) fun cdv A outer s H E b c => ?_
  exact (sq (sa (i := 2) c.nd (cf (ps := ["prices"]) c (ok_need_prices t pa I) (by decide) t.g_need_prices t.F_need_prices.kp (bi_need_prices t) .nil (fun _ => .nil) (ac (cv 0) an))) (sq (si (ctn (ct rfl (cf (ps := ["value", "most"]) c (ok_is_word t pa I) (by decide) t.g_is_word t.F_is_word.kp (bi_is_word t) .nil (fun _ => .nil) (ac (cv 1) (ac (cgi 4000 t.k_MOST_WORD t.g_MOST_WORD) an))))) (s1 (sraise c ec_BadValue (by decide) (cl_BadValue t) (show (fn_ 1).length ≤ 1000 from by decide) (ac (cs [119, 111, 114, 100]) an))) sn) (s1 (sr (cf (ps := ["prices", "word"]) c (ok_cost_in t pa I) (by decide) t.g_cost_in t.F_cost_in.kp (bi_cost_in t) .nil (fun _ => .nil) (ac (cv 2) (ac (cv 1) an)))))))
def m__law_draw : FX := runB 7 (sQ (sI (tBl (x2 ltD (xV 1) (xC (.int 2)))) (sR (xC (.int 0))) sN) (sQ (sI (tBl (x2 (ordD gtI) (xPg 0 2) (xC (.int 0)))) (sQ (sA 5 (x2 modD (xCl (on1 intD) (aC (xPg 0 2) aN)) (xV 1))) (sQ (sPs 0 2 (x2 fdivD (xCl (on1 intD) (aC (xPg 0 2) aN)) (xV 1))) (sR (xV 5)))) sN) (sQ (sA 2 (xPg 0 1)) (sQ (sPs 0 1 (x2 addD (xV 2) (xC (.int 1)))) (sQ (sA 3 (x2 addD (x2 mulSD (xC (.int 71045)) (xV 2)) (xC (.int 9027)))) (sQ (sI (tBl (x2 neD (xPg 0 0) (xLs aN))) (sA 3 (x2 ixD (xPg 0 0) (x2 modD (xCl (on1 intD) (aC (xV 2) aN)) (xCl (on1 lenD) (aC (xPg 0 0) aN))))) sN) (sQ (sI (tAn (tBl (x2 ltD (xV 2) (xCl (on1 lenD) (aC (xPg 0 0) aN)))) (tBl (x2 (ordD geI) (xCl (on1 absD) (aC (xV 3) aN)) (x2 powD (xC (.int 10)) (xC (.int 18)))))) (sQ (sA 6 (x2 addD (x2 mulSD (xC (.int 2)) (x2 subD (xCl (on1 absD) (aC (xV 3) aN)) (x2 powD (xC (.int 10)) (xC (.int 18))))) (xCl (on1 intD) (aC (x2 ltD (xV 3) (xC (.int 0))) aN)))) (sQ (sPs 0 2 (x2 fdivD (xCl (on1 intD) (aC (xV 6) aN)) (xV 1))) (sR (x2 modD (xCl (on1 intD) (aC (xV 6) aN)) (xV 1))))) sN) (sQ (sA 4 (x2 modD (xCl (on1 intD) (aC (x2 powD (x2 addD (x2 addD (x2 modD (xCl (on1 intD) (aC (xV 3) aN)) (xC (.int 2147483549))) (x2 mulSD (xC (.int 33071)) (xV 2))) (xC (.int 9027))) (xC (.int 3))) aN)) (xC (.int 2147483629)))) (sQ (sA 4 (x2 modD (xCl (on1 intD) (aC (x2 powD (x2 addD (x2 addD (x2 mulSD (xV 4) (x2 addD (x2 mulSD (xC (.int 2)) (xV 2)) (xC (.int 6123)))) (x2 mulSD (x2 mulSD (xC (.int 71045)) (xV 2)) (xV 2))) (xC (.int 33071))) (xC (.int 5))) aN)) (xC (.int 2147483563)))) (sR (x2 modD (xCl (on1 intD) (aC (x2 fdivD (xV 4) (xC (.int 16))) aN)) (xV 1))))))))))))
theorem sc__law_draw : FnScope ["pen", "many", "at", "cell", "mixed", "digit", "great"] ["pen", "many"] (defScope s__law_draw) := ⟨rfl, rfl, rfl, by decide +kernel, rfl, by decide +kernel, by decide +kernel⟩
theorem bi__law_draw (t : Txt K mg) : Binds K t.d__law_draw ["pen", "many"] [] := t.F__law_draw.bindsN fun _ _ _ _ _ _ us hl => match us, hl with | [_, _], _ => rfl
theorem ok__law_draw (t : Txt K mg) (pa : Addr) (I : Inf P t pa) : FnOk P w K mg base (L2.CX P w) 1 t.a__law_draw t.d__law_draw ["pen", "many"] (SpM (th t pa) 2 m__law_draw) := by
  refine fn_ok t.F__law_draw sc__law_draw rfl (by decide) fun cdv A outer s H E b c => ?_
  exact (sq (si (ctc (op_lt.or op_lt_str) v_lt (cv 1) ci (by first | rfl | exact nomark _)) (s1 (sr ci)) sn) (sq (si (ctc op_gt (v_ord (f := gtI)) (cpg rfl 0 2) ci (by first | rfl | exact nomark _)) (sq (sa (i := 5) c.nd (c2 op_mod v_mod (cty call_int1 (v_on1 v_int) t.z_int rfl (ac (cpg rfl 0 2) an)) (cv 1))) (sq (sps c.nd 0 2 (c2 op_fdiv v_fdiv (cty call_int1 (v_on1 v_int) t.z_int rfl (ac (cpg rfl 0 2) an)) (cv 1))) (s1 (sr (cv 5))))) sn) (sq (sa (i := 2) c.nd (cpg rfl 0 1)) (sq (sps c.nd 0 1 (c2 op_addD v_add (cv 2) ci)) (sq (sa (i := 3) c.nd (c2 op_addD v_add (c2 (op_mul.or op_mulS) v_mulS ci (cv 2)) ci)) (sq (si (ctc (op_neD c.room.units) v_ne (cpg rfl 0 0) (HK.cls an) (by first | rfl | exact nomark _)) (s1 (sa (i := 3) c.nd (cx ix_seq v_ix (cpg rfl 0 0) (c2 op_mod v_mod (cty call_int1 (v_on1 v_int) t.z_int rfl (ac (cv 2) an)) (cb call_len (v_on1 v_len1) t.z_len rfl (ac (cpg rfl 0 0) an))) (fun _ _ => rfl)))) sn) (sq (si (L2.PW.pt (ca2 (ctc (op_lt.or op_lt_str) v_lt (cv 2) (cb call_len (v_on1 v_len1) t.z_len rfl (ac (cpg rfl 0 0) an)) (by first | rfl | exact nomark _)) (ca1 (ctc op_ge (v_ord (f := geI)) (cb call_abs (v_on1 v_abs) t.z_abs rfl (ac (cv 3) an)) (c2 op_pow v_pow ci ci) (by first | rfl | exact nomark _))))) (sq (sa (i := 6) c.nd (c2 op_addD v_add (c2 (op_mul.or op_mulS) v_mulS ci (c2 op_sub v_sub (cb call_abs (v_on1 v_abs) t.z_abs rfl (ac (cv 3) an)) (c2 op_pow v_pow ci ci))) (cty call_int1 (v_on1 v_int) t.z_int rfl (ac (cc (op_lt.or op_lt_str) v_lt (cv 3) ci (by first | rfl | exact nomark _)) an)))) (sq (sps c.nd 0 2 (c2 op_fdiv v_fdiv (cty call_int1 (v_on1 v_int) t.z_int rfl (ac (cv 6) an)) (cv 1))) (s1 (sr (c2 op_mod v_mod (cty call_int1 (v_on1 v_int) t.z_int rfl (ac (cv 6) an)) (cv 1)))))) sn) (sq (sa (i := 4) c.nd (c2 op_mod v_mod (cty call_int1 (v_on1 v_int) t.z_int rfl (ac (c2 op_pow v_pow (c2 op_addD v_add (c2 op_addD v_add (c2 op_mod v_mod (cty call_int1 (v_on1 v_int) t.z_int rfl (ac (cv 3) an)) ci) (c2 (op_mul.or op_mulS) v_mulS ci (cv 2))) ci) ci) an)) ci)) (sq (sa (i := 4) c.nd (c2 op_mod v_mod (cty call_int1 (v_on1 v_int) t.z_int rfl (ac (c2 op_pow v_pow (c2 op_addD v_add (c2 op_addD v_add (c2 (op_mul.or op_mulS) v_mulS (cv 4) (c2 op_addD v_add (c2 (op_mul.or op_mulS) v_mulS ci (cv 2)) ci)) (c2 (op_mul.or op_mulS) v_mulS (c2 (op_mul.or op_mulS) v_mulS ci (cv 2)) (cv 2))) ci) ci) an)) ci)) (s1 (sr (c2 op_mod v_mod (cty call_int1 (v_on1 v_int) t.z_int rfl (ac (c2 op_fdiv v_fdiv (cv 4) ci) an)) (cv 1)))))))))))))
def m__law_pick : FX := runB 2 (sR (x2 ixD (xV 1) (xF 2 m__law_draw [] (aC (xV 0) (aC (xCl (on1 lenD) (aC (xV 1) aN)) aN)))))
theorem sc__law_pick : FnScope ["pen", "some"] ["pen", "some"] (defScope s__law_pick) := ⟨rfl, rfl, rfl, by decide +kernel, rfl, by decide +kernel, by decide +kernel⟩
theorem bi__law_pick (t : Txt K mg) : Binds K t.d__law_pick ["pen", "some"] [] := t.F__law_pick.bindsN fun _ _ _ _ _ _ us hl => match us, hl with | [_, _], _ => rfl
theorem ok__law_pick (t : Txt K mg) (pa : Addr) (I : Inf P t pa) : FnOk P w K mg base (L2.CX P w) 2 t.a__law_pick t.d__law_pick ["pen", "some"] (SpM (th t pa) 2 m__law_pick) := by
  refine fn_ok t.F__law_pick sc__law_pick rfl (by decide) fun cdv A outer s H E b c => ?_
  exact (s1 (sr (cx ix_seq v_ix (cv 1) (cf (ps := ["pen", "many"]) c (ok__law_draw t pa I) (by decide) t.g__law_draw t.F__law_draw.kp (bi__law_draw t) .nil (fun _ => .nil) (ac (cv 0) (ac (cb call_len (v_on1 v_len1) t.z_len rfl (ac (cv 1) an)) an))) (fun _ _ => rfl))))

end L_k01

namespace L_k01
open HK PySem PySem.Spec PySem.Calls PyProof.Rows L2
variable {P : Program} {w : World} {K : PySem.W.Frag} {mg : Str → Option Value} {base : Heap}
def m_lam_0 : List D → FX := lamM 2 [] (xF 2 m_cost_of [] (aC (xV 0) (aC (xV 1) aN)))
theorem lp_0 : LamP [] lam_0.caps lam_0.scope := lamPB_ok (by decide +kernel)
theorem ap1_0 (t : Txt K mg) (pa : Addr) (I : Inf P t pa) : Ap1 (th t pa) P w mg base 16 0 m_lam_0 := by
  exact Ap1.mono (n := 16) (lam_run (T := th t pa) (k := 0) (ps := []) (dfs := []) lp_0 (fun _ => .nil) (lam_bind (L := lam_0) (ps := []) 0 0 rfl rfl (fun _ _ _ _ _ _ us hl => match us, hl with | [], _ => rfl) (fun _ _ _ _ _ _ us dv h1 h2 => match us, dv, h1, h2 with | [], [], _, _ => ⟨_, rfl, rfl⟩)) (fun f c' cl A outer s H E b c => (cf (ps := ["prices", "word"]) c (ok_cost_of t pa I) (by decide) t.g_cost_of t.F_cost_of.kp (bi_cost_of t) .nil (fun _ => .nil) (ac (cv 0) (ac (cv 1) an))))) (by decide)
def m_lam_1 : List D → FX := lamM 2 [D.int 0] (xF 2 m_cost_of [] (aC (xLs aN) (aC (xV 1) aN)))
theorem lp_1 : LamP ["a1"] lam_1.caps lam_1.scope := lamPB_ok (by decide +kernel)
theorem ap1_1 (t : Txt K mg) (pa : Addr) (I : Inf P t pa) : Ap1 (th t pa) P w mg base 16 1 m_lam_1 := by
  exact Ap1.mono (n := 16) (lam_run (T := th t pa) (k := 1) (ps := ["a1"]) (dfs := [D.int 0]) lp_1 (fun _ => (.cons rfl .nil)) (lam_bind (L := lam_1) (ps := ["a1"]) 0 1 rfl rfl (fun z => by cases z) (fun _ _ _ _ _ _ us dv h1 h2 => match us, dv, h1, h2 with | [], [_], _, _ => ⟨_, rfl, rfl⟩)) (fun f c' cl A outer s H E b c => (cf (ps := ["prices", "word"]) c (ok_cost_of t pa I) (by decide) t.g_cost_of t.F_cost_of.kp (bi_cost_of t) .nil (fun _ => .nil) (ac (HK.cls an) (ac (cv 1) an))))) (by decide)
def m_lam_2 : List D → FX := lamM 3 [D.int 0] (xF 2 m_price_of [] (aC (xV 1) (aC (xV 2) aN)))
theorem lp_2 : LamP ["b1"] lam_2.caps lam_2.scope := lamPB_ok (by decide +kernel)
theorem ap1_2 (t : Txt K mg) (pa : Addr) (I : Inf P t pa) : Ap1 (th t pa) P w mg base 16 2 m_lam_2 := by
  exact Ap1.mono (n := 16) (lam_run (T := th t pa) (k := 2) (ps := ["b1"]) (dfs := [D.int 0]) lp_2 (fun _ => (.cons rfl .nil)) (lam_bind (L := lam_2) (ps := ["b1"]) 0 1 rfl rfl (fun z => by cases z) (fun _ _ _ _ _ _ us dv h1 h2 => match us, dv, h1, h2 with | [], [_], _, _ => ⟨_, rfl, rfl⟩)) (fun f c' cl A outer s H E b c => (cf (ps := ["prices", "letter"]) c (ok_price_of t pa I) (by decide) t.g_price_of t.F_price_of.kp (bi_price_of t) .nil (fun _ => .nil) (ac (cv 1) (ac (cv 2) an))))) (by decide)
def m_lam_3 : List D → FX := lamM 2 [D.int 0] (xF 2 m_price_of [] (aC (xLs (aC (xTp (aC (xC (.str [120])) (aC (xC (.int 0)) aN))) aN)) (aC (xV 1) aN)))
theorem lp_3 : LamP ["c1"] lam_3.caps lam_3.scope := lamPB_ok (by decide +kernel)
theorem ap1_3 (t : Txt K mg) (pa : Addr) (I : Inf P t pa) : Ap1 (th t pa) P w mg base 16 3 m_lam_3 := by
  exact Ap1.mono (n := 16) (lam_run (T := th t pa) (k := 3) (ps := ["c1"]) (dfs := [D.int 0]) lp_3 (fun _ => (.cons rfl .nil)) (lam_bind (L := lam_3) (ps := ["c1"]) 0 1 rfl rfl (fun z => by cases z) (fun _ _ _ _ _ _ us dv h1 h2 => match us, dv, h1, h2 with | [], [_], _, _ => ⟨_, rfl, rfl⟩)) (fun f c' cl A outer s H E b c => (cf (ps := ["prices", "letter"]) c (ok_price_of t pa I) (by decide) t.g_price_of t.F_price_of.kp (bi_price_of t) .nil (fun _ => .nil) (ac (HK.cls (ac (ctp (ac (cs [120]) (ac ci an))) an)) (ac (cv 1) an))))) (by decide)
def ap_ : AP := apL [m_lam_0, m_lam_1, m_lam_2, m_lam_3]
theorem hap_ (t : Txt K mg) (pa : Addr) (I : Inf P t pa) : ApOk (th t pa) P w mg base 16 ap_ := apL_ok fun k f e => match k, f, e with | 0, _, rfl => ap1_0 t pa I | 1, _, rfl => ap1_1 t pa I | 2, _, rfl => ap1_2 t pa I | 3, _, rfl => ap1_3 t pa I | k + 4, _, e => by simp at e
def m__law_heard (ap_ : AP) : FX := runB 7 (sQ (sA 1 (xC .non)) (sQ (sTryR 0 ap_ ca_FarError 1 4) (sQ (sI (tTr (xCl (isiD [] [0, 1, 2, 3, 4, 5, 6, 7, 8, 9, 10, 11, 12, 13] subE) (aC (xV 1) (aC (xC (.cls 13)) aN)))) (sR (xTp (aC (xC (.str [109, 97, 110, 121])) (aC (x1 (fldD te_what ti_what) (xV 1)) (aC (x1 (fldD te_most ti_most) (xV 1)) aN))))) sN) (sQ (sI (tTr (xCl (isiD [] [0, 1, 2, 3, 4, 5, 6, 7, 8, 9, 10, 11, 12, 13] subE) (aC (xV 1) (aC (xC (.cls 8)) aN)))) (sR (xTp (aC (xC (.str [116, 101, 120, 116])) (aC (x1 (fldD te_line ti_line) (xV 1)) (aC (x1 (fldD te_word ti_word) (xV 1)) aN))))) sN) (sQ (sI (tTr (xCl (isiD [] [0, 1, 2, 3, 4, 5, 6, 7, 8, 9, 10, 11, 12, 13] subE) (aC (xV 1) (aC (xTp (aC (xC (.cls 9)) (aC (xC (.cls 11)) aN))) aN)))) (sR (xTp (aC (xIf (tTr (xCl (isiD [] [0, 1, 2, 3, 4, 5, 6, 7, 8, 9, 10, 11, 12, 13] subE) (aC (xV 1) (aC (xC (.cls 9)) aN)))) (xC (.str [108, 105, 110, 101])) (xC (.str [110, 111, 116, 104, 105, 110, 103]))) (aC (x1 (fldD te_word ti_word) (xV 1)) aN)))) sN) (sQ (sI (tTr (xCl (isiD [] [0, 1, 2, 3, 4, 5, 6, 7, 8, 9, 10, 11, 12, 13] subE) (aC (xV 1) (aC (xC (.cls 12)) aN)))) (sR (xTp (aC (xC (.str [110, 111, 110, 97, 109, 101])) (aC xNo aN)))) sN) (sQ (sA 2 (xLs (aC (xTp (aC (xC (.str [118, 97, 108, 117, 101])) (aC (xCl (isiD [] [0, 1, 2, 3, 4, 5, 6, 7, 8, 9, 10, 11, 12, 13] subE) (aC (xV 1) (aC (xC (.cls 1)) aN))) aN))) (aC (xTp (aC (xC (.str [110, 117, 109, 98, 101, 114])) (aC (xCl (isiD [] [0, 1, 2, 3, 4, 5, 6, 7, 8, 9, 10, 11, 12, 13] subE) (aC (xV 1) (aC (xC (.cls 2)) aN))) aN))) (aC (xTp (aC (xC (.str [98, 111, 111, 107])) (aC (xCl (isiD [] [0, 1, 2, 3, 4, 5, 6, 7, 8, 9, 10, 11, 12, 13] subE) (aC (xV 1) (aC (xC (.cls 3)) aN))) aN))) (aC (xTp (aC (xC (.str [119, 101, 98])) (aC (xCl (isiD [] [0, 1, 2, 3, 4, 5, 6, 7, 8, 9, 10, 11, 12, 13] subE) (aC (xV 1) (aC (xC (.cls 4)) aN))) aN))) aN)))))) (sQ (sA 2 (x2 addD (xV 2) (xLs (aC (xTp (aC (xC (.str [116, 97, 115, 107])) (aC (xCl (isiD [] [0, 1, 2, 3, 4, 5, 6, 7, 8, 9, 10, 11, 12, 13] subE) (aC (xV 1) (aC (xC (.cls 5)) aN))) aN))) (aC (xTp (aC (xC (.str [116, 121, 112, 105, 115, 116])) (aC (xCl (isiD [] [0, 1, 2, 3, 4, 5, 6, 7, 8, 9, 10, 11, 12, 13] subE) (aC (xV 1) (aC (xC (.cls 6)) aN))) aN))) (aC (xTp (aC (xC (.str [112, 97, 112, 101, 114])) (aC (xCl (isiD [] [0, 1, 2, 3, 4, 5, 6, 7, 8, 9, 10, 11, 12, 13] subE) (aC (xV 1) (aC (xC (.cls 7)) aN))) aN))) (aC (xTp (aC (xC (.str [109, 105, 115, 102, 105, 116])) (aC (xCl (isiD [] [0, 1, 2, 3, 4, 5, 6, 7, 8, 9, 10, 11, 12, 13] subE) (aC (xV 1) (aC (xC (.cls 10)) aN))) aN))) aN))))))) (sQ (sA 3 (xLc [5, 6] (iV (xV 2)) (gT 2 (gC (gN 5) (gC (gN 6) gZ))) (tTr (xV 6)) (xV 5))) (sR (xIf (tBl (x2 eqD (xCl (on1 lenD) (aC (xV 3) aN)) (xC (.int 1)))) (xTp (aC (x2 ixD (xV 3) (xC (.int 0))) (aC (x1 (fldD te_part ti_part) (xV 1)) aN))) (xTp (aC (xC (.str [111, 116, 104, 101, 114])) aN)))))))))))))
theorem sc__law_heard : FnScope ["ask", "raised", "some", "words", "error", "word", "is_one"] ["ask"] (defScope s__law_heard) := ⟨rfl, rfl, rfl, by decide +kernel, rfl, by decide +kernel, by decide +kernel⟩
theorem bi__law_heard (t : Txt K mg) : Binds K t.d__law_heard ["ask"] [] := t.F__law_heard.bindsN fun _ _ _ _ _ _ us hl => match us, hl with | [_], _ => rfl
theorem ok__law_heard (t : Txt K mg) (pa : Addr) (I : Inf P t pa) {ap_ : AP} (hap : ApOk (th t pa) P w mg base 16 ap_) : FnOk P w K mg base (L2.CX P w) 17 t.a__law_heard t.d__law_heard ["ask"] (SpM (th t pa) 1 (m__law_heard ap_)) := by
  refine fn_ok t.F__law_heard sc__law_heard rfl (by decide) fun cdv A outer s H E b c => ?_
  exact (sq (sa (i := 1) c.nd cn) (sq (HK.str c hap (by decide) rfl rfl rfl 0 1 4 rfl (Or.inl rfl) rfl rfl rfl rfl (by decide) ⟨rfl, by decide, Or.inl (cl_FarError t)⟩ I.xm_FarError rfl) (sq (si (ct rfl (cb call_isiD (v_isi I.ci) t.z_isinstance rfl (ac (cv 1) (ac (cgc 13 (cl_TooMany t)) an)))) (s1 (sr (ctp (ac (cs [109, 97, 110, 121]) (ac (cat rfl I.at_what (cv 1)) (ac (cat rfl I.at_most (cv 1)) an)))))) sn) (sq (si (ct rfl (cb call_isiD (v_isi I.ci) t.z_isinstance rfl (ac (cv 1) (ac (cgc 8 (cl_BadText t)) an)))) (s1 (sr (ctp (ac (cs [116, 101, 120, 116]) (ac (cat rfl I.at_line (cv 1)) (ac (cat rfl I.at_word (cv 1)) an)))))) sn) (sq (si (ct rfl (cb call_isiD (v_isi I.ci) t.z_isinstance rfl (ac (cv 1) (ac (ctp (ac (cgc 9 (cl_BadLine t)) (ac (cgc 11 (cl_Nothing t)) an))) an)))) (s1 (sr (ctp (ac (cif (ct rfl (cb call_isiD (v_isi I.ci) t.z_isinstance rfl (ac (cv 1) (ac (cgc 9 (cl_BadLine t)) an)))) (cs [108, 105, 110, 101]) (cs [110, 111, 116, 104, 105, 110, 103])) (ac (cat rfl I.at_word (cv 1)) an))))) sn) (sq (si (ct rfl (cb call_isiD (v_isi I.ci) t.z_isinstance rfl (ac (cv 1) (ac (cgc 12 (cl_NoName t)) an)))) (s1 (sr (ctp (ac (cs [110, 111, 110, 97, 109, 101]) (ac noE an))))) sn) (sq (sa (i := 2) c.nd (HK.cls (ac (ctp (ac (cs [118, 97, 108, 117, 101]) (ac (cb call_isiD (v_isi I.ci) t.z_isinstance rfl (ac (cv 1) (ac (cgc 1 (cl_BadValue t)) an))) an))) (ac (ctp (ac (cs [110, 117, 109, 98, 101, 114]) (ac (cb call_isiD (v_isi I.ci) t.z_isinstance rfl (ac (cv 1) (ac (cgc 2 (cl_BadNumber t)) an))) an))) (ac (ctp (ac (cs [98, 111, 111, 107]) (ac (cb call_isiD (v_isi I.ci) t.z_isinstance rfl (ac (cv 1) (ac (cgc 3 (cl_BadBook t)) an))) an))) (ac (ctp (ac (cs [119, 101, 98]) (ac (cb call_isiD (v_isi I.ci) t.z_isinstance rfl (ac (cv 1) (ac (cgc 4 (cl_BadWeb t)) an))) an))) an)))))) (sq (sa (i := 2) c.nd (c2 op_addD v_add (cv 2) (HK.cls (ac (ctp (ac (cs [116, 97, 115, 107]) (ac (cb call_isiD (v_isi I.ci) t.z_isinstance rfl (ac (cv 1) (ac (cgc 5 (cl_BadTask t)) an))) an))) (ac (ctp (ac (cs [116, 121, 112, 105, 115, 116]) (ac (cb call_isiD (v_isi I.ci) t.z_isinstance rfl (ac (cv 1) (ac (cgc 6 (cl_BadTypist t)) an))) an))) (ac (ctp (ac (cs [112, 97, 112, 101, 114]) (ac (cb call_isiD (v_isi I.ci) t.z_isinstance rfl (ac (cv 1) (ac (cgc 7 (cl_BadPaper t)) an))) an))) (ac (ctp (ac (cs [109, 105, 115, 102, 105, 116]) (ac (cb call_isiD (v_isi I.ci) t.z_isinstance rfl (ac (cv 1) (ac (cgc 10 (cl_Misfit t)) an))) an))) an))))))) (sq (by first | exact (slc (i := 3) c [("word", 5), ("is_one", 6)] (iv rfl (cv 2)) (blkOk_by (by first | rfl | decide +kernel)) (fun _ _ _ _ _ => (pg_tup (by exact c.calm) (pgs_cons (pg_name (i := 5) (by exact c.nd) (by rfl) (by first | exact Or.inl rfl | exact Or.inr rfl)) (pgs_cons (pg_name (i := 6) (by exact c.nd) (by rfl) (by first | exact Or.inl rfl | exact Or.inr rfl)) pgs_nil)))) (fun _ => (gt rfl (gc (gn 5) (gc (gn 6) gz)))) (by decide) (fun _ _ _ _ _ _ c => (po (ct rfl (cv 6)))) (fun _ _ _ _ _ _ c => (cv 5)) rfl) | exact (sa (i := 3) c.nd (clc c [("word", 5), ("is_one", 6)] (iv rfl (cv 2)) (blkOk_by (by first | rfl | decide +kernel)) (fun _ _ _ _ _ => (pg_tup (by exact c.calm) (pgs_cons (pg_name (i := 5) (by exact c.nd) (by rfl) (by first | exact Or.inl rfl | exact Or.inr rfl)) (pgs_cons (pg_name (i := 6) (by exact c.nd) (by rfl) (by first | exact Or.inl rfl | exact Or.inr rfl)) pgs_nil)))) (fun _ => (gt rfl (gc (gn 5) (gc (gn 6) gz)))) (by decide) (fun _ _ _ _ _ _ c => (po (ct rfl (cv 6)))) (fun _ _ _ _ _ _ c => (cv 5))))) (s1 (sr (cif (ctc (op_eqD c.room.units) v_eq (cb call_len (v_on1 v_len1) t.z_len rfl (ac (cv 3) an)) ci (by first | rfl | exact nomark _)) (ctp (ac (cx ix_seq v_ix (cv 3) ci (fun _ _ => rfl)) (ac (cat rfl I.at_part (cv 1)) an))) (ctp (ac (cs [111, 116, 104, 101, 114]) an))))))))))))))

end L_k01

namespace L_k01
open HK PySem PySem.Spec PySem.Calls PyProof.Rows L2
variable {P : Program} {w : World} {K : PySem.W.Frag} {mg : Str → Option Value} {base : Heap}
theorem sc__law_pen : FnScope ["script"] ["script"] (defScope s__law_pen) := ⟨rfl, rfl, rfl, by decide +kernel, rfl, by decide +kernel, by decide +kernel⟩
theorem bi__law_pen (t : Txt K mg) : Binds K t.d__law_pen ["script"] [] := t.F__law_pen.bindsN fun _ _ _ _ _ _ us hl => match us, hl with | [_], _ => rfl
theorem sc_law : FnScope ["script", "pen", "turn", "many", "bad", "none", "lone", "heard", "prices", "word", "due", "letter", "lap", "row"] ["script"] (defScope s_law) := ⟨rfl, rfl, rfl, by decide +kernel, rfl, by decide +kernel, by decide +kernel⟩
abbrev CXl (P : Program) (w : World) {K : PySem.W.Frag} {mg : Str → Option Value} (t : Txt K mg) (base : Heap) (A : Around) (outer : List Env) (s : Shared) (H : Hp) (E : XK) : Cx := cxOf (L2.CX P w) P w K mg base ["script", "pen", "turn", "many", "bad", "none", "lone", "heard", "prices", "word", "due", "letter", "lap", "row"] "law" (defScope s_law) t.fl (.ref t.ca) A outer s H E
section
variable {A : Around} {outer : List Env} {s : Shared} {H : Hp} {E : XK} {b : Bs}
theorem lat_0 (t : Txt K mg) (pa : Addr) (TB : LamX.TabB base mg t.ca t.pt) : LamAt (CXl P w t base A outer s H E) (th t pa) ((th t pa).lam 0) (lamPs e_lam_0) (lamBd e_lam_0) (lamSc e_lam_0) := ⟨⟨t.ca, t.pt, TB, rfl, List.mem_singleton.mpr rfl, fun p hp _ => by rw [List.mem_singleton.mp hp]; rfl⟩, rfl, rfl, rfl, rfl, rfl, .inl ⟨rfl, rfl⟩, lam_free (by decide +kernel)⟩
theorem lfr_0 (t : Txt K mg) : ∀ y ∈ (lamSc e_lam_0).names, y.2 = .free → ∃ c, (CXl P w t base A outer s H E).env.cells.lookup y.1 = some c := lam_free (by decide +kernel)
theorem cap_0 (t : Txt K mg) (pa : Addr) : Caps (CXl P w t base A outer s H E) ((th t pa).lam 0) (lamSc e_lam_0) [4, 5] := caps_by (L := lam_0) (fun _ => rfl) rfl (show (lam_0.caps.all fun y => (lamSc e_lam_0).names.contains (y, NameKind.free) && decide ((defScope s_law).names.lookup y = some .cell)) = true from by decide +kernel) (by decide +kernel)
theorem lat_1 (t : Txt K mg) (pa : Addr) (TB : LamX.TabB base mg t.ca t.pt) : LamAt (CXl P w t base A outer s H E) (th t pa) ((th t pa).lam 1) (lamPs e_lam_1) (lamBd e_lam_1) (lamSc e_lam_1) := ⟨⟨t.ca, t.pt, TB, rfl, List.mem_singleton.mpr rfl, fun p hp _ => by rw [List.mem_singleton.mp hp]; rfl⟩, rfl, rfl, rfl, rfl, rfl, .inr ⟨_, _, _, rfl, rfl⟩, lam_free (by decide +kernel)⟩
theorem lfr_1 (t : Txt K mg) : ∀ y ∈ (lamSc e_lam_1).names, y.2 = .free → ∃ c, (CXl P w t base A outer s H E).env.cells.lookup y.1 = some c := lam_free (by decide +kernel)
theorem cap_1 (t : Txt K mg) (pa : Addr) : Caps (CXl P w t base A outer s H E) ((th t pa).lam 1) (lamSc e_lam_1) [5] := caps_by (L := lam_1) (fun _ => rfl) rfl (show (lam_1.caps.all fun y => (lamSc e_lam_1).names.contains (y, NameKind.free) && decide ((defScope s_law).names.lookup y = some .cell)) = true from by decide +kernel) (by decide +kernel)
theorem lat_2 (t : Txt K mg) (pa : Addr) (TB : LamX.TabB base mg t.ca t.pt) : LamAt (CXl P w t base A outer s H E) (th t pa) ((th t pa).lam 2) (lamPs e_lam_2) (lamBd e_lam_2) (lamSc e_lam_2) := ⟨⟨t.ca, t.pt, TB, rfl, List.mem_singleton.mpr rfl, fun p hp _ => by rw [List.mem_singleton.mp hp]; rfl⟩, rfl, rfl, rfl, rfl, rfl, .inr ⟨_, _, _, rfl, rfl⟩, lam_free (by decide +kernel)⟩
theorem lfr_2 (t : Txt K mg) : ∀ y ∈ (lamSc e_lam_2).names, y.2 = .free → ∃ c, (CXl P w t base A outer s H E).env.cells.lookup y.1 = some c := lam_free (by decide +kernel)
theorem cap_2 (t : Txt K mg) (pa : Addr) : Caps (CXl P w t base A outer s H E) ((th t pa).lam 2) (lamSc e_lam_2) [4, 6] := caps_by (L := lam_2) (fun _ => rfl) rfl (show (lam_2.caps.all fun y => (lamSc e_lam_2).names.contains (y, NameKind.free) && decide ((defScope s_law).names.lookup y = some .cell)) = true from by decide +kernel) (by decide +kernel)
theorem lat_3 (t : Txt K mg) (pa : Addr) (TB : LamX.TabB base mg t.ca t.pt) : LamAt (CXl P w t base A outer s H E) (th t pa) ((th t pa).lam 3) (lamPs e_lam_3) (lamBd e_lam_3) (lamSc e_lam_3) := ⟨⟨t.ca, t.pt, TB, rfl, List.mem_singleton.mpr rfl, fun p hp _ => by rw [List.mem_singleton.mp hp]; rfl⟩, rfl, rfl, rfl, rfl, rfl, .inr ⟨_, _, _, rfl, rfl⟩, lam_free (by decide +kernel)⟩
theorem lfr_3 (t : Txt K mg) : ∀ y ∈ (lamSc e_lam_3).names, y.2 = .free → ∃ c, (CXl P w t base A outer s H E).env.cells.lookup y.1 = some c := lam_free (by decide +kernel)
theorem cap_3 (t : Txt K mg) (pa : Addr) : Caps (CXl P w t base A outer s H E) ((th t pa).lam 3) (lamSc e_lam_3) [6] := caps_by (L := lam_3) (fun _ => rfl) rfl (show (lam_3.caps.all fun y => (lamSc e_lam_3).names.contains (y, NameKind.free) && decide ((defScope s_law).names.lookup y = some .cell)) = true from by decide +kernel) (by decide +kernel)
def m_law_0a_0 : SX := (sA 8 (xLc [11] (iV (xC (.str [97, 98, 99, 120, 121, 122]))) (gN 11) (tBl (x2 eqD (xF 2 m__law_draw [] (aC (xV 1) (aC (xC (.int 2)) aN))) (xC (.int 0)))) (xTp (aC (xV 11) (aC (xF 2 m__law_pick [] (aC (xV 1) (aC (xLs (aC (xC (.int 0)) (aC (xC (.int 1)) (aC (xC (.int 2)) (aC (xC (.int 20)) aN))))) aN))) aN)))))
theorem st_law_0a_0 (t : Txt K mg) (pa : Addr) (I : Inf P t pa) (TB : LamX.TabB base mg t.ca t.pt) (c : CO (CXl P w t base A outer s H E) (th t pa) E 17) : PS (CXl P w t base A outer s H E) q_law_0a_0 (tSt (th t pa) b E m_law_0a_0) := by
  exact (by first | exact (slc (i := 8) c [("letter", 11)] (iv rfl (cs [97, 98, 99, 120, 121, 122])) (blkOk_by (by first | rfl | decide +kernel)) (fun _ _ _ _ _ => (pg_name (i := 11) (by exact c.nd) (by rfl) (by first | exact Or.inl rfl | exact Or.inr rfl))) (fun _ => (gn 11)) (by decide) (fun _ _ _ _ _ _ c => (po (ctc (op_eqD c.room.units) v_eq (cf (ps := ["pen", "many"]) c (ok__law_draw t pa I) (by decide) t.g__law_draw t.F__law_draw.kp (bi__law_draw t) .nil (fun _ => .nil) (ac (cv 1) (ac ci an))) ci (by first | rfl | exact nomark _)))) (fun _ _ _ _ _ _ c => (ctp (ac (cv 11) (ac (cf (ps := ["pen", "some"]) c (ok__law_pick t pa I) (by decide) t.g__law_pick t.F__law_pick.kp (bi__law_pick t) .nil (fun _ => .nil) (ac (cv 1) (ac (HK.cls (ac ci (ac ci (ac ci (ac ci an))))) an))) an)))) rfl) | exact (sa (i := 8) c.nd (clc c [("letter", 11)] (iv rfl (cs [97, 98, 99, 120, 121, 122])) (blkOk_by (by first | rfl | decide +kernel)) (fun _ _ _ _ _ => (pg_name (i := 11) (by exact c.nd) (by rfl) (by first | exact Or.inl rfl | exact Or.inr rfl))) (fun _ => (gn 11)) (by decide) (fun _ _ _ _ _ _ c => (po (ctc (op_eqD c.room.units) v_eq (cf (ps := ["pen", "many"]) c (ok__law_draw t pa I) (by decide) t.g__law_draw t.F__law_draw.kp (bi__law_draw t) .nil (fun _ => .nil) (ac (cv 1) (ac ci an))) ci (by first | rfl | exact nomark _)))) (fun _ _ _ _ _ _ c => (ctp (ac (cv 11) (ac (cf (ps := ["pen", "some"]) c (ok__law_pick t pa I) (by decide) t.g__law_pick t.F__law_pick.kp (bi__law_pick t) .nil (fun _ => .nil) (ac (cv 1) (ac (HK.cls (ac ci (ac ci (ac ci (ac ci an))))) an))) an)))))))
def m_law_0a_1 : SX := (sA 9 (xJn (xC (.str [])) (xLc [12] (iR1 (aC (xF 2 m__law_draw [] (aC (xV 1) (aC (xC (.int 9)) aN))) aN)) (gN 12) tT (xF 2 m__law_pick [] (aC (xV 1) (aC (xCl (on1 listSD) (aC (xC (.str [97, 98, 99, 100, 120, 121, 122])) aN)) aN))))))
theorem st_law_0a_1 (t : Txt K mg) (pa : Addr) (I : Inf P t pa) (TB : LamX.TabB base mg t.ca t.pt) (c : CO (CXl P w t base A outer s H E) (th t pa) E 17) : PS (CXl P w t base A outer s H E) q_law_0a_1 (tSt (th t pa) b E m_law_0a_1) := by
  exact (sa (i := 9) c.nd (cjn rfl (cs []) (clc c [("lap", 12)] (ir1 t.z_range (ac (cf (ps := ["pen", "many"]) c (ok__law_draw t pa I) (by decide) t.g__law_draw t.F__law_draw.kp (bi__law_draw t) .nil (fun _ => .nil) (ac (cv 1) (ac ci an))) an)) (blkOk_by (by first | rfl | decide +kernel)) (fun _ _ _ _ _ => (pg_name (i := 12) (by exact c.nd) (by rfl) (by first | exact Or.inl rfl | exact Or.inr rfl))) (fun _ => (gn 12)) (by decide) (fun _ _ _ _ _ _ c => pn) (fun _ _ _ _ _ _ c => (cf (ps := ["pen", "some"]) c (ok__law_pick t pa I) (by decide) t.g__law_pick t.F__law_pick.kp (bi__law_pick t) .nil (fun _ => .nil) (ac (cv 1) (ac (cty (call_listSD c.calm) v_listS t.z_list rfl (ac (cs [97, 98, 99, 100, 120, 121, 122]) an)) an)))))))
def m_law_0a_2 : SX := (sA 10 (xCl (on1 (onInts fun is => some (.int is.sum))) (aC (xLc [11] (iV (xV 9)) (gN 11) tT (xGet (xCl (on1 dictD) (aC (xV 8) aN)) (xV 11) (xC (.int 1)))) aN)))
theorem st_law_0a_2 (t : Txt K mg) (pa : Addr) (I : Inf P t pa) (TB : LamX.TabB base mg t.ca t.pt) (c : CO (CXl P w t base A outer s H E) (th t pa) E 17) : PS (CXl P w t base A outer s H E) q_law_0a_2 (tSt (th t pa) b E m_law_0a_2) := by
  exact (sa (i := 10) c.nd (cb (cr_sum c.calm) (v_on1 v_sum) t.z_sum rfl (ac (clc c [("letter", 11)] (iv rfl (cv 9)) (blkOk_by (by first | rfl | decide +kernel)) (fun _ _ _ _ _ => (pg_name (i := 11) (by exact c.nd) (by rfl) (by first | exact Or.inl rfl | exact Or.inr rfl))) (fun _ => (gn 11)) (by decide) (fun _ _ _ _ _ _ c => pn) (fun _ _ _ _ _ _ c => (cget c (cty (call_dictX c.calm) v_dict t.z_dict rfl (ac (cv 8) an)) (cv 11) ci))) an)))
def m_law_0a_3 : SX := (sI (tOrx (tBl (x2 neD (xF 2 m_cost_of [] (aC (xV 8) (aC (xV 9) aN))) (xV 10))) (tBl (x2 neD (xFK 2 0 2 [1, 0] m_cost_of aN (aC (xV 9) (aC (xCl (on1 tupleD) (aC (xLc [13] (iV (xV 8)) (gN 13) tT (xCl (on1 listSD) (aC (xV 13) aN))) aN)) aN))) (xV 10)))) (sR (xC (.bl false))) sN)
theorem st_law_0a_3 (t : Txt K mg) (pa : Addr) (I : Inf P t pa) (TB : LamX.TabB base mg t.ca t.pt) (c : CO (CXl P w t base A outer s H E) (th t pa) E 17) : PS (CXl P w t base A outer s H E) q_law_0a_3 (tSt (th t pa) b E m_law_0a_3) := by
  exact (si (L2.PW.pt (co2 (ctc (op_neD c.room.units) v_ne (cf (ps := ["prices", "word"]) c (ok_cost_of t pa I) (by decide) t.g_cost_of t.F_cost_of.kp (bi_cost_of t) .nil (fun _ => .nil) (ac (cv 8) (ac (cv 9) an))) (cv 10) (by first | rfl | exact nomark _)) (co1 (ctc (op_neD c.room.units) v_ne (cfk0 (ps := ["prices", "word"]) (ks := ["word", "prices"]) c (ok_cost_of t pa I) (by decide) t.g_cost_of t.F_cost_of.kp (kb_cost_of_0_word_prices t) (kc (cv 9) (kc (cty call_tup2 v_tuple t.z_tuple rfl (ac (clc c [("row", 13)] (iv rfl (cv 8)) (blkOk_by (by first | rfl | decide +kernel)) (fun _ _ _ _ _ => (pg_name (i := 13) (by exact c.nd) (by rfl) (by first | exact Or.inl rfl | exact Or.inr rfl))) (fun _ => (gn 13)) (by decide) (fun _ _ _ _ _ _ c => pn) (fun _ _ _ _ _ _ c => (cty (call_listSD c.calm) v_listS t.z_list rfl (ac (cv 13) an)))) an)) kn))) (cv 10) (by first | rfl | exact nomark _))))) (s1 (sr cbl)) sn)
def m_law_0a_4 : SX := (sA 11 (xF 2 m__law_pick [] (aC (xV 1) (aC (xCl (on1 listSD) (aC (xC (.str [97, 98, 99, 100, 120, 121, 122])) aN)) aN))))
theorem st_law_0a_4 (t : Txt K mg) (pa : Addr) (I : Inf P t pa) (TB : LamX.TabB base mg t.ca t.pt) (c : CO (CXl P w t base A outer s H E) (th t pa) E 17) : PS (CXl P w t base A outer s H E) q_law_0a_4 (tSt (th t pa) b E m_law_0a_4) := by
  exact (sa (i := 11) c.nd (cf (ps := ["pen", "some"]) c (ok__law_pick t pa I) (by decide) t.g__law_pick t.F__law_pick.kp (bi__law_pick t) .nil (fun _ => .nil) (ac (cv 1) (ac (cty (call_listSD c.calm) v_listS t.z_list rfl (ac (cs [97, 98, 99, 100, 120, 121, 122]) an)) an))))
def m_law_0a_5 : SX := (sI (tOrx (tBl (x2 neD (xF 2 m_price_of [] (aC (xV 8) (aC (xV 11) aN))) (xGet (xCl (on1 dictD) (aC (xV 8) aN)) (xV 11) (xC (.int 1))))) (tBl (x2 neD (xFK 2 0 2 [1, 0] m_price_of aN (aC (xV 11) (aC (xV 8) aN))) (xF 2 m_price_of [] (aC (xV 8) (aC (xV 11) aN)))))) (sR (xC (.bl false))) sN)
theorem st_law_0a_5 (t : Txt K mg) (pa : Addr) (I : Inf P t pa) (TB : LamX.TabB base mg t.ca t.pt) (c : CO (CXl P w t base A outer s H E) (th t pa) E 17) : PS (CXl P w t base A outer s H E) q_law_0a_5 (tSt (th t pa) b E m_law_0a_5) := by
  exact (si (L2.PW.pt (co2 (ctc (op_neD c.room.units) v_ne (cf (ps := ["prices", "letter"]) c (ok_price_of t pa I) (by decide) t.g_price_of t.F_price_of.kp (bi_price_of t) .nil (fun _ => .nil) (ac (cv 8) (ac (cv 11) an))) (cget c (cty (call_dictX c.calm) v_dict t.z_dict rfl (ac (cv 8) an)) (cv 11) ci) (by first | rfl | exact nomark _)) (co1 (ctc (op_neD c.room.units) v_ne (cfk0 (ps := ["prices", "letter"]) (ks := ["letter", "prices"]) c (ok_price_of t pa I) (by decide) t.g_price_of t.F_price_of.kp (kb_price_of_0_letter_prices t) (kc (cv 11) (kc (cv 8) kn))) (cf (ps := ["prices", "letter"]) c (ok_price_of t pa I) (by decide) t.g_price_of t.F_price_of.kp (bi_price_of t) .nil (fun _ => .nil) (ac (cv 8) (ac (cv 11) an))) (by first | rfl | exact nomark _))))) (s1 (sr cbl)) sn)
def m_law_0 : SX := (sF (iR1 (aC (xC (.int 10)) aN)) (gN 2) (sQ m_law_0a_0 (sQ m_law_0a_1 (sQ m_law_0a_2 (sQ m_law_0a_3 (sQ m_law_0a_4 m_law_0a_5))))))
theorem st_law_0 (t : Txt K mg) (pa : Addr) (I : Inf P t pa) (TB : LamX.TabB base mg t.ca t.pt) (c : CO (CXl P w t base A outer s H E) (th t pa) E 17) : PS (CXl P w t base A outer s H E) q_law_0 (tSt (th t pa) b E m_law_0) := by
  exact (sf c.po c.calm (ir1 t.z_range (ac ci an)) (pg_name (i := 2) (by exact c.nd) (by rfl) (by first | exact Or.inl rfl | exact Or.inr rfl)) (gn 2) (sq (st_law_0a_0 t pa I TB c) (sq (st_law_0a_1 t pa I TB c) (sq (st_law_0a_2 t pa I TB c) (sq (st_law_0a_3 t pa I TB c) (sq (st_law_0a_4 t pa I TB c) (s1 (st_law_0a_5 t pa I TB c))))))))
def m_law_1 : SX := (sA 3 (xF 2 m__law_draw [] (aC (xV 1) (aC (xC (.int 4000)) aN))))
theorem st_law_1 (t : Txt K mg) (pa : Addr) (I : Inf P t pa) (TB : LamX.TabB base mg t.ca t.pt) (c : CO (CXl P w t base A outer s H E) (th t pa) E 17) : PS (CXl P w t base A outer s H E) q_law_1 (tSt (th t pa) b E m_law_1) := by
  exact (sa (i := 3) c.nd (cf (ps := ["pen", "many"]) c (ok__law_draw t pa I) (by decide) t.g__law_draw t.F__law_draw.kp (bi__law_draw t) .nil (fun _ => .nil) (ac (cv 1) (ac ci an))))
def m_law_2 : SX := (sI (tOrx (tBl (x2 neD (xF 2 m_cost_of [] (aC (xLs (aC (xTp (aC (xC (.str [120])) (aC (xC (.int 20)) aN))) aN)) (aC (x2 mulSD (xC (.str [120])) (xV 3)) aN))) (x2 mulSD (xC (.int 20)) (xV 3)))) (tOrx (tBl (x2 neD (xF 2 m_cost_of [] (aC (xLs aN) (aC (x2 mulSD (xC (.str [113])) (xC (.int 4000))) aN))) (xC (.int 4000)))) (tBl (x2 neD (xF 2 m_cost_of [] (aC (xLs aN) (aC (xC (.str [])) aN))) (xC (.int 0)))))) (sR (xC (.bl false))) sN)
theorem st_law_2 (t : Txt K mg) (pa : Addr) (I : Inf P t pa) (TB : LamX.TabB base mg t.ca t.pt) (c : CO (CXl P w t base A outer s H E) (th t pa) E 17) : PS (CXl P w t base A outer s H E) q_law_2 (tSt (th t pa) b E m_law_2) := by
  exact (si (L2.PW.pt (co2 (ctc (op_neD c.room.units) v_ne (cf (ps := ["prices", "word"]) c (ok_cost_of t pa I) (by decide) t.g_cost_of t.F_cost_of.kp (bi_cost_of t) .nil (fun _ => .nil) (ac (HK.cls (ac (ctp (ac (cs [120]) (ac ci an))) an)) (ac (c2 (op_mul.or op_mulS) v_mulS (cs [120]) (cv 3)) an))) (c2 (op_mul.or op_mulS) v_mulS ci (cv 3)) (by first | rfl | exact nomark _)) (co2 (ctc (op_neD c.room.units) v_ne (cf (ps := ["prices", "word"]) c (ok_cost_of t pa I) (by decide) t.g_cost_of t.F_cost_of.kp (bi_cost_of t) .nil (fun _ => .nil) (ac (HK.cls an) (ac (c2 (op_mul.or op_mulS) v_mulS (cs [113]) ci) an))) ci (by first | rfl | exact nomark _)) (co1 (ctc (op_neD c.room.units) v_ne (cf (ps := ["prices", "word"]) c (ok_cost_of t pa I) (by decide) t.g_cost_of t.F_cost_of.kp (bi_cost_of t) .nil (fun _ => .nil) (ac (HK.cls an) (ac (cs []) an))) ci (by first | rfl | exact nomark _)))))) (s1 (sr cbl)) sn)
def m_law_3 : SX := (sA 4 (xF 2 m__law_pick [] (aC (xV 1) (aC (xLs (aC (xC .non) (aC (xC (.int 5)) (aC (xC (.str [120])) (aC (xLs (aC (xTp (aC (xC (.str [120])) aN)) aN)) (aC (xLs (aC (xTp (aC (xC (.str [120])) (aC (xC (.int 1)) (aC (xC (.int 2)) aN)))) aN)) (aC (xLs (aC (xTp (aC (xC (.str [120, 121])) (aC (xC (.int 1)) aN))) aN)) (aC (xLs (aC (xTp (aC (xC (.str [])) (aC (xC (.int 1)) aN))) aN)) (aC (xLs (aC (xTp (aC (xC (.str [88])) (aC (xC (.int 1)) aN))) aN)) (aC (xLs (aC (xTp (aC (xC (.str [120])) (aC (x1 negD (xC (.int 1))) aN))) aN)) (aC (xLs (aC (xTp (aC (xC (.str [120])) (aC (xC (.int 21)) aN))) aN)) (aC (xLs (aC (xTp (aC (xC (.str [120])) (aC (xC (.bl true)) aN))) aN)) (aC (xLs (aC (xTp (aC (xC (.str [120])) (aC (xC (.int 1)) aN))) (aC (xTp (aC (xC (.str [120])) (aC (xC (.int 1)) aN))) aN))) (aC (xLs (aC (xTp (aC (xC (.str [121])) (aC (xC (.int 1)) aN))) (aC (xTp (aC (xC (.str [120])) (aC (xC (.int 1)) aN))) aN))) (aC (xLs (aC (xC (.int 5)) aN)) (aC (xDc [(D.str [120], D.int 1)]) (aC (xLs (aC (xTp (aC (xC (.str [120])) (aC (xC (.str [49])) aN))) aN)) aN))))))))))))))))) aN))))
theorem st_law_3 (t : Txt K mg) (pa : Addr) (I : Inf P t pa) (TB : LamX.TabB base mg t.ca t.pt) (c : CO (CXl P w t base A outer s H E) (th t pa) E 17) : PS (CXl P w t base A outer s H E) q_law_3 (tSt (th t pa) b E m_law_3) := by
  exact (sa (i := 4) c.nd (cf (ps := ["pen", "some"]) c (ok__law_pick t pa I) (by decide) t.g__law_pick t.F__law_pick.kp (bi__law_pick t) .nil (fun _ => .nil) (ac (cv 1) (ac (HK.cls (ac cn (ac ci (ac (cs [120]) (ac (HK.cls (ac (ctp (ac (cs [120]) an)) an)) (ac (HK.cls (ac (ctp (ac (cs [120]) (ac ci (ac ci an)))) an)) (ac (HK.cls (ac (ctp (ac (cs [120, 121]) (ac ci an))) an)) (ac (HK.cls (ac (ctp (ac (cs []) (ac ci an))) an)) (ac (HK.cls (ac (ctp (ac (cs [88]) (ac ci an))) an)) (ac (HK.cls (ac (ctp (ac (cs [120]) (ac (c1 un_neg v_neg ci) an))) an)) (ac (HK.cls (ac (ctp (ac (cs [120]) (ac ci an))) an)) (ac (HK.cls (ac (ctp (ac (cs [120]) (ac cbl an))) an)) (ac (HK.cls (ac (ctp (ac (cs [120]) (ac ci an))) (ac (ctp (ac (cs [120]) (ac ci an))) an))) (ac (HK.cls (ac (ctp (ac (cs [121]) (ac ci an))) (ac (ctp (ac (cs [120]) (ac ci an))) an))) (ac (HK.cls (ac ci an)) (ac (cdc [(D.str [120], D.int 1)] [(Sum.inr (mkS [120]), V.int 1)] (pps_cons pe_str pe_int pps_nil) (fun _ => (.cons ⟨rfl, rfl⟩ .nil))) (ac (HK.cls (ac (ctp (ac (cs [120]) (ac (cs [49]) an))) an)) an))))))))))))))))) an))))
def m_law_4 : SX := (sA 5 (xF 2 m__law_pick [] (aC (xV 1) (aC (xLs (aC (xC .non) (aC (xC (.int 5)) (aC (xC (.str [88])) (aC (xC (.str [120, 32, 121])) (aC (x2 mulSD (xC (.str [120])) (xC (.int 4001))) (aC (xLs (aC (xC (.str [120])) aN)) (aC (xC (.str [49])) aN)))))))) aN))))
theorem st_law_4 (t : Txt K mg) (pa : Addr) (I : Inf P t pa) (TB : LamX.TabB base mg t.ca t.pt) (c : CO (CXl P w t base A outer s H E) (th t pa) E 17) : PS (CXl P w t base A outer s H E) q_law_4 (tSt (th t pa) b E m_law_4) := by
  exact (sa (i := 5) c.nd (cf (ps := ["pen", "some"]) c (ok__law_pick t pa I) (by decide) t.g__law_pick t.F__law_pick.kp (bi__law_pick t) .nil (fun _ => .nil) (ac (cv 1) (ac (HK.cls (ac cn (ac ci (ac (cs [88]) (ac (cs [120, 32, 121]) (ac (c2 (op_mul.or op_mulS) v_mulS (cs [120]) ci) (ac (HK.cls (ac (cs [120]) an)) (ac (cs [49]) an)))))))) an))))
def m_law_5 : SX := (sA 6 (xF 2 m__law_pick [] (aC (xV 1) (aC (xLs (aC (xC .non) (aC (xC (.int 5)) (aC (xC (.str [])) (aC (xC (.str [120, 121])) (aC (xC (.str [88])) (aC (xLs (aC (xC (.str [120])) aN)) (aC (xC (.str [49])) aN)))))))) aN))))
theorem st_law_5 (t : Txt K mg) (pa : Addr) (I : Inf P t pa) (TB : LamX.TabB base mg t.ca t.pt) (c : CO (CXl P w t base A outer s H E) (th t pa) E 17) : PS (CXl P w t base A outer s H E) q_law_5 (tSt (th t pa) b E m_law_5) := by
  exact (sa (i := 6) c.nd (cf (ps := ["pen", "some"]) c (ok__law_pick t pa I) (by decide) t.g__law_pick t.F__law_pick.kp (bi__law_pick t) .nil (fun _ => .nil) (ac (cv 1) (ac (HK.cls (ac cn (ac ci (ac (cs []) (ac (cs [120, 121]) (ac (cs [88]) (ac (HK.cls (ac (cs [120]) an)) (ac (cs [49]) an)))))))) an))))
def m_law_6 : SX := (sA 7 (xLs (aC (xFL 1 (m__law_heard ap_) [] 0 [4, 5] (lH aN)) (aC (xFL 1 (m__law_heard ap_) [] 1 [5] (lH aN)) (aC (xFL 1 (m__law_heard ap_) [] 2 [4, 6] (lH aN)) (aC (xFL 1 (m__law_heard ap_) [] 3 [6] (lH aN)) aN))))))
theorem st_law_6 (t : Txt K mg) (pa : Addr) (I : Inf P t pa) (TB : LamX.TabB base mg t.ca t.pt) (c : CO (CXl P w t base A outer s H E) (th t pa) E 17) : PS (CXl P w t base A outer s H E) q_law_6 (tSt (th t pa) b E m_law_6) := by
  exact (sa (i := 7) c.nd (HK.cls (ac (cfl (ps := ["ask"]) c (ok__law_heard t pa I (hap_ t pa I)) (by decide) t.g__law_heard t.F__law_heard.kp (bi__law_heard t) .nil (fun _ => .nil) (plh (lat_0 t pa TB) an) (cap_0 t pa) (lfr_0 t)) (ac (cfl (ps := ["ask"]) c (ok__law_heard t pa I (hap_ t pa I)) (by decide) t.g__law_heard t.F__law_heard.kp (bi__law_heard t) .nil (fun _ => .nil) (plh (lat_1 t pa TB) an) (cap_1 t pa) (lfr_1 t)) (ac (cfl (ps := ["ask"]) c (ok__law_heard t pa I (hap_ t pa I)) (by decide) t.g__law_heard t.F__law_heard.kp (bi__law_heard t) .nil (fun _ => .nil) (plh (lat_2 t pa TB) an) (cap_2 t pa) (lfr_2 t)) (ac (cfl (ps := ["ask"]) c (ok__law_heard t pa I (hap_ t pa I)) (by decide) t.g__law_heard t.F__law_heard.kp (bi__law_heard t) .nil (fun _ => .nil) (plh (lat_3 t pa TB) an) (cap_3 t pa) (lfr_3 t)) an))))))
def m_law_7 : SX := (sR (x2 eqD (xV 7) (xLs (aC (xTp (aC (xC (.str [118, 97, 108, 117, 101])) (aC (xC (.str [112, 114, 105, 99, 101, 115])) aN))) (aC (xTp (aC (xC (.str [118, 97, 108, 117, 101])) (aC (xC (.str [119, 111, 114, 100])) aN))) (aC (xTp (aC (xC (.str [118, 97, 108, 117, 101])) (aC (xC (.str [112, 114, 105, 99, 101, 115])) aN))) (aC (xTp (aC (xC (.str [118, 97, 108, 117, 101])) (aC (xC (.str [108, 101, 116, 116, 101, 114])) aN))) aN)))))))
theorem st_law_7 (t : Txt K mg) (pa : Addr) (I : Inf P t pa) (TB : LamX.TabB base mg t.ca t.pt) (c : CO (CXl P w t base A outer s H E) (th t pa) E 17) : PS (CXl P w t base A outer s H E) q_law_7 (tSt (th t pa) b E m_law_7) := by
  exact (sr (cc (op_eqD c.room.units) v_eq (cv 7) (HK.cls (ac (ctp (ac (cs [118, 97, 108, 117, 101]) (ac (cs [112, 114, 105, 99, 101, 115]) an))) (ac (ctp (ac (cs [118, 97, 108, 117, 101]) (ac (cs [119, 111, 114, 100]) an))) (ac (ctp (ac (cs [118, 97, 108, 117, 101]) (ac (cs [112, 114, 105, 99, 101, 115]) an))) (ac (ctp (ac (cs [118, 97, 108, 117, 101]) (ac (cs [108, 101, 116, 116, 101, 114]) an))) an))))) (by first | rfl | exact nomark _)))
def m_law_rest : SX := (sQ m_law_0 (sQ m_law_1 (sQ m_law_2 (sQ m_law_3 (sQ m_law_4 (sQ m_law_5 (sQ m_law_6 m_law_7)))))))
theorem st_law_rest (t : Txt K mg) (pa : Addr) (I : Inf P t pa) (TB : LamX.TabB base mg t.ca t.pt) (c : CO (CXl P w t base A outer s H E) (th t pa) E 17) : PSs (CXl P w t base A outer s H E) ((defBody s_law).drop 1) (tSt (th t pa) b E m_law_rest) := (sq (st_law_0 t pa I TB c) (sq (st_law_1 t pa I TB c) (sq (st_law_2 t pa I TB c) (sq (st_law_3 t pa I TB c) (sq (st_law_4 t pa I TB c) (sq (st_law_5 t pa I TB c) (sq (st_law_6 t pa I TB c) (s1 (st_law_7 t pa I TB c)))))))))
end

end L_k01

namespace L_k01
open HK PySem PySem.Spec PySem.Calls PyProof.Rows L2
variable {P : Program} {w : World} {K : PySem.W.Frag} {mg : Str → Option Value} {base : Heap}
theorem cx_no {P : Program} {w : World} {H : Hp} {s : Shared} {e : Value} {s' : Shared} (h : L2.CX P w [] H s (fun _ _ _ => False) e s') : False := by
  obtain ⟨_, _, _, _, _, _, _, _, _, _, _, _, z⟩ := h
  exact z
def i_BadValue : Stmt := clB (top 10) 0
theorem exc_BadValue {C fI cc cda : Addr} {kV doc pm ct : Value} {an : Option Addr} (a : PySem.W.nsIn K mainGlobals "BadValue" = some (some (.ref C))) (O : OexC K C) (i : PySem.W.findIn K (.ref C) "__init__" = some (some (.ref fI))) (ty : PySem.W.typeIn K (.ref fI) = some (.type "function")) (n0 : PySem.W.findIn K (.ref C) "part" = some none)
    (F : IniF P K mg ["self", "part"] "__init__" "BadValue.__init__" (defArgs i_BadValue) (defBody i_BadValue) (defScope i_BadValue) .none kV doc pm ct an fI cc cda C) : ExcAt P K mg "BadValue" ["self", "part"] ["part"] :=
  ⟨C, fI, _, a, O, i, ty, fun w base => ini1 F O rfl (fun _ => ⟨_, rfl⟩) (fun _ => rfl) n0, .all fun us hl => match us, hl with | [_, _], _ => rfl⟩
def i_BadNumber : Stmt := clB (top 11) 0
theorem exc_BadNumber {C fI cc cda : Addr} {kV doc pm ct : Value} {an : Option Addr} (a : PySem.W.nsIn K mainGlobals "BadNumber" = some (some (.ref C))) (O : OexC K C) (i : PySem.W.findIn K (.ref C) "__init__" = some (some (.ref fI))) (ty : PySem.W.typeIn K (.ref fI) = some (.type "function")) (n0 : PySem.W.findIn K (.ref C) "part" = some none)
    (F : IniF P K mg ["self", "part"] "__init__" "BadNumber.__init__" (defArgs i_BadNumber) (defBody i_BadNumber) (defScope i_BadNumber) .none kV doc pm ct an fI cc cda C) : ExcAt P K mg "BadNumber" ["self", "part"] ["part"] :=
  ⟨C, fI, _, a, O, i, ty, fun w base => ini1 F O rfl (fun _ => ⟨_, rfl⟩) (fun _ => rfl) n0, .all fun us hl => match us, hl with | [_, _], _ => rfl⟩
def i_BadBook : Stmt := clB (top 12) 0
theorem exc_BadBook {C fI cc cda : Addr} {kV doc pm ct : Value} {an : Option Addr} (a : PySem.W.nsIn K mainGlobals "BadBook" = some (some (.ref C))) (O : OexC K C) (i : PySem.W.findIn K (.ref C) "__init__" = some (some (.ref fI))) (ty : PySem.W.typeIn K (.ref fI) = some (.type "function")) (n0 : PySem.W.findIn K (.ref C) "part" = some none)
    (F : IniF P K mg ["self", "part"] "__init__" "BadBook.__init__" (defArgs i_BadBook) (defBody i_BadBook) (defScope i_BadBook) .none kV doc pm ct an fI cc cda C) : ExcAt P K mg "BadBook" ["self", "part"] ["part"] :=
  ⟨C, fI, _, a, O, i, ty, fun w base => ini1 F O rfl (fun _ => ⟨_, rfl⟩) (fun _ => rfl) n0, .all fun us hl => match us, hl with | [_, _], _ => rfl⟩
def i_BadWeb : Stmt := clB (top 13) 0
theorem exc_BadWeb {C fI cc cda : Addr} {kV doc pm ct : Value} {an : Option Addr} (a : PySem.W.nsIn K mainGlobals "BadWeb" = some (some (.ref C))) (O : OexC K C) (i : PySem.W.findIn K (.ref C) "__init__" = some (some (.ref fI))) (ty : PySem.W.typeIn K (.ref fI) = some (.type "function")) (n0 : PySem.W.findIn K (.ref C) "part" = some none)
    (F : IniF P K mg ["self", "part"] "__init__" "BadWeb.__init__" (defArgs i_BadWeb) (defBody i_BadWeb) (defScope i_BadWeb) .none kV doc pm ct an fI cc cda C) : ExcAt P K mg "BadWeb" ["self", "part"] ["part"] :=
  ⟨C, fI, _, a, O, i, ty, fun w base => ini1 F O rfl (fun _ => ⟨_, rfl⟩) (fun _ => rfl) n0, .all fun us hl => match us, hl with | [_, _], _ => rfl⟩
def i_BadTask : Stmt := clB (top 14) 0
theorem exc_BadTask {C fI cc cda : Addr} {kV doc pm ct : Value} {an : Option Addr} (a : PySem.W.nsIn K mainGlobals "BadTask" = some (some (.ref C))) (O : OexC K C) (i : PySem.W.findIn K (.ref C) "__init__" = some (some (.ref fI))) (ty : PySem.W.typeIn K (.ref fI) = some (.type "function")) (n0 : PySem.W.findIn K (.ref C) "part" = some none)
    (F : IniF P K mg ["self", "part"] "__init__" "BadTask.__init__" (defArgs i_BadTask) (defBody i_BadTask) (defScope i_BadTask) .none kV doc pm ct an fI cc cda C) : ExcAt P K mg "BadTask" ["self", "part"] ["part"] :=
  ⟨C, fI, _, a, O, i, ty, fun w base => ini1 F O rfl (fun _ => ⟨_, rfl⟩) (fun _ => rfl) n0, .all fun us hl => match us, hl with | [_, _], _ => rfl⟩
def i_BadTypist : Stmt := clB (top 15) 0
theorem exc_BadTypist {C fI cc cda : Addr} {kV doc pm ct : Value} {an : Option Addr} (a : PySem.W.nsIn K mainGlobals "BadTypist" = some (some (.ref C))) (O : OexC K C) (i : PySem.W.findIn K (.ref C) "__init__" = some (some (.ref fI))) (ty : PySem.W.typeIn K (.ref fI) = some (.type "function")) (n0 : PySem.W.findIn K (.ref C) "part" = some none)
    (F : IniF P K mg ["self", "part"] "__init__" "BadTypist.__init__" (defArgs i_BadTypist) (defBody i_BadTypist) (defScope i_BadTypist) .none kV doc pm ct an fI cc cda C) : ExcAt P K mg "BadTypist" ["self", "part"] ["part"] :=
  ⟨C, fI, _, a, O, i, ty, fun w base => ini1 F O rfl (fun _ => ⟨_, rfl⟩) (fun _ => rfl) n0, .all fun us hl => match us, hl with | [_, _], _ => rfl⟩
def i_BadPaper : Stmt := clB (top 16) 0
theorem exc_BadPaper {C fI cc cda : Addr} {kV doc pm ct : Value} {an : Option Addr} (a : PySem.W.nsIn K mainGlobals "BadPaper" = some (some (.ref C))) (O : OexC K C) (i : PySem.W.findIn K (.ref C) "__init__" = some (some (.ref fI))) (ty : PySem.W.typeIn K (.ref fI) = some (.type "function")) (n0 : PySem.W.findIn K (.ref C) "part" = some none)
    (F : IniF P K mg ["self", "part"] "__init__" "BadPaper.__init__" (defArgs i_BadPaper) (defBody i_BadPaper) (defScope i_BadPaper) .none kV doc pm ct an fI cc cda C) : ExcAt P K mg "BadPaper" ["self", "part"] ["part"] :=
  ⟨C, fI, _, a, O, i, ty, fun w base => ini1 F O rfl (fun _ => ⟨_, rfl⟩) (fun _ => rfl) n0, .all fun us hl => match us, hl with | [_, _], _ => rfl⟩
def i_BadText : Stmt := clB (top 17) 0
theorem exc_BadText {C fI cc cda : Addr} {kV doc pm ct : Value} {an : Option Addr} (a : PySem.W.nsIn K mainGlobals "BadText" = some (some (.ref C))) (O : OexC K C) (i : PySem.W.findIn K (.ref C) "__init__" = some (some (.ref fI))) (ty : PySem.W.typeIn K (.ref fI) = some (.type "function")) (n0 : PySem.W.findIn K (.ref C) "line" = some none) (n1 : PySem.W.findIn K (.ref C) "word" = some none)
    (F : IniF P K mg ["self", "line", "word"] "__init__" "BadText.__init__" (defArgs i_BadText) (defBody i_BadText) (defScope i_BadText) .none kV doc pm ct an fI cc cda C) : ExcAt P K mg "BadText" ["self", "line", "word"] ["word", "line"] :=
  ⟨C, fI, _, a, O, i, ty, fun w base => ini2 F O rfl (fun _ => ⟨_, rfl⟩) (fun _ => rfl) (fun _ => rfl) n0 n1, .all fun us hl => match us, hl with | [_, _, _], _ => rfl⟩
def i_BadLine : Stmt := clB (top 18) 0
theorem exc_BadLine {C fI cc cda : Addr} {kV doc pm ct : Value} {an : Option Addr} (a : PySem.W.nsIn K mainGlobals "BadLine" = some (some (.ref C))) (O : OexC K C) (i : PySem.W.findIn K (.ref C) "__init__" = some (some (.ref fI))) (ty : PySem.W.typeIn K (.ref fI) = some (.type "function")) (n0 : PySem.W.findIn K (.ref C) "word" = some none)
    (F : IniF P K mg ["self", "word"] "__init__" "BadLine.__init__" (defArgs i_BadLine) (defBody i_BadLine) (defScope i_BadLine) .none kV doc pm ct an fI cc cda C) : ExcAt P K mg "BadLine" ["self", "word"] ["word"] :=
  ⟨C, fI, _, a, O, i, ty, fun w base => ini1 F O rfl (fun _ => ⟨_, rfl⟩) (fun _ => rfl) n0, .all fun us hl => match us, hl with | [_, _], _ => rfl⟩
def i_Misfit : Stmt := clB (top 19) 0
theorem exc_Misfit {C fI cc cda : Addr} {kV doc pm ct : Value} {an : Option Addr} (a : PySem.W.nsIn K mainGlobals "Misfit" = some (some (.ref C))) (O : OexC K C) (i : PySem.W.findIn K (.ref C) "__init__" = some (some (.ref fI))) (ty : PySem.W.typeIn K (.ref fI) = some (.type "function")) (n0 : PySem.W.findIn K (.ref C) "part" = some none)
    (F : IniF P K mg ["self", "part"] "__init__" "Misfit.__init__" (defArgs i_Misfit) (defBody i_Misfit) (defScope i_Misfit) .none kV doc pm ct an fI cc cda C) : ExcAt P K mg "Misfit" ["self", "part"] ["part"] :=
  ⟨C, fI, _, a, O, i, ty, fun w base => ini1 F O rfl (fun _ => ⟨_, rfl⟩) (fun _ => rfl) n0, .all fun us hl => match us, hl with | [_, _], _ => rfl⟩
def i_Nothing : Stmt := clB (top 20) 0
theorem exc_Nothing {C fI cc cda : Addr} {kV doc pm ct : Value} {an : Option Addr} (a : PySem.W.nsIn K mainGlobals "Nothing" = some (some (.ref C))) (O : OexC K C) (i : PySem.W.findIn K (.ref C) "__init__" = some (some (.ref fI))) (ty : PySem.W.typeIn K (.ref fI) = some (.type "function")) (n0 : PySem.W.findIn K (.ref C) "word" = some none)
    (F : IniF P K mg ["self", "word"] "__init__" "Nothing.__init__" (defArgs i_Nothing) (defBody i_Nothing) (defScope i_Nothing) .none kV doc pm ct an fI cc cda C) : ExcAt P K mg "Nothing" ["self", "word"] ["word"] :=
  ⟨C, fI, _, a, O, i, ty, fun w base => ini1 F O rfl (fun _ => ⟨_, rfl⟩) (fun _ => rfl) n0, .all fun us hl => match us, hl with | [_, _], _ => rfl⟩
def i_NoName : Stmt := clB (top 21) 0
theorem exc_NoName {C fI cc cda : Addr} {kV doc pm ct : Value} {an : Option Addr} (a : PySem.W.nsIn K mainGlobals "NoName" = some (some (.ref C))) (O : OexC K C) (i : PySem.W.findIn K (.ref C) "__init__" = some (some (.ref fI))) (ty : PySem.W.typeIn K (.ref fI) = some (.type "function")) (n0 : PySem.W.findIn K (.ref C) "name" = some none)
    (F : IniF P K mg ["self", "name"] "__init__" "NoName.__init__" (defArgs i_NoName) (defBody i_NoName) (defScope i_NoName) .none kV doc pm ct an fI cc cda C) : ExcAt P K mg "NoName" ["self", "name"] ["name"] :=
  ⟨C, fI, _, a, O, i, ty, fun w base => ini1 F O rfl (fun _ => ⟨_, rfl⟩) (fun _ => rfl) n0, .all fun us hl => match us, hl with | [_, _], _ => rfl⟩
def i_TooMany : Stmt := clB (top 22) 0
theorem exc_TooMany {C fI cc cda : Addr} {kV doc pm ct : Value} {an : Option Addr} (a : PySem.W.nsIn K mainGlobals "TooMany" = some (some (.ref C))) (O : OexC K C) (i : PySem.W.findIn K (.ref C) "__init__" = some (some (.ref fI))) (ty : PySem.W.typeIn K (.ref fI) = some (.type "function")) (n0 : PySem.W.findIn K (.ref C) "what" = some none) (n1 : PySem.W.findIn K (.ref C) "most" = some none)
    (F : IniF P K mg ["self", "what", "most"] "__init__" "TooMany.__init__" (defArgs i_TooMany) (defBody i_TooMany) (defScope i_TooMany) .none kV doc pm ct an fI cc cda C) : ExcAt P K mg "TooMany" ["self", "what", "most"] ["most", "what"] :=
  ⟨C, fI, _, a, O, i, ty, fun w base => ini2 F O rfl (fun _ => ⟨_, rfl⟩) (fun _ => rfl) (fun _ => rfl) n0 n1, .all fun us hl => match us, hl with | [_, _, _], _ => rfl⟩
theorem ok__law_pen (t : Txt K mg) : FnOk P w K mg base (L2.CX P w) 1 t.a__law_pen t.d__law_pen ["script"] (SpPen K) := t.F__law_pen.ok sc__law_pen (fun vs H Q E h => by obtain ⟨a, ns, rfl, _⟩ := h; rfl) fun cdv A outer s H vs Q E hr h =>
  ⟨_, pss_one (ps_ret (pe_lst (pa_cons (pe_callTy call_list_of (by rfl) t.z_list rfl (pa_cons (pe_slice sl_list (pv 0) po_none (po_some pe_int)) pa_nil)) (pa_cons pe_int (pa_cons pe_int pa_nil))))), pen0_ok h⟩
def cnames : List Str := ["FarError", "BadValue", "BadNumber", "BadBook", "BadWeb", "BadTask", "BadTypist", "BadPaper", "BadText", "BadLine", "Misfit", "Nothing", "NoName", "TooMany"]
def adrs (K : PySem.W.Frag) : List Addr := [adr K "FarError", adr K "BadValue", adr K "BadNumber", adr K "BadBook", adr K "BadWeb", adr K "BadTask", adr K "BadTypist", adr K "BadPaper", adr K "BadText", adr K "BadLine", adr K "Misfit", adr K "Nothing", adr K "NoName", adr K "TooMany"]
def refsIn (K : PySem.W.Frag) (xs : List Str) : Bool := xs.all fun x => decide (PySem.W.nsIn K mainGlobals x = some (some (.ref (adr K x))))
theorem refsIn_ok {h : Heap} {xs : List Str} {x : Str} (X : K.In h) (G : h.Ns mainGlobals mg) (z : refsIn K xs = true) (hx : x ∈ xs) : mg x = some (.ref (adr K x)) := PySem.W.mg_of X G (of_decide_eq_true (List.all_eq_true.mp z x hx))
structure LawIn (K : PySem.W.Frag) (f ca pt : Addr) (fd : FuncData) : Prop where
  nm : PySem.W.nsIn K mainGlobals "law" = some (some (.ref f))
  lk : ∃ oc od an osl kV doc pm ct, K.lookup f = some ⟨oc, od, .func fd, osl⟩ ∧ fd = PySem.W.fnOf "law" "law" (defArgs s_law) (defBody s_law) (defScope s_law) .none kV doc pm an (.ref ca) ct
  cd : PySem.W.codeIn K (.ref ca) "law" = true
  lc : ∃ e dd vs sl, K.lookup ca = some ⟨e, dd, .fields vs, sl⟩ ∧ vs[11]? = some (.ref pt)
  np : K.lookup pt = none
  hh : PySem.W.codeHdIn K ca pt = true
theorem main {l : PySem.W.OpenLaw} {h : Heap} {fa f ca pt : Addr} {fd : FuncData} (KX : K.In h) (G : h.Ns mainGlobals mg) (hmg : mg "law" = some (.ref fa)) (own : LamX.OwnTab K fa h) (L : LawIn K f ca pt fd)
    (hz : noneIn K ["abs", "all", "bool", "dict", "int", "isinstance", "len", "list", "range", "str", "sum", "tuple", "zip"] = true)
    (hr : refsIn K cnames = true)
    (hk : kitF K (adrs K) subE = true)
    (h_LETTERS : strIn K "LETTERS" [97, 98, 99, 100, 101, 102, 103, 104, 105, 106, 107, 108, 109, 110, 111, 112, 113, 114, 115, 116, 117, 118, 119, 120, 121, 122] = true)
    (h_MOST_PRICE : intIn K "MOST_PRICE" (20) = true)
    (h_PLAIN_PRICE : intIn K "PLAIN_PRICE" (1) = true)
    (h_MOST_WORD : intIn K "MOST_WORD" (4000) = true)
    (h_at_line : attF K (adrs K) "line" te_line = true)
    (h_at_most : attF K (adrs K) "most" te_most = true)
    (h_at_part : attF K (adrs K) "part" te_part = true)
    (h_at_what : attF K (adrs K) "what" te_what = true)
    (h_at_word : attF K (adrs K) "word" te_word = true)
    (h_xm_FarError : exmF K (adrs K) (adr K "FarError") xt_FarError = true)
    (f_is_integer : FunAt K "is_integer" s_is_integer)
    (f_is_between : FunAt K "is_between" s_is_between)
    (f_is_listed : FunAt K "is_listed" s_is_listed)
    (f_is_row : FunAt K "is_row" s_is_row)
    (f_is_word : FunAt K "is_word" s_is_word)
    (f_ascends : FunAt K "ascends" s_ascends)
    (f_fixed : FunAt K "fixed" s_fixed)
    (f_is_price : FunAt K "is_price" s_is_price)
    (f_are_prices : FunAt K "are_prices" s_are_prices)
    (f_price_in : FunAt K "price_in" s_price_in)
    (f_cost_in : FunAt K "cost_in" s_cost_in)
    (f_need_prices : FunAt K "need_prices" s_need_prices)
    (f_price_of : FunAt K "price_of" s_price_of)
    (f_cost_of : FunAt K "cost_of" s_cost_of)
    (f__law_draw : FunAt K "_law_draw" s__law_draw)
    (f__law_pick : FunAt K "_law_pick" s__law_pick)
    (f__law_heard : FunAt K "_law_heard" s__law_heard)
    (f__law_pen : FunAt K "_law_pen" s__law_pen)
    (e_BadValue : ExcAt l.prog K mg "BadValue" ["self", "part"] ["part"])
    (e_BadNumber : ExcAt l.prog K mg "BadNumber" ["self", "part"] ["part"])
    (e_BadBook : ExcAt l.prog K mg "BadBook" ["self", "part"] ["part"])
    (e_BadWeb : ExcAt l.prog K mg "BadWeb" ["self", "part"] ["part"])
    (e_BadTask : ExcAt l.prog K mg "BadTask" ["self", "part"] ["part"])
    (e_BadTypist : ExcAt l.prog K mg "BadTypist" ["self", "part"] ["part"])
    (e_BadPaper : ExcAt l.prog K mg "BadPaper" ["self", "part"] ["part"])
    (e_BadText : ExcAt l.prog K mg "BadText" ["self", "line", "word"] ["word", "line"])
    (e_BadLine : ExcAt l.prog K mg "BadLine" ["self", "word"] ["word"])
    (e_Misfit : ExcAt l.prog K mg "Misfit" ["self", "part"] ["part"])
    (e_Nothing : ExcAt l.prog K mg "Nothing" ["self", "word"] ["word"])
    (e_NoName : ExcAt l.prog K mg "NoName" ["self", "name"] ["name"])
    (e_TooMany : ExcAt l.prog K mg "TooMany" ["self", "what", "most"] ["most", "what"])
    (says : ∀ ns : List Int, ns.length ≤ 63 → (∀ z ∈ ns, Builtin.Int.intBits z ≤ 1048576) → Says (m_law_rest (.no :: .fr .pen :: List.replicate (14 - 2) .no) ⟨ns, 0, 0⟩)) : LamX.LawAtS l w K (L2.CX l.prog w) 18 63 "script" mg fa h := by
  have ef := hmg.symm.trans (PySem.W.mg_of KX G L.nm)
  cases ef
  obtain ⟨oc, od, an, osl, kV, doc, pm, ct, lk, efd⟩ := L.lk
  subst efd
  obtain ⟨e_, dd, vs_, sl, lc, v11⟩ := L.lc
  obtain ⟨a_is_integer, d_is_integer, n_is_integer, F_is_integer⟩ := f_is_integer
  obtain ⟨a_is_between, d_is_between, n_is_between, F_is_between⟩ := f_is_between
  obtain ⟨a_is_listed, d_is_listed, n_is_listed, F_is_listed⟩ := f_is_listed
  obtain ⟨a_is_row, d_is_row, n_is_row, F_is_row⟩ := f_is_row
  obtain ⟨a_is_word, d_is_word, n_is_word, F_is_word⟩ := f_is_word
  obtain ⟨a_ascends, d_ascends, n_ascends, F_ascends⟩ := f_ascends
  obtain ⟨a_fixed, d_fixed, n_fixed, F_fixed⟩ := f_fixed
  obtain ⟨a_is_price, d_is_price, n_is_price, F_is_price⟩ := f_is_price
  obtain ⟨a_are_prices, d_are_prices, n_are_prices, F_are_prices⟩ := f_are_prices
  obtain ⟨a_price_in, d_price_in, n_price_in, F_price_in⟩ := f_price_in
  obtain ⟨a_cost_in, d_cost_in, n_cost_in, F_cost_in⟩ := f_cost_in
  obtain ⟨a_need_prices, d_need_prices, n_need_prices, F_need_prices⟩ := f_need_prices
  obtain ⟨a_price_of, d_price_of, n_price_of, F_price_of⟩ := f_price_of
  obtain ⟨a_cost_of, d_cost_of, n_cost_of, F_cost_of⟩ := f_cost_of
  obtain ⟨a__law_draw, d__law_draw, n__law_draw, F__law_draw⟩ := f__law_draw
  obtain ⟨a__law_pick, d__law_pick, n__law_pick, F__law_pick⟩ := f__law_pick
  obtain ⟨a__law_heard, d__law_heard, n__law_heard, F__law_heard⟩ := f__law_heard
  obtain ⟨a__law_pen, d__law_pen, n__law_pen, F__law_pen⟩ := f__law_pen
  obtain ⟨k_LETTERS, g_LETTERS⟩ := strIn_ok KX G h_LETTERS
  obtain ⟨k_MOST_PRICE, g_MOST_PRICE⟩ := intIn_ok KX G h_MOST_PRICE
  obtain ⟨k_PLAIN_PRICE, g_PLAIN_PRICE⟩ := intIn_ok KX G h_PLAIN_PRICE
  obtain ⟨k_MOST_WORD, g_MOST_WORD⟩ := intIn_ok KX G h_MOST_WORD
  obtain ⟨t, tl, tc, tp, hcl⟩ : ∃ t : Txt K mg, t.fl = fa ∧ t.ca = ca ∧ t.pt = pt ∧ ∀ c, cls_ t c = ((adrs K)[c]?).getD 0 := ⟨{ fl := fa, ca := ca, pt := pt, a_is_integer := a_is_integer, d_is_integer := d_is_integer, F_is_integer := F_is_integer, g_is_integer := PySem.W.mg_of KX G n_is_integer, a_is_between := a_is_between, d_is_between := d_is_between, F_is_between := F_is_between, g_is_between := PySem.W.mg_of KX G n_is_between, a_is_listed := a_is_listed, d_is_listed := d_is_listed, F_is_listed := F_is_listed, g_is_listed := PySem.W.mg_of KX G n_is_listed, a_is_row := a_is_row, d_is_row := d_is_row, F_is_row := F_is_row, g_is_row := PySem.W.mg_of KX G n_is_row, a_is_word := a_is_word, d_is_word := d_is_word, F_is_word := F_is_word, g_is_word := PySem.W.mg_of KX G n_is_word, a_ascends := a_ascends, d_ascends := d_ascends, F_ascends := F_ascends, g_ascends := PySem.W.mg_of KX G n_ascends, a_fixed := a_fixed, d_fixed := d_fixed, F_fixed := F_fixed, g_fixed := PySem.W.mg_of KX G n_fixed, a_is_price := a_is_price, d_is_price := d_is_price, F_is_price := F_is_price, g_is_price := PySem.W.mg_of KX G n_is_price, a_are_prices := a_are_prices, d_are_prices := d_are_prices, F_are_prices := F_are_prices, g_are_prices := PySem.W.mg_of KX G n_are_prices, a_price_in := a_price_in, d_price_in := d_price_in, F_price_in := F_price_in, g_price_in := PySem.W.mg_of KX G n_price_in, a_cost_in := a_cost_in, d_cost_in := d_cost_in, F_cost_in := F_cost_in, g_cost_in := PySem.W.mg_of KX G n_cost_in, a_need_prices := a_need_prices, d_need_prices := d_need_prices, F_need_prices := F_need_prices, g_need_prices := PySem.W.mg_of KX G n_need_prices, a_price_of := a_price_of, d_price_of := d_price_of, F_price_of := F_price_of, g_price_of := PySem.W.mg_of KX G n_price_of, a_cost_of := a_cost_of, d_cost_of := d_cost_of, F_cost_of := F_cost_of, g_cost_of := PySem.W.mg_of KX G n_cost_of, a__law_draw := a__law_draw, d__law_draw := d__law_draw, F__law_draw := F__law_draw, g__law_draw := PySem.W.mg_of KX G n__law_draw, a__law_pick := a__law_pick, d__law_pick := d__law_pick, F__law_pick := F__law_pick, g__law_pick := PySem.W.mg_of KX G n__law_pick, a__law_heard := a__law_heard, d__law_heard := d__law_heard, F__law_heard := F__law_heard, g__law_heard := PySem.W.mg_of KX G n__law_heard, a__law_pen := a__law_pen, d__law_pen := d__law_pen, F__law_pen := F__law_pen, g__law_pen := PySem.W.mg_of KX G n__law_pen, z_abs := noneIn_ok KX G hz (by decide), z_all := noneIn_ok KX G hz (by decide), z_bool := noneIn_ok KX G hz (by decide), z_dict := noneIn_ok KX G hz (by decide), z_int := noneIn_ok KX G hz (by decide), z_isinstance := noneIn_ok KX G hz (by decide), z_len := noneIn_ok KX G hz (by decide), z_list := noneIn_ok KX G hz (by decide), z_range := noneIn_ok KX G hz (by decide), z_str := noneIn_ok KX G hz (by decide), z_sum := noneIn_ok KX G hz (by decide), z_tuple := noneIn_ok KX G hz (by decide), z_zip := noneIn_ok KX G hz (by decide), k_LETTERS := k_LETTERS, g_LETTERS := g_LETTERS, k_MOST_PRICE := k_MOST_PRICE, g_MOST_PRICE := g_MOST_PRICE, k_PLAIN_PRICE := k_PLAIN_PRICE, g_PLAIN_PRICE := g_PLAIN_PRICE, k_MOST_WORD := k_MOST_WORD, g_MOST_WORD := g_MOST_WORD, a_FarError := adr K "FarError", g_FarError := refsIn_ok KX G hr (by decide), a_BadValue := adr K "BadValue", g_BadValue := refsIn_ok KX G hr (by decide), a_BadNumber := adr K "BadNumber", g_BadNumber := refsIn_ok KX G hr (by decide), a_BadBook := adr K "BadBook", g_BadBook := refsIn_ok KX G hr (by decide), a_BadWeb := adr K "BadWeb", g_BadWeb := refsIn_ok KX G hr (by decide), a_BadTask := adr K "BadTask", g_BadTask := refsIn_ok KX G hr (by decide), a_BadTypist := adr K "BadTypist", g_BadTypist := refsIn_ok KX G hr (by decide), a_BadPaper := adr K "BadPaper", g_BadPaper := refsIn_ok KX G hr (by decide), a_BadText := adr K "BadText", g_BadText := refsIn_ok KX G hr (by decide), a_BadLine := adr K "BadLine", g_BadLine := refsIn_ok KX G hr (by decide), a_Misfit := adr K "Misfit", g_Misfit := refsIn_ok KX G hr (by decide), a_Nothing := adr K "Nothing", g_Nothing := refsIn_ok KX G hr (by decide), a_NoName := adr K "NoName", g_NoName := refsIn_ok KX G hr (by decide), a_TooMany := adr K "TooMany", g_TooMany := refsIn_ok KX G hr (by decide) }, rfl, rfl, rfl, fun _ => rfl⟩
  subst tl tc tp
  have I : ∀ pa, Inf l.prog t pa := fun pa => by
    refine ⟨kitF_ok (T := th t pa) (cl := adrs K) hcl (show ∀ c ∈ [0, 1, 2, 3, 4, 5, 6, 7, 8, 9, 10, 11, 12, 13], c < 14 from by decide) hk, attF_ok (T := th t pa) (cl := adrs K) (te := te_line) hcl (show (te_line.all fun p => decide ((fn_ p.1)[p.2]? = some "line") && decide (fn_ p.1).Nodup) = true from by decide) h_at_line, attF_ok (T := th t pa) (cl := adrs K) (te := te_most) hcl (show (te_most.all fun p => decide ((fn_ p.1)[p.2]? = some "most") && decide (fn_ p.1).Nodup) = true from by decide) h_at_most, attF_ok (T := th t pa) (cl := adrs K) (te := te_part) hcl (show (te_part.all fun p => decide ((fn_ p.1)[p.2]? = some "part") && decide (fn_ p.1).Nodup) = true from by decide) h_at_part, attF_ok (T := th t pa) (cl := adrs K) (te := te_what) hcl (show (te_what.all fun p => decide ((fn_ p.1)[p.2]? = some "what") && decide (fn_ p.1).Nodup) = true from by decide) h_at_what, attF_ok (T := th t pa) (cl := adrs K) (te := te_word) hcl (show (te_word.all fun p => decide ((fn_ p.1)[p.2]? = some "word") && decide (fn_ p.1).Nodup) = true from by decide) h_at_word, fun cn bb e => by
      rw [hcl, hcl]
      exact exmF_ok h_xm_FarError cn bb e, fun w base => ?ec_BadValue, fun w base => ?ec_BadNumber, fun w base => ?ec_BadBook, fun w base => ?ec_BadWeb, fun w base => ?ec_BadTask, fun w base => ?ec_BadTypist, fun w base => ?ec_BadPaper, fun w base => ?ec_BadText, fun w base => ?ec_BadLine, fun w base => ?ec_Misfit, fun w base => ?ec_Nothing, fun w base => ?ec_NoName, fun w base => ?ec_TooMany⟩
    case ec_BadValue =>
      obtain ⟨C, fI, fd, n1, O, i, ty, F, B⟩ := e_BadValue
      have e : (th t pa).cl 1 = C := (hcl 1).trans (adr_of n1)
      refine ⟨fI, fd, ?_, ?_, ty, ?_, B⟩
      · rw [e]; exact O
      · rw [e]; exact i
      · rw [e]; exact F w base
    case ec_BadNumber =>
      obtain ⟨C, fI, fd, n1, O, i, ty, F, B⟩ := e_BadNumber
      have e : (th t pa).cl 2 = C := (hcl 2).trans (adr_of n1)
      refine ⟨fI, fd, ?_, ?_, ty, ?_, B⟩
      · rw [e]; exact O
      · rw [e]; exact i
      · rw [e]; exact F w base
    case ec_BadBook =>
      obtain ⟨C, fI, fd, n1, O, i, ty, F, B⟩ := e_BadBook
      have e : (th t pa).cl 3 = C := (hcl 3).trans (adr_of n1)
      refine ⟨fI, fd, ?_, ?_, ty, ?_, B⟩
      · rw [e]; exact O
      · rw [e]; exact i
      · rw [e]; exact F w base
    case ec_BadWeb =>
      obtain ⟨C, fI, fd, n1, O, i, ty, F, B⟩ := e_BadWeb
      have e : (th t pa).cl 4 = C := (hcl 4).trans (adr_of n1)
      refine ⟨fI, fd, ?_, ?_, ty, ?_, B⟩
      · rw [e]; exact O
      · rw [e]; exact i
      · rw [e]; exact F w base
    case ec_BadTask =>
      obtain ⟨C, fI, fd, n1, O, i, ty, F, B⟩ := e_BadTask
      have e : (th t pa).cl 5 = C := (hcl 5).trans (adr_of n1)
      refine ⟨fI, fd, ?_, ?_, ty, ?_, B⟩
      · rw [e]; exact O
      · rw [e]; exact i
      · rw [e]; exact F w base
    case ec_BadTypist =>
      obtain ⟨C, fI, fd, n1, O, i, ty, F, B⟩ := e_BadTypist
      have e : (th t pa).cl 6 = C := (hcl 6).trans (adr_of n1)
      refine ⟨fI, fd, ?_, ?_, ty, ?_, B⟩
      · rw [e]; exact O
      · rw [e]; exact i
      · rw [e]; exact F w base
    case ec_BadPaper =>
      obtain ⟨C, fI, fd, n1, O, i, ty, F, B⟩ := e_BadPaper
      have e : (th t pa).cl 7 = C := (hcl 7).trans (adr_of n1)
      refine ⟨fI, fd, ?_, ?_, ty, ?_, B⟩
      · rw [e]; exact O
      · rw [e]; exact i
      · rw [e]; exact F w base
    case ec_BadText =>
      obtain ⟨C, fI, fd, n1, O, i, ty, F, B⟩ := e_BadText
      have e : (th t pa).cl 8 = C := (hcl 8).trans (adr_of n1)
      refine ⟨fI, fd, ?_, ?_, ty, ?_, B⟩
      · rw [e]; exact O
      · rw [e]; exact i
      · rw [e]; exact F w base
    case ec_BadLine =>
      obtain ⟨C, fI, fd, n1, O, i, ty, F, B⟩ := e_BadLine
      have e : (th t pa).cl 9 = C := (hcl 9).trans (adr_of n1)
      refine ⟨fI, fd, ?_, ?_, ty, ?_, B⟩
      · rw [e]; exact O
      · rw [e]; exact i
      · rw [e]; exact F w base
    case ec_Misfit =>
      obtain ⟨C, fI, fd, n1, O, i, ty, F, B⟩ := e_Misfit
      have e : (th t pa).cl 10 = C := (hcl 10).trans (adr_of n1)
      refine ⟨fI, fd, ?_, ?_, ty, ?_, B⟩
      · rw [e]; exact O
      · rw [e]; exact i
      · rw [e]; exact F w base
    case ec_Nothing =>
      obtain ⟨C, fI, fd, n1, O, i, ty, F, B⟩ := e_Nothing
      have e : (th t pa).cl 11 = C := (hcl 11).trans (adr_of n1)
      refine ⟨fI, fd, ?_, ?_, ty, ?_, B⟩
      · rw [e]; exact O
      · rw [e]; exact i
      · rw [e]; exact F w base
    case ec_NoName =>
      obtain ⟨C, fI, fd, n1, O, i, ty, F, B⟩ := e_NoName
      have e : (th t pa).cl 12 = C := (hcl 12).trans (adr_of n1)
      refine ⟨fI, fd, ?_, ?_, ty, ?_, B⟩
      · rw [e]; exact O
      · rw [e]; exact i
      · rw [e]; exact F w base
    case ec_TooMany =>
      obtain ⟨C, fI, fd, n1, O, i, ty, F, B⟩ := e_TooMany
      have e : (th t pa).cl 13 = C := (hcl 13).trans (adr_of n1)
      refine ⟨fI, fd, ?_, ?_, ty, ?_, B⟩
      · rw [e]; exact O
      · rw [e]; exact i
      · rw [e]; exact F w base
  refine ⟨PySem.W.fnOf "law" "law" (defArgs s_law) (defBody s_law) (defScope s_law) .none kV doc pm an (.ref t.ca) ct, [(t.ca, t.pt)], SpLaw K [(t.pt, lamQ)], fun p hp => ?_, fun p hp => ?_, fun p hp => ?_, fun s u => .of_eq rfl, fun H a ns hl hz hH hS => ?_, fun base KB GB TB => ?_⟩
  · rw [List.mem_singleton.mp hp]
    exact own t.ca t.pt _ _ e_ dd vs_ sl lk rfl rfl lc v11
  · rw [List.mem_singleton.mp hp]
    exact L.np
  · rw [List.mem_singleton.mp hp]
    exact PySem.W.codeHd_of_K KX L.hh
  · refine ⟨a, ns, rfl, hS, hl, hz, fun p hp => ?_, fun _ => rfl⟩
    rw [List.mem_singleton.mp hp]
    exact ⟨#[], hH _ (List.mem_singleton.mpr rfl), trivial, fun pos cv e => by cases e⟩
  · have TB1 := TB _ (List.mem_singleton.mpr rfl)
    refine law_ok (m := m_law_rest) (T := fun pa => th t pa) (N := ["script", "pen", "turn", "many", "bad", "none", "lone", "heard", "prices", "word", "due", "letter", "lap", "row"]) (s0 := (defBody s_law).getD 0 noP) (rest := (defBody s_law).drop 1) lk L.cd sc_law rfl (by decide) (fun _ => rfl) (fun _ => rfl) (fun _ => rfl) (fun A outer s H E hr => ?_) (fun pa A outer s H E b c => st_law_rest t pa (I pa) TB1 c) says
    exact ps_set (i := 1) sc_law.nd rfl (by first | exact Or.inl rfl | exact Or.inr rfl) (pe_call (ok__law_pen t) (hr.mono (by decide)) (by rfl) t.g__law_pen t.F__law_pen.kp (bi__law_pen t) .nil passL (pa_cons (pv 0) pa_nil))
end L_k01

namespace L_k01
open HK PySem PySem.Spec PySem.Calls PyProof.Rows L2
local macro_rules | `(tactic| walk_at "hg1") => `(tactic| first
  | with_reducible refine gv_Q ?_ | with_reducible refine gv_I ?_ | with_reducible refine gv_R ?_ | with_reducible refine gv_A ?_ | with_reducible refine gv_sN ?_ | with_reducible refine gv_Bl ?_ | with_reducible refine gv_Tr ?_ | with_reducible refine gv_2 ?_
  | with_reducible refine gv_1 ?_ | with_reducible refine gv_Cl ?_ | with_reducible refine gv_aC ?_ | with_reducible refine gv_N ?_ | with_reducible refine gv_C ?_ | ((with_reducible refine' gv_V ?h ?_); (case h => exact rfl)) | ((with_reducible refine' gv_Pg ?h ?g ?_); (case h => exact rfl); (case g => exact rfl)) | with_reducible refine gv_F ?_ | with_reducible refine gv_tAn ?_ | with_reducible refine gv_tOr ?_ | with_reducible refine gv_Nt ?_
  | with_reducible refine gv_An ?_ | with_reducible refine gv_Or ?_ | with_reducible refine gv_Ls ?_ | with_reducible refine gv_Tp ?_ | with_reducible refine gv_Ps' ?_ | with_reducible refine gv_Pt' ?_ | with_reducible refine gv_If ?_ | with_reducible refine gv_Get ?_ | with_reducible refine gv_Jn ?_ | with_reducible refine gv_FK ?_ | with_reducible refine gv_Ch ?_
  | ((with_reducible refine' gv_mod' ?d ?e ?h0 ?_); (case d => exact rfl); (case e => exact rfl); (case h0 => omega)) | ((with_reducible refine' gv_fdiv' ?d ?e ?h0 ?h1 ?_); (case d => exact rfl); (case e => exact rfl); (case h0 => omega); (case h1 => omega)) | ((with_reducible refine' gv_mulL' ?d ?e ?h0 ?h1 ?_); (case d => exact rfl); (case e => exact rfl); (case h0 => omega); (case h1 => omega)) | ((with_reducible refine' gv_mulR' ?d ?e ?h0 ?h1 ?_); (case d => exact rfl); (case e => exact rfl); (case h0 => omega); (case h1 => omega))
  | ((with_reducible refine' gv_lift ?h ?_); (case h => exact rfl)) | ((with_reducible show ∃ _, Slot.dat _ = _ ∧ _); refine Exists.intro _ (And.intro rfl ?_))
  | ((with_reducible show (List.length _ ≤ LINE) ∧ _); refine And.intro (Nat.le_of_ble_eq_true rfl) ?_) | ((with_reducible show (List.length _ = _) ∧ _); refine And.intro rfl ?_) | ((with_reducible show (_ = some _) ∧ _ ∧ _); refine And.intro rfl (And.intro ?_ ?_); first | omega | exact Int.ediv_nonneg (by omega) (by omega)))
theorem draw {m : Int} {w : Pen} (hm : m < 1000000) (hw : w.at_ ≤ 1000000) : Gv (m__law_draw [.pen, .int m] w) fun r e w' => (∃ d : Int, r = .fr (.int d) ∧ 0 ≤ d ∧ (d < m ∨ d = 0)) ∧ w'.at_ ≤ w.at_ + 1 := by
  unfold m__law_draw
  refine gv_run ?_
  repeat walk_at "hg1"
  refine ⟨fun hb => ?_, fun hb => ?_⟩
  · repeat walk_at "hg1"
    exact ⟨⟨0, rfl, Int.le_refl _, .inr rfl⟩, Nat.le_add_right _ _⟩
  · have m2 : 2 ≤ m := by
      have := of_decide_eq_false hb
      omega
    have fin : ∀ x : Int, 0 ≤ x % m ∧ (x % m < m ∨ x % m = 0) := fun x => ⟨Int.emod_nonneg _ (by omega), .inl (Int.emod_lt_of_pos _ (by omega))⟩
    repeat walk_at "hg1"
    refine ⟨fun hb => ?_, fun hb => ?_⟩
    · repeat walk_at "hg1"
      repeat walk_at "hg1"
      exact ⟨⟨_, rfl, fin _⟩, Nat.le_add_right _ _⟩
    · repeat walk_at "hg1"
      refine gv_lift (ne_cells _) ?_
      repeat walk_at "hg1"
      have rest : ∀ c : Int, Gv ((sQ (sI (tAn (tBl (x2 ltD (xV 2) (xCl (on1 lenD) (aC (xPg 0 0) aN)))) (tBl (x2 (ordD geI) (xCl (on1 absD) (aC (xV 3) aN)) (x2 powD (xC (.int 10)) (xC (.int 18)))))) (sQ (sA 6 (x2 addD (x2 mulSD (xC (.int 2)) (x2 subD (xCl (on1 absD) (aC (xV 3) aN)) (x2 powD (xC (.int 10)) (xC (.int 18))))) (xCl (on1 HK.intD) (aC (x2 ltD (xV 3) (xC (.int 0))) aN)))) (sQ (sPs 0 2 (x2 fdivD (xCl (on1 HK.intD) (aC (xV 6) aN)) (xV 1))) (sR (x2 modD (xCl (on1 HK.intD) (aC (xV 6) aN)) (xV 1))))) sN) (sQ (sA 4 (x2 modD (xCl (on1 HK.intD) (aC (x2 powD (x2 addD (x2 addD (x2 modD (xCl (on1 HK.intD) (aC (xV 3) aN)) (xC (.int 2147483549))) (x2 mulSD (xC (.int 33071)) (xV 2))) (xC (.int 9027))) (xC (.int 3))) aN)) (xC (.int 2147483629)))) (sQ (sA 4 (x2 modD (xCl (on1 HK.intD) (aC (x2 powD (x2 addD (x2 addD (x2 mulSD (xV 4) (x2 addD (x2 mulSD (xC (.int 2)) (xV 2)) (xC (.int 6123)))) (x2 mulSD (x2 mulSD (xC (.int 71045)) (xV 2)) (xV 2))) (xC (.int 33071))) (xC (.int 5))) aN)) (xC (.int 2147483563)))) (sR (x2 modD (xCl (on1 HK.intD) (aC (x2 fdivD (xV 4) (xC (.int 16))) aN)) (xV 1))))))
          [.fr .pen, .fr (.int m), .fr (.int w.at_), .fr (.int c), .no, .no, .no] { w with at_ := ((w.at_ : Int) + 1).toNat }) (fun fl e w' => match fl with
            | .nx => (∃ d : Int, Slot.fr D.non = .fr (.int d) ∧ 0 ≤ d ∧ (d < m ∨ d = 0)) ∧ w'.at_ ≤ w.at_ + 1
            | .rt r => (∃ d : Int, r = .fr (.int d) ∧ 0 ≤ d ∧ (d < m ∨ d = 0)) ∧ w'.at_ ≤ w.at_ + 1
            | _ => False) := fun c => by
        have hA : (((w.at_ : Int) + 1).toNat) ≤ w.at_ + 1 := by omega
        repeat walk_at "hg1"
        have rest2 : Gv ((sQ (sA 4 (x2 modD (xCl (on1 HK.intD) (aC (x2 powD (x2 addD (x2 addD (x2 modD (xCl (on1 HK.intD) (aC (xV 3) aN)) (xC (.int 2147483549))) (x2 mulSD (xC (.int 33071)) (xV 2))) (xC (.int 9027))) (xC (.int 3))) aN)) (xC (.int 2147483629)))) (sQ (sA 4 (x2 modD (xCl (on1 HK.intD) (aC (x2 powD (x2 addD (x2 addD (x2 mulSD (xV 4) (x2 addD (x2 mulSD (xC (.int 2)) (xV 2)) (xC (.int 6123)))) (x2 mulSD (x2 mulSD (xC (.int 71045)) (xV 2)) (xV 2))) (xC (.int 33071))) (xC (.int 5))) aN)) (xC (.int 2147483563)))) (sR (x2 modD (xCl (on1 HK.intD) (aC (x2 fdivD (xV 4) (xC (.int 16))) aN)) (xV 1)))))
          [.fr .pen, .fr (.int m), .fr (.int w.at_), .fr (.int c), .no, .no, .no] { w with at_ := ((w.at_ : Int) + 1).toNat }) (fun fl e w' => match fl with
            | .nx => (∃ d : Int, Slot.fr D.non = .fr (.int d) ∧ 0 ≤ d ∧ (d < m ∨ d = 0)) ∧ w'.at_ ≤ w.at_ + 1
            | .rt r => (∃ d : Int, r = .fr (.int d) ∧ 0 ≤ d ∧ (d < m ∨ d = 0)) ∧ w'.at_ ≤ w.at_ + 1
            | _ => False) := by
          repeat walk_at "hg1"
          have b1 : 0 ≤ c % 2147483549 := Int.emod_nonneg _ (by omega)
          have b2 : c % 2147483549 < 2147483549 := Int.emod_lt_of_pos _ (by omega)
          refine gv_pow (by omega) (by omega) (by omega) ?_
          refine gv_N (gv_lift rfl (gv_C (gv_mod (by omega) ?_)))
          obtain ⟨y, hy⟩ : ∃ y : Int, y = (c % 2147483549 + 33071 * (w.at_ : Int) + 9027) ^ (3 : Int).toNat % 2147483629 := ⟨_, rfl⟩
          have y1 : 0 ≤ y := by rw [hy]; exact Int.emod_nonneg _ (by omega)
          have y2 : y < 2147483629 := by rw [hy]; exact Int.emod_lt_of_pos _ (by omega)
          rw [← hy]
          clear hy b1 b2
          repeat walk_at "hg1"
          have n1 : 0 ≤ y * (2 * (w.at_ : Int) + 6123) := Int.mul_nonneg y1 (by omega)
          have n2 : y * (2 * (w.at_ : Int) + 6123) ≤ 2147483629 * 2006123 := Int.mul_le_mul (by omega) (by omega) (by omega) (by omega)
          have n3 : 0 ≤ 71045 * (w.at_ : Int) * (w.at_ : Int) := Int.mul_nonneg (by omega) (by omega)
          have n4 : 71045 * (w.at_ : Int) * (w.at_ : Int) ≤ 71045000000 * 1000000 := Int.mul_le_mul (by omega) (by omega) (by omega) (by omega)
          refine gv_pow (by omega) (by omega) (by omega) ?_
          refine gv_N (gv_lift rfl (gv_C (gv_mod (by omega) ?_)))
          obtain ⟨z, hz⟩ : ∃ z : Int, z = (y * (2 * (w.at_ : Int) + 6123) + 71045 * (w.at_ : Int) * (w.at_ : Int) + 33071) ^ (5 : Int).toNat % 2147483563 := ⟨_, rfl⟩
          rw [← hz]
          clear hz
          repeat walk_at "hg1"
          exact ⟨⟨_, rfl, fin _⟩, hA⟩
        refine ⟨fun hb => ?_, fun hb => ?_⟩
        · repeat walk_at "hg1"
          refine ⟨fun hb => ?_, fun hb => ?_⟩
          · repeat walk_at "hg1"
            repeat walk_at "hg1"
            refine ⟨rfl, Int.ediv_nonneg ?_ (by omega), ?_⟩
            · have g := of_decide_eq_true hb
              have g2 : (10 : Int) ^ (18 : Int).toNat ≤ (if c < 0 then -c else c) := g
              have g3 : (0 : Int) ≤ if decide (c < 0) = true then 1 else 0 := by split <;> omega
              omega
            · repeat walk_at "hg1"
              exact ⟨⟨_, rfl, fin _⟩, hA⟩
          · exact rest2
        · exact ⟨(fun z => by cases z), fun _ => rest2⟩
      refine ⟨fun hb => ?_, fun hb => ?_⟩
      · repeat walk_at "hg1"
        have ne : w.cells ≠ [] := fun z => by rw [z] at hb; cases hb
        obtain ⟨c, hc⟩ := atI_mod (k := w.at_) ne
        have hl : 0 < w.cells.length := List.length_pos_iff.mpr ne
        refine gv_mod' rfl rfl ?_ ?_
        · show (0 : Int) < (((w.cells.map D.int).length : Nat) : Int)
          rw [List.length_map]
          omega
        refine gv_lift (r := .fr (.int c)) ?_ ?_
        · show (atI (w.cells.map D.int) ((w.at_ : Int) % ((w.cells.map D.int).length : Nat))).map Slot.fr = _
          rw [List.length_map, hc]
          rfl
        · exact rest c
      · exact rest _
end L_k01

namespace L_k01
open HK PySem PySem.Spec PySem.Calls PyProof.Rows L2
local macro_rules | `(tactic| walk_at "hg1") => `(tactic| first
  | with_reducible refine gv_Q ?_ | with_reducible refine gv_I ?_ | with_reducible refine gv_R ?_ | with_reducible refine gv_A ?_ | with_reducible refine gv_sN ?_ | with_reducible refine gv_Bl ?_ | with_reducible refine gv_Tr ?_ | with_reducible refine gv_2 ?_
  | with_reducible refine gv_1 ?_ | with_reducible refine gv_Cl ?_ | with_reducible refine gv_aC ?_ | with_reducible refine gv_N ?_ | with_reducible refine gv_C ?_ | ((with_reducible refine' gv_V ?h ?_); (case h => exact rfl)) | ((with_reducible refine' gv_Pg ?h ?g ?_); (case h => exact rfl); (case g => exact rfl)) | with_reducible refine gv_F ?_ | with_reducible refine gv_tAn ?_ | with_reducible refine gv_tOr ?_ | with_reducible refine gv_Nt ?_
  | with_reducible refine gv_An ?_ | with_reducible refine gv_Or ?_ | with_reducible refine gv_Ls ?_ | with_reducible refine gv_Tp ?_ | with_reducible refine gv_Ps' ?_ | with_reducible refine gv_Pt' ?_ | with_reducible refine gv_If ?_ | with_reducible refine gv_Get ?_ | with_reducible refine gv_Jn ?_ | with_reducible refine gv_FK ?_ | with_reducible refine gv_Ch ?_
  | ((with_reducible refine' gv_mod' ?d ?e ?h0 ?_); (case d => exact rfl); (case e => exact rfl); (case h0 => omega)) | ((with_reducible refine' gv_fdiv' ?d ?e ?h0 ?h1 ?_); (case d => exact rfl); (case e => exact rfl); (case h0 => omega); (case h1 => omega)) | ((with_reducible refine' gv_mulL' ?d ?e ?h0 ?h1 ?_); (case d => exact rfl); (case e => exact rfl); (case h0 => omega); (case h1 => omega)) | ((with_reducible refine' gv_mulR' ?d ?e ?h0 ?h1 ?_); (case d => exact rfl); (case e => exact rfl); (case h0 => omega); (case h1 => omega))
  | ((with_reducible refine' gv_lift ?h ?_); (case h => exact rfl)) | ((with_reducible show ∃ _, Slot.dat _ = _ ∧ _); refine Exists.intro _ (And.intro rfl ?_))
  | ((with_reducible show (List.length _ ≤ LINE) ∧ _); refine And.intro (Nat.le_of_ble_eq_true rfl) ?_) | ((with_reducible show (List.length _ = _) ∧ _); refine And.intro rfl ?_) | ((with_reducible show (_ = some _) ∧ _ ∧ _); refine And.intro rfl (And.intro ?_ ?_); first | omega | exact Int.ediv_nonneg (by omega) (by omega)))
abbrev Ps := List (Nat × Int)
def L6 : List Nat := [97, 98, 99, 120, 121, 122]
def L7 : List Nat := [97, 98, 99, 100, 120, 121, 122]
def P4 : List Int := [0, 1, 2, 20]
def LET : List Nat := [97, 98, 99, 100, 101, 102, 103, 104, 105, 106, 107, 108, 109, 110, 111, 112, 113, 114, 115, 116, 117, 118, 119, 120, 121, 122]
structure Good (ps : Ps) : Prop where
  ks : (ps.map (·.1)).Sublist L6
  vs : ∀ p ∈ ps, p.2 ∈ P4
theorem Good.k {ps : Ps} (g : Good ps) {p : Nat × Int} (h : p ∈ ps) : p.1 ∈ L6 := g.ks.subset (List.mem_map.mpr ⟨p, h, rfl⟩)
def dT (p : Nat × Int) : D := .tup [.str [p.1], .int p.2]
def dL (p : Nat × Int) : D := .lst [.str [p.1], .int p.2]
def dF (p : Nat × Int) : D := .tpl [.str [p.1], .int p.2]
theorem price_T {p : Nat × Int} {w : Pen} (h : p.1 ∈ L6) (k : p.2 ∈ P4) : m_is_price [dT p] w = .ok (.fr (.bl true)) [] w :=
  map_each (f := fun q => m_is_price [dT q] w) (g := fun _ => .ok (.fr (.bl true)) [] w) (l := prodL L6 P4) (by kernel_rfl) _ (prodL_mem h k)
theorem price_L {p : Nat × Int} {w : Pen} (h : p.1 ∈ L6) (k : p.2 ∈ P4) : m_is_price [dL p] w = .ok (.fr (.bl true)) [] w :=
  map_each (f := fun q => m_is_price [dL q] w) (g := fun _ => .ok (.fr (.bl true)) [] w) (l := prodL L6 P4) (by kernel_rfl) _ (prodL_mem h k)
theorem fixed_T {p : Nat × Int} {w : Pen} : m_fixed 11 [dT p] w = .ok (.fr (dF p)) [] w := by kernel_rfl
theorem fixed_L {p : Nat × Int} {w : Pen} : m_fixed 11 [dL p] w = .ok (.fr (dF p)) [] w := by kernel_rfl
theorem asc_ok {ks : List Nat} {w : Pen} (h : ks.Sublist L6) : m_ascends [.lst (ks.map fun c => .str [c])] w = .ok (.fr (.bl true)) [] w :=
  map_each (f := fun ks => m_ascends [.lst (ks.map fun c => .str [c])] w) (g := fun _ => .ok (.fr (.bl true)) [] w) (l := subs L6) (by kernel_rfl) _ (subs_mem h)
theorem has1 {n : Nat} {X : D} {e : List Slot} (h : e.length = n) (k : e[0]? = some (.fr X)) : Has n [(0, X)] e := ⟨h, fun p hp => by
  rw [List.mem_singleton.mp hp]
  exact ⟨_, k, .inl rfl⟩⟩
theorem are_ok {ps : Ps} {g : Nat × Int → D} {X : D} {w : Pen} (G : Good ps) (hX : walkD X = some (ps.map g)) (hl : m_is_listed [X] w = .ok (.fr (.bl true)) [] w) (hp : ∀ p ∈ ps, m_is_price [g p] w = .ok (.fr (.bl true)) [] w) (hk : ∀ p, ixD (g p) (.int 0) = some (.fr (.str [p.1]))) (hn : ps.length ≤ 6) :
    m_are_prices [X] w = .ok (.fr (.bl true)) [] w := by
  unfold m_are_prices
  refine gv_run2 ?_
  have h0 : Has 2 [(0, X)] (slots 2 [X]) := has1 rfl rfl
  have set1 : ∀ (e : List Slot) (s : Slot), Has 2 [(0, X)] e → Has 2 [(0, X)] (e.set 1 s) := fun e s h => h.set rfl
  have hL : (ps.map g).length ≤ LINE := by rw [List.length_map]; exact Nat.le_trans hn (by decide)
  refine gv_Q (gv_I (gv_tOr (gv_Nt (gv_Tr (gv_F (gv_aC (gv_H h0 (.head _) fun h1 => gv_N ⟨rfl, gv_of hl ⟨true, rfl, ⟨(fun z => by cases z), fun _ => ?_⟩⟩⟩)))))))
  refine gv_Nt (gv_Tr (gv_Cl (gv_aC (gv_Lt (J := Has 2 [(0, X)]) (I := fun _ w' => w' = w) (V := fun _ r => r = .bl true) (c := 0) (n := 0) (N := 0) set1 (gv_iV (gv_H h1 (.head _) fun h2 => ⟨_, hX, h2, by rw [h2.len]; decide, rfl, hL, by omega, fun d hd n w' e _ he e1 hw => ?_, fun rs e w' V he hw => ?_⟩))))))
  · subst hw
    obtain ⟨p, hp1, rfl⟩ := List.mem_map.mp hd
    refine gv_F (gv_aC (gv_V e1 (gv_N ⟨rfl, gv_of (hp p hp1) ⟨he, e1, rfl, rfl⟩⟩)))
  · have er := all2_map (g := fun _ => D.bl true) V
    subst er hw
    rw [List.map_map]
    refine gv_N (gv_lift (r := .fr (.bl true)) ?_ ⟨true, rfl, ⟨(fun z => by cases z), fun _ => gv_sN ?_⟩⟩)
    · show (blsOf (ps.map fun _ => D.bl true)).map _ = _
      rw [bls_true]
      show some (Slot.fr (.bl ((ps.map fun _ => true).all id))) = _
      rw [all_true]
    · refine gv_R (gv_F (gv_aC (gv_Lt (J := Has 2 [(0, X)]) (I := fun _ w'' => w'' = w') (V := fun d r => ixD d (.int 0) = some (.fr r)) (c := 0) (n := 0) (N := 0) set1 (gv_iV (gv_H he (.head _) fun h2 => ⟨_, hX, h2, by rw [h2.len]; decide, rfl, hL, by omega, fun d hd n w'' e _ he e1 hw => ?_, fun rs e w'' V he hw => ?_⟩)))))
      · subst hw
        obtain ⟨p, hp1, rfl⟩ := List.mem_map.mp hd
        exact gv_2 (gv_V e1 (gv_C (gv_lift (hk p) ⟨he, e1, rfl, hk p⟩)))
      · subst hw
        have er := all2_of (f := fun p : Nat × Int => D.str [p.1]) V fun p _ b hb => by
          rw [hk p] at hb
          cases hb
          rfl
        subst er
        have ea : ∀ w : Pen, m_ascends [.lst (ps.map fun p => .str [p.1])] w = .ok (.fr (.bl true)) [] w := fun w => by
          have z := asc_ok (w := w) G.ks
          rw [List.map_map] at z
          exact z
        exact gv_N ⟨rfl, gv_of (ea _) ⟨rfl, rfl⟩⟩
theorem fix_ok {ps : Ps} {g : Nat × Int → D} {X : D} {w : Pen} (hX : walkD X = some (ps.map g)) (hi : isiD [] [0, 1, 2, 3, 4, 5, 6, 7, 8, 9, 10, 11, 12, 13] subE [X, .tup [.ty 3, .ty 4]] = some (.fr (.bl true))) (hg : ∀ p w, m_fixed 11 [g p] w = .ok (.fr (dF p)) [] w) (hn : ps.length ≤ 6) :
    m_fixed 12 [X] w = .ok (.fr (.tpl (ps.map dF))) [] w := by
  unfold m_fixed
  refine gv_run2 ?_
  have h0 : Has 3 [(0, X)] (slots 3 [X]) := has1 rfl rfl
  have hL : (ps.map g).length ≤ LINE := by rw [List.length_map]; exact Nat.le_trans hn (by decide)
  have set2 : ∀ (e : List Slot) (s : Slot), Has 3 [(0, X)] e → Has 3 [(0, X)] (e.set 2 s) := fun e s h => h.set rfl
  refine gv_Q (gv_I (gv_Tr (gv_Cl (gv_aC ?_))))
  refine gv_H h0 (.head _) fun h1 => ?_
  refine gv_aC (gv_Tp (gv_aC (gv_C (gv_aC (gv_C (gv_N ?_))))))
  refine ⟨by decide, gv_N (gv_lift hi ⟨true, rfl, fun _ => ?_, fun z => ?_⟩)⟩
  rotate_left
  · cases z
  refine gv_R (gv_Cl (gv_aC ?_))
  refine gv_Lt (J := Has 3 [(0, X)]) (I := fun _ w'' => w'' = w) (V := fun d r => ∀ p, d = g p → r = dF p) (c := 0) (n := 0) (N := 0) set2 (gv_iV ?_)
  refine gv_H h1 (.head _) fun h2 => ⟨_, hX, h2, by rw [h2.len]; decide, rfl, hL, by omega, fun d hd n w'' e _ he e1 hw => ?_, fun rs e w'' V he hw => ?_⟩
  · subst hw
    obtain ⟨p, hp1, rfl⟩ := List.mem_map.mp hd
    refine gv_F (gv_aC (gv_V e1 (gv_N ⟨rfl, gv_of (hg p _) ⟨he, e1, rfl, fun q hq => ?_⟩⟩)))
    have z1 := hg p w''
    have z2 := hg q w''
    rw [hq, z2] at z1
    injection z1 with z1
    injection z1 with z1
    exact z1.symm
  · subst hw
    have er := all2_of (f := dF) V fun p _ b hb => hb p rfl
    subst er
    exact gv_N (gv_lift rfl ⟨rfl, rfl⟩)
theorem need_ok {ps : Ps} {X : D} {w : Pen} (h1 : m_are_prices [X] w = .ok (.fr (.bl true)) [] w) (h2 : m_fixed 12 [X] w = .ok (.fr (.tpl (ps.map dF))) [] w) : m_need_prices [X] w = .ok (.fr (.tpl (ps.map dF))) [] w := by
  unfold m_need_prices
  refine gv_run2 ?_
  have h0 : Has 1 [(0, X)] (slots 1 [X]) := has1 rfl rfl
  refine gv_Q (gv_I (gv_Nt (gv_Tr (gv_F (gv_aC (gv_H h0 (.head _) fun h3 => gv_N ⟨rfl, gv_of h1 ⟨true, rfl, ⟨(fun z => by cases z), fun _ => gv_sN ?_⟩⟩⟩))))))
  exact gv_R (gv_F (gv_aC (gv_H h3 (.head _) fun _ => gv_N ⟨rfl, gv_of h2 ⟨rfl, rfl⟩⟩)))
/-! ### what is told of prices -/
def prs (ps : Ps) : List (D × D) := ps.map fun p => (.str [p.1], .int p.2)
def kv (ps : Ps) : List D × List D := mergeD (prs ps)
def val (ps : Ps) (c : Nat) : D := (getD_ (kv ps).1 (kv ps).2 (.str [c])).getD (.int 1)
def iv (ps : Ps) (c : Nat) : Int := match val ps c with
  | .int i => i
  | _ => 0
theorem pairs_of {g : Nat × Int → D} (hg : ∀ p, tupOf (g p) = some [.str [p.1], .int p.2]) : ∀ ps : Ps, HK.pairsOf (ps.map g) = some (prs ps)
  | [] => rfl
  | p :: ps => by
    rw [List.map_cons]
    unfold HK.pairsOf
    rw [hg p]
    show (if (keyOf (.str [p.1])).isSome = true then (HK.pairsOf (ps.map g)).map ((D.str [p.1], D.int p.2) :: ·) else none) = _
    rw [pairs_of hg ps]
    rfl
def isInt (d : D) : Prop := ∃ i, d = .int i
theorem put_int {p : List D × List D} {k v : D} (h : ∀ d ∈ p.2, isInt d) (hv : isInt v) : ∀ d ∈ (putD p k v).2, isInt d := by
  have hs : ∀ (ks vs : List D), (∀ d ∈ vs, isInt d) → ∀ d ∈ setVs ks vs k v, isInt d := by
    intro ks
    induction ks with
    | nil => intro vs h d hd; unfold setVs at hd; exact h d hd
    | cons k' ks ih =>
      intro vs h d hd
      cases vs with
      | nil => unfold setVs at hd; cases hd
      | cons v' vs =>
        unfold setVs at hd
        rcases List.mem_cons.mp hd with rfl | hd
        · split
          · exact hv
          · exact h _ List.mem_cons_self
        · exact ih vs (fun d hd => h d (List.mem_cons_of_mem _ hd)) d hd
  intro d hd
  unfold putD at hd
  split at hd
  · exact hs _ _ h d hd
  · rcases List.mem_append.mp hd with hd | hd
    · exact h d hd
    · rw [List.mem_singleton.mp hd]
      exact hv
theorem fold_int : ∀ (ps : Ps) (acc : List D × List D), (∀ d ∈ acc.2, isInt d) → ∀ d ∈ ((prs ps).foldl (fun acc p => putD acc p.1 p.2) acc).2, isInt d
  | [], _, h => h
  | p :: ps, acc, h => fold_int ps _ (put_int h ⟨_, rfl⟩)
theorem get_int : ∀ {ks vs : List D} {k d : D}, (∀ d ∈ vs, isInt d) → getD_ ks vs k = some d → isInt d
  | [], _, _, _, _, e => by unfold getD_ at e; cases e
  | _ :: _, [], _, _, _, e => by unfold getD_ at e; cases e
  | k' :: ks, v :: vs, k, d, h, e => by
    unfold getD_ at e
    split at e
    · cases e
      exact h _ List.mem_cons_self
    · exact get_int (fun d hd => h d (List.mem_cons_of_mem _ hd)) e
theorem val_int (ps : Ps) (c : Nat) : val ps c = .int (iv ps c) := by
  have : isInt (val ps c) := by
    unfold val
    cases e : getD_ (kv ps).1 (kv ps).2 (.str [c]) with
    | none => exact ⟨1, rfl⟩
    | some d => exact get_int (fold_int ps _ (by simp)) e
  obtain ⟨i, e⟩ := this
  unfold iv
  rw [e]
theorem get_ok (ps : Ps) (c : Nat) : get3 (kv ps).1 (kv ps).2 (.str [c]) (.int 1) = some (.fr (.int (iv ps c))) := by
  rw [← val_int]
  rfl
def cost (ps : Ps) (word : List Nat) : Int := (word.map (iv ps)).sum
end L_k01

namespace L_k01
open HK PySem PySem.Spec PySem.Calls PyProof.Rows L2
theorem has2 {n : Nat} {X Y : D} {e : List Slot} (h : e.length = n) (k : e[0]? = some (.fr X)) (k2 : e[1]? = some (.fr Y)) : Has n [(0, X), (1, Y)] e := ⟨h, fun p hp => by
  rcases List.mem_cons.mp hp with rfl | hp
  · exact ⟨_, k, .inl rfl⟩
  · rw [List.mem_singleton.mp hp]
    exact ⟨_, k2, .inl rfl⟩⟩
theorem word_ok {s : List Nat} {m : Int} {w : Pen} (hs : ∀ c ∈ s, c ∈ LET) (hm : (s.length : Int) ≤ m) (hl : s.length ≤ LINE) : m_is_word [.str s, .int m] w = .ok (.fr (.bl true)) [] w := by
  unfold m_is_word
  refine gv_run2 ?_
  have h0 : Has 3 [(0, D.str s), (1, D.int m)] (slots 3 [.str s, .int m]) := has2 rfl rfl rfl
  have set2 : ∀ (e : List Slot) (x : Slot), Has 3 [(0, D.str s), (1, D.int m)] e → Has 3 [(0, D.str s), (1, D.int m)] (e.set 2 x) := fun e x h => h.set rfl
  refine gv_R (gv_An (gv_Cl (gv_aC ?_)))
  refine gv_H h0 (.head _) fun h1 => ?_
  refine gv_aC (gv_C (gv_N (gv_lift rfl ⟨true, rfl, fun _ => ?_, fun z => by cases z⟩)))
  refine gv_An (gv_2 (gv_Cl (gv_aC ?_)))
  refine gv_H h1 (.head _) fun h2 => ?_
  refine gv_N (gv_lift (if_pos hl) ?_)
  refine gv_H h2 (.tail _ (.head _)) fun h3 => ?_
  refine gv_lift rfl ⟨decide ((s.length : Int) ≤ m), rfl, fun _ => ?_, fun z => ?_⟩
  rotate_left
  · rw [decide_eq_true hm] at z
    cases z
  refine gv_Cl (gv_aC ?_)
  refine gv_Lt (J := Has 3 [(0, D.str s), (1, D.int m)]) (I := fun _ w'' => w'' = w) (V := fun _ r => r = .bl true) (c := 0) (n := 0) (N := 0) set2 (gv_iV ?_)
  refine gv_H h3 (.head _) fun h4 => ⟨_, rfl, h4, by rw [h4.len]; decide, rfl, by rw [List.length_map]; exact hl, by omega, fun d hd n w'' e _ he e1 hw => ?_, fun rs e w'' V he hw => ?_⟩
  · subst hw
    obtain ⟨c, hc, rfl⟩ := List.mem_map.mp hd
    refine gv_2 (gv_V e1 (gv_C (gv_lift rfl ⟨he, e1, rfl, ?_⟩)))
    show D.bl (false ^^ LET.contains c) = .bl true
    rw [List.contains_iff_mem.mpr (hs c hc)]
    rfl
  · subst hw
    have er := all2_map (g := fun _ => D.bl true) V
    subst er
    rw [List.map_map]
    refine gv_N (gv_lift (r := .fr (.bl true)) ?_ ⟨rfl, rfl⟩)
    show (blsOf (s.map fun _ => D.bl true)).map _ = _
    rw [bls_true]
    show some (Slot.fr (.bl ((s.map fun _ => true).all id))) = _
    rw [all_true]
theorem cost_in_ok {ps : Ps} {T : D} {word : List Nat} {w : Pen} (hT : dictD T = some (.ow (.dic (kv ps).1 (kv ps).2))) (hl : word.length ≤ LINE) : m_cost_in [T, .str word] w = .ok (.fr (.int (cost ps word))) [] w := by
  unfold m_cost_in
  refine gv_run2 ?_
  have h0 : Has 4 [(0, T), (1, D.str word)] (slots 4 [T, .str word]) := has2 rfl rfl rfl
  refine gv_Q (gv_A (gv_Cl (gv_aC ?_)))
  refine gv_H h0 (.head _) fun h1 => ?_
  refine gv_N (gv_lift hT ?_)
  have h2 := h1.put (j := 2) (s := .ow (.dic (kv ps).1 (kv ps).2)) (by decide) (.inr rfl) rfl
  refine gv_R (gv_Cl (gv_aC ?_))
  refine gv_Lt (J := Has 4 [(2, D.dic (kv ps).1 (kv ps).2), (0, T), (1, D.str word)]) (I := fun _ w'' => w'' = w) (V := fun d r => ∀ c, d = .str [c] → r = .int (iv ps c)) (c := 0) (n := 0) (N := 0) (fun e x h => h.set rfl) (gv_iV ?_)
  refine gv_H h2 (.tail _ (.tail _ (.head _))) fun h4 => ⟨_, rfl, h4, by rw [h4.len]; decide, rfl, by rw [List.length_map]; exact hl, by omega, fun d hd n w'' e _ he e1 hw => ?_, fun rs e w'' V he hw => ?_⟩
  · subst hw
    obtain ⟨c, hc, rfl⟩ := List.mem_map.mp hd
    refine gv_Get (gv_H he (.head _) fun he2 => ⟨_, rfl, ?_⟩)
    have e2 : (e.set 2 (.fr (.dic (kv ps).1 (kv ps).2)))[3]? = some (.fr (.str [c])) := by
      rw [List.getElem?_set_ne (by decide)]
      exact e1
    refine gv_V e2 (gv_C (gv_lift (get_ok ps c) ⟨he2, e2, rfl, fun c' hc' => ?_⟩))
    cases hc'
    rfl
  · subst hw
    have er := all2_of (f := fun c => D.int (iv ps c)) V fun c _ b hb => hb c rfl
    subst er
    refine gv_N (gv_lift (r := .fr (.int (cost ps word))) ?_ ⟨rfl, rfl⟩)
    show (intsOf (word.map fun c => D.int (iv ps c))).bind _ = _
    rw [HK.ints_map]
    rfl
theorem dict_F (ps : Ps) : dictD (.tpl (ps.map dF)) = some (.ow (.dic (kv ps).1 (kv ps).2)) := by
  show (HK.pairsOf (ps.map dF)).map _ = _
  rw [pairs_of (fun _ => rfl)]
  rfl
theorem cost_of_ok {ps : Ps} {X : D} {word : List Nat} {w : Pen} (h1 : m_need_prices [X] w = .ok (.fr (.tpl (ps.map dF))) [] w) (hs : ∀ c ∈ word, c ∈ LET) (hm : word.length ≤ 4000) : m_cost_of [X, .str word] w = .ok (.fr (.int (cost ps word))) [] w := by
  unfold m_cost_of
  refine gv_run2 ?_
  have hl : word.length ≤ LINE := Nat.le_trans hm (by decide)
  have h0 : Has 3 [(0, X), (1, D.str word)] (slots 3 [X, .str word]) := has2 rfl rfl rfl
  refine gv_Q (gv_A (gv_F (gv_aC ?_)))
  refine gv_H h0 (.head _) fun h2 => gv_N ⟨rfl, gv_of h1 ?_⟩
  have h3 := h2.put (j := 2) (s := .fr (.tpl (ps.map dF))) (by decide) (.inl rfl) rfl
  refine gv_Q (gv_I (gv_Nt (gv_Tr (gv_F (gv_aC ?_)))))
  refine gv_H h3 (.tail _ (.tail _ (.head _))) fun h4 => gv_aC (gv_C (gv_N ⟨rfl, gv_of (word_ok hs (by omega) hl) ⟨true, rfl, (fun z => by cases z), fun _ => gv_sN ?_⟩⟩))
  refine gv_R (gv_F (gv_aC ?_))
  refine gv_H h4 (.head _) fun h5 => gv_aC ?_
  exact gv_H h5 (.tail _ (.tail _ (.head _))) fun h6 => gv_N ⟨rfl, gv_of (cost_in_ok (dict_F ps) hl) ⟨rfl, rfl⟩⟩
theorem price_in_ok {ps : Ps} {T : D} {c : Nat} {w : Pen} (hT : dictD T = some (.ow (.dic (kv ps).1 (kv ps).2))) : m_price_in [T, .str [c]] w = .ok (.fr (.int (iv ps c))) [] w := by
  unfold m_price_in
  refine gv_run2 ?_
  have h0 : Has 2 [(0, T), (1, D.str [c])] (slots 2 [T, .str [c]]) := has2 rfl rfl rfl
  refine gv_R (gv_Get (gv_Cl (gv_aC ?_)))
  refine gv_H h0 (.head _) fun h1 => gv_N (gv_lift hT ⟨_, rfl, ?_⟩)
  exact gv_H h1 (.tail _ (.head _)) fun h2 => gv_C (gv_lift (get_ok ps c) ⟨rfl, rfl⟩)
theorem eq_strs {c : Nat} (h : c ∈ L7) : eqD (.str [c]) (.str []) = some (.fr (.bl false)) := map_each (f := fun c => eqD (.str [c]) (.str [])) (g := fun _ => some (.fr (.bl false))) (l := L7) (by kernel_rfl) _ h
theorem let_of {c : Nat} (h : c ∈ L7) : c ∈ LET := by
  have : ∀ c ∈ L7, c ∈ LET := by decide
  exact this c h
theorem price_of_ok {ps : Ps} {X : D} {c : Nat} {w : Pen} (h1 : m_need_prices [X] w = .ok (.fr (.tpl (ps.map dF))) [] w) (hc : c ∈ L7) : m_price_of [X, .str [c]] w = .ok (.fr (.int (iv ps c))) [] w := by
  unfold m_price_of
  refine gv_run2 ?_
  have h0 : Has 3 [(0, X), (1, D.str [c])] (slots 3 [X, .str [c]]) := has2 rfl rfl rfl
  refine gv_Q (gv_A (gv_F (gv_aC ?_)))
  refine gv_H h0 (.head _) fun h2 => gv_N ⟨rfl, gv_of h1 ?_⟩
  have h3 := h2.put (j := 2) (s := .fr (.tpl (ps.map dF))) (by decide) (.inl rfl) rfl
  refine gv_Q (gv_I (gv_tOr (gv_Nt (gv_Tr (gv_F (gv_aC ?_))))))
  refine gv_H h3 (.tail _ (.tail _ (.head _))) fun h4 => gv_aC (gv_C (gv_N ⟨rfl, gv_of (word_ok (fun c' hc' => ?_) (by simp) (show 1 ≤ LINE from by decide)) ⟨true, rfl, (fun z => by cases z), fun _ => ?_⟩⟩))
  · rw [List.mem_singleton.mp hc']
    exact let_of hc
  refine gv_Bl (gv_2 ?_)
  refine gv_H h4 (.tail _ (.tail _ (.head _))) fun h5 => gv_C (gv_lift (eq_strs hc) ⟨false, rfl, (fun z => by cases z), fun _ => gv_sN ?_⟩)
  refine gv_R (gv_F (gv_aC ?_))
  refine gv_H h5 (.head _) fun h6 => gv_aC ?_
  exact gv_H h6 (.tail _ (.tail _ (.head _))) fun h7 => gv_N ⟨rfl, gv_of (price_in_ok (dict_F ps)) ⟨rfl, rfl⟩⟩
end L_k01

namespace L_k01
open HK PySem PySem.Spec PySem.Calls PyProof.Rows L2
/-! ### picks -/
theorem pick {ds : List D} {w : Pen} (hne : ds ≠ []) (hl : ds.length ≤ 1000) (hw : w.at_ ≤ 1000000) : Gv (m__law_pick [.pen, .lst ds] w) fun r e w' => (∃ d ∈ ds, r = .fr d) ∧ w'.at_ ≤ w.at_ + 1 := by
  have pos : 0 < ds.length := List.length_pos_iff.mpr hne
  unfold m__law_pick
  refine gv_run (gv_R (gv_2 ?_))
  have h0 : Has 2 [(0, D.pen), (1, D.lst ds)] (slots 2 [.pen, .lst ds]) := has2 rfl rfl rfl
  refine gv_H h0 (.tail _ (.head _)) fun h1 => gv_F (gv_aC ?_)
  refine gv_H h1 (.head _) fun h2 => gv_aC (gv_Cl (gv_aC ?_))
  refine gv_H h2 (.tail _ (.head _)) fun h3 => gv_N (gv_lift rfl (gv_N ⟨rfl, ?_⟩))
  refine (draw (m := (ds.length : Nat)) (by omega) hw).mono fun r e w' ⟨⟨d, hr, h5, h6⟩, h7⟩ => ?_
  subst hr
  obtain ⟨j, hj⟩ : ∃ j : Nat, d = j := ⟨d.toNat, by omega⟩
  subst hj
  have hj : j < ds.length := by omega
  refine gv_lift (r := .fr ds[j]) ?_ ⟨⟨_, List.getElem_mem hj, rfl⟩, h7⟩
  show (atI ds (j : Int)).map Slot.fr = _
  rw [show atI ds (j : Int) = some ds[j] from atI_nat (List.getElem?_eq_getElem hj)]
  rfl
/-! ### a turn -/
def NN (n : Nat) (w : Pen) : Prop := w.at_ ≤ n
theorem hp1 {e : List Slot} {ls : List (Nat × D)} (h : Has 14 ((1, .pen) :: ls) e) (j : Nat) (s : Slot) (k : ((1, D.pen) :: ls).all (fun p => p.1 != j) = true) : Has 14 ((1, .pen) :: ls) (e.set j s) := h.set k
/-- prices = [..] -/
theorem st0 {e : List Slot} {w : Pen} {n : Nat} (h : Has 14 [(1, .pen)] e) (hw : NN n w) (hn : n ≤ 1000) : Gv (m_law_0a_0 e w) fun fl e' w' => fl = .nx ∧ NN (n + 12) w' ∧ ∃ ps, Good ps ∧ Has 14 [(8, .lst (ps.map dT)), (1, .pen)] e' := by
  unfold m_law_0a_0
  refine gv_A ?_
  refine gv_Lc (J := Has 14 [(1, .pen)]) (I := NN) (V := fun d r => ∀ c, d = .str [c] → ∃ p ∈ P4, r = dT (c, p)) (c := 2) (n := n) (N := n + 12) (fun e s h => h.set rfl) (gv_iV (gv_C ⟨_, rfl, h, by rw [h.len]; decide, hw, by decide, by simp, fun d hd m w e hm he e1 hw => ?_, fun ds' rs e w' hs V he hw => ?_⟩))
  · refine gv_Bl (gv_2 (gv_F (gv_aC ?_)))
    refine gv_H he (.head _) fun he2 => gv_aC (gv_C (gv_N ⟨rfl, ?_⟩))
    have e2 : (e.set 1 (.fr .pen))[11]? = some (.fr d) := by
      rw [List.getElem?_set_ne (by decide)]
      exact e1
    refine (draw (by decide) (by unfold NN at hw; omega)).mono fun r e3 w3 ⟨⟨x, hr, _⟩, h7⟩ => ?_
    subst hr
    refine gv_C (gv_lift eq_int ⟨_, rfl, he2, e2, ?_⟩)
    have hw3 : NN (m + 1) w3 := by unfold NN at hw ⊢; omega
    split
    · refine gv_Tp (gv_aC (gv_V e2 (gv_aC (gv_F (gv_aC ?_)))))
      refine gv_H he2 (.head _) fun he3 => gv_aC (gv_Ls (gv_aC (gv_C (gv_aC (gv_C (gv_aC (gv_C (gv_aC (gv_C (gv_N ⟨by decide, gv_N ⟨rfl, ?_⟩⟩))))))))))
      have e3 : ((e.set 1 (.fr .pen)).set 1 (.fr .pen))[11]? = some (.fr d) := by
        rw [List.getElem?_set_ne (by decide)]
        exact e2
      refine (pick (ds := [.int 0, .int 1, .int 2, .int 20]) (by simp) (by decide) (by unfold NN at hw3; omega)).mono fun r e4 w4 ⟨⟨x, hx, hr⟩, h8⟩ => ?_
      subst hr
      refine gv_N ⟨by show 2 ≤ LINE; decide, he3, e3, by unfold NN at hw3 ⊢; omega, fun c hc => ?_⟩
      subst hc
      have : ∀ x ∈ ([.int 0, .int 1, .int 2, .int 20] : List D), ∃ p ∈ P4, x = .int p := by
        intro x hx
        simp only [List.mem_cons, List.not_mem_nil, or_false] at hx
        rcases hx with rfl | rfl | rfl | rfl
        · exact ⟨0, by decide, rfl⟩
        · exact ⟨1, by decide, rfl⟩
        · exact ⟨2, by decide, rfl⟩
        · exact ⟨20, by decide, rfl⟩
      obtain ⟨p, hp, rfl⟩ := this x hx
      exact ⟨p, hp, rfl⟩
    · unfold NN at hw3 ⊢
      omega
  · refine ⟨rfl, hw, ?_⟩
    have key : ∀ (cs : List Nat) (ds' rs : List D), ds'.Sublist (cs.map fun c => D.str [c]) → All2 (fun d r => ∀ c, d = .str [c] → ∃ p ∈ P4, r = dT (c, p)) ds' rs → ∃ ps : Ps, (ps.map (·.1)).Sublist cs ∧ (∀ p ∈ ps, p.2 ∈ P4) ∧ rs = ps.map dT := by
      intro cs
      induction cs with
      | nil =>
        intro ds' rs h V
        cases h
        cases V
        exact ⟨[], List.Sublist.refl _, by simp, rfl⟩
      | cons c cs ih =>
        intro ds' rs h V
        rw [List.map_cons] at h
        cases h with
        | cons _ h =>
          obtain ⟨ps, h1, h2, h3⟩ := ih ds' rs h V
          exact ⟨ps, h1.cons c, h2, h3⟩
        | cons_cons _ h =>
          cases V with
          | cons v V =>
            obtain ⟨p, hp, rfl⟩ := v c rfl
            obtain ⟨ps, h1, h2, rfl⟩ := ih _ _ h V
            refine ⟨(c, p) :: ps, h1.cons_cons c, fun q hq => ?_, rfl⟩
            rcases List.mem_cons.mp hq with rfl | hq
            · exact hp
            · exact h2 q hq
    obtain ⟨ps, h1, h2, rfl⟩ := key L6 ds' rs hs V
    exact ⟨ps, ⟨h1, h2⟩, he.put (by decide) (.inr rfl) rfl⟩
end L_k01

namespace L_k01
open HK PySem PySem.Spec PySem.Calls PyProof.Rows L2
def C7 : List D := L7.map fun c => .str [c]
theorem pick7 {w : Pen} (hw : w.at_ ≤ 1000000) : Gv (m__law_pick [.pen, .lst C7] w) fun r e w' => (∃ c ∈ L7, r = .fr (.str [c])) ∧ w'.at_ ≤ w.at_ + 1 :=
  (pick (ds := C7) (by decide) (by decide) hw).mono fun r e w' ⟨⟨d, hd, hr⟩, h⟩ => by
    obtain ⟨c, hc, rfl⟩ := List.mem_map.mp hd
    exact ⟨⟨c, hc, hr⟩, h⟩
theorem joinL_one : ∀ l : List Nat, joinL [] (l.map fun c => [c]) = l
  | [] => rfl
  | [c] => rfl
  | c :: c' :: l => by
    show [c] ++ [] ++ joinL [] ((c' :: l).map fun c => [c]) = _
    rw [joinL_one]
    rfl
theorem sum_ones : ∀ l : List Nat, ((l.map fun c => [c]).map List.length).sum = l.length
  | [] => rfl
  | c :: l => by
    rw [List.map_cons, List.map_cons, List.sum_cons, sum_ones l]
    show 1 + l.length = l.length + 1
    omega
/-- word = .. -/
theorem st1 {e : List Slot} {w : Pen} {n : Nat} {X : D} (h : Has 14 [(8, X), (1, .pen)] e) (hw : NN n w) (hn : n ≤ 1000) :
    Gv (m_law_0a_1 e w) fun fl e' w' => fl = .nx ∧ NN (n + 9) w' ∧ ∃ word : List Nat, word.length ≤ 8 ∧ (∀ c ∈ word, c ∈ L7) ∧ Has 14 [(9, .str word), (8, X), (1, .pen)] e' := by
  unfold m_law_0a_1
  refine gv_A (gv_Jn (gv_C ⟨_, rfl, ?_⟩))
  refine gv_Lt (J := Has 14 [(8, X), (1, .pen)]) (I := NN) (V := fun _ r => ∃ c ∈ L7, r = .str [c]) (c := 1) (n := n + 1) (N := n + 9) (fun e s h => h.set rfl) (gv_iR1 (gv_aC (gv_F (gv_aC ?_))))
  refine gv_H h (.tail _ (.head _)) fun h1 => gv_aC (gv_C (gv_N ⟨rfl, ?_⟩))
  refine (draw (by decide) (by unfold NN at hw; omega)).mono fun r e3 w3 ⟨⟨x, hr, x0, x1⟩, h7⟩ => ?_
  subst hr
  have xl : x.toNat ≤ 8 := by omega
  have lx : (rangeL 0 x.toNat).length = x.toNat := by unfold rangeL; rw [List.length_map, List.length_range]
  refine gv_N ⟨rangeL 0 x.toNat, ?_, h1, by rw [h1.len]; decide, by unfold NN at hw ⊢; omega, by rw [lx]; exact Nat.le_trans xl (by decide), by rw [lx]; omega, fun d hd m w e hm he e1 hw => ?_, fun rs e w' V he hw' => ?_⟩
  · show (if big62 x = true then some (rangeL 0 x.toNat) else none) = _
    rw [if_pos]
    unfold big62
    simp only [Bool.and_eq_true, decide_eq_true_eq]
    omega
  · refine gv_F (gv_aC ?_)
    refine gv_H he (.tail _ (.head _)) fun he2 => gv_aC (gv_Cl (gv_aC (gv_C (gv_N (gv_lift (r := .ow (.lst C7)) rfl (gv_N ⟨rfl, ?_⟩))))))
    refine (pick7 (by unfold NN at hw; omega)).mono fun r e4 w4 ⟨⟨c, hc, hr⟩, h8⟩ => ?_
    subst hr
    exact ⟨he2, by rw [List.getElem?_set_ne (by decide)]; exact e1, by unfold NN at hw ⊢; omega, c, hc, rfl⟩
  · obtain ⟨word, hl, hc, rfl⟩ : ∃ word : List Nat, word.length = rs.length ∧ (∀ c ∈ word, c ∈ L7) ∧ rs = word.map fun c => .str [c] := by
      clear hw' he lx
      generalize rangeL 0 x.toNat = ds at V
      induction V with
      | nil => exact ⟨[], rfl, by simp, rfl⟩
      | cons v _ ih =>
        obtain ⟨c, hc, rfl⟩ := v
        obtain ⟨word, h1, h2, rfl⟩ := ih
        refine ⟨c :: word, by simp, fun c' hc' => ?_, rfl⟩
        rcases List.mem_cons.mp hc' with rfl | hc'
        · exact hc
        · exact h2 c' hc'
    have lw : word.length ≤ 8 := by
      have z := V.length
      rw [lx] at z
      omega
    refine gv_lift (r := .fr (.str word)) ?_ ⟨rfl, ?_, word, lw, hc, he.put (by decide) (.inl rfl) rfl⟩
    · show (strsOf (word.map fun c => D.str [c])).bind (fun zs => if (zs.map List.length).sum + zs.length * ([] : List Nat).length ≤ LINE then some (Slot.fr (.str (joinL [] zs))) else none) = _
      rw [HK.strs_map]
      show (if ((word.map fun c => [c]).map List.length).sum + (word.map fun c => [c]).length * 0 ≤ LINE then some (Slot.fr (.str (joinL [] (word.map fun c => [c])))) else none) = _
      rw [sum_ones, joinL_one, if_pos (by
        rw [Nat.mul_zero, Nat.add_zero]
        exact Nat.le_trans lw (by decide))]
    · unfold NN at hw' ⊢
      rw [lx] at hw'
      omega
theorem dict_T (ps : Ps) : dictD (.lst (ps.map dT)) = some (.ow (.dic (kv ps).1 (kv ps).2)) := by
  show (HK.pairsOf (ps.map dT)).map _ = _
  rw [pairs_of (fun _ => rfl)]
  rfl
/-- due = .. -/
theorem st2 {e : List Slot} {w : Pen} {ps : Ps} {word : List Nat} (h : Has 14 [(9, .str word), (8, .lst (ps.map dT)), (1, .pen)] e) (hl : word.length ≤ 8) :
    Gv (m_law_0a_2 e w) fun fl e' w' => fl = .nx ∧ w' = w ∧ Has 14 [(10, .int (cost ps word)), (9, .str word), (8, .lst (ps.map dT)), (1, .pen)] e' := by
  unfold m_law_0a_2
  refine gv_A (gv_Cl (gv_aC ?_))
  refine gv_Lt (J := Has 14 [(9, .str word), (8, .lst (ps.map dT)), (1, .pen)]) (I := fun _ w'' => w'' = w) (V := fun d r => ∀ c, d = .str [c] → r = .int (iv ps c)) (c := 0) (n := 0) (N := 0) (fun e x h => h.set rfl) (gv_iV ?_)
  refine gv_H h (.head _) fun h4 => ⟨_, rfl, h4, by rw [h4.len]; decide, rfl, by rw [List.length_map]; exact Nat.le_trans hl (by decide), by omega, fun d hd n w'' e _ he e1 hw => ?_, fun rs e w'' V he hw => ?_⟩
  · subst hw
    obtain ⟨c, hc, rfl⟩ := List.mem_map.mp hd
    refine gv_Get (gv_Cl (gv_aC ?_))
    refine gv_H he (.tail _ (.head _)) fun he2 => gv_N (gv_lift (dict_T ps) ⟨_, rfl, ?_⟩)
    have e2 : (e.set 8 (.fr (.lst (ps.map dT))))[11]? = some (.fr (.str [c])) := by
      rw [List.getElem?_set_ne (by decide)]
      exact e1
    refine gv_V e2 (gv_C (gv_lift (get_ok ps c) ⟨he2, e2, rfl, fun c' hc' => ?_⟩))
    cases hc'
    rfl
  · subst hw
    have er := all2_of (f := fun c => D.int (iv ps c)) V fun c _ b hb => hb c rfl
    subst er
    refine gv_N (gv_lift (r := .fr (.int (cost ps word))) ?_ ⟨rfl, rfl, he.put (by decide) (.inl rfl) rfl⟩)
    show (intsOf (word.map fun c => D.int (iv ps c))).bind _ = _
    rw [HK.ints_map]
    rfl
theorem need_T {ps : Ps} {w : Pen} (G : Good ps) : m_need_prices [.lst (ps.map dT)] w = .ok (.fr (.tpl (ps.map dF))) [] w := by
  have hn : ps.length ≤ 6 := by
    have := G.ks.length_le
    rw [List.length_map] at this
    exact this
  exact need_ok (are_ok (g := dT) G rfl (by kernel_rfl) (fun p hp => price_T (G.k hp) (G.vs p hp)) (fun _ => rfl) hn) (fix_ok (g := dT) rfl (by kernel_rfl) (fun _ _ => fixed_T) hn)
theorem need_L {ps : Ps} {w : Pen} (G : Good ps) : m_need_prices [.tpl (ps.map dL)] w = .ok (.fr (.tpl (ps.map dF))) [] w := by
  have hn : ps.length ≤ 6 := by
    have := G.ks.length_le
    rw [List.length_map] at this
    exact this
  exact need_ok (are_ok (g := dL) G rfl (by kernel_rfl) (fun p hp => price_L (G.k hp) (G.vs p hp)) (fun _ => rfl) hn) (fix_ok (g := dL) rfl (by kernel_rfl) (fun _ _ => fixed_L) hn)
theorem ne_self {i : Int} : neD (.int i) (.int i) = some (.fr (.bl false)) := by
  rw [HK.ne_int]
  simp
/-- if cost_of(..) != due or .. -/
theorem st3 {e : List Slot} {w : Pen} {ps : Ps} {word : List Nat} (G : Good ps) (h : Has 14 [(10, .int (cost ps word)), (9, .str word), (8, .lst (ps.map dT)), (1, .pen)] e) (hl : word.length ≤ 8) (hc : ∀ c ∈ word, c ∈ L7) :
    Gv (m_law_0a_3 e w) fun fl e' w' => fl = .nx ∧ w' = w ∧ Has 14 [(8, .lst (ps.map dT)), (1, .pen)] e' := by
  unfold m_law_0a_3
  have hs : ∀ c ∈ word, c ∈ LET := fun c h => let_of (hc c h)
  have hn : ps.length ≤ 6 := by
    have := G.ks.length_le
    rw [List.length_map] at this
    exact this
  refine gv_I (gv_tOr (gv_Bl (gv_2 (gv_F (gv_aC ?_)))))
  refine gv_H h (.tail _ (.tail _ (.head _))) fun h1 => gv_aC ?_
  refine gv_H h1 (.tail _ (.head _)) fun h2 => gv_N ⟨rfl, gv_of (cost_of_ok (need_T G) hs (by omega)) ?_⟩
  refine gv_H h2 (.head _) fun h3 => gv_lift ne_self ⟨false, rfl, (fun z => by cases z), fun _ => ?_⟩
  refine gv_Bl (gv_2 (gv_FK (gv_N (gv_aC ?_))))
  refine gv_H h3 (.tail _ (.head _)) fun h4 => gv_aC (gv_Cl (gv_aC ?_))
  refine gv_Lt (J := Has 14 [(10, .int (cost ps word)), (9, .str word), (8, .lst (ps.map dT)), (1, .pen)]) (I := fun _ w'' => w'' = w) (V := fun d r => ∀ p, d = dT p → r = dL p) (c := 0) (n := 0) (N := 0) (fun e x h => h.set rfl) (gv_iV ?_)
  refine gv_H h4 (.tail _ (.tail _ (.head _))) fun h5 => ⟨_, rfl, h5, by rw [h5.len]; decide, rfl, by rw [List.length_map]; exact Nat.le_trans hn (by decide), by omega, fun d hd n w'' e _ he e1 hw => ?_, fun rs e w'' V he hw => ?_⟩
  · subst hw
    obtain ⟨p, hp, rfl⟩ := List.mem_map.mp hd
    refine gv_Cl (gv_aC (gv_V e1 (gv_N (gv_lift (r := .ow (dL p)) rfl ⟨he, e1, rfl, fun q hq => ?_⟩))))
    obtain ⟨a, b⟩ := p
    obtain ⟨a', b'⟩ := q
    unfold dT at hq
    injection hq with hq
    injection hq with h1 h2
    injection h1 with h1
    injection h1 with h1
    injection h2 with h2
    injection h2 with h2
    subst h1 h2
    rfl
  · subst hw
    have er := all2_of (f := dL) V fun p _ b hb => hb p rfl
    subst er
    refine gv_N (gv_lift rfl (gv_N ⟨⟨rfl, rfl, rfl⟩, gv_of (cost_of_ok (need_L G) hs (by omega)) ?_⟩))
    exact gv_H he (.head _) fun h6 => gv_lift ne_self ⟨false, rfl, (fun z => by cases z), fun _ => ⟨rfl, rfl, h6.sub (by simp)⟩⟩
/-- letter = .. -/
theorem st4 {e : List Slot} {w : Pen} {n : Nat} {X : D} (h : Has 14 [(8, X), (1, .pen)] e) (hw : NN n w) (hn : n ≤ 1000) : Gv (m_law_0a_4 e w) fun fl e' w' => fl = .nx ∧ NN (n + 1) w' ∧ ∃ c ∈ L7, Has 14 [(11, .str [c]), (8, X), (1, .pen)] e' := by
  unfold m_law_0a_4
  refine gv_A (gv_F (gv_aC ?_))
  refine gv_H h (.tail _ (.head _)) fun he2 => gv_aC (gv_Cl (gv_aC (gv_C (gv_N (gv_lift (r := .ow (.lst C7)) rfl (gv_N ⟨rfl, ?_⟩))))))
  refine (pick7 (by unfold NN at hw; omega)).mono fun r e4 w4 ⟨⟨c, hc, hr⟩, h8⟩ => ?_
  subst hr
  exact ⟨rfl, by unfold NN at hw ⊢; omega, c, hc, he2.put (by decide) (.inl rfl) rfl⟩
/-- if price_of(..) != .. -/
theorem st5 {e : List Slot} {w : Pen} {ps : Ps} {c : Nat} (G : Good ps) (h : Has 14 [(11, .str [c]), (8, .lst (ps.map dT)), (1, .pen)] e) (hc : c ∈ L7) :
    Gv (m_law_0a_5 e w) fun fl e' w' => fl = .nx ∧ w' = w ∧ Has 14 [(1, .pen)] e' := by
  unfold m_law_0a_5
  refine gv_I (gv_tOr (gv_Bl (gv_2 (gv_F (gv_aC ?_)))))
  refine gv_H h (.tail _ (.head _)) fun h1 => gv_aC ?_
  refine gv_H h1 (.head _) fun h2 => gv_N ⟨rfl, gv_of (price_of_ok (need_T G) hc) (gv_Get (gv_Cl (gv_aC ?_)))⟩
  refine gv_H h2 (.tail _ (.head _)) fun h3 => gv_N (gv_lift (dict_T ps) ⟨_, rfl, ?_⟩)
  refine gv_H h3 (.head _) fun h4 => gv_C (gv_lift (get_ok ps c) (gv_lift ne_self ⟨false, rfl, (fun z => by cases z), fun _ => ?_⟩))
  refine gv_Bl (gv_2 (gv_FK (gv_N (gv_aC ?_))))
  refine gv_H h4 (.head _) fun h5 => gv_aC ?_
  refine gv_H h5 (.tail _ (.head _)) fun h6 => gv_N ⟨⟨rfl, rfl, rfl⟩, gv_of (price_of_ok (need_T G) hc) (gv_F (gv_aC ?_))⟩
  refine gv_H h6 (.tail _ (.head _)) fun h7 => gv_aC ?_
  exact gv_H h7 (.head _) fun h8 => gv_N ⟨rfl, gv_of (price_of_ok (need_T G) hc) (gv_lift ne_self ⟨false, rfl, (fun z => by cases z), fun _ => ⟨rfl, rfl, h8.sub (by simp)⟩⟩)⟩
/-- the turns -/
theorem turns {e : List Slot} {w : Pen} (h : Has 14 [(1, .pen)] e) (hw : NN 0 w) : Gv (m_law_0 e w) fun fl e' w' => fl = .nx ∧ NN 220 w' ∧ Has 14 [(1, .pen)] e' := by
  unfold m_law_0
  refine gv_sF (J := fun k e w => NN (22 * k) w ∧ Has 14 [(1, .pen)] e) (gv_iR1 (gv_aC (gv_C (gv_N ⟨rangeL 0 10, rfl, ⟨hw, h⟩, fun k d hd e w ⟨hw, he⟩ => ?_, fun e w ⟨hw, he⟩ => ⟨rfl, hw, he⟩⟩))))
  have hk : k < 10 := (List.getElem?_eq_some_iff.mp hd).1
  refine ⟨_, rfl, ?_⟩
  have h0 : Has 14 [(1, .pen)] (e.set 2 (.fr d)) := he.set rfl
  refine gv_seq ((st0 h0 hw (by omega)).mono fun fl e w ⟨z, hw, ps, G, h1⟩ => ⟨z, ?_⟩)
  refine gv_seq ((st1 h1 hw (by omega)).mono fun fl e w ⟨z, hw, word, hl, hc, h2⟩ => ⟨z, ?_⟩)
  refine gv_seq ((st2 h2 hl).mono fun fl e w' ⟨z, e1, h3⟩ => ⟨z, ?_⟩)
  subst e1
  refine gv_seq ((st3 G h3 hl hc).mono fun fl e w'' ⟨z, e1, h4⟩ => ⟨z, ?_⟩)
  subst e1
  refine gv_seq ((st4 h4 hw (by omega)).mono fun fl e w ⟨z, hw, c, hc, h5⟩ => ⟨z, ?_⟩)
  refine (st5 G h5 hc).mono fun fl e w' ⟨z, e1, h6⟩ => ⟨z, ?_, h6⟩
  subst e1
  unfold NN at hw ⊢
  omega
end L_k01

namespace L_k01
open HK PySem PySem.Spec PySem.Calls PyProof.Rows L2
theorem rep_flat (k c : Nat) : (List.replicate k [c]).flatten = List.replicate k c := by
  induction k with
  | zero => rfl
  | succ k ih =>
    rw [List.replicate_succ, List.replicate_succ, List.flatten_cons, ih]
    rfl
theorem cost_rep {ps : Ps} {k c : Nat} : cost ps (List.replicate k c) = k * iv ps c := by
  unfold cost
  induction k with
  | zero => simp
  | succ k ih =>
    rw [List.replicate_succ, List.map_cons, List.sum_cons, ih]
    have : ((k + 1 : Nat) : Int) = (k : Int) + 1 := by omega
    rw [this, Int.add_mul]
    omega
def px : Ps := [(120, 20)]
theorem good_x : Good px := ⟨by decide, by decide⟩
theorem good_0 : Good [] := ⟨by decide, by decide⟩
theorem iv_x : iv px 120 = 20 := by kernel_rfl
theorem iv_0 : iv [] 113 = 1 := by kernel_rfl
theorem mem_rep {k c : Nat} (h : c ∈ LET) : ∀ x ∈ List.replicate k c, x ∈ LET := fun x hx => by
  rw [(List.mem_replicate.mp hx).2]
  exact h
theorem stm {e : List Slot} {w : Pen} (h : Has 14 [(1, .pen)] e) (hw : NN 220 w) : Gv (m_law_1 e w) fun fl e' w' => fl = .nx ∧ NN 221 w' ∧ ∃ k : Nat, k < 4000 ∧ Has 14 [(3, .int k), (1, .pen)] e' := by
  unfold m_law_1
  refine gv_A (gv_F (gv_aC ?_))
  refine gv_H h (.head _) fun h1 => gv_aC (gv_C (gv_N ⟨rfl, ?_⟩))
  refine (draw (by decide) (by unfold NN at hw; omega)).mono fun r e3 w3 ⟨⟨x, hr, x0, x1⟩, h7⟩ => ?_
  subst hr
  obtain ⟨k, hk⟩ : ∃ k : Nat, x = k := ⟨x.toNat, by omega⟩
  subst hk
  exact ⟨rfl, by unfold NN at hw ⊢; omega, k, by omega, h1.put (by decide) (.inl rfl) rfl⟩
theorem stn {e : List Slot} {w : Pen} {k : Nat} (h : Has 14 [(3, .int k), (1, .pen)] e) (hk : k < 4000) : Gv (m_law_2 e w) fun fl e' w' => fl = .nx ∧ w' = w ∧ Has 14 [(1, .pen)] e' := by
  unfold m_law_2
  refine gv_I (gv_tOr (gv_Bl (gv_2 (gv_F (gv_aC (gv_Ls (gv_aC (gv_Tp (gv_aC (gv_C (gv_aC (gv_C (gv_N ?_)))))))))))))
  refine ⟨by show 2 ≤ LINE; decide, gv_N ⟨by show 1 ≤ LINE; decide, gv_aC (gv_2 (gv_C ?_))⟩⟩
  refine gv_H h (.head _) fun h1 => gv_lift (r := .fr (.str (List.replicate k 120))) ?_ (gv_N ⟨rfl, ?_⟩)
  · show (if 0 ≤ ((k : Nat) : Int) ∧ ([120] : List Nat).length * ((k : Nat) : Int).toNat ≤ LINE ∧ ((k : Nat) : Int) ≤ LINE then some (Slot.fr (.str (List.replicate ((k : Nat) : Int).toNat [120]).flatten)) else none) = _
    rw [Int.toNat_natCast, rep_flat, if_pos]
    refine ⟨by omega, ?_, ?_⟩
    · show 1 * k ≤ LINE
      unfold LINE
      omega
    · unfold LINE
      omega
  refine gv_of (cost_of_ok (X := .lst (px.map dT)) (need_T good_x) (mem_rep (by decide)) (by rw [List.length_replicate]; omega)) ?_
  refine gv_2 (gv_C ?_)
  refine gv_H h1 (.head _) fun h2 => gv_mulL (by decide) (by decide) (gv_lift (r := .fr (.bl false)) ?_ ⟨false, rfl, (fun z => by cases z), fun _ => ?_⟩)
  · show neD (.int (cost px (List.replicate k 120))) (.int (20 * (k : Int))) = _
    rw [cost_rep, iv_x, Int.mul_comm]
    exact ne_self
  refine gv_tOr (gv_Bl (gv_2 (gv_F (gv_aC (gv_Ls (gv_N ⟨by show 0 ≤ LINE; decide, gv_aC (gv_2 (gv_C (gv_C ?_)))⟩))))))
  refine gv_lift (r := .fr (.str (List.replicate 4000 113))) ?_ (gv_N ⟨rfl, ?_⟩)
  · show (if (0 : Int) ≤ 4000 ∧ ([113] : List Nat).length * ((4000 : Int)).toNat ≤ LINE ∧ (4000 : Int) ≤ LINE then some (Slot.fr (.str (List.replicate ((4000 : Int)).toNat [113]).flatten)) else none) = _
    rw [rep_flat, if_pos (by decide)]
    rfl
  refine gv_of (cost_of_ok (X := .lst (([] : Ps).map dT)) (need_T good_0) (mem_rep (by decide)) (by rw [List.length_replicate]; omega)) ?_
  refine gv_C (gv_lift (r := .fr (.bl false)) ?_ ⟨false, rfl, (fun z => by cases z), fun _ => ?_⟩)
  · show neD (.int (cost [] (List.replicate 4000 113))) (.int 4000) = _
    rw [cost_rep, iv_0]
    exact ne_self
  refine gv_Bl (gv_2 (gv_F (gv_aC (gv_Ls (gv_N ⟨by show 0 ≤ LINE; decide, gv_aC (gv_C (gv_N ⟨rfl, ?_⟩))⟩)))))
  refine gv_of (cost_of_ok (X := .lst (([] : Ps).map dT)) (word := []) (need_T good_0) (by simp) (by simp)) ?_
  exact gv_C (gv_lift (r := .fr (.bl false)) ne_self ⟨false, rfl, (fun z => by cases z), fun _ => ⟨rfl, rfl, h2.sub (by simp)⟩⟩)
def B16 : List D := [.non, .int 5, .str [120], .lst [.tup [.str [120]]], .lst [.tup [.str [120], .int 1, .int 2]], .lst [.tup [.str [120, 121], .int 1]], .lst [.tup [.str [], .int 1]], .lst [.tup [.str [88], .int 1]], .lst [.tup [.str [120], .int (-1)]],
  .lst [.tup [.str [120], .int 21]], .lst [.tup [.str [120], .bl true]], .lst [.tup [.str [120], .int 1], .tup [.str [120], .int 1]], .lst [.tup [.str [121], .int 1], .tup [.str [120], .int 1]], .lst [.int 5], .dic [.str [120]] [.int 1], .lst [.tup [.str [120], .str [49]]]]
def N7 : List D := [.non, .int 5, .str [88], .str [120, 32, 121], .str (List.replicate 4001 [120]).flatten, .lst [.str [120]], .str [49]]
def M7 : List D := [.non, .int 5, .str [], .str [120, 121], .str [88], .lst [.str [120]], .str [49]]
def value (s : List Nat) : D := .tup [.str [118, 97, 108, 117, 101], .str s]
def sPri : List Nat := [112, 114, 105, 99, 101, 115]
def sWor : List Nat := [119, 111, 114, 100]
def sLet : List Nat := [108, 101, 116, 116, 101, 114]
theorem hd0 {b n : D} {w : Pen} (hb : b ∈ B16) (hn : n ∈ N7) : chkR (m__law_heard ap_ [.fn 0 [b, n]] w) = .ok (.fr (value sPri)) [] w :=
  map_each (f := fun q : D × D => chkR (m__law_heard ap_ [.fn 0 [q.1, q.2]] w)) (g := fun _ => .ok (.fr (value sPri)) [] w) (l := prodL B16 N7) (by kernel_rfl) _ (prodL_mem hb hn)
theorem hd1 {n : D} {w : Pen} (hn : n ∈ N7) : chkR (m__law_heard ap_ [.fn 1 [n]] w) = .ok (.fr (value sWor)) [] w :=
  map_each (f := fun q : D => chkR (m__law_heard ap_ [.fn 1 [q]] w)) (g := fun _ => .ok (.fr (value sWor)) [] w) (l := N7) (by kernel_rfl) _ hn
theorem hd2 {b n : D} {w : Pen} (hb : b ∈ B16) (hn : n ∈ M7) : chkR (m__law_heard ap_ [.fn 2 [b, n]] w) = .ok (.fr (value sPri)) [] w :=
  map_each (f := fun q : D × D => chkR (m__law_heard ap_ [.fn 2 [q.1, q.2]] w)) (g := fun _ => .ok (.fr (value sPri)) [] w) (l := prodL B16 M7) (by kernel_rfl) _ (prodL_mem hb hn)
theorem hd3 {n : D} {w : Pen} (hn : n ∈ M7) : chkR (m__law_heard ap_ [.fn 3 [n]] w) = .ok (.fr (value sLet)) [] w :=
  map_each (f := fun q : D => chkR (m__law_heard ap_ [.fn 3 [q]] w)) (g := fun _ => .ok (.fr (value sLet)) [] w) (l := M7) (by kernel_rfl) _ hn
end L_k01

namespace L_k01
open HK PySem PySem.Spec PySem.Calls PyProof.Rows L2
theorem sp3 {e : List Slot} {w : Pen} {n : Nat} (h : Has 14 [(1, .pen)] e) (hw : NN n w) (hn : n ≤ 1000) : Gv (m_law_3 e w) fun fl e' w' => fl = .nx ∧ NN (n + 1) w' ∧ ∃ b ∈ B16, Has 14 [(4, b), (1, .pen)] e' := by
  unfold m_law_3
  refine gv_A (gv_F (gv_aC ?_))
  refine gv_H h (.head _) fun h1 => gv_aC (gv_same (a := .ow (.lst B16)) (by kernel_rfl) (gv_N ⟨rfl, ?_⟩))
  refine (pick (ds := B16) (by decide) (by decide) (by unfold NN at hw; omega)).mono fun r e4 w4 ⟨⟨b, hb, hr⟩, h8⟩ => ?_
  subst hr
  exact ⟨rfl, by unfold NN at hw ⊢; omega, b, hb, h1.put (by decide) (.inl rfl) rfl⟩
theorem sp4 {e : List Slot} {w : Pen} {n : Nat} {b : D} (h : Has 14 [(4, b), (1, .pen)] e) (hw : NN n w) (hn : n ≤ 1000) : Gv (m_law_4 e w) fun fl e' w' => fl = .nx ∧ NN (n + 1) w' ∧ ∃ x ∈ N7, Has 14 [(5, x), (4, b), (1, .pen)] e' := by
  unfold m_law_4
  refine gv_A (gv_F (gv_aC ?_))
  refine gv_H h (.tail _ (.head _)) fun h1 => gv_aC (gv_same (a := .ow (.lst N7)) (by kernel_rfl) (gv_N ⟨rfl, ?_⟩))
  refine (pick (ds := N7) (by unfold N7; simp) (by show 7 ≤ 1000; decide) (by unfold NN at hw; omega)).mono fun r e4 w4 ⟨⟨x, hx, hr⟩, h8⟩ => ?_
  subst hr
  exact ⟨rfl, by unfold NN at hw ⊢; omega, x, hx, h1.put (by decide) (.inl rfl) rfl⟩
theorem sp5 {e : List Slot} {w : Pen} {n : Nat} {b x : D} (h : Has 14 [(5, x), (4, b), (1, .pen)] e) (hw : NN n w) (hn : n ≤ 1000) : Gv (m_law_5 e w) fun fl e' w' => fl = .nx ∧ ∃ y ∈ M7, Has 14 [(6, y), (5, x), (4, b), (1, .pen)] e' := by
  unfold m_law_5
  refine gv_A (gv_F (gv_aC ?_))
  refine gv_H h (.tail _ (.tail _ (.head _))) fun h1 => gv_aC (gv_same (a := .ow (.lst M7)) (by kernel_rfl) (gv_N ⟨rfl, ?_⟩))
  refine (pick (ds := M7) (by decide) (by decide) (by unfold NN at hw; omega)).mono fun r e4 w4 ⟨⟨y, hy, hr⟩, h8⟩ => ?_
  subst hr
  exact ⟨rfl, y, hy, h1.put (by decide) (.inl rfl) rfl⟩
def HEARD : D := .lst [value sPri, value sWor, value sPri, value sLet]
theorem sp6 {e : List Slot} {w : Pen} {b x y : D} (hb : b ∈ B16) (hx : x ∈ N7) (hy : y ∈ M7) (h : Has 14 [(6, y), (5, x), (4, b), (1, .pen)] e) : Gv (m_law_6 e w) fun fl e' w' => fl = .nx ∧ Has 14 [(7, HEARD)] e' := by
  unfold m_law_6
  obtain ⟨g, hg⟩ : ∃ g : Nat → D, g = fun i => if i = 4 then b else if i = 5 then x else y := ⟨_, rfl⟩
  have g4 : g 4 = b := by rw [hg]; rfl
  have g5 : g 5 = x := by rw [hg]; rfl
  have g6 : g 6 = y := by rw [hg]; rfl
  refine gv_A (gv_Ls (gv_aC ?_))
  refine gv_FL (g := g) h (by simp [g4, g5]) rfl (by show chkR (m__law_heard ap_ [.fn 0 [g 4, g 5]] w) = _; rw [g4, g5]; exact hd0 hb hx) fun h => gv_aC ?_
  refine gv_FL (g := g) h (by simp [g5]) rfl (by show chkR (m__law_heard ap_ [.fn 1 [g 5]] w) = _; rw [g5]; exact hd1 hx) fun h => gv_aC ?_
  refine gv_FL (g := g) h (by simp [g4, g6]) rfl (by show chkR (m__law_heard ap_ [.fn 2 [g 4, g 6]] w) = _; rw [g4, g6]; exact hd2 hb hy) fun h => gv_aC ?_
  refine gv_FL (g := g) h (by simp [g6]) rfl (by show chkR (m__law_heard ap_ [.fn 3 [g 6]] w) = _; rw [g6]; exact hd3 hy) fun h => gv_N ⟨by show 4 ≤ LINE; decide, rfl, ?_⟩
  exact (h.put (j := 7) (d := HEARD) (by decide) (.inr rfl) rfl).sub (by simp)
theorem sp7 {e : List Slot} {w : Pen} (h : Has 14 [(7, HEARD)] e) : Gv (m_law_7 e w) fun fl _ _ => fl = .rt (.fr (.bl true)) := by
  unfold m_law_7
  refine gv_R (gv_2 ?_)
  exact gv_H h (.head _) fun h1 => gv_same (a := .ow HEARD) (by kernel_rfl) (gv_lift (r := .fr (.bl true)) (by kernel_rfl) rfl)
theorem says : ∀ ns : List Int, ns.length ≤ 63 → (∀ z ∈ ns, PySem.Builtin.Int.intBits z ≤ 1048576) → HK.Says (m_law_rest (.no :: .fr .pen :: List.replicate (14 - 2) .no) ⟨ns, 0, 0⟩) := by
  intro ns _ _
  refine says_of ?_
  unfold m_law_rest
  have h : Has 14 [(1, .pen)] (.no :: .fr .pen :: List.replicate (14 - 2) .no) := ⟨rfl, fun p hp => by
    rw [List.mem_singleton.mp hp]
    exact ⟨_, rfl, .inl rfl⟩⟩
  have hw : NN 0 ⟨ns, 0, 0⟩ := Nat.le_refl _
  refine gv_seq ((turns h hw).mono fun fl e w ⟨z, hw, h⟩ => ⟨z, ?_⟩)
  refine gv_seq ((stm h hw).mono fun fl e w ⟨z, hw, k, hk, h⟩ => ⟨z, ?_⟩)
  refine gv_seq ((stn h hk).mono fun fl e w' ⟨z, e1, h⟩ => ⟨z, ?_⟩)
  subst e1
  refine gv_seq ((sp3 h hw (by omega)).mono fun fl e w ⟨z, hw, b, hb, h⟩ => ⟨z, ?_⟩)
  refine gv_seq ((sp4 h hw (by omega)).mono fun fl e w ⟨z, hw, x, hx, h⟩ => ⟨z, ?_⟩)
  refine gv_seq ((sp5 h hw (by omega)).mono fun fl e w ⟨z, y, hy, h⟩ => ⟨z, ?_⟩)
  refine gv_seq ((sp6 hb hx hy h).mono fun fl e w ⟨z, h⟩ => ⟨z, ?_⟩)
  exact sp7 h
end L_k01

open PySem PySem.W PyProof.Rows
set_option maxHeartbeats 0 in
theorem PySem.Challenge.cw_hindkeys_k01_prices_holds : PySem.Challenge.rw_hindkeys_k01_prices.Holds := by
  w_on; o_law; k_head; (case hw => w_witness2)
  k_fill
  refine LamX.walk_ofOwn (l := PySem.Challenge.rw_hindkeys_k01_prices) (n := 63) (k := 18) (x := "script") (CX := fun w => L2.CX PySem.Challenge.rw_hindkeys_k01_prices.prog w) rfl (by decide) rfl ⟨rfl, by decide, by decide⟩ (by decide +kernel) (fun w h Y => by first | exact PySem.W.kIn_of Y | exact PySem.W.km_in_of Y) ?F (fun w H s e s' h => L_k01.cx_no h)
  case F =>
    intro w mg fa h Y KX G hmg own
    refine' L_k01.main KX G hmg own ?L ?hz ?hr ?hk ?h_LETTERS ?h_MOST_PRICE ?h_PLAIN_PRICE ?h_MOST_WORD ?h_at_line ?h_at_most ?h_at_part ?h_at_what ?h_at_word ?h_xm_FarError ?f_is_integer ?f_is_between ?f_is_listed ?f_is_row ?f_is_word ?f_ascends ?f_fixed ?f_is_price ?f_are_prices ?f_price_in ?f_cost_in ?f_need_prices ?f_price_of ?f_cost_of ?f__law_draw ?f__law_pick ?f__law_heard ?f__law_pen ?e_BadValue ?e_BadNumber ?e_BadBook ?e_BadWeb ?e_BadTask ?e_BadTypist ?e_BadPaper ?e_BadText ?e_BadLine ?e_Misfit ?e_Nothing ?e_NoName ?e_TooMany L_k01.says
    case L => exact ⟨by k_is, ⟨_, _, _, _, _, _, _, _, by k_is, rfl⟩, by k_is, ⟨_, _, _, _, by k_is, rfl⟩, by kernel_rfl, by kernel_rfl⟩
    case hz => kernel_rfl
    case hr => kernel_rfl
    case hk => kernel_rfl
    case h_LETTERS => kernel_rfl
    case h_MOST_PRICE => kernel_rfl
    case h_PLAIN_PRICE => kernel_rfl
    case h_MOST_WORD => kernel_rfl
    case h_at_line => kernel_rfl
    case h_at_most => kernel_rfl
    case h_at_part => kernel_rfl
    case h_at_what => kernel_rfl
    case h_at_word => kernel_rfl
    case h_xm_FarError => kernel_rfl
    case f_is_integer => exact HK.funAt (by k_is) (by k_is) (by k_is) (by k_is)
    case f_is_between => exact HK.funAt (by k_is) (by k_is) (by k_is) (by k_is)
    case f_is_listed => exact HK.funAt (by k_is) (by k_is) (by k_is) (by k_is)
    case f_is_row => exact HK.funAt (by k_is) (by k_is) (by k_is) (by k_is)
    case f_is_word => exact HK.funAt (by k_is) (by k_is) (by k_is) (by k_is)
    case f_ascends => exact HK.funAt (by k_is) (by k_is) (by k_is) (by k_is)
    case f_fixed => exact HK.funAt (by k_is) (by k_is) (by k_is) (by k_is)
    case f_is_price => exact HK.funAt (by k_is) (by k_is) (by k_is) (by k_is)
    case f_are_prices => exact HK.funAt (by k_is) (by k_is) (by k_is) (by k_is)
    case f_price_in => exact HK.funAt (by k_is) (by k_is) (by k_is) (by k_is)
    case f_cost_in => exact HK.funAt (by k_is) (by k_is) (by k_is) (by k_is)
    case f_need_prices => exact HK.funAt (by k_is) (by k_is) (by k_is) (by k_is)
    case f_price_of => exact HK.funAt (by k_is) (by k_is) (by k_is) (by k_is)
    case f_cost_of => exact HK.funAt (by k_is) (by k_is) (by k_is) (by k_is)
    case f__law_draw => exact HK.funAt (by k_is) (by k_is) (by k_is) (by k_is)
    case f__law_pick => exact HK.funAt (by k_is) (by k_is) (by k_is) (by k_is)
    case f__law_heard => exact HK.funAt (by k_is) (by k_is) (by k_is) (by k_is)
    case f__law_pen => exact HK.funAt (by k_is) (by k_is) (by k_is) (by k_is)
    case e_BadValue => exact L_k01.exc_BadValue (by k_is) ⟨⟨_, _, _, _, _, _, _, _, _, _, _, _, _, _, _, by k_is, by decide⟩, by k_is, by k_is, by k_is, by k_is⟩ (by k_is) (by k_is) (by k_is) ⟨HK.iniSB_ok (by decide +kernel), ⟨_, _, _, by k_is⟩, by k_is, ⟨_, _, _, _, _, _, by k_is, rfl, by decide +kernel⟩, ⟨_, _, _, by k_is⟩, rfl, by kernel_rfl, by k_is, by kernel_rfl, by k_is, by k_is, HK.noneIn_ok KX G (xs := ["super"]) (by kernel_rfl) (by decide), by decide +kernel⟩
    case e_BadNumber => exact L_k01.exc_BadNumber (by k_is) ⟨⟨_, _, _, _, _, _, _, _, _, _, _, _, _, _, _, by k_is, by decide⟩, by k_is, by k_is, by k_is, by k_is⟩ (by k_is) (by k_is) (by k_is) ⟨HK.iniSB_ok (by decide +kernel), ⟨_, _, _, by k_is⟩, by k_is, ⟨_, _, _, _, _, _, by k_is, rfl, by decide +kernel⟩, ⟨_, _, _, by k_is⟩, rfl, by kernel_rfl, by k_is, by kernel_rfl, by k_is, by k_is, HK.noneIn_ok KX G (xs := ["super"]) (by kernel_rfl) (by decide), by decide +kernel⟩
    case e_BadBook => exact L_k01.exc_BadBook (by k_is) ⟨⟨_, _, _, _, _, _, _, _, _, _, _, _, _, _, _, by k_is, by decide⟩, by k_is, by k_is, by k_is, by k_is⟩ (by k_is) (by k_is) (by k_is) ⟨HK.iniSB_ok (by decide +kernel), ⟨_, _, _, by k_is⟩, by k_is, ⟨_, _, _, _, _, _, by k_is, rfl, by decide +kernel⟩, ⟨_, _, _, by k_is⟩, rfl, by kernel_rfl, by k_is, by kernel_rfl, by k_is, by k_is, HK.noneIn_ok KX G (xs := ["super"]) (by kernel_rfl) (by decide), by decide +kernel⟩
    case e_BadWeb => exact L_k01.exc_BadWeb (by k_is) ⟨⟨_, _, _, _, _, _, _, _, _, _, _, _, _, _, _, by k_is, by decide⟩, by k_is, by k_is, by k_is, by k_is⟩ (by k_is) (by k_is) (by k_is) ⟨HK.iniSB_ok (by decide +kernel), ⟨_, _, _, by k_is⟩, by k_is, ⟨_, _, _, _, _, _, by k_is, rfl, by decide +kernel⟩, ⟨_, _, _, by k_is⟩, rfl, by kernel_rfl, by k_is, by kernel_rfl, by k_is, by k_is, HK.noneIn_ok KX G (xs := ["super"]) (by kernel_rfl) (by decide), by decide +kernel⟩
    case e_BadTask => exact L_k01.exc_BadTask (by k_is) ⟨⟨_, _, _, _, _, _, _, _, _, _, _, _, _, _, _, by k_is, by decide⟩, by k_is, by k_is, by k_is, by k_is⟩ (by k_is) (by k_is) (by k_is) ⟨HK.iniSB_ok (by decide +kernel), ⟨_, _, _, by k_is⟩, by k_is, ⟨_, _, _, _, _, _, by k_is, rfl, by decide +kernel⟩, ⟨_, _, _, by k_is⟩, rfl, by kernel_rfl, by k_is, by kernel_rfl, by k_is, by k_is, HK.noneIn_ok KX G (xs := ["super"]) (by kernel_rfl) (by decide), by decide +kernel⟩
    case e_BadTypist => exact L_k01.exc_BadTypist (by k_is) ⟨⟨_, _, _, _, _, _, _, _, _, _, _, _, _, _, _, by k_is, by decide⟩, by k_is, by k_is, by k_is, by k_is⟩ (by k_is) (by k_is) (by k_is) ⟨HK.iniSB_ok (by decide +kernel), ⟨_, _, _, by k_is⟩, by k_is, ⟨_, _, _, _, _, _, by k_is, rfl, by decide +kernel⟩, ⟨_, _, _, by k_is⟩, rfl, by kernel_rfl, by k_is, by kernel_rfl, by k_is, by k_is, HK.noneIn_ok KX G (xs := ["super"]) (by kernel_rfl) (by decide), by decide +kernel⟩
    case e_BadPaper => exact L_k01.exc_BadPaper (by k_is) ⟨⟨_, _, _, _, _, _, _, _, _, _, _, _, _, _, _, by k_is, by decide⟩, by k_is, by k_is, by k_is, by k_is⟩ (by k_is) (by k_is) (by k_is) ⟨HK.iniSB_ok (by decide +kernel), ⟨_, _, _, by k_is⟩, by k_is, ⟨_, _, _, _, _, _, by k_is, rfl, by decide +kernel⟩, ⟨_, _, _, by k_is⟩, rfl, by kernel_rfl, by k_is, by kernel_rfl, by k_is, by k_is, HK.noneIn_ok KX G (xs := ["super"]) (by kernel_rfl) (by decide), by decide +kernel⟩
    case e_BadText => exact L_k01.exc_BadText (by k_is) ⟨⟨_, _, _, _, _, _, _, _, _, _, _, _, _, _, _, by k_is, by decide⟩, by k_is, by k_is, by k_is, by k_is⟩ (by k_is) (by k_is) (by k_is) (by k_is) ⟨HK.iniSB_ok (by decide +kernel), ⟨_, _, _, by k_is⟩, by k_is, ⟨_, _, _, _, _, _, by k_is, rfl, by decide +kernel⟩, ⟨_, _, _, by k_is⟩, rfl, by kernel_rfl, by k_is, by kernel_rfl, by k_is, by k_is, HK.noneIn_ok KX G (xs := ["super"]) (by kernel_rfl) (by decide), by decide +kernel⟩
    case e_BadLine => exact L_k01.exc_BadLine (by k_is) ⟨⟨_, _, _, _, _, _, _, _, _, _, _, _, _, _, _, by k_is, by decide⟩, by k_is, by k_is, by k_is, by k_is⟩ (by k_is) (by k_is) (by k_is) ⟨HK.iniSB_ok (by decide +kernel), ⟨_, _, _, by k_is⟩, by k_is, ⟨_, _, _, _, _, _, by k_is, rfl, by decide +kernel⟩, ⟨_, _, _, by k_is⟩, rfl, by kernel_rfl, by k_is, by kernel_rfl, by k_is, by k_is, HK.noneIn_ok KX G (xs := ["super"]) (by kernel_rfl) (by decide), by decide +kernel⟩
    case e_Misfit => exact L_k01.exc_Misfit (by k_is) ⟨⟨_, _, _, _, _, _, _, _, _, _, _, _, _, _, _, by k_is, by decide⟩, by k_is, by k_is, by k_is, by k_is⟩ (by k_is) (by k_is) (by k_is) ⟨HK.iniSB_ok (by decide +kernel), ⟨_, _, _, by k_is⟩, by k_is, ⟨_, _, _, _, _, _, by k_is, rfl, by decide +kernel⟩, ⟨_, _, _, by k_is⟩, rfl, by kernel_rfl, by k_is, by kernel_rfl, by k_is, by k_is, HK.noneIn_ok KX G (xs := ["super"]) (by kernel_rfl) (by decide), by decide +kernel⟩
    case e_Nothing => exact L_k01.exc_Nothing (by k_is) ⟨⟨_, _, _, _, _, _, _, _, _, _, _, _, _, _, _, by k_is, by decide⟩, by k_is, by k_is, by k_is, by k_is⟩ (by k_is) (by k_is) (by k_is) ⟨HK.iniSB_ok (by decide +kernel), ⟨_, _, _, by k_is⟩, by k_is, ⟨_, _, _, _, _, _, by k_is, rfl, by decide +kernel⟩, ⟨_, _, _, by k_is⟩, rfl, by kernel_rfl, by k_is, by kernel_rfl, by k_is, by k_is, HK.noneIn_ok KX G (xs := ["super"]) (by kernel_rfl) (by decide), by decide +kernel⟩
    case e_NoName => exact L_k01.exc_NoName (by k_is) ⟨⟨_, _, _, _, _, _, _, _, _, _, _, _, _, _, _, by k_is, by decide⟩, by k_is, by k_is, by k_is, by k_is⟩ (by k_is) (by k_is) (by k_is) ⟨HK.iniSB_ok (by decide +kernel), ⟨_, _, _, by k_is⟩, by k_is, ⟨_, _, _, _, _, _, by k_is, rfl, by decide +kernel⟩, ⟨_, _, _, by k_is⟩, rfl, by kernel_rfl, by k_is, by kernel_rfl, by k_is, by k_is, HK.noneIn_ok KX G (xs := ["super"]) (by kernel_rfl) (by decide), by decide +kernel⟩
    case e_TooMany => exact L_k01.exc_TooMany (by k_is) ⟨⟨_, _, _, _, _, _, _, _, _, _, _, _, _, _, _, by k_is, by decide⟩, by k_is, by k_is, by k_is, by k_is⟩ (by k_is) (by k_is) (by k_is) (by k_is) ⟨HK.iniSB_ok (by decide +kernel), ⟨_, _, _, by k_is⟩, by k_is, ⟨_, _, _, _, _, _, by k_is, rfl, by decide +kernel⟩, ⟨_, _, _, by k_is⟩, rfl, by kernel_rfl, by k_is, by kernel_rfl, by k_is, by k_is, HK.noneIn_ok KX G (xs := ["super"]) (by kernel_rfl) (by decide), by decide +kernel⟩

