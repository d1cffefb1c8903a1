import PyProof.Rows.All
import Wide.All
import OpenK.AllK
import Wide.FinOn
import HandS.ForMost
import HandS.ForExc
import HandS.Lambda
import HandS.Flow
import KE.KNest
import KE.DataEq
import HandS.TupAny
import HandS.TupMul
import HandS.Text
import HandS.Deep
import HandS.Iter
import HandS.IsInst
import HandS.FStr
import HandS.Conv
import KE.SortData
import HandS.Style
import KE.KExcSuper
import HandS.ExcInit
import HandS.ExcField
import KE.KExcIs
import HandS.ExcIs
import PyProof.StrOps2
import KE.IntTextLaws
import KE.GoesEnum
import PyProof.Rows.IntBool
import KE.KRevSl
import KE.KStrOpen
import HandS.DictComp
import HandS.TupLe
import HandS.Defaults
import HandS.TupSets
import KE.KeyNested
import HandS.SortKw
import HandS.Star
import HandS.NoneIn
import HandS.SetBool
import PySem.Challenge.RW_outandover_k06_who_can_call_whom
set_option Elab.async false
set_option linter.all false
set_option maxRecDepth 100000
set_option maxHeartbeats 4000000
/-! BL1: pure data, the store, the relation to HandS's heap, the monad, refinement of readings. -/
namespace B
open PySem L2

/-- a part of a pair: pure data, an object of the store -/
inductive S1 where
  | v (p : PyData)
  | l (n : Nat)
/-- a value: pure data, a mutable object of the store, anything written (defs, classes) -/
inductive D where
  | val (p : PyData)
  | loc (n : Nat)
  | cst (v : V)
  | frz (xs : List PyData)
  | err
  | fn (n : Str)
  | pr (a b : S1)

/-- a mutable object -/
inductive O where
  | lst (xs : List PyData)
  | dk (kvs : List (Key × PyData))
  | dt (kvs : List (List Key × PyData))
  | ins (C : Str) (fs : List (Str × D))
  | lr (xs : List S1)
  | dr (kvs : List (Key × S1))

/-- an exception of an own class: the class, its fields -/
inductive Ex where
  | own (C : Str) (fs : List (Str × D))

abbrev Store := List O
inductive Res (α : Type) where
  | ok (a : α) (st : Store)
  | exc (e : Ex) (st : Store)
  | bad

abbrev M (α : Type) : Type := Store → Res α
def rt {α : Type} (a : α) : M α := fun st => .ok a st
def bd {α β : Type} (m : M α) (k : α → M β) : M β := fun st =>
  match m st with
  | .ok a st' => k a st'
  | .exc e st' => .exc e st'
  | .bad => .bad
def bad {α : Type} : M α := fun _ => .bad
def thr {α : Type} (e : Ex) : M α := fun st => .exc e st
theorem bd_ok {α β : Type} {m : M α} {k : α → M β} {st st' : Store} {a : α} (h : m st = .ok a st') : bd m k st = k a st' := by unfold bd; rw [h]
theorem bd_exc {α β : Type} {m : M α} {k : α → M β} {st st' : Store} {e : Ex} (h : m st = .exc e st') : bd m k st = .exc e st' := by unfold bd; rw [h]
theorem bd_bad {α β : Type} {m : M α} {k : α → M β} {st : Store} (h : m st = .bad) : bd m k st = .bad := by unfold bd; rw [h]
@[simp] theorem rt_def {α : Type} (a : α) (st : Store) : rt a st = .ok a st := rfl
@[simp] theorem bad_def {α : Type} (st : Store) : (bad : M α) st = .bad := rfl
@[simp] theorem thr_def {α : Type} (e : Ex) (st : Store) : (thr e : M α) st = .exc e st := rfl

/-! ### the relation -/
/-- the addresses of the store's objects; further addresses that no value may name -/
structure Wd where
  rho : List Addr
  ext : List Addr
abbrev Wd.bn (w : Wd) : List Addr := w.rho ++ w.ext
/-- no table of code objects -/
def NoT (o : HO) : Prop := ∀ ps, o ≠ .tbl ps
/-- what is outside stays -/
def Sb (w : Wd) (H : Hp) (w' : Wd) (H' : Hp) : Prop := ∀ a o, NoT o → a ∉ w.bn → H a = some o → a ∉ w'.bn ∧ H' a = some o
/-- what a law's text fixes: the tables of its lambdas, where its classes stand -/
class Nm where
  tb : List (Addr × Str)
  cl : Str → Addr
/-- what holds meanwhile; the exception in hand -/
class Gd where
  G : Wd → Hp → Prop
  xv : V → Prop
  sb : ∀ {w w' : Wd} {H H' : Hp}, Sb w H w' H' → G w H → G w' H'
variable [Nm] [Gd]
def TupAt (K : W.Frag) (w : Wd) (H : Hp) (a : Addr) (vs : List V) : Prop :=
  (Rd H a (.tup vs) ∧ a ∉ w.bn) ∨ ∃ (o : Obj) (its : Array Value) (n : Nat), K.lookup a = some o ∧ o.cls = .type "tuple" ∧ o.data = .seq its n ∧ its.size ≤ sizeLine ∧ Vals vs its.toList
def LsAt (K : W.Frag) (w : Wd) (H : Hp) (a : Addr) (vs : List V) : Prop := H a = some (.lst vs) ∧ a ∉ w.bn
/-- a list that nobody may change: the script -/
def FzAt (K : W.Frag) (w : Wd) (H : Hp) (a : Addr) (vs : List V) : Prop :=
  ((∃ o, H a = some (.frz o (.lst vs))) ∧ a ∉ w.bn) ∨ ∃ (o : Obj) (its : Array Value) (n : Nat), K.lookup a = some o ∧ o.cls = .type "list" ∧ o.dict = none ∧ o.data = .seq its n ∧ its.size ≤ sizeLine ∧ Vals vs its.toList
theorem FzAt.sq {K : W.Frag} {w : Wd} {H : Hp} {a : Addr} {vs : List V} (h : FzAt K w H a vs) : SqL K H a vs := by
  rcases h with ⟨h, _⟩ | h
  · exact .inl (.inr h)
  · exact .inr h
theorem TupAt.sq {K : W.Frag} {w : Wd} {H : Hp} {a : Addr} {vs : List V} (h : TupAt K w H a vs) : SqT K H a vs := by
  rcases h with ⟨h, _⟩ | h
  · exact .inl h
  · exact .inr h
theorem LsAt.sq {K : W.Frag} {w : Wd} {H : Hp} {a : Addr} {vs : List V} (h : LsAt K w H a vs) : SqL K H a vs := SqL.of h.1

mutual
inductive Rp (K : W.Frag) (w : Wd) (H : Hp) : PyData → V → Prop where
  | non : Rp K w H .none .non
  | bl (b : Bool) : Rp K w H (.bool b) (.bl b)
  | int (i : Int) : Rp K w H (.int i) (.int i)
  | str (x : Str) : Rp K w H (.str x) (.str x)
  | tup {a : Addr} {vs : List V} {ds : List PyData} : TupAt K w H a vs → Rps K w H ds vs → Rp K w H (.tuple ds) (.ref a)
  | ls {a : Addr} {vs : List V} {ds : List PyData} : LsAt K w H a vs → Rps K w H ds vs → Rp K w H (.list ds) (.ref a)
inductive Rps (K : W.Frag) (w : Wd) (H : Hp) : List PyData → List V → Prop where
  | nil : Rps K w H [] []
  | cons {d : PyData} {ds : List PyData} {v : V} {vs : List V} : Rp K w H d v → Rps K w H ds vs → Rps K w H (d :: ds) (v :: vs)
end

/-- the later state: the store's addresses go on, all that is tracked besides stays -/
structure Ge (w : Wd) (H : Hp) (w' : Wd) (H' : Hp) : Prop where
  pre : ∃ more, w'.rho = w.rho ++ more ∧ w'.ext = w.ext ∧ ∀ p ∈ more, p ∉ w.bn ∧ H p = none
  keep : ∀ a o, NoT o → a ∉ w.rho → H a = some o → H' a = some o
  there : ∀ a o, a ∉ w.rho → H a = some o → ∃ o', H' a = some o'
theorem Ge.refl (w : Wd) (H : Hp) : Ge w H w H := ⟨⟨[], by simp, rfl, fun _ h => by simp at h⟩, fun _ _ _ _ h => h, fun _ o _ h => ⟨o, h⟩⟩
theorem Wd.nr {w : Wd} {a : Addr} (h : a ∉ w.bn) : a ∉ w.rho := fun q => h (List.mem_append_left _ q)
theorem Ge.notin {w w' : Wd} {H H' : Hp} (g : Ge w H w' H') {a : Addr} {o : HO} (h : H a = some o) (n : a ∉ w.bn) : a ∉ w'.bn := by
  obtain ⟨more, e1, e2, hm⟩ := g.pre
  intro q
  rw [Wd.bn, e1, e2] at q
  rcases List.mem_append.mp q with q | q
  · rcases List.mem_append.mp q with q | q
    · exact n (List.mem_append_left _ q)
    · rw [(hm a q).2] at h; cases h
  · exact n (List.mem_append_right _ q)
theorem Ge.notinr {w w' : Wd} {H H' : Hp} (g : Ge w H w' H') {a : Addr} {o : HO} (h : H a = some o) (n : a ∉ w.rho) : a ∉ w'.rho := by
  obtain ⟨more, e1, e2, hm⟩ := g.pre
  intro q
  rw [e1] at q
  rcases List.mem_append.mp q with q | q
  · exact n q
  · rw [(hm a q).2] at h; cases h
theorem Ge.trans {r0 r1 r2 : Wd} {H0 H1 H2 : Hp} (g : Ge r0 H0 r1 H1) (k : Ge r1 H1 r2 H2) : Ge r0 H0 r2 H2 := by
  obtain ⟨m1, e1, f1, h1⟩ := g.pre
  obtain ⟨m2, e2, f2, h2⟩ := k.pre
  refine ⟨⟨m1 ++ m2, by rw [e2, e1, List.append_assoc], f2.trans f1, fun p hp => ?_⟩, fun a o t n h => k.keep a o t (g.notinr h n) (g.keep a o t n h), fun a o n h => let ⟨o1, h1⟩ := g.there a o n h; k.there a o1 (g.notinr h n) h1⟩
  rcases List.mem_append.mp hp with hp | hp
  · exact h1 p hp
  · obtain ⟨n1, n2⟩ := h2 p hp
    have n0 : p ∉ r0.bn := fun q => n1 (by
      rw [Wd.bn, e1, f1]
      rcases List.mem_append.mp q with q | q
      · exact List.mem_append_left _ (List.mem_append_left _ q)
      · exact List.mem_append_right _ q)
    refine ⟨n0, ?_⟩
    cases q : H0 p with
    | none => rfl
    | some o => obtain ⟨o1, z⟩ := g.there p o (Wd.nr n0) q; rw [z] at n2; cases n2
theorem Ge.get {w w' : Wd} {H H' : Hp} (g : Ge w H w' H') {n : Nat} {a : Addr} (h : w.rho[n]? = some a) : w'.rho[n]? = some a := by
  obtain ⟨more, e, _, _⟩ := g.pre
  rw [e, List.getElem?_append_left (List.getElem?_eq_some_iff.mp h).1]
  exact h
theorem Ge.same {w : Wd} {H H' : Hp} (s : Same H H') : Ge w H w H' := ⟨⟨[], by simp, rfl, fun _ h => by simp at h⟩, fun a o _ _ h => s a o h, fun a o _ h => ⟨o, s a o h⟩⟩
theorem Ge.sb {w w' : Wd} {H H' : Hp} (g : Ge w H w' H') : Sb w H w' H' := fun a o t n h => ⟨g.notin h n, g.keep a o t (Wd.nr n) h⟩
theorem Sb.trans {w0 w1 w2 : Wd} {H0 H1 H2 : Hp} (g : Sb w0 H0 w1 H1) (k : Sb w1 H1 w2 H2) : Sb w0 H0 w2 H2 := fun a o t n h => let ⟨n1, h1⟩ := g a o t n h; k a o t n1 h1

section
variable {K : W.Frag} {w w' : Wd} {H H' : Hp}
theorem TupAt.mono (g : Ge w H w' H') {a : Addr} {vs : List V} (h : TupAt K w H a vs) : TupAt K w' H' a vs := by
  rcases h with ⟨h | ⟨o, h⟩, n⟩ | h
  · exact .inl ⟨.inl (g.keep _ _ (fun _ z => by cases z) (Wd.nr n) h), g.notin h n⟩
  · exact .inl ⟨.inr ⟨o, g.keep _ _ (fun _ z => by cases z) (Wd.nr n) h⟩, g.notin h n⟩
  · exact .inr h
theorem LsAt.mono (g : Ge w H w' H') {a : Addr} {vs : List V} (h : LsAt K w H a vs) : LsAt K w' H' a vs := ⟨g.keep _ _ (fun _ z => by cases z) (Wd.nr h.2) h.1, g.notin h.1 h.2⟩
theorem FzAt.mono (g : Ge w H w' H') {a : Addr} {vs : List V} (h : FzAt K w H a vs) : FzAt K w' H' a vs := by
  rcases h with ⟨⟨o, h⟩, n⟩ | h
  · exact .inl ⟨⟨o, g.keep _ _ (fun _ z => by cases z) (Wd.nr n) h⟩, g.notin h n⟩
  · exact .inr h
mutual
theorem Rp.mono (g : Ge w H w' H') : ∀ {d : PyData} {v : V}, Rp K w H d v → Rp K w' H' d v
  | _, _, .non => .non
  | _, _, .bl b => .bl b
  | _, _, .int i => .int i
  | _, _, .str x => .str x
  | _, _, .tup h r => .tup (h.mono g) (Rps.mono g r)
  | _, _, .ls h r => .ls (h.mono g) (Rps.mono g r)
theorem Rps.mono (g : Ge w H w' H') : ∀ {ds : List PyData} {vs : List V}, Rps K w H ds vs → Rps K w' H' ds vs
  | _, _, .nil => .nil
  | _, _, .cons r s => .cons (Rp.mono g r) (Rps.mono g s)
end
mutual
theorem Rp.dp : ∀ {d : PyData} {v : V}, Rp K w H d v → Dp K H v d
  | _, _, .non => .non
  | _, _, .bl b => .bl b
  | _, _, .int i => .int i
  | _, _, .str x => .str x
  | _, _, .tup h r => .tup h.sq (Rps.dp r)
  | _, _, .ls h r => .lst h.sq (Rps.dp r)
theorem Rps.dp : ∀ {ds : List PyData} {vs : List V}, Rps K w H ds vs → DpAll K H vs ds
  | _, _, .nil => .nil
  | _, _, .cons r s => .cons (Rp.dp r) (Rps.dp s)
end
theorem Rps.length : ∀ {ds : List PyData} {vs : List V}, Rps K w H ds vs → ds.length = vs.length
  | _, _, .nil => rfl
  | _, _, .cons _ s => by rw [List.length_cons, List.length_cons, Rps.length s]
theorem Rps.append : ∀ {ds es : List PyData} {vs ws : List V}, Rps K w H ds vs → Rps K w H es ws → Rps K w H (ds ++ es) (vs ++ ws)
  | _, _, _, _, .nil, s => s
  | _, _, _, _, .cons r t, s => .cons r (Rps.append t s)
theorem Rps.get : ∀ {ds : List PyData} {vs : List V} {i : Nat} {d : PyData}, Rps K w H ds vs → ds[i]? = some d → ∃ v, vs[i]? = some v ∧ Rp K w H d v
  | _, _, _, _, .nil, e => by simp at e
  | _, _, 0, _, .cons r _, e => by simp at e; subst e; exact ⟨_, rfl, r⟩
  | _, _, i + 1, d, .cons _ t, e => by
    obtain ⟨u, h1, h2⟩ := Rps.get (i := i) (d := d) t (by simpa using e)
    exact ⟨u, by simpa using h1, h2⟩
theorem Rps.getV : ∀ {ds : List PyData} {vs : List V} {i : Nat} {v : V}, Rps K w H ds vs → vs[i]? = some v → ∃ d, ds[i]? = some d ∧ Rp K w H d v
  | _, _, _, _, .nil, e => by simp at e
  | _, _, 0, _, .cons r _, e => by simp at e; subst e; exact ⟨_, rfl, r⟩
  | _, _, i + 1, d, .cons _ t, e => by
    obtain ⟨u, h1, h2⟩ := Rps.getV (i := i) (v := d) t (by simpa using e)
    exact ⟨u, by simpa using h1, h2⟩

def RpS (K : W.Frag) (w : Wd) (H : Hp) : S1 → V → Prop
  | .v p, v => Rp K w H p v
  | .l n, v => ∃ a, v = .ref a ∧ w.rho[n]? = some a
theorem RpS.mono (g : Ge w H w' H') : ∀ {d : S1} {v : V}, RpS K w H d v → RpS K w' H' d v
  | .v _, _, h => Rp.mono g h
  | .l _, _, ⟨a, e, h⟩ => ⟨a, e, g.get h⟩
def RpD (K : W.Frag) (w : Wd) (H : Hp) : D → V → Prop
  | .val p, v => Rp K w H p v
  | .loc n, v => ∃ a, v = .ref a ∧ w.rho[n]? = some a
  | .cst u, v => u = v
  | .frz xs, v => ∃ a vs, v = .ref a ∧ FzAt K w H a vs ∧ Rps K w H xs vs
  | .err, v => Gd.xv v
  | .fn n, v => v = .ref (Nm.cl n)
  | .pr x y, v => ∃ a u t, v = .ref a ∧ TupAt K w H a [u, t] ∧ RpS K w H x u ∧ RpS K w H y t
theorem RpD.mono (g : Ge w H w' H') : ∀ {d : D} {v : V}, RpD K w H d v → RpD K w' H' d v
  | .val _, _, h => Rp.mono g h
  | .loc _, _, ⟨a, e, h⟩ => ⟨a, e, g.get h⟩
  | .cst _, _, h => h
  | .frz _, _, ⟨a, vs, e, h, r⟩ => ⟨a, vs, e, h.mono g, Rps.mono g r⟩
  | .err, _, h => h
  | .fn _, _, h => h
  | .pr _ _, _, ⟨a, u, t, e, h, r1, r2⟩ => ⟨a, u, t, e, h.mono g, RpS.mono g r1, RpS.mono g r2⟩
inductive RpDs (K : W.Frag) (w : Wd) (H : Hp) : List D → List V → Prop where
  | nil : RpDs K w H [] []
  | cons {d : D} {ds : List D} {v : V} {vs : List V} : RpD K w H d v → RpDs K w H ds vs → RpDs K w H (d :: ds) (v :: vs)
theorem RpDs.mono (g : Ge w H w' H') : ∀ {ds : List D} {vs : List V}, RpDs K w H ds vs → RpDs K w' H' ds vs
  | _, _, .nil => .nil
  | _, _, .cons r s => .cons (r.mono g) (RpDs.mono g s)
theorem RpDs.length : ∀ {ds : List D} {vs : List V}, RpDs K w H ds vs → ds.length = vs.length
  | _, _, .nil => rfl
  | _, _, .cons _ s => by rw [List.length_cons, List.length_cons, RpDs.length s]
end

/-- the fields of an instance -/
def RpF (K : W.Frag) (w : Wd) (H : Hp) (fs : List (Str × D)) (gs : List (Str × V)) : Prop :=
  fs.map (·.1) = gs.map (·.1) ∧ ∀ x, (∀ d, fs.lookup x = some d → ∃ v, gs.lookup x = some v ∧ RpD K w H d v) ∧ (fs.lookup x = none → gs.lookup x = none)
/-- the values of a dict -/
inductive RpK (K : W.Frag) (w : Wd) (H : Hp) {κ : Type} : List (κ × PyData) → List (κ × V) → Prop where
  | nil : RpK K w H [] []
  | cons {k : κ} {d : PyData} {ds : List (κ × PyData)} {v : V} {vs : List (κ × V)} : Rp K w H d v → RpK K w H ds vs → RpK K w H ((k, d) :: ds) ((k, v) :: vs)
theorem RpK.mono {K : W.Frag} {w w' : Wd} {H H' : Hp} (g : Ge w H w' H') {κ : Type} : ∀ {ds : List (κ × PyData)} {vs : List (κ × V)}, RpK K w H ds vs → RpK K w' H' ds vs
  | _, _, .nil => .nil
  | _, _, .cons r s => .cons (r.mono g) (RpK.mono g s)

/-- parts that may be objects of the store -/
inductive RpSs (K : W.Frag) (w : Wd) (H : Hp) : List S1 → List V → Prop where
  | nil : RpSs K w H [] []
  | cons {d : S1} {ds : List S1} {v : V} {vs : List V} : RpS K w H d v → RpSs K w H ds vs → RpSs K w H (d :: ds) (v :: vs)
theorem RpSs.mono {K : W.Frag} {w w' : Wd} {H H' : Hp} (g : Ge w H w' H') : ∀ {ds : List S1} {vs : List V}, RpSs K w H ds vs → RpSs K w' H' ds vs
  | _, _, .nil => .nil
  | _, _, .cons r s => .cons (r.mono g) (RpSs.mono g s)
inductive RpKS (K : W.Frag) (w : Wd) (H : Hp) {κ : Type} : List (κ × S1) → List (κ × V) → Prop where
  | nil : RpKS K w H [] []
  | cons {k : κ} {d : S1} {ds : List (κ × S1)} {v : V} {vs : List (κ × V)} : RpS K w H d v → RpKS K w H ds vs → RpKS K w H ((k, d) :: ds) ((k, v) :: vs)
theorem RpKS.mono {K : W.Frag} {w w' : Wd} {H H' : Hp} (g : Ge w H w' H') {κ : Type} : ∀ {ds : List (κ × S1)} {vs : List (κ × V)}, RpKS K w H ds vs → RpKS K w' H' ds vs
  | _, _, .nil => .nil
  | _, _, .cons r s => .cons (r.mono g) (RpKS.mono g s)

def ObjRel (K : W.Frag) (w : Wd) (H : Hp) (a : Addr) : O → Prop
  | .lst xs => ∃ vs, H a = some (.lst vs) ∧ Rps K w H xs vs
  | .dk kvs => ∃ vs, H a = some (.dK vs) ∧ RpK K w H kvs vs
  | .dt kvs => ∃ vs, H a = some (.dT vs) ∧ RpK K w H kvs vs
  | .ins C fs => ∃ dx gs, H a = some (.ins (Nm.cl C) dx gs) ∧ RpF K w H fs gs
  | .lr xs => ∃ vs, H a = some (.lst vs) ∧ RpSs K w H xs vs
  | .dr kvs => ∃ vs, H a = some (.dK vs) ∧ RpKS K w H kvs vs

structure RelSt (K : W.Frag) (w : Wd) (H : Hp) (st : Store) : Prop where
  len : st.length = w.rho.length
  nd : w.rho.Nodup
  trk : ∀ a ∈ w.ext, ∃ o, H a = some o
  nde : ∀ a ∈ w.rho, a ∉ w.ext
  obj : ∀ (n : Nat) (o : O) (a : Addr), st[n]? = some o → w.rho[n]? = some a → ObjRel K w H a o
  tab : LamX.Tabs Nm.tb H
  inv : Gd.G w H

/-- the names -/
structure RelEnv (K : W.Frag) (w : Wd) (H : Hp) (env : List (Option D)) (σ : St) : Prop where
  len : env.length = σ.length
  get : ∀ (i : Nat) (d : D), env[i]? = some (some d) → ∃ v, σ[i]? = some (some v) ∧ RpD K w H d v
theorem RelEnv.mono {K : W.Frag} {w w' : Wd} {H H' : Hp} (g : Ge w H w' H') {env : List (Option D)} {σ : St} (h : RelEnv K w H env σ) : RelEnv K w' H' env σ :=
  ⟨h.len, fun i d e => let ⟨v, e1, r⟩ := h.get i d e; ⟨v, e1, r.mono g⟩⟩
theorem RelEnv.set {K : W.Frag} {w : Wd} {H : Hp} {env : List (Option D)} {σ : St} (h : RelEnv K w H env σ) (i : Nat) {d : D} {v : V} (r : RpD K w H d v) : RelEnv K w H (env.set i (some d)) (σ.set i (some v)) := by
  refine ⟨by simp [h.len], fun j c e => ?_⟩
  by_cases hj : j = i
  · subst hj
    have hl : j < env.length := by
      have := (List.getElem?_eq_some_iff.mp e).1
      simpa using this
    rw [List.getElem?_set_self hl] at e
    cases e
    exact ⟨v, by rw [List.getElem?_set_self (by rw [← h.len]; exact hl)], r⟩
  · rw [List.getElem?_set_ne (Ne.symm hj)] at e ⊢
    exact h.get j c e
theorem RelEnv.kill {K : W.Frag} {w : Wd} {H : Hp} {env : List (Option D)} {σ : St} (h : RelEnv K w H env σ) (i : Nat) : RelEnv K w H (env.set i none) σ := by
  refine ⟨by simp [h.len], fun j c e => ?_⟩
  by_cases hj : j = i
  · subst hj
    have hl : j < env.length := by
      have := (List.getElem?_eq_some_iff.mp e).1
      simpa using this
    rw [List.getElem?_set_self hl] at e
    cases e
  · rw [List.getElem?_set_ne (Ne.symm hj)] at e
    exact h.get j c e
/-- slots forgotten -/
def kill (is : List Nat) (env : List (Option D)) : List (Option D) := is.foldl (fun e i => e.set i none) env
theorem RelEnv.kills {K : W.Frag} {w : Wd} {H : Hp} {σ : St} : ∀ (is : List Nat) {env : List (Option D)}, RelEnv K w H env σ → RelEnv K w H (B.kill is env) σ
  | [], _, h => h
  | i :: is, _, h => RelEnv.kills is (RelEnv.kill h i)

/-- an exception as HandS tells it -/
def RelX (K : W.Frag) (w : Wd) (H : Hp) : Ex → Value → Option Addr → Prop
  | .own C fs, c, dx => c = .ref (Nm.cl C) ∧ ∃ d gs, dx = some d ∧ H d = some (.xd gs) ∧ d ∉ w.bn ∧ RpF K w H fs gs

/-- what is wanted behind a computation -/
def Post {α β : Type} (K : W.Frag) (E : XK) (R : Wd → Hp → α → β → Prop) (w : Wd) (H : Hp) (r : Res α) (Q : β → Hp → Prop) : Prop :=
  match r with
  | .ok a st' => ∀ w' H' b, Ge w H w' H' → RelSt K w' H' st' → R w' H' a b → Q b H'
  | .exc e st' => ∀ w' H' c dx, Ge w H w' H' → RelSt K w' H' st' → RelX K w' H' e c dx → E c dx H'
  | .bad => False
theorem Post.mono {α β : Type} {K : W.Frag} {E : XK} {R : Wd → Hp → α → β → Prop} {w w' : Wd} {H H' : Hp} {r : Res α} {Q : β → Hp → Prop} (g : Ge w H w' H') (h : Post K E R w H r Q) : Post K E R w' H' r Q := by
  cases r with
  | ok a st => exact fun r1 H1 b g1 s1 q1 => h r1 H1 b (g.trans g1) s1 q1
  | exc e st => exact fun r1 H1 c dx g1 s1 q1 => h r1 H1 c dx (g.trans g1) s1 q1
  | bad => exact h

abbrev Env := List (Option D)
/-- a reading t is met wherever the computation f goes through -/
def Rf {α β : Type} (K : W.Frag) (E : XK) (R : Wd → Hp → α → β → Prop) (t : St → Hp → (β → Hp → Prop) → Prop) (f : Env → M α) : Prop :=
  ∀ w σ H env st Q, RelSt K w H st → RelEnv K w H env σ → Post K E R w H (f env st) Q → t σ H Q

/-- the move: what follows goes on from what came -/
theorem Rf.bind {α β α' β' : Type} {K : W.Frag} {E : XK} {R : Wd → Hp → α → β → Prop} {R' : Wd → Hp → α' → β' → Prop} {t : St → Hp → (β → Hp → Prop) → Prop} {f : Env → M α} {u : β → St → Hp → (β' → Hp → Prop) → Prop} {g : α → Env → M α'}
    (h : Rf K E R t f) (k : ∀ w σ H env st a b Q, RelSt K w H st → RelEnv K w H env σ → R w H a b → Post K E R' w H (g a env st) Q → u b σ H Q) :
    Rf K E R' (fun σ H Q => t σ H fun b H1 => u b σ H1 Q) (fun env => bd (f env) fun a => g a env) := by
  intro w σ H env st Q hs he hp
  refine h w σ H env st _ hs he ?_
  replace hp : Post K E R' w H (bd (f env) (fun a => g a env) st) Q := hp
  cases hf : f env st with
  | ok a st' =>
    rw [bd_ok hf] at hp
    exact fun r1 H1 b g1 s1 q1 => k r1 σ H1 env st' a b Q s1 (he.mono g1) q1 (hp.mono g1)
  | exc e st' =>
    rw [bd_exc hf] at hp
    exact hp
  | bad =>
    rw [bd_bad hf] at hp
    exact hp

abbrev RE (K : W.Frag) : Wd → Hp → D → V → Prop := RpD K
abbrev RA (K : W.Frag) : Wd → Hp → List D → List V → Prop := RpDs K
abbrev RB : Wd → Hp → Bool → Bool → Prop := fun _ _ a b => a = b

structure SE (X : Cx) (E : XK) (e : Expr) (t : TE) (f : Env → M D) : Prop where
  pe : PE X e t
  rf : Rf X.K E (RE X.K) t f
structure SA (X : Cx) (E : XK) (es : List Expr) (t : TA) (f : Env → M (List D)) : Prop where
  pa : PA X es t
  rf : Rf X.K E (RA X.K) t f
structure ST (X : Cx) (E : XK) (e : Expr) (t : TT) (f : Env → M Bool) : Prop where
  pt : PT X e t
  rf : Rf X.K E RB t f
structure SW (X : Cx) (E : XK) (e : Expr) (t : TT) (f : Env → M Bool) : Prop where
  pw : PW X e t
  rf : Rf X.K E RB t f
theorem SW.st {X : Cx} {E : XK} {e : Expr} {t : TT} {f : Env → M Bool} (h : SW X E e t f) : ST X E e t f := ⟨h.pw.pt, h.rf⟩

/-! ### statements -/
inductive Fl where
  | nx (env : Env) | rt (d : D) | bk (env : Env) | ct (env : Env)
def PostS (K : W.Frag) (E : XK) (w : Wd) (H : Hp) (r : Res Fl) (Z : Ends) : Prop :=
  match r with
  | .ok (.nx env) st' => ∀ w' H' σ', Ge w H w' H' → RelSt K w' H' st' → RelEnv K w' H' env σ' → Z.nx σ' H'
  | .ok (.rt d) st' => ∀ w' H' v, Ge w H w' H' → RelSt K w' H' st' → RpD K w' H' d v → Z.rt v H'
  | .ok (.bk env) st' => ∀ w' H' σ', Ge w H w' H' → RelSt K w' H' st' → RelEnv K w' H' env σ' → Z.bk σ' H'
  | .ok (.ct env) st' => ∀ w' H' σ', Ge w H w' H' → RelSt K w' H' st' → RelEnv K w' H' env σ' → Z.ct σ' H'
  | .exc e st' => ∀ w' H' c dx, Ge w H w' H' → RelSt K w' H' st' → RelX K w' H' e c dx → E c dx H'
  | .bad => False
theorem PostS.mono {K : W.Frag} {E : XK} {w w' : Wd} {H H' : Hp} {r : Res Fl} {Z : Ends} (g : Ge w H w' H') (h : PostS K E w H r Z) : PostS K E w' H' r Z := by
  cases r with
  | ok a st => cases a <;> exact fun r1 H1 b g1 s1 q1 => h r1 H1 b (g.trans g1) s1 q1
  | exc e st => exact fun r1 H1 c dx g1 s1 q1 => h r1 H1 c dx (g.trans g1) s1 q1
  | bad => exact h
def RfS (K : W.Frag) (E : XK) (t : TS) (f : Env → M Fl) : Prop :=
  ∀ w σ H env st Z, RelSt K w H st → RelEnv K w H env σ → PostS K E w H (f env st) Z → t Z σ H
structure SS (X : Cx) (E : XK) (s : Stmt) (t : TS) (f : Env → M Fl) : Prop where
  ps : PS X s t
  rf : RfS X.K E t f
structure SSs (X : Cx) (E : XK) (s : List Stmt) (t : TS) (f : Env → M Fl) : Prop where
  ps : PSs X s t
  rf : RfS X.K E t f
end B
/-! BL2: expressions and statements. -/
namespace B
open PySem L2
variable [Nm] [Gd]

theorem Rf.step {α β α' β' : Type} {K : W.Frag} {E : XK} {R : Wd → Hp → α → β → Prop} {R' : Wd → Hp → α' → β' → Prop} {t : St → Hp → (β → Hp → Prop) → Prop} {f : Env → M α} (h : Rf K E R t f)
    {w : Wd} {σ : St} {H : Hp} {env : Env} {st : Store} {g : α → M α'} {Q : β' → Hp → Prop} {U : β → Hp → Prop} (hs : RelSt K w H st) (he : RelEnv K w H env σ) (hp : Post K E R' w H (bd (f env) g st) Q)
    (k : ∀ w' H' st' a b, Ge w H w' H' → RelSt K w' H' st' → RelEnv K w' H' env σ → R w' H' a b → Post K E R' w' H' (g a st') Q → U b H') : t σ H U := by
  refine h w σ H env st _ hs he ?_
  cases hf : f env st with
  | ok a st' =>
    rw [bd_ok hf] at hp
    exact fun r1 H1 b g1 s1 q1 => k r1 H1 st' a b g1 s1 (he.mono g1) q1 (hp.mono g1)
  | exc e st' => rw [bd_exc hf] at hp; exact hp
  | bad => rw [bd_bad hf] at hp; exact hp
theorem Rf.stepS {α β : Type} {K : W.Frag} {E : XK} {R : Wd → Hp → α → β → Prop} {t : St → Hp → (β → Hp → Prop) → Prop} {f : Env → M α} (h : Rf K E R t f)
    {w : Wd} {σ : St} {H : Hp} {env : Env} {st : Store} {g : α → M Fl} {Z : Ends} {U : β → Hp → Prop} (hs : RelSt K w H st) (he : RelEnv K w H env σ) (hp : PostS K E w H (bd (f env) g st) Z)
    (k : ∀ w' H' st' a b, Ge w H w' H' → RelSt K w' H' st' → RelEnv K w' H' env σ → R w' H' a b → PostS K E w' H' (g a st') Z → U b H') : t σ H U := by
  refine h w σ H env st _ hs he ?_
  cases hf : f env st with
  | ok a st' =>
    rw [bd_ok hf] at hp
    exact fun r1 H1 b g1 s1 q1 => k r1 H1 st' a b g1 s1 (he.mono g1) q1 (hp.mono g1)
  | exc e st' => rw [bd_exc hf] at hp; exact hp
  | bad => rw [bd_bad hf] at hp; exact hp
/-- a value at hand -/
theorem Post.now {α β : Type} {K : W.Frag} {E : XK} {R : Wd → Hp → α → β → Prop} {w : Wd} {H : Hp} {a : α} {st : Store} {b : β} {Q : β → Hp → Prop} (hp : Post K E R w H (.ok a st) Q) (hs : RelSt K w H st) (r : R w H a b) : Q b H :=
  hp w H b (Ge.refl _ _) hs r

/-! ### names and constants -/
def gv (i : Nat) (env : Env) : M D := match env[i]? with
  | some (some d) => rt d
  | _ => bad
def cD (d : D) : Env → M D := fun _ => rt d
def aNil : Env → M (List D) := fun _ => rt []
def aCons (fa : Env → M D) (fr : Env → M (List D)) : Env → M (List D) := fun env => bd (fa env) fun x => bd (fr env) fun xs => rt (x :: xs)
section
variable {X : Cx} {E : XK} {a b c e : Expr} {ta tb tc : TE} {fa fb fc : Env → M D} {pos : Pos}
theorem rf_var {K : W.Frag} {i : Nat} : Rf K E (RE K) (tVar i) (gv i) := by
  intro w σ H env st Q hs he hp
  unfold gv at hp
  cases q : env[i]? with
  | none => rw [q] at hp; exact hp.elim
  | some o =>
    cases o with
    | none => rw [q] at hp; exact hp.elim
    | some d =>
      rw [q] at hp
      obtain ⟨v, ev, r⟩ := he.get i d q
      exact ⟨v, ev, Post.now hp hs r⟩
theorem se_var (i : Nat) {x : Str} (hN : X.N[i]? = some x := by rfl) (hv : Vis X.env.scope x := by first | exact Or.inl rfl | exact Or.inr (Or.inl rfl) | exact Or.inr (Or.inr rfl)) (hd : (x == ("__debug__" : Str)) = false := by decide)
    (hcd : (x == ("__classdict__" : Str)) = false := by decide) : SE X E (.Name x pos) (tVar i) (gv i) := ⟨pe_var hN hv hd hcd, rf_var⟩
theorem rf_const {K : W.Frag} {d : D} {v : V} (h : ∀ w H, RpD K w H d v) : Rf K E (RE K) (tC v) (cD d) := fun w σ H env st Q hs he hp => Post.now hp hs (h w H)
theorem se_int {i j} : SE X E (.Constant (.int i) j pos) (tC (.int i)) (cD (.val (.int i))) := ⟨pe_int, rf_const fun _ _ => .int i⟩
theorem se_bl {i j} : SE X E (.Constant (.bool i) j pos) (tC (.bl i)) (cD (.val (.bool i))) := ⟨pe_bl, rf_const fun _ _ => .bl i⟩
theorem se_str {i j} : SE X E (.Constant (.str i) j pos) (tC (.str i)) (cD (.val (.str i))) := ⟨pe_str, rf_const fun _ _ => .str i⟩
theorem se_non {j} : SE X E (.Constant .none j pos) (tC .non) (cD (.val .none)) := ⟨pe_non, rf_const fun _ _ => .non⟩
theorem se_glob {x : Str} {v : V} {u : Value} {d : D} (hg : Gl X x) (hm : X.mg x = some u) (r : RelV v u) (h : ∀ w H, RpD X.K w H d v) (hd : (x == ("__debug__" : Str)) = false := by decide) : SE X E (.Name x pos) (tC v) (cD d) := ⟨pe_glob hg hm r hd, rf_const h⟩

/-! ### arguments, displays -/
variable {es : List Expr} {tr : TA} {fr : Env → M (List D)}
theorem sa_nil : SA X E [] tNil aNil := ⟨pa_nil, fun w σ H env st Q hs he hp => Post.now hp hs .nil⟩
theorem sa_cons (ha : SE X E e ta fa) (hr : SA X E es tr fr) (hs : starEach (e :: es) X.env = (false, eval e X.env) :: starEach es X.env := by rfl) :
    SA X E (e :: es) (tCons ta tr) (aCons fa fr) := by
  refine ⟨pa_cons ha.pe hr.pa hs, fun w σ H env st Q s0 e0 hp => ?_⟩
  refine ha.rf.step s0 e0 hp fun r1 H1 st1 x v g1 s1 e1 q1 hp => ?_
  refine hr.rf.step s1 e1 hp fun r2 H2 st2 xs vs g2 s2 e2 q2 hp => ?_
  exact Post.now hp s2 (.cons (q1.mono g2) q2)
end
def vals : List D → Option (List PyData)
  | [] => some []
  | .val p :: r => (vals r).map (p :: ·)
  | _ :: _ => none
theorem RpDs.vals {K : W.Frag} {w : Wd} {H : Hp} : ∀ {ds : List D} {ps : List PyData} {vs : List V}, RpDs K w H ds vs → B.vals ds = some ps → Rps K w H ps vs
  | _, ps, _, .nil, e => by
    have : ps = [] := by simpa [B.vals] using e.symm
    subst this
    exact .nil
  | .val p :: r, ps, _, .cons h t, e => by
    cases q : B.vals r with
    | none => simp [B.vals, q] at e
    | some qs =>
      have : ps = p :: qs := by simpa [B.vals, q] using e.symm
      subst this
      exact .cons h (RpDs.vals t q)
  | .loc _ :: _, _, _, .cons _ _, e => by simp [B.vals] at e
  | .cst _ :: _, _, _, .cons _ _, e => by simp [B.vals] at e
  | .frz _ :: _, _, _, .cons _ _, e => by simp [B.vals] at e
  | .pr _ _ :: _, _, _, .cons _ _, e => by simp [B.vals] at e
/-- a new object that is tracked and not in the store -/
theorem Same.new {H : Hp} {p : Addr} {o : HO} (hp : H p = none) : Same H (upd H p o) := fun b u h => by rw [upd_ne (ne_of_none h hp)]; exact h
theorem Ge.new {w : Wd} {H : Hp} {p : Addr} {o : HO} (hp : H p = none) : Ge w H w (upd H p o) := .same (Same.new hp)
theorem RelSt.there {K : W.Frag} {w : Wd} {H : Hp} {st : Store} (hs : RelSt K w H st) {a : Addr} (h : a ∈ w.bn) : ∃ o, H a = some o := by
  rcases List.mem_append.mp h with h | h
  · obtain ⟨n, hn⟩ := List.getElem?_of_mem h
    have hl : n < st.length := by rw [hs.len]; exact (List.getElem?_eq_some_iff.mp hn).1
    have := hs.obj n st[n] a (by simp [hl]) hn
    cases q : st[n] with
    | lst xs => rw [q] at this; obtain ⟨vs, e, _⟩ := this; exact ⟨_, e⟩
    | dk xs => rw [q] at this; obtain ⟨vs, e, _⟩ := this; exact ⟨_, e⟩
    | dt xs => rw [q] at this; obtain ⟨vs, e, _⟩ := this; exact ⟨_, e⟩
    | ins C fs => rw [q] at this; obtain ⟨dx, vs, e, _⟩ := this; exact ⟨_, e⟩
    | lr xs => rw [q] at this; obtain ⟨vs, e, _⟩ := this; exact ⟨_, e⟩
    | dr xs => rw [q] at this; obtain ⟨vs, e, _⟩ := this; exact ⟨_, e⟩
  · exact hs.trk a h
theorem RelSt.notin {K : W.Frag} {w : Wd} {H : Hp} {st : Store} (hs : RelSt K w H st) {p : Addr} (h : H p = none) : p ∉ w.bn := fun q => by
  obtain ⟨o, e⟩ := hs.there q
  rw [h] at e; cases e
theorem RpF.mono {K : W.Frag} {w w' : Wd} {H H' : Hp} (g : Ge w H w' H') {fs : List (Str × D)} {gs : List (Str × V)} (h : RpF K w H fs gs) : RpF K w' H' fs gs :=
  ⟨h.1, fun x => ⟨fun d e => let ⟨v, e1, r⟩ := (h.2 x).1 d e; ⟨v, e1, r.mono g⟩, (h.2 x).2⟩⟩
theorem ObjRel.mono {K : W.Frag} {w w' : Wd} {H H' : Hp} {a : Addr} {o : O} (g : Ge w H w' H') (ha : H' a = H a) (h : ObjRel K w H a o) : ObjRel K w' H' a o := by
  cases o with
  | lst xs => obtain ⟨vs, e, r⟩ := h; exact ⟨vs, ha.trans e, r.mono g⟩
  | dk xs => obtain ⟨vs, e, r⟩ := h; exact ⟨vs, ha.trans e, r.mono g⟩
  | dt xs => obtain ⟨vs, e, r⟩ := h; exact ⟨vs, ha.trans e, r.mono g⟩
  | ins C fs => obtain ⟨dx, vs, e, r⟩ := h; exact ⟨dx, vs, ha.trans e, r.mono g⟩
  | lr xs => obtain ⟨vs, e, r⟩ := h; exact ⟨vs, ha.trans e, r.mono g⟩
  | dr xs => obtain ⟨vs, e, r⟩ := h; exact ⟨vs, ha.trans e, r.mono g⟩
/-- all that was tracked stays: the store stays -/
theorem RelSt.same {K : W.Frag} {w : Wd} {H H' : Hp} {st : Store} (hs : RelSt K w H st) (s : Same H H') : RelSt K w H' st :=
  ⟨hs.len, hs.nd, fun a h => let ⟨o, e⟩ := hs.trk a h; ⟨o, s a o e⟩, hs.nde, fun n o a e1 e2 => by
    obtain ⟨u, hu⟩ := hs.there (List.mem_append_left _ (List.mem_of_getElem? e2))
    exact (hs.obj n o a e1 e2).mono (.same s) ((s a u hu).trans hu.symm), hs.tab.ext s, Gd.sb (Ge.sb (.same s)) hs.inv⟩
/-- the kinds of what stands in the store -/
theorem RelSt.kind {K : W.Frag} {w : Wd} {H : Hp} {st : Store} (hs : RelSt K w H st) {a : Addr} (ha : a ∈ w.rho) : ∃ u, H a = some u ∧ NoT u ∧ ∀ phi, u ≠ .ext phi := by
  obtain ⟨n, hn⟩ := List.mem_iff_getElem?.mp ha
  have hl : n < st.length := by rw [hs.len]; exact (List.getElem?_eq_some_iff.mp hn).1
  have h := hs.obj n st[n] a (List.getElem?_eq_getElem hl) hn
  cases ho : st[n] with
  | lst xs => rw [ho] at h; obtain ⟨vs, e, _⟩ := h; exact ⟨_, e, (fun _ z => by cases z), (fun _ z => by cases z)⟩
  | dk xs => rw [ho] at h; obtain ⟨vs, e, _⟩ := h; exact ⟨_, e, (fun _ z => by cases z), (fun _ z => by cases z)⟩
  | dt xs => rw [ho] at h; obtain ⟨vs, e, _⟩ := h; exact ⟨_, e, (fun _ z => by cases z), (fun _ z => by cases z)⟩
  | ins C fs => rw [ho] at h; obtain ⟨dx, vs, e, _⟩ := h; exact ⟨_, e, (fun _ z => by cases z), (fun _ z => by cases z)⟩
  | lr xs => rw [ho] at h; obtain ⟨vs, e, _⟩ := h; exact ⟨_, e, (fun _ z => by cases z), (fun _ z => by cases z)⟩
  | dr xs => rw [ho] at h; obtain ⟨vs, e, _⟩ := h; exact ⟨_, e, (fun _ z => by cases z), (fun _ z => by cases z)⟩
theorem tabs_upd {T : List (Addr × Str)} {H : Hp} {a : Addr} {u v : HO} (t : LamX.Tabs T H) (e : H a = some v) (n1 : NoT v) (n2 : ∀ phi, v ≠ .ext phi) : LamX.Tabs T (upd H a u) := fun p hp => by
  obtain ⟨ps, h1, h2, h3⟩ := t p hp
  refine ⟨ps, by rw [upd_ne (fun z => by rw [z, e] at h1; exact n1 _ (Option.some.inj h1))]; exact h1, h2, fun pos cv hc => ?_⟩
  obtain ⟨c, e1, e2⟩ := h3 pos cv hc
  exact ⟨c, e1, by rw [upd_ne (fun z => by rw [z, e] at e2; exact n2 _ (Option.some.inj e2))]; exact e2⟩
theorem RelSt.new {K : W.Frag} {w : Wd} {H : Hp} {st : Store} {p : Addr} {o : HO} (hs : RelSt K w H st) (hp : H p = none) : RelSt K w (upd H p o) st := hs.same (Same.new hp)
/-- an object of the store is written -/
theorem RelSt.write {K : W.Frag} {w : Wd} {H : Hp} {st : Store} {n : Nat} {a : Addr} {o : O} {u : HO} (hs : RelSt K w H st) (ha : w.rho[n]? = some a) (ho : ObjRel K w (upd H a u) a o) : RelSt K w (upd H a u) (st.set n o) ∧ Ge w H w (upd H a u) := by
  have hm : a ∈ w.rho := List.mem_of_getElem? ha
  have g : Ge w H w (upd H a u) := ⟨⟨[], by simp, rfl, fun _ h => by simp at h⟩, fun b v _ nb h => by rw [upd_ne (fun z => nb (by rw [z]; exact hm))]; exact h, fun b v nb h => ⟨v, by rw [upd_ne (fun z => nb (by rw [z]; exact hm))]; exact h⟩⟩
  obtain ⟨u0, hu0, hu1, hu2⟩ := hs.kind hm
  refine ⟨⟨by simp [hs.len], hs.nd, fun b hb => ?_, hs.nde, fun m q b e1 e2 => ?_, tabs_upd hs.tab hu0 hu1 hu2, Gd.sb g.sb hs.inv⟩, g⟩
  · obtain ⟨v, e⟩ := hs.trk b hb
    exact ⟨v, by rw [upd_ne (show b ≠ a from fun z => hs.nde a hm (by rw [← z]; exact hb))]; exact e⟩
  by_cases hmn : m = n
  · subst hmn
    rw [ha] at e2; cases e2
    have hl : m < st.length := by rw [hs.len]; exact (List.getElem?_eq_some_iff.mp ha).1
    rw [List.getElem?_set_self hl] at e1
    cases e1
    exact ho
  · rw [List.getElem?_set_ne (Ne.symm hmn)] at e1
    have nb : b ≠ a := fun z => by
      subst z
      obtain ⟨h1, q1⟩ := List.getElem?_eq_some_iff.mp e2
      obtain ⟨h2, q2⟩ := List.getElem?_eq_some_iff.mp ha
      exact hmn ((List.getElem_inj hs.nd).mp (q1.trans q2.symm))
    exact (hs.obj m q b e1 e2).mono g (upd_ne nb)
abbrev Wd.add (w : Wd) (p : Addr) : Wd := ⟨w.rho ++ [p], w.ext⟩
/-- a new object comes into the store -/
theorem RelSt.push {K : W.Frag} {w : Wd} {H : Hp} {st : Store} {p : Addr} {o : O} {u : HO} (hs : RelSt K w H st) (hp : H p = none) (ho : ObjRel K (w.add p) (upd H p u) p o) : RelSt K (w.add p) (upd H p u) (st ++ [o]) ∧ Ge w H (w.add p) (upd H p u) := by
  have np := hs.notin hp
  have g : Ge w H (w.add p) (upd H p u) := ⟨⟨[p], rfl, rfl, fun q hq => by
    have : q = p := by simpa using hq
    subst this
    exact ⟨np, hp⟩⟩, fun b v _ nb h => by rw [upd_ne (ne_of_none h hp)]; exact h, fun b v nb h => ⟨v, by rw [upd_ne (ne_of_none h hp)]; exact h⟩⟩
  refine ⟨⟨by simp [hs.len], ?_, fun b hb => ?_, fun b hb hb' => ?_, fun m q b e1 e2 => ?_, hs.tab.ext (Same.new hp), Gd.sb g.sb hs.inv⟩, g⟩
  · show (w.rho ++ [p]).Nodup
    rw [List.nodup_append]
    refine ⟨hs.nd, by simp, fun x hx y hy e => ?_⟩
    have : y = p := by simpa using hy
    subst this; subst e
    exact np (List.mem_append_left _ hx)
  · obtain ⟨v, e⟩ := hs.trk b hb
    exact ⟨v, by rw [upd_ne (ne_of_none e hp)]; exact e⟩
  · rcases List.mem_append.mp hb with z | z
    · exact hs.nde b z hb'
    · have : b = p := by simpa using z
      subst this
      exact np (List.mem_append_right _ hb')
  · by_cases hm : m < st.length
    · rw [List.getElem?_append_left hm] at e1
      rw [List.getElem?_append_left (by rw [← hs.len]; exact hm)] at e2
      obtain ⟨v, hw⟩ := hs.there (List.mem_append_left _ (List.mem_of_getElem? e2))
      exact (hs.obj m q b e1 e2).mono g (upd_ne (ne_of_none hw hp))
    · have hl : m < (st ++ [o]).length := (List.getElem?_eq_some_iff.mp e1).1
      have : m = st.length := by simp at hl; omega
      subst this
      rw [List.getElem?_append_right (Nat.le_refl _)] at e1
      rw [List.getElem?_append_right (by rw [hs.len]; exact Nat.le_refl _)] at e2
      simp at e1
      have e3 : p = b := by simpa [hs.len] using e2
      subst e1; subst e3
      exact ho
/-- a tuple is made -/
def tupD (ds : List D) : M D := match vals ds with
  | some ps => if ps.length ≤ sizeLine then rt (.val (.tuple ps)) else bad
  | none => bad
theorem Rp.newTup {K : W.Frag} {w : Wd} {H : Hp} {p : Addr} {ps : List PyData} {vs : List V} (np : p ∉ w.bn) (r : Rps K w H ps vs) (hp : H p = none) : Rp K w (upd H p (.tup vs)) (.tuple ps) (.ref p) :=
  .tup (.inl ⟨.inl upd_same, np⟩) (r.mono (.new hp))
theorem Rp.newLs {K : W.Frag} {w : Wd} {H : Hp} {p : Addr} {ps : List PyData} {vs : List V} (np : p ∉ w.bn) (r : Rps K w H ps vs) (hp : H p = none) : Rp K w (upd H p (.lst vs)) (.list ps) (.ref p) :=
  .ls ⟨upd_same, np⟩ (r.mono (.new hp))
/-- a list that was made last -/
def PostF (K : W.Frag) (E : XK) (w : Wd) (H : Hp) (r : Res (List PyData)) (Q : VK) : Prop :=
  match r with
  | .ok xs st' => ∀ w' H' p vs, Ge w H w' H' → RelSt K w' H' st' → H' p = none → Rps K w' H' xs vs → Q (.ref p) (upd H' p (.lst vs))
  | .exc e st' => ∀ w' H' c dx, Ge w H w' H' → RelSt K w' H' st' → RelX K w' H' e c dx → E c dx H'
  | .bad => False
theorem PostF.mono {K : W.Frag} {E : XK} {w w' : Wd} {H H' : Hp} {r : Res (List PyData)} {Q : VK} (g : Ge w H w' H') (h : PostF K E w H r Q) : PostF K E w' H' r Q := by
  cases r with
  | ok a st => exact fun r1 H1 p vs g1 s1 q1 => h r1 H1 p vs (g.trans g1) s1 q1
  | exc e st => exact fun r1 H1 c dx g1 s1 q1 => h r1 H1 c dx (g.trans g1) s1 q1
  | bad => exact h
def RfF (K : W.Frag) (E : XK) (t : TE) (f : Env → M (List PyData)) : Prop :=
  ∀ w σ H env st Q, RelSt K w H st → RelEnv K w H env σ → PostF K E w H (f env st) Q → t σ H Q
structure SF (X : Cx) (E : XK) (e : Expr) (t : TE) (f : Env → M (List PyData)) : Prop where
  pe : PE X e t
  rf : RfF X.K E t f
/-- .. as a value that nobody changes -/
def asVal (f : Env → M (List PyData)) : Env → M D := fun env => bd (f env) fun xs => rt (.val (.list xs))
/-- .. as an object of the store -/
def newL (xs : List PyData) : M D := fun st => .ok (.loc st.length) (st ++ [.lst xs])
def asObj (f : Env → M (List PyData)) : Env → M D := fun env => bd (f env) newL
theorem rf_val {K : W.Frag} {E : XK} {t : TE} {f : Env → M (List PyData)} (h : RfF K E t f) : Rf K E (RE K) t (asVal f) := by
  intro w σ H env st Q s0 e0 hp
  refine h w σ H env st Q s0 e0 ?_
  unfold asVal at hp
  cases hf : f env st with
  | ok a st' =>
    rw [bd_ok hf] at hp
    exact fun r1 H1 p vs g1 s1 n1 q1 => hp r1 _ _ (g1.trans (.new n1)) (s1.new n1) (Rp.newLs (s1.notin n1) q1 n1)
  | exc e st' => rw [bd_exc hf] at hp; exact hp
  | bad => rw [bd_bad hf] at hp; exact hp
theorem rf_obj {K : W.Frag} {E : XK} {t : TE} {f : Env → M (List PyData)} (h : RfF K E t f) : Rf K E (RE K) t (asObj f) := by
  intro w σ H env st Q s0 e0 hp
  refine h w σ H env st Q s0 e0 ?_
  unfold asObj at hp
  cases hf : f env st with
  | ok a st' =>
    rw [bd_ok hf] at hp
    refine fun r1 H1 p vs g1 s1 n1 q1 => ?_
    have np := s1.notin n1
    have gg : Ge r1 H1 (r1.add p) (upd H1 p (.lst vs)) := ⟨⟨[p], rfl, rfl, fun q hq => by
        have : q = p := by simpa using hq
        subst this
        exact ⟨np, n1⟩⟩, fun b v _ nb h => by rw [upd_ne (ne_of_none h n1)]; exact h, fun b v nb h => ⟨v, by rw [upd_ne (ne_of_none h n1)]; exact h⟩⟩
    obtain ⟨s2, g2⟩ := s1.push (o := .lst a) (u := .lst vs) n1 ⟨vs, upd_same, q1.mono gg⟩
    exact hp _ _ _ (g1.trans g2) s2 ⟨p, rfl, by rw [s1.len]; simp⟩
  | exc e st' => rw [bd_exc hf] at hp; exact hp
  | bad => rw [bd_bad hf] at hp; exact hp
theorem Rf.stepF {α β : Type} {K : W.Frag} {E : XK} {R : Wd → Hp → α → β → Prop} {t : St → Hp → (β → Hp → Prop) → Prop} {f : Env → M α} (h : Rf K E R t f)
    {w : Wd} {σ : St} {H : Hp} {env : Env} {st : Store} {g : α → M (List PyData)} {Q : VK} {U : β → Hp → Prop} (hs : RelSt K w H st) (he : RelEnv K w H env σ) (hp : PostF K E w H (bd (f env) g st) Q)
    (k : ∀ w' H' st' a b, Ge w H w' H' → RelSt K w' H' st' → RelEnv K w' H' env σ → R w' H' a b → PostF K E w' H' (g a st') Q → U b H') : t σ H U := by
  refine h w σ H env st _ hs he ?_
  cases hf : f env st with
  | ok a st' =>
    rw [bd_ok hf] at hp
    exact fun r1 H1 b g1 s1 q1 => k r1 H1 st' a b g1 s1 (he.mono g1) q1 (hp.mono g1)
  | exc e st' => rw [bd_exc hf] at hp; exact hp
  | bad => rw [bd_bad hf] at hp; exact hp
section
variable {X : Cx} {E : XK} {a b c e : Expr} {ta tb tc : TE} {fa fb fc : Env → M D} {pos : Pos} {es : List Expr} {tr : TA} {fr : Env → M (List D)} {tt tu : TT} {ft fu : Env → M Bool} {ff : Env → M (List PyData)}
theorem SF.v (h : SF X E e ta ff) : SE X E e ta (asVal ff) := ⟨h.pe, rf_val h.rf⟩
theorem SF.o (h : SF X E e ta ff) : SE X E e ta (asObj ff) := ⟨h.pe, rf_obj h.rf⟩
def tupE (fr : Env → M (List D)) : Env → M D := fun env => bd (fr env) tupD
theorem se_tup {x1} (h : SA X E es tr fr) : SE X E (.Tuple es x1 pos) (tTup tr) (tupE fr) := by
  refine ⟨pe_tup h.pa, fun w σ H env st Q s0 e0 hp => ?_⟩
  refine h.rf.step s0 e0 hp fun r1 H1 st1 ds vs g1 s1 e1 q1 hp => ?_
  unfold tupD at hp
  cases hv : vals ds with
  | none => rw [hv] at hp; exact hp.elim
  | some ps =>
    simp only [hv] at hp
    split at hp
    · rename_i hl
      have r := q1.vals hv
      refine ⟨by rw [← r.length]; exact hl, fun p hn => ?_⟩
      exact hp r1 _ _ (.new hn) (s1.new hn) (Rp.newTup (s1.notin hn) r hn)
    · exact hp.elim
def lstD (ds : List D) : M (List PyData) := match vals ds with
  | some ps => if ps.length ≤ sizeLine then rt ps else bad
  | none => bad
def lstE (fr : Env → M (List D)) : Env → M (List PyData) := fun env => bd (fr env) lstD
theorem sf_lst (h : SA X E es tr fr) : SF X E (.List es pos) (tLst tr) (lstE fr) := by
  refine ⟨pe_lst h.pa, fun w σ H env st Q s0 e0 hp => ?_⟩
  refine h.rf.stepF s0 e0 hp fun r1 H1 st1 ds vs g1 s1 e1 q1 hp => ?_
  unfold lstD at hp
  cases hv : vals ds with
  | none => rw [hv] at hp; exact hp.elim
  | some ps =>
    simp only [hv] at hp
    split at hp
    · rename_i hl
      have r := q1.vals hv
      exact ⟨by rw [← r.length]; exact hl, fun p hn => hp r1 _ p vs (Ge.refl _ _) s1 hn r⟩
    · exact hp.elim

/-! ### operators -/
/-- what an operator's reading asks is met by g -/
def BOp (K : W.Frag) (E : XK) (r : R2) (g : D → D → M D) : Prop :=
  ∀ w H st dx dy x y Q, RelSt K w H st → RpD K w H dx x → RpD K w H dy y → Post K E (RE K) w H (g dx dy st) Q → r x y H Q
def op2 (g : D → D → M D) (fa fb : Env → M D) : Env → M D := fun env => bd (fa env) fun x => bd (fb env) fun y => g x y
theorem rf_op {K : W.Frag} {r : R2} {g : D → D → M D} (hB : BOp K E r g) (ha : Rf K E (RE K) ta fa) (hb : Rf K E (RE K) tb fb) : Rf K E (RE K) (tOp r ta tb) (op2 g fa fb) := by
  intro w σ H env st Q s0 e0 hp
  refine ha.step s0 e0 hp fun r1 H1 st1 x v g1 s1 e1 q1 hp => ?_
  refine hb.step s1 e1 hp fun r2 H2 st2 y u g2 s2 e2 q2 hp => ?_
  exact hB r2 H2 st2 x y v u Q s2 (q1.mono g2) q2 hp
theorem se_op {op : Operator} {r : R2} {g : D → D → M D} (ho : OpR X (binaryOp op) r) (hB : BOp X.K E r g) (ha : SE X E a ta fa) (hb : SE X E b tb fb) : SE X E (.BinOp a op b pos) (tOp r ta tb) (op2 g fa fb) :=
  ⟨pe_op ho ha.pe hb.pe, rf_op hB ha.rf hb.rf⟩
theorem se_cmp {op : CmpOp} {r : R2} {g : D → D → M D} (ho : OpR X (compareOp op) r) (hB : BOp X.K E r g) (ha : SE X E a ta fa) (hb : SE X E b tb fb) (hm : behindInMarks op b = false) : SE X E (.Compare a [op] [b] pos) (tOp r ta tb) (op2 g fa fb) :=
  ⟨pe_cmpR ho ha.pe hb.pe hm, rf_op hB ha.rf hb.rf⟩
def boolOf (d : D) : M Bool := match d with
  | .val (.bool b) => rt b
  | _ => bad
theorem Rp.boolOf {K : W.Frag} {w : Wd} {H : Hp} {d : D} {v : V} {st : Store} {b : Bool} {st' : Store} (r : RpD K w H d v) (h : B.boolOf d st = .ok b st') : v = .bl b ∧ st' = st := by
  cases d with
  | val p =>
    cases p with
    | bool c =>
      cases r
      simp [B.boolOf] at h
      exact ⟨by rw [h.1], h.2.symm⟩
    | _ => simp [B.boolOf] at h
  | _ => simp [B.boolOf] at h
theorem post_bool {α' β' : Type} {K : W.Frag} {w : Wd} {H : Hp} {d : D} {v : V} {st : Store} {R' : Wd → Hp → α' → β' → Prop} {g : Bool → M α'} {Q : β' → Hp → Prop} (r : RpD K w H d v) (h : Post K E R' w H (bd (B.boolOf d) g st) Q) : ∃ b, v = .bl b ∧ Post K E R' w H (g b st) Q := by
  cases d with
  | val p =>
    cases p with
    | bool c => cases r; exact ⟨c, rfl, h⟩
    | _ => exact h.elim
  | _ => exact h.elim
/-- a comparison as a test -/
def tst (fa : Env → M D) : Env → M Bool := fun env => bd (fa env) boolOf
theorem st_cmp {op : CmpOp} {r : R2} {g : D → D → M D} (ho : OpR X (compareOp op) r) (hB : BOp X.K E r g) (ha : SE X E a ta fa) (hb : SE X E b tb fb) (hm : behindInMarks op b = false) : ST X E (.Compare a [op] [b] pos) (tTest (tOp r ta tb)) (tst (op2 g fa fb)) := by
  refine ⟨pt_cmpR ho ha.pe hb.pe hm, fun w σ H env st Q s0 e0 hp => ?_⟩
  refine (rf_op hB ha.rf hb.rf).step s0 e0 hp fun r1 H1 st1 d v g1 s1 e1 q1 hp => ?_
  obtain ⟨b, e, hp⟩ := post_bool (g := rt) q1 (show Post X.K E RB r1 H1 (bd (boolOf d) rt st1) Q by
    unfold bd
    cases q : boolOf d st1 <;> (rw [q] at hp; exact hp))
  exact ⟨b, e, Post.now hp s1 rfl⟩

/-! ### truth -/
def tru (d : D) : M Bool := fun st => match d with
  | .val .none => .ok false st
  | .val (.bool b) => .ok b st
  | .val (.int i) => .ok (i != 0) st
  | .val (.str y) => if y.length ≤ sizeLine then .ok ((y.length : Int) != 0) st else .bad
  | .val (.list xs) => .ok (!xs.isEmpty) st
  | .val (.tuple xs) => .ok (!xs.isEmpty) st
  | .loc n => match st[n]? with
    | some (.lst xs) => .ok (!xs.isEmpty) st
    | some (.dk xs) => .ok (!xs.isEmpty) st
    | _ => .bad
  | _ => .bad
theorem Rps.empty {K : W.Frag} {w : Wd} {H : Hp} {xs : List PyData} {vs : List V} (r : Rps K w H xs vs) : (!vs.isEmpty) = !xs.isEmpty := by cases r <;> rfl
theorem RpK.empty {K : W.Frag} {w : Wd} {H : Hp} {κ : Type} {xs : List (κ × PyData)} {vs : List (κ × V)} (r : RpK K w H xs vs) : (!vs.isEmpty) = !xs.isEmpty := by cases r <;> rfl
theorem RelSt.at {K : W.Frag} {w : Wd} {H : Hp} {st : Store} (hs : RelSt K w H st) {n : Nat} {o : O} {v : V} (h : st[n]? = some o) (r : RpD K w H (.loc n) v) : ∃ a, v = .ref a ∧ w.rho[n]? = some a ∧ ObjRel K w H a o := by
  obtain ⟨a, e, ha⟩ := r
  exact ⟨a, e, ha, hs.obj n o a h ha⟩
theorem tru_rel {K : W.Frag} {w : Wd} {H : Hp} {st st' : Store} {d : D} {v : V} {b : Bool} (hs : RelSt K w H st) (r : RpD K w H d v) (h : tru d st = .ok b st') : TruV K v H b ∧ st' = st := by
  cases d with
  | val p =>
    cases p with
    | none => cases r; simp [tru] at h; exact ⟨h.1.symm ▸ rfl, h.2.symm⟩
    | bool c => cases r; simp [tru] at h; exact ⟨h.1.symm ▸ rfl, h.2.symm⟩
    | int c => cases r; simp only [tru, Res.ok.injEq] at h; exact ⟨h.1.symm ▸ rfl, h.2.symm⟩
    | str c =>
      cases r
      simp only [tru] at h
      split at h
      · rename_i hl
        simp only [Res.ok.injEq] at h
        exact ⟨⟨hl, h.1.symm⟩, h.2.symm⟩
      · cases h
    | list xs =>
      simp only [tru, Res.ok.injEq] at h
      cases r with
      | ls l r => exact ⟨.inl ⟨_, l.sq, h.1.symm.trans r.empty.symm⟩, h.2.symm⟩
    | tuple xs =>
      simp only [tru, Res.ok.injEq] at h
      cases r with
      | tup l r => exact ⟨.inr (.inl ⟨_, l.sq, h.1.symm.trans r.empty.symm⟩), h.2.symm⟩
    | dict _ => simp [tru] at h
  | cst u => simp [tru] at h
  | err => simp [tru] at h
  | fn _ => simp [tru] at h
  | pr _ _ => simp [tru] at h
  | frz u => simp [tru] at h
  | loc n =>
    simp only [tru] at h
    cases q : st[n]? with
    | none => rw [q] at h; cases h
    | some o =>
      rw [q] at h
      obtain ⟨a, rfl, _, ob⟩ := hs.at q r
      cases o with
      | lst xs =>
        simp only [Res.ok.injEq] at h
        obtain ⟨vs, e, r⟩ := ob
        exact ⟨.inl ⟨vs, SqL.of e, h.1.symm.trans r.empty.symm⟩, h.2.symm⟩
      | dk xs =>
        simp only [Res.ok.injEq] at h
        obtain ⟨vs, e, r⟩ := ob
        exact ⟨.inr (.inr ⟨vs, e, h.1.symm.trans r.empty.symm⟩), h.2.symm⟩
      | _ => cases h
theorem tru_noexc {d : D} {st st' : Store} {e : Ex} : tru d st ≠ .exc e st' := by
  unfold tru
  repeat' split
  all_goals (intro h; cases h)
theorem post_tru {α' β' : Type} {K : W.Frag} {w : Wd} {H : Hp} {d : D} {v : V} {st : Store} {R' : Wd → Hp → α' → β' → Prop} {g : Bool → M α'} {Q : β' → Hp → Prop} (hs : RelSt K w H st) (r : RpD K w H d v) (h : Post K E R' w H (bd (tru d) g st) Q) : ∃ b, TruV K v H b ∧ Post K E R' w H (g b st) Q := by
  cases q : tru d st with
  | ok b st' =>
    obtain ⟨t, e⟩ := tru_rel hs r q
    subst e
    rw [bd_ok q] at h
    exact ⟨b, t, h⟩
  | exc e st' => exact (tru_noexc q).elim
  | bad => rw [bd_bad q] at h; exact h.elim
def truT (fa : Env → M D) : Env → M Bool := fun env => bd (fa env) tru
theorem st_truth {K : W.Frag} (ha : SE X E a ta fa) (hK : X.K = K := by rfl) (he : ∀ whole, isTrue a X.env whole = (do let v ← whole; standAt a.pos; holding [v] (truthy v)) := by intro _; rfl) : ST X E a (fun σ H Q => ta σ H fun x H' => ∃ k, TruV K x H' k ∧ Q k H') (truT fa) := by
  subst hK
  refine ⟨pt_truth ha.pe he, fun w σ H env st Q s0 e0 hp => ?_⟩
  refine ha.rf.step s0 e0 hp fun r1 H1 st1 d v g1 s1 e1 q1 hp => ?_
  obtain ⟨b, t, hp⟩ := post_tru (g := rt) s1 q1 (show Post X.K E RB r1 H1 (bd (tru d) rt st1) Q by
    unfold bd
    cases q : tru d st1 <;> (rw [q] at hp; exact hp))
  exact ⟨b, t, Post.now hp s1 rfl⟩
/-! and, or, not -/
def andT (f g : Env → M Bool) : Env → M Bool := fun env => bd (f env) fun b => if b = true then g env else rt false
def orT (f g : Env → M Bool) : Env → M Bool := fun env => bd (f env) fun b => if b = true then rt true else g env
def notT (f : Env → M Bool) : Env → M Bool := fun env => bd (f env) fun b => rt (!b)
variable {rest : List Expr}
theorem sw_and1 (ha : ST X E a tt ft) : SW X E (.BoolOp .And [a] pos) tt ft := ⟨pw_and1 ha.pt, ha.rf⟩
theorem sw_or1 (ha : ST X E a tt ft) : SW X E (.BoolOp .Or [a] pos) tt ft := ⟨pw_or1 ha.pt, ha.rf⟩
theorem sw_and (ha : ST X E a tt ft) (hb : SW X E (.BoolOp .And (b :: rest) pos) tu fu) : SW X E (.BoolOp .And (a :: b :: rest) pos) (tAnd tt tu) (andT ft fu) := by
  refine ⟨pw_and ha.pt hb.pw, fun w σ H env st Q s0 e0 hp => ?_⟩
  refine ha.rf.step s0 e0 hp fun r1 H1 st1 d v g1 s1 e1 q1 hp => ?_
  cases q1
  cases d with
  | true => exact hb.rf r1 σ H1 env st1 Q s1 e1 hp
  | false => exact Post.now hp s1 rfl
theorem sw_or (ha : ST X E a tt ft) (hb : SW X E (.BoolOp .Or (b :: rest) pos) tu fu) : SW X E (.BoolOp .Or (a :: b :: rest) pos) (tOr tt tu) (orT ft fu) := by
  refine ⟨pw_or ha.pt hb.pw, fun w σ H env st Q s0 e0 hp => ?_⟩
  refine ha.rf.step s0 e0 hp fun r1 H1 st1 d v g1 s1 e1 q1 hp => ?_
  cases q1
  cases d with
  | true => exact Post.now hp s1 rfl
  | false => exact hb.rf r1 σ H1 env st1 Q s1 e1 hp
theorem st_not (ha : ST X E a tt ft) : ST X E (.UnaryOp .Not a pos) (tNot tt) (notT ft) := by
  refine ⟨pt_not ha.pt, fun w σ H env st Q s0 e0 hp => ?_⟩
  refine ha.rf.step s0 e0 hp fun r1 H1 st1 d v g1 s1 e1 q1 hp => ?_
  cases q1
  exact Post.now hp s1 rfl
/-- as values -/
def andV (f g : Env → M D) : Env → M D := fun env => bd (f env) fun x => bd (tru x) fun b => if b = true then g env else rt x
def orV (f g : Env → M D) : Env → M D := fun env => bd (f env) fun x => bd (tru x) fun b => if b = true then rt x else g env
def notV (f : Env → M D) : Env → M D := fun env => bd (f env) fun x => bd (tru x) fun b => rt (.val (.bool (!b)))
theorem se_one {op} (h : SE X E a ta fa) : SE X E (.BoolOp op [a] pos) ta fa := ⟨pe_one h.pe, h.rf⟩
theorem se_and {K : W.Frag} (ha : SE X E a ta fa) (hb : SE X E (.BoolOp .And (b :: rest) pos) tb fb) (hK : X.K = K := by rfl) : SE X E (.BoolOp .And (a :: b :: rest) pos) (tAndT K ta tb) (andV fa fb) := by
  subst hK
  refine ⟨pe_andT ha.pe hb.pe, fun w σ H env st Q s0 e0 hp => ?_⟩
  refine ha.rf.step s0 e0 hp fun r1 H1 st1 d v g1 s1 e1 q1 hp => ?_
  obtain ⟨b, t, hp⟩ := post_tru s1 q1 hp
  refine ⟨b, t, ?_⟩
  cases b with
  | true => exact hb.rf r1 σ H1 env st1 Q s1 e1 hp
  | false => exact Post.now hp s1 q1
theorem se_or {K : W.Frag} (ha : SE X E a ta fa) (hb : SE X E (.BoolOp .Or (b :: rest) pos) tb fb) (hK : X.K = K := by rfl) : SE X E (.BoolOp .Or (a :: b :: rest) pos) (tOrT K ta tb) (orV fa fb) := by
  subst hK
  refine ⟨pe_orT ha.pe hb.pe, fun w σ H env st Q s0 e0 hp => ?_⟩
  refine ha.rf.step s0 e0 hp fun r1 H1 st1 d v g1 s1 e1 q1 hp => ?_
  obtain ⟨b, t, hp⟩ := post_tru s1 q1 hp
  refine ⟨b, t, ?_⟩
  cases b with
  | true => exact Post.now hp s1 q1
  | false => exact hb.rf r1 σ H1 env st1 Q s1 e1 hp
theorem se_not {K : W.Frag} (ha : SE X E a ta fa) (hK : X.K = K := by rfl) : SE X E (.UnaryOp .Not a pos) (tNotT K ta) (notV fa) := by
  subst hK
  refine ⟨pe_notT ha.pe, fun w σ H env st Q s0 e0 hp => ?_⟩
  refine ha.rf.step s0 e0 hp fun r1 H1 st1 d v g1 s1 e1 q1 hp => ?_
  obtain ⟨b, t, hp⟩ := post_tru s1 q1 hp
  exact ⟨b, t, Post.now hp s1 (.bl _)⟩
def ifV (f : Env → M Bool) (g h : Env → M D) : Env → M D := fun env => bd (f env) fun b => if b = true then g env else h env
theorem se_if {c : Expr} (hc : ST X E c tt ft) (ha : SE X E a ta fa) (hb : SE X E b tb fb) : SE X E (.IfExp c a b pos) (tIf tt ta tb) (ifV ft fa fb) := by
  refine ⟨pe_ifExp hc.pt ha.pe hb.pe, fun w σ H env st Q s0 e0 hp => ?_⟩
  refine hc.rf.step s0 e0 hp fun r1 H1 st1 d v g1 s1 e1 q1 hp => ?_
  cases q1
  cases d with
  | true => exact ha.rf r1 σ H1 env st1 Q s1 e1 hp
  | false => exact hb.rf r1 σ H1 env st1 Q s1 e1 hp
end
end B
/-! BL3: statements, targets, loops, comprehensions, calls. -/
namespace B
open PySem L2
variable [Nm] [Gd]

/-! ### an address set apart -/
structure Mo (w : Wd) (H : Hp) (w' : Wd) (H' : Hp) : Prop where
  sub : Sb w H w' H'
  get : ∀ (n : Nat) (a : Addr), w.rho[n]? = some a → w'.rho[n]? = some a
theorem Ge.mo {w w' : Wd} {H H' : Hp} (g : Ge w H w' H') : Mo w H w' H' := ⟨g.sb, fun _ _ h => g.get h⟩
theorem Mo.trans {w0 w1 w2 : Wd} {H0 H1 H2 : Hp} (g : Mo w0 H0 w1 H1) (k : Mo w1 H1 w2 H2) : Mo w0 H0 w2 H2 := ⟨g.sub.trans k.sub, fun n a h => k.get n a (g.get n a h)⟩
section
variable {K : W.Frag} {w w' : Wd} {H H' : Hp}
theorem TupAt.mo (g : Mo w H w' H') {a : Addr} {vs : List V} (h : TupAt K w H a vs) : TupAt K w' H' a vs := by
  rcases h with ⟨h | ⟨o, h⟩, n⟩ | h
  · exact .inl ⟨.inl (g.sub _ _ (fun _ z => by cases z) n h).2, (g.sub _ _ (fun _ z => by cases z) n h).1⟩
  · exact .inl ⟨.inr ⟨o, (g.sub _ _ (fun _ z => by cases z) n h).2⟩, (g.sub _ _ (fun _ z => by cases z) n h).1⟩
  · exact .inr h
theorem LsAt.mo (g : Mo w H w' H') {a : Addr} {vs : List V} (h : LsAt K w H a vs) : LsAt K w' H' a vs := let ⟨n, e⟩ := g.sub _ _ (fun _ z => by cases z) h.2 h.1; ⟨e, n⟩
theorem FzAt.mo (g : Mo w H w' H') {a : Addr} {vs : List V} (h : FzAt K w H a vs) : FzAt K w' H' a vs := by
  rcases h with ⟨⟨o, h⟩, n⟩ | h
  · exact .inl ⟨⟨o, (g.sub _ _ (fun _ z => by cases z) n h).2⟩, (g.sub _ _ (fun _ z => by cases z) n h).1⟩
  · exact .inr h
mutual
theorem Rp.mo (g : Mo w H w' H') : ∀ {d : PyData} {v : V}, Rp K w H d v → Rp K w' H' d v
  | _, _, .non => .non
  | _, _, .bl b => .bl b
  | _, _, .int i => .int i
  | _, _, .str x => .str x
  | _, _, .tup h r => .tup (h.mo g) (Rps.mo g r)
  | _, _, .ls h r => .ls (h.mo g) (Rps.mo g r)
theorem Rps.mo (g : Mo w H w' H') : ∀ {ds : List PyData} {vs : List V}, Rps K w H ds vs → Rps K w' H' ds vs
  | _, _, .nil => .nil
  | _, _, .cons r s => .cons (Rp.mo g r) (Rps.mo g s)
end
theorem RpS.mo (g : Mo w H w' H') : ∀ {d : S1} {v : V}, RpS K w H d v → RpS K w' H' d v
  | .v _, _, h => Rp.mo g h
  | .l _, _, ⟨a, e, h⟩ => ⟨a, e, g.get _ _ h⟩
theorem RpD.mo (g : Mo w H w' H') : ∀ {d : D} {v : V}, RpD K w H d v → RpD K w' H' d v
  | .val _, _, h => Rp.mo g h
  | .loc _, _, ⟨a, e, h⟩ => ⟨a, e, g.get _ _ h⟩
  | .cst _, _, h => h
  | .frz _, _, ⟨a, vs, e, h, r⟩ => ⟨a, vs, e, h.mo g, Rps.mo g r⟩
  | .err, _, h => h
  | .fn _, _, h => h
  | .pr _ _, _, ⟨a, u, t, e, h, r1, r2⟩ => ⟨a, u, t, e, h.mo g, RpS.mo g r1, RpS.mo g r2⟩
theorem RelEnv.mo (g : Mo w H w' H') {env : Env} {σ : St} (h : RelEnv K w H env σ) : RelEnv K w' H' env σ := ⟨h.len, fun i d e => let ⟨v, e1, r⟩ := h.get i d e; ⟨v, e1, r.mo g⟩⟩
theorem RpK.mo (g : Mo w H w' H') {κ : Type} : ∀ {ds : List (κ × PyData)} {vs : List (κ × V)}, RpK K w H ds vs → RpK K w' H' ds vs
  | _, _, .nil => .nil
  | _, _, .cons r s => .cons (r.mo g) (RpK.mo g s)
theorem RpF.mo (g : Mo w H w' H') {fs : List (Str × D)} {gs : List (Str × V)} (h : RpF K w H fs gs) : RpF K w' H' fs gs :=
  ⟨h.1, fun x => ⟨fun d e => let ⟨v, e1, r⟩ := (h.2 x).1 d e; ⟨v, e1, r.mo g⟩, (h.2 x).2⟩⟩
theorem RpSs.mo (g : Mo w H w' H') : ∀ {ds : List S1} {vs : List V}, RpSs K w H ds vs → RpSs K w' H' ds vs
  | _, _, .nil => .nil
  | _, _, .cons r s => .cons (r.mo g) (RpSs.mo g s)
theorem RpKS.mo (g : Mo w H w' H') {κ : Type} : ∀ {ds : List (κ × S1)} {vs : List (κ × V)}, RpKS K w H ds vs → RpKS K w' H' ds vs
  | _, _, .nil => .nil
  | _, _, .cons r s => .cons (r.mo g) (RpKS.mo g s)
theorem ObjRel.mo {a : Addr} {o : O} (g : Mo w H w' H') (ha : H' a = H a) (h : ObjRel K w H a o) : ObjRel K w' H' a o := by
  cases o with
  | lst xs => obtain ⟨vs, e, r⟩ := h; exact ⟨vs, ha.trans e, r.mo g⟩
  | dk xs => obtain ⟨vs, e, r⟩ := h; exact ⟨vs, ha.trans e, r.mo g⟩
  | dt xs => obtain ⟨vs, e, r⟩ := h; exact ⟨vs, ha.trans e, r.mo g⟩
  | ins C fs => obtain ⟨dx, vs, e, r⟩ := h; exact ⟨dx, vs, ha.trans e, r.mo g⟩
  | lr xs => obtain ⟨vs, e, r⟩ := h; exact ⟨vs, ha.trans e, r.mo g⟩
  | dr xs => obtain ⟨vs, e, r⟩ := h; exact ⟨vs, ha.trans e, r.mo g⟩
end
/-! ### sequences -/
def seqS (f g : Env → M Fl) : Env → M Fl := fun env => bd (f env) fun r => match r with
  | .nx env' => g env'
  | r => rt r
def nxS : Env → M Fl := fun env => rt (.nx env)
theorem PostS.nxc {K : W.Frag} {E : XK} {w : Wd} {H : Hp} {env : Env} {st : Store} {Z : Ends} {σ : St} (hp : PostS K E w H (.ok (.nx env) st) Z) (hs : RelSt K w H st) (he : RelEnv K w H env σ) : Z.nx σ H := hp w H σ (Ge.refl _ _) hs he
section
variable {X : Cx} {E : XK} {a b c e : Expr} {ta tb tc : TE} {fa fb fc : Env → M D} {pos : Pos} {es : List Expr} {tr : TA} {fr : Env → M (List D)} {tt tu : TT} {ft fu : Env → M Bool} {s : Stmt} {ss s1 s2 : List Stmt} {ts us : TS} {fs gs : Env → M Fl}
theorem rf_seq {K : W.Frag} (h1 : RfS K E ts fs) (h2 : RfS K E us gs) : RfS K E (tSeq ts us) (seqS fs gs) := by
  intro w σ H env st Z s0 e0 hp
  refine h1 w σ H env st _ s0 e0 ?_
  unfold seqS at hp
  cases hf : fs env st with
  | ok r st' =>
    rw [bd_ok hf] at hp
    cases r with
    | nx env' => exact fun w' H' σ' g s1 e1 => h2 w' σ' H' env' st' Z s1 e1 (hp.mono g)
    | rt d => exact hp
    | bk env' => exact hp
    | ct env' => exact hp
  | exc e st' => rw [bd_exc hf] at hp; exact hp
  | bad => rw [bd_bad hf] at hp; exact hp
theorem ss_nil : SSs X E [] tNext nxS := ⟨pss_nil, fun w σ H env st Z s0 e0 hp => hp.nxc s0 e0⟩
theorem ss_cons (h1 : SS X E s ts fs) (h2 : SSs X E ss us gs) : SSs X E (s :: ss) (tSeq ts us) (seqS fs gs) := ⟨pss_cons h1.ps h2.ps, rf_seq h1.rf h2.rf⟩
theorem ss_one (h1 : SS X E s ts fs) : SSs X E [s] ts fs := ⟨pss_one h1.ps, h1.rf⟩
/-- slots are forgotten behind a statement -/
def killS (is : List Nat) (f : Env → M Fl) : Env → M Fl := fun env => bd (f env) fun r => match r with
  | .nx env' => rt (.nx (kill is env'))
  | r => rt r
theorem rf_kill {K : W.Frag} (is : List Nat) (h : RfS K E ts fs) : RfS K E ts (killS is fs) := by
  intro w σ H env st Z s0 e0 hp
  refine h w σ H env st _ s0 e0 ?_
  unfold killS at hp
  cases hf : fs env st with
  | ok r st' =>
    rw [bd_ok hf] at hp
    cases r with
    | nx env' => exact fun w' H' σ' g s1 e1 => hp w' H' σ' g s1 (e1.kills is)
    | rt d => exact hp
    | bk env' => exact hp
    | ct env' => exact hp
  | exc e st' => rw [bd_exc hf] at hp; exact hp
  | bad => rw [bd_bad hf] at hp; exact hp
theorem ss_kill (is : List Nat) (h : SS X E s ts fs) : SS X E s ts (killS is fs) := ⟨h.ps, rf_kill is h.rf⟩
theorem sss_kill (is : List Nat) (h : SSs X E ss ts fs) : SSs X E ss ts (killS is fs) := ⟨h.ps, rf_kill is h.rf⟩
theorem ss_pass : SS X E (.Pass pos) tNext nxS := ⟨ps_pass, fun w σ H env st Z s0 e0 hp => hp.nxc s0 e0⟩
def bkS : Env → M Fl := fun env => rt (.bk env)
def ctS : Env → M Fl := fun env => rt (.ct env)
theorem ss_break : SS X E (.Break pos) tBreak bkS := ⟨ps_break, fun w σ H env st Z s0 e0 hp => hp w H σ (Ge.refl _ _) s0 e0⟩
theorem ss_continue : SS X E (.Continue pos) tCont ctS := ⟨ps_continue, fun w σ H env st Z s0 e0 hp => hp w H σ (Ge.refl _ _) s0 e0⟩
def dropS (fa : Env → M D) : Env → M Fl := fun env => bd (fa env) fun _ => rt (.nx env)
theorem ss_expr (he : SE X E e ta fa) (hs : swapsWith e none pos.line X.env = pure false := by rfl) : SS X E (.Expr e pos) (tDrop ta) (dropS fa) := by
  refine ⟨ps_expr he.pe hs, fun w σ H env st Z s0 e0 hp => ?_⟩
  exact he.rf.stepS s0 e0 hp fun r1 H1 st1 d v g1 s1 e1 q1 hp => hp.nxc s1 e1
theorem ss_doc {x j pos'} : SS X E (.Expr (.Constant (.str x) j pos) pos') tNext nxS := ⟨ps_doc, fun w σ H env st Z s0 e0 hp => hp.nxc s0 e0⟩
def retS (fa : Env → M D) : Env → M Fl := fun env => bd (fa env) fun d => rt (.rt d)
theorem ss_ret (he : SE X E e ta fa) : SS X E (.Return (some e) pos) (tRet ta) (retS fa) := by
  refine ⟨ps_ret he.pe, fun w σ H env st Z s0 e0 hp => ?_⟩
  exact he.rf.stepS s0 e0 hp fun r1 H1 st1 d v g1 s1 e1 q1 hp => hp r1 H1 v (Ge.refl _ _) s1 q1
def ifS (ft : Env → M Bool) (f g : Env → M Fl) : Env → M Fl := fun env => bd (ft env) fun b => if b = true then f env else g env
theorem ss_if (hc : ST X E c tt ft) (ha : SSs X E s1 ts fs) (hb : SSs X E s2 us gs) : SS X E (.If c s1 s2 pos) (tIfS tt ts us) (ifS ft fs gs) := by
  refine ⟨ps_if hc.pt ha.ps hb.ps, fun w σ H env st Z s0 e0 hp => ?_⟩
  refine hc.rf.stepS s0 e0 hp fun r1 H1 st1 d v g1 s1 e1 q1 hp => ?_
  cases q1
  cases d with
  | true => exact ha.rf r1 σ H1 env st1 Z s1 e1 hp
  | false => exact hb.rf r1 σ H1 env st1 Z s1 e1 hp

/-! ### targets -/
def PostG (K : W.Frag) (E : XK) (is : List Nat) (σ : St) (w : Wd) (H : Hp) (r : Res Env) (Q : St → Hp → Prop) : Prop :=
  match r with
  | .ok env st' => ∀ w' H' σ', Ge w H w' H' → RelSt K w' H' st' → RelEnv K w' H' env σ' → (∀ vs, (∀ i ∈ is, i ∈ vs) → wipe σ' vs = wipe σ vs) → Q σ' H'
  | .exc e st' => ∀ w' H' c dx, Ge w H w' H' → RelSt K w' H' st' → RelX K w' H' e c dx → E c dx H'
  | .bad => False
theorem PostG.mono {K : W.Frag} {is : List Nat} {σ : St} {w w' : Wd} {H H' : Hp} {r : Res Env} {Q : St → Hp → Prop} (g : Ge w H w' H') (h : PostG K E is σ w H r Q) : PostG K E is σ w' H' r Q := by
  cases r with
  | ok a st => exact fun r1 H1 b g1 s1 q1 => h r1 H1 b (g.trans g1) s1 q1
  | exc e st => exact fun r1 H1 c dx g1 s1 q1 => h r1 H1 c dx (g.trans g1) s1 q1
  | bad => exact h
def RfG (K : W.Frag) (E : XK) (is : List Nat) (t : TG) (f : D → Env → M Env) : Prop :=
  ∀ w σ H env st d v Q, RelSt K w H st → RelEnv K w H env σ → RpD K w H d v → PostG K E is σ w H (f d env st) Q → t v σ H Q
structure SG (X : Cx) (E : XK) (is : List Nat) (tg : Expr) (t : TG) (f : D → Env → M Env) : Prop where
  pg : PG X tg t
  rf : RfG X.K E is t f
def RfGs (K : W.Frag) (E : XK) (is : List Nat) (t : TGs) (f : List PyData → Env → M Env) : Prop :=
  ∀ w σ H env st ds vs Q, RelSt K w H st → RelEnv K w H env σ → Rps K w H ds vs → PostG K E is σ w H (f ds env st) Q → t vs σ H Q
structure SGs (X : Cx) (E : XK) (is : List Nat) (tg : List Expr) (t : TGs) (f : List PyData → Env → M Env) : Prop where
  pg : PGs X tg t
  rf : RfGs X.K E is t f
def setV (i : Nat) (d : D) (env : Env) : M Env := rt (env.set i (some d))
theorem wipe_set {i : Nat} {o : Option V} : ∀ {vs : List Nat} {σ : St}, i ∈ vs → wipe (σ.set i o) vs = wipe σ vs := by
  intro vs
  induction vs with
  | nil => intro σ h; simp at h
  | cons v r ih =>
    intro σ h
    unfold wipe
    by_cases hr : i ∈ r
    · rw [ih hr]
    · have e : i = v := by
        rcases List.mem_cons.mp h with e | e
        · exact e
        · exact absurd e hr
      subst e
      have : ∀ (l : List Nat) (τ : St), i ∉ l → wipe (τ.set i o) l = (wipe τ l).set i o := by
        intro l
        induction l with
        | nil => intro τ _; rfl
        | cons x l ihl =>
          intro τ hn
          simp only [List.mem_cons, not_or] at hn
          unfold wipe
          rw [ihl τ hn.2, List.set_comm _ _ hn.1]
      rw [this r σ hr, List.set_set]
theorem sg_name {i : Nat} {x : Str} (hN : X.N.Nodup) (hi : X.N[i]? = some x := by rfl) (hx : Loc X.env.scope x := by first | exact Or.inl rfl | exact Or.inr rfl) (hf : X.fn x = true ∨ X.env.scope.names.lookup x = some .local := by first | exact .inl rfl | exact .inr rfl) : SG X E [i] (.Name x pos) (gName i) (setV i) := by
  refine ⟨pg_name hN hi hx hf, fun w σ H env st d v Q s0 e0 r hp => ?_⟩
  exact hp w H _ (Ge.refl _ _) s0 (e0.set i r) fun vs h => wipe_set (h i (by simp))
def setsNil (ds : List PyData) (env : Env) : M Env := match ds with
  | [] => rt env
  | _ => bad
def setsCons (f : D → Env → M Env) (g : List PyData → Env → M Env) (ds : List PyData) (env : Env) : M Env := match ds with
  | d :: r => bd (f (.val d) env) fun env' => g r env'
  | [] => bad
theorem sgs_nil : SGs X E [] [] gNil setsNil := by
  refine ⟨pgs_nil, fun w σ H env st ds vs Q s0 e0 r hp => ?_⟩
  cases r with
  | nil => exact ⟨rfl, hp w H σ (Ge.refl _ _) s0 e0 fun _ _ => rfl⟩
  | cons _ _ => exact hp.elim
theorem sgs_cons {is js : List Nat} {t : TG} {u : TGs} {f : D → Env → M Env} {g : List PyData → Env → M Env} (h1 : SG X E is e t f) (h2 : SGs X E js es u g)
    (hs : (assignEach (e :: es) X.env).map (·.2) = assign e X.env :: (assignEach es X.env).map (·.2) := by rfl) : SGs X E (is ++ js) (e :: es) (gCons t u) (setsCons f g) := by
  refine ⟨pgs_cons h1.pg h2.pg hs, fun w σ H env st ds vs Q s0 e0 r hp => ?_⟩
  cases r with
  | nil => exact hp.elim
  | @cons d ds v vs r rr =>
    refine ⟨v, vs, rfl, ?_⟩
    refine h1.rf w σ H env st (.val d) v _ s0 e0 r ?_
    unfold setsCons at hp
    simp only at hp
    cases hf : f (.val d) env st with
    | ok env' st' =>
      rw [bd_ok hf] at hp
      intro w' H' σ' g1 s1 e1 q1
      refine h2.rf w' σ' H' env' st' ds vs Q s1 e1 (rr.mono g1) ?_
      have hp' := hp.mono g1
      cases hg : g ds env' st' with
      | ok env2 st2 =>
        rw [hg] at hp'
        exact fun w2 H2 σ2 g2 s2 e2 q2 => hp' w2 H2 σ2 g2 s2 e2 fun vs hv => (q2 vs fun i hi => hv i (List.mem_append_right _ hi)).trans (q1 vs fun i hi => hv i (List.mem_append_left _ hi))
      | exc e st2 => rw [hg] at hp'; exact hp'
      | bad => rw [hg] at hp'; exact hp'
    | exc e st' => rw [bd_exc hf] at hp; exact hp
    | bad => rw [bd_bad hf] at hp; exact hp
def setT (n : Nat) (g : List PyData → Env → M Env) (d : D) (env : Env) : M Env := match d with
  | .val (.tuple ps) => if ps.length = n then g ps env else bad
  | _ => bad
theorem sg_tup {K : W.Frag} {is : List Nat} {k n : Nat} {t : TGs} {g : List PyData → Env → M Env} (h : SGs X E is es t g) (hK : X.K = K := by rfl) (hc : X.calm = true := by rfl)
    (hn : (assignEach es X.env).length = n := by rfl) (hst : (assignEach es X.env).findIdx? (·.1) = none := by rfl) : SG X E is (.Tuple es k pos) (gTup K n t) (setT n g) := by
  subst hK
  refine ⟨pg_tup hc h.pg hn hst, fun w σ H env st d v Q s0 e0 r hp => ?_⟩
  cases d with
  | val p =>
    cases p with
    | tuple ps =>
      simp only [setT] at hp
      split at hp
      · rename_i hl
        cases r with
        | tup ht rr => exact ⟨_, _, rfl, ht.sq, by rw [← rr.length]; exact hl, h.rf w σ H env st ps _ Q s0 e0 rr hp⟩
      · exact hp.elim
    | _ => exact hp.elim
  | _ => exact hp.elim
def asgS (fa : Env → M D) (g : D → Env → M Env) : Env → M Fl := fun env => bd (fa env) fun d => bd (g d env) fun env' => rt (.nx env')
theorem rf_asg {K : W.Frag} {is : List Nat} {t : TG} {g : D → Env → M Env} (ha : Rf K E (RE K) ta fa) (hg : RfG K E is t g) : RfS K E (tAsg ta t) (asgS fa g) := by
  intro w σ H env st Z s0 e0 hp
  refine ha.stepS s0 e0 hp fun r1 H1 st1 d v g1 s1 e1 q1 hp => ?_
  refine hg r1 σ H1 env st1 d v _ s1 e1 q1 ?_
  cases hf : g d env st1 with
  | ok env' st' => rw [bd_ok hf] at hp; exact fun w' H' σ' g2 s2 e2 _ => hp w' H' σ' g2 s2 e2
  | exc e st' => rw [bd_exc hf] at hp; exact hp
  | bad => rw [bd_bad hf] at hp; exact hp
theorem ss_asg {is : List Nat} {tg : Expr} {t : TG} {g : D → Env → M Env} (he : SE X E e ta fa) (hg : SG X E is tg t g) (hs : swapsWithSole [tg] e pos.line X.env = pure false := by rfl) (hw : swappedStores [tg] e X.env = pure none := by rfl)
    (h1 : (assignEach [tg] X.env).map (·.2) = [assign tg X.env] := by rfl) : SS X E (.Assign [tg] e pos) (tAsg ta t) (asgS fa g) := ⟨ps_asg he.pe hg.pg hs hw h1, rf_asg he.rf hg.rf⟩
theorem ss_set {i : Nat} {x : Str} {pos' : Pos} (hN : X.N.Nodup) (he : SE X E e ta fa) (hi : X.N[i]? = some x := by rfl) (hx : Loc X.env.scope x := by first | exact Or.inl rfl | exact Or.inr rfl) (hs : swapsWith e (some (.Name x pos')) pos.line X.env = pure false := by rfl) (hf : X.fn x = true ∨ X.env.scope.names.lookup x = some .local := by first | exact .inl rfl | exact .inr rfl) :
    SS X E (.Assign [.Name x pos'] e pos) (tAsg ta (gName i)) (asgS fa (setV i)) :=
  ⟨ps_set hN hi hx he.pe hs hf, rf_asg (is := [i]) he.rf fun w σ H env st d v Q s0 e0 r hp => hp w H _ (Ge.refl _ _) s0 (e0.set i r) fun vs h => wipe_set (h i (by simp))⟩
/-- a, b = x, y -/
def parS (i j : Nat) (fr : Env → M (List D)) : Env → M Fl := fun env => bd (fr env) fun ds => match ds with
  | [d, c] => rt (.nx ((env.set i (some d)).set j (some c)))
  | _ => bad
theorem ss_par {i j : Nat} {x y : Str} {px py pt : Pos} {kt k2 pt2} (hN : X.N.Nodup) (hij : i ≠ j) (ha : SA X E [a, b] tr fr) (hc : X.calm = true := by rfl) (hi : X.N[i]? = some x := by rfl) (hj : X.N[j]? = some y := by rfl)
    (hx : X.env.scope.names.lookup x = some .local := by rfl) (hy : X.env.scope.names.lookup y = some .local := by rfl) (hh : PS X (.Assign [.Tuple [.Name x px, .Name y py] kt pt] (.Tuple [a, b] k2 pt2) pos) (tPar i j tr)) :
    SS X E (.Assign [.Tuple [.Name x px, .Name y py] kt pt] (.Tuple [a, b] k2 pt2) pos) (tPar i j tr) (parS i j fr) := by
  refine ⟨hh, fun w σ H env st Z s0 e0 hp => ?_⟩
  refine ha.rf.stepS s0 e0 hp fun r1 H1 st1 ds vs g1 s1 e1 q1 hp => ?_
  cases q1 with
  | nil => exact hp.elim
  | cons q1 q2 =>
    cases q2 with
    | nil => exact hp.elim
    | cons q2 q3 =>
      cases q3 with
      | nil => exact ⟨_, _, rfl, hp.nxc s1 ((e1.set i q1).set j q2)⟩
      | cons _ _ => exact hp.elim

/-! ### what is walked -/
inductive Src where
  | fix (xs : List PyData)
  | obj (n : Nat)
def ItOk (K : W.Frag) (w : Wd) (H : Hp) (J : It) (xs : List PyData) : Prop :=
  ∀ w' H' st', Mo w H w' H' → RelSt K w' H' st' → (∀ (i : Nat) (x : PyData), xs[i]? = some x → J.go i H' ∧ ∀ v H2, J.yld i H' v H2 → Same H' H2 ∧ Rp K w' H2 x v) ∧ J.stop xs.length H'
def RI (K : W.Frag) (w : Wd) (H : Hp) : Src → It → Prop
  | .fix xs, J => ItOk K w H J xs
  | .obj n, J => ∃ a, w.rho[n]? = some a ∧ J = Itl K a
theorem ItOk.mono {K : W.Frag} {w w' : Wd} {H H' : Hp} {J : It} {xs : List PyData} (g : Mo w H w' H') (h : ItOk K w H J xs) : ItOk K w' H' J xs := fun w2 H2 st2 g2 s2 => h w2 H2 st2 (g.trans g2) s2
structure SI (X : Cx) (E : XK) (tg iter : Expr) (t : TI) (f : Env → M Src) : Prop where
  pi : PI X tg iter t
  rf : Rf X.K E (RI X.K) t f
def forF (body : PyData → Env → M Fl) : List PyData → Env → M Fl
  | [], env => rt (.nx env)
  | x :: r, env => bd (body x env) fun f => match f with
    | .nx env' => forF body r env'
    | .ct env' => forF body r env'
    | .bk env' => rt (.nx env')
    | .rt d => rt (.rt d)
/-- over an object that may change: turn by turn -/
def forO (body : PyData → Env → M Fl) (n : Nat) : Nat → Nat → Env → M Fl
  | 0, _, _ => bad
  | m + 1, i, env => fun st => match st[n]? with
    | some (.lst xs) => match xs[i]? with
      | none => .ok (.nx env) st
      | some x => bd (body x env) (fun f => match f with
        | .nx env' => forO body n m (i + 1) env'
        | .ct env' => forO body n m (i + 1) env'
        | .bk env' => rt (.nx env')
        | .rt d => rt (.rt d)) st
    | _ => .bad
def forS (m : Nat) (fi : Env → M Src) (g : D → Env → M Env) (fb : Env → M Fl) : Env → M Fl := fun env => bd (fi env) fun s => match s with
  | .fix xs => forF (fun x env => bd (g (.val x) env) fb) xs env
  | .obj n => forO (fun x env => bd (g (.val x) env) fb) n m 0 env
theorem rf_for {K : W.Frag} {m0 : Nat} {ti : TI} {tg : TG} {fi : Env → M Src} {is : List Nat} {g : D → Env → M Env} (hi : Rf K E (RI K) ti fi) (hg : RfG K E is tg g) (hb : RfS K E ts fs) : RfS K E (tFor ti tg ts) (forS m0 fi g fs) := by
  intro w σ H env st Z s0 e0 hp
  refine hi.stepS s0 e0 hp fun w1 H1 st1 s J g1 s1 e1 q1 hp => ?_
  cases s with
  | fix xs =>
    simp only at hp
    let W : Nat → Nat → St → Hp → Prop := fun i m σ H => ∃ w env st, Ge w1 H1 w H ∧ RelSt K w H st ∧ RelEnv K w H env σ ∧ i ≤ xs.length ∧ m = xs.length - i ∧ PostS K E w H (forF (fun x env => bd (g (.val x) env) fs) (xs.drop i) env st) Z
    refine ⟨W, ⟨xs.length, w1, env, st1, Ge.refl _ _, s1, e1, Nat.zero_le _, rfl, hp⟩, ?_⟩
    rintro i m σ2 H2 ⟨w2, env2, st2, g2, s2, e2, hil, rfl, hp2⟩
    obtain ⟨yes, no⟩ := q1 w2 H2 st2 g2.mo s2
    by_cases hlt : i < xs.length
    · right
      have ex : xs[i]? = some xs[i] := by simp [hlt]
      have ed : xs.drop i = xs[i] :: xs.drop (i + 1) := List.drop_eq_getElem_cons hlt
      obtain ⟨go, yld⟩ := yes i _ ex
      refine ⟨go, fun σ' H' => W (i + 1) (xs.length - (i + 1)) σ' H', fun σ' H' h => ⟨_, by omega, h⟩, fun v H3 hy => ?_⟩
      obtain ⟨sm, rx⟩ := yld v H3 hy
      rw [ed] at hp2
      unfold forF at hp2
      have g3 : Ge w2 H2 w2 H3 := .same sm
      refine hg w2 σ2 H3 env2 st2 (.val xs[i]) v _ (s2.same sm) (e2.mono g3) rx ?_
      have hp3 := hp2.mono g3
      cases hf : g (.val xs[i]) env2 st2 with
      | ok env' st' =>
        intro w4 H4 σ4 g4 s4 e4 _
        refine hb w4 σ4 H4 env' st' _ s4 e4 ?_
        have hp4 := hp3.mono g4
        have eb : bd (g (.val xs[i]) env2) fs st2 = fs env' st' := bd_ok hf
        cases hr : fs env' st' with
        | ok r st5 =>
          rw [bd_ok (eb.trans hr)] at hp4
          cases r with
          | nx env5 => exact fun w5 H5 σ5 g5 s5 e5 => ⟨w5, env5, st5, g2.trans (g3.trans (g4.trans g5)), s5, e5, hlt, rfl, hp4.mono g5⟩
          | ct env5 => exact fun w5 H5 σ5 g5 s5 e5 => ⟨w5, env5, st5, g2.trans (g3.trans (g4.trans g5)), s5, e5, hlt, rfl, hp4.mono g5⟩
          | bk env5 => exact hp4
          | rt d => exact hp4
        | exc e st5 => rw [bd_exc (eb.trans hr)] at hp4; exact hp4
        | bad => rw [bd_bad (eb.trans hr)] at hp4; exact hp4
      | exc e st' => rw [bd_exc (bd_exc hf)] at hp3; exact hp3
      | bad => rw [bd_bad (bd_bad hf)] at hp3; exact hp3
    · left
      have e : i = xs.length := by omega
      subst e
      refine ⟨no, ?_⟩
      rw [List.drop_length] at hp2
      exact hp2.nxc s2 e2
  | obj n =>
    obtain ⟨a, ha, rfl⟩ := q1
    simp only at hp
    let W : Nat → Nat → St → Hp → Prop := fun i m σ H => ∃ w env st, Ge w1 H1 w H ∧ RelSt K w H st ∧ RelEnv K w H env σ ∧ PostS K E w H (forO (fun x env => bd (g (.val x) env) fs) n m i env st) Z
    refine ⟨W, ⟨m0, w1, env, st1, Ge.refl _ _, s1, e1, hp⟩, ?_⟩
    rintro i m σ2 H2 ⟨w2, env2, st2, g2, s2, e2, hp2⟩
    cases m with
    | zero => exact hp2.elim
    | succ m =>
      unfold forO at hp2
      cases ho : st2[n]? with
      | none => simp only [ho] at hp2; exact hp2.elim
      | some o =>
        cases o with
        | lst xs =>
          simp only [ho] at hp2
          obtain ⟨vs, ev, rv⟩ := s2.obj n _ a ho (g2.get ha)
          cases hx : xs[i]? with
          | none =>
            left
            simp only [hx] at hp2
            refine ⟨⟨vs, SqL.of ev, ?_⟩, hp2.nxc s2 e2⟩
            rw [← rv.length]
            exact List.getElem?_eq_none_iff.mp hx
          | some x =>
            right
            simp only [hx] at hp2
            obtain ⟨v, hv, rx⟩ := rv.get hx
            refine ⟨⟨vs, v, SqL.of ev, hv⟩, fun σ' H' => W (i + 1) m σ' H', fun σ' H' h => ⟨m, Nat.lt_succ_self _, h⟩, fun v' H3 hy => ?_⟩
            obtain ⟨e3, hy⟩ := hy
            subst e3
            have e4 : v' = v := by
              have q := hy vs (SqL.of ev)
              rw [hv] at q
              exact (Option.some.inj q).symm
            subst e4
            refine hg w2 σ2 _ env2 st2 (.val x) v' _ s2 e2 rx ?_
            cases hf : g (.val x) env2 st2 with
            | ok env' st' =>
              intro w4 H4 σ4 g4 s4 e4 _
              refine hb w4 σ4 H4 env' st' _ s4 e4 ?_
              have hp4 := hp2.mono g4
              have eb : bd (g (.val x) env2) fs st2 = fs env' st' := bd_ok hf
              cases hr : fs env' st' with
              | ok r st5 =>
                rw [bd_ok (eb.trans hr)] at hp4
                cases r with
                | nx env5 => exact fun w5 H5 σ5 g5 s5 e5 => ⟨w5, env5, st5, g2.trans (g4.trans g5), s5, e5, hp4.mono g5⟩
                | ct env5 => exact fun w5 H5 σ5 g5 s5 e5 => ⟨w5, env5, st5, g2.trans (g4.trans g5), s5, e5, hp4.mono g5⟩
                | bk env5 => exact hp4
                | rt d => exact hp4
              | exc e st5 => rw [bd_exc (eb.trans hr)] at hp4; exact hp4
              | bad => rw [bd_bad (eb.trans hr)] at hp4; exact hp4
            | exc e st' => rw [bd_exc (bd_exc hf)] at hp2; exact hp2
            | bad => rw [bd_bad (bd_bad hf)] at hp2; exact hp2
        | _ => simp only [ho] at hp2; exact hp2.elim
theorem ss_for (m0 : Nat) {iter tg : Expr} {is : List Nat} {ti : TI} {t : TG} {fi : Env → M Src} {g : D → Env → M Env} (hp : PassesOwn (model X.prog X.w) X.A X.env X.xe) (hi : SI X E tg iter ti fi) (hg : SG X E is tg t g) (hb : SSs X E ss ts fs) (hc : X.calm = true := by rfl)
    (hs : ∀ x, foldedSetIterable iter X.env x = pure x := by intro _; rfl) : SS X E (.For tg iter ss [] pos) (tFor ti t ts) (forS m0 fi g fs) := ⟨ps_for hp hc hi.pi hg.pg hb.ps hs, rf_for hi.rf hg.rf hb.rf⟩
/-! ### while -/
def whF (ft : Env → M Bool) (fb : Env → M Fl) : Nat → Env → M Fl
  | 0, _ => bad
  | m + 1, env => bd (ft env) fun b => if b = true then bd (fb env) fun f => (match f with
    | .nx env' => whF ft fb m env'
    | .ct env' => whF ft fb m env'
    | .bk env' => rt (.nx env')
    | .rt d => rt (.rt d)) else rt (.nx env)
theorem rf_while {K : W.Frag} (m0 : Nat) (hc : Rf K E RB tt ft) (hb : RfS K E ts fs) : RfS K E (tWhile tt ts) (whF ft fs m0) := by
  intro w σ H env st Z s0 e0 hp
  let W : Nat → St → Hp → Prop := fun m σ H => ∃ w env st, RelSt K w H st ∧ RelEnv K w H env σ ∧ PostS K E w H (whF ft fs m env st) Z
  refine ⟨W, ⟨m0, w, env, st, s0, e0, hp⟩, ?_⟩
  rintro m σ2 H2 ⟨w2, env2, st2, s2, e2, hp2⟩
  cases m with
  | zero => exact (show False from hp2).elim
  | succ m =>
    unfold whF at hp2
    refine hc.stepS s2 e2 hp2 fun w3 H3 st3 b b' g3 s3 e3 q3 hp3 => ?_
    cases q3
    cases b with
    | false => exact hp3.nxc s3 e3
    | true =>
      refine ⟨fun σ' H' => W m σ' H', fun σ' H' h => ⟨m, Nat.lt_succ_self _, h⟩, ?_⟩
      refine hb w3 σ2 H3 env2 st3 _ s3 e3 ?_
      rw [if_pos rfl] at hp3
      cases hr : fs env2 st3 with
      | ok r st5 =>
        rw [bd_ok hr] at hp3
        cases r with
        | nx env5 => exact fun w5 H5 σ5 g5 s5 e5 => ⟨w5, env5, st5, s5, e5, hp3.mono g5⟩
        | ct env5 => exact fun w5 H5 σ5 g5 s5 e5 => ⟨w5, env5, st5, s5, e5, hp3.mono g5⟩
        | bk env5 => exact hp3
        | rt d => exact hp3
      | exc e st5 => rw [bd_exc hr] at hp3; exact hp3
      | bad => rw [bd_bad hr] at hp3; exact hp3
theorem ss_while (m0 : Nat) (hp : PassesOwn (model X.prog X.w) X.A X.env X.xe) (hc : ST X E c tt ft) (hb : SSs X E ss ts fs) : SS X E (.While c ss [] pos) (tWhile tt ts) (whF ft fs m0) := ⟨ps_while hp hc.pt hb.ps, rf_while m0 hc.rf hb.rf⟩
end

end B
/-! BL4: list comprehensions. -/
namespace B
open PySem L2
variable [Nm] [Gd]

abbrev Wd.prot (w : Wd) (p : Addr) : Wd := ⟨w.rho, p :: w.ext⟩
def hide (H : Hp) (p : Addr) : Hp := fun b => if b = p then none else H b
theorem hide_same {H : Hp} {p : Addr} : hide H p p = none := by unfold hide; rw [if_pos rfl]
theorem hide_ne {H : Hp} {p b : Addr} (h : b ≠ p) : hide H p b = H b := by unfold hide; rw [if_neg h]
theorem upd_hide {H : Hp} {p : Addr} {o : HO} : upd (hide H p) p o = upd H p o := by
  funext b; unfold upd hide; split <;> rfl
theorem Mo.prot {K : W.Frag} {w : Wd} {H : Hp} {st : Store} {p : Addr} {o : HO} (hs : RelSt K w H st) (hp : H p = none) : Mo w H (w.prot p) (upd H p o) := by
  refine ⟨fun a u _ n h => ?_, fun _ _ h => h⟩
  have ne := ne_of_none h hp
  refine ⟨fun q => ?_, by rw [upd_ne ne]; exact h⟩
  rcases List.mem_append.mp q with q | q
  · exact n (List.mem_append_left _ q)
  · rcases List.mem_cons.mp q with q | q
    · exact ne q
    · exact n (List.mem_append_right _ q)
theorem RelSt.prot {K : W.Frag} {w : Wd} {H : Hp} {st : Store} {p : Addr} {o : HO} (hs : RelSt K w H st) (hp : H p = none) : RelSt K (w.prot p) (upd H p o) st := by
  have np := hs.notin hp
  refine ⟨hs.len, hs.nd, fun a h => ?_, fun a h q => ?_, fun n q a e1 e2 => ?_, hs.tab.ext (Same.new hp), Gd.sb (Mo.prot hs hp).sub hs.inv⟩
  · rcases List.mem_cons.mp h with e | h
    · exact ⟨o, by rw [e, upd_same]⟩
    · obtain ⟨u, e⟩ := hs.trk a h
      exact ⟨u, by rw [upd_ne (ne_of_none e hp)]; exact e⟩
  · rcases List.mem_cons.mp q with e | q
    · exact np (by rw [← e]; exact List.mem_append_left _ h)
    · exact hs.nde a h q
  · have ne : a ≠ p := fun z => np (by rw [← z]; exact List.mem_append_left _ (List.mem_of_getElem? e2))
    exact (hs.obj n q a e1 e2).mo (Mo.prot hs hp) (upd_ne ne)
/-- back from the protected state -/
theorem unprot {K : W.Frag} {w w' : Wd} {H H' : Hp} {st st' : Store} {p : Addr} {o : HO} (hs : RelSt K w H st) (hp : H p = none) (g : Ge (w.prot p) (upd H p o) w' H') (s : RelSt K w' H' st') (o1 : NoT o := by intro _ z; cases z) (o2 : ∀ phi, o ≠ .ext phi := by intro _ z; cases z) :
    ∃ w2, Mo w' H' w2 (hide H' p) ∧ RelSt K w2 (hide H' p) st' ∧ Ge w H w2 (hide H' p) ∧ H' p = some o ∧ w2.rho = w'.rho := by
  have np := hs.notin hp
  obtain ⟨more, e1, e2, hm⟩ := g.pre
  have e2' : w'.ext = p :: w.ext := e2
  have e1' : w'.rho = w.rho ++ more := e1
  have npr : p ∉ w'.rho := fun q => s.nde p q (by rw [e2']; exact List.mem_cons_self)
  have mo : Mo w' H' ⟨w'.rho, w.ext⟩ (hide H' p) := ⟨fun a u _ n h => by
    have ne : a ≠ p := fun z => n (List.mem_append_right _ (by rw [e2', z]; exact List.mem_cons_self))
    refine ⟨fun q => ?_, by rw [hide_ne ne]; exact h⟩
    rcases List.mem_append.mp q with q | q
    · exact n (List.mem_append_left _ q)
    · exact n (List.mem_append_right _ (by rw [e2']; exact List.mem_cons_of_mem _ q)), fun _ _ h => h⟩
  have hpo : H' p = some o := g.keep p o o1 (fun q => np (List.mem_append_left _ q)) upd_same
  have tb : LamX.Tabs Nm.tb (hide H' p) := fun t ht => by
    obtain ⟨ps, h1, h2, h3⟩ := s.tab t ht
    refine ⟨ps, by rw [hide_ne (fun z => by rw [z, hpo] at h1; exact o1 _ (Option.some.inj h1))]; exact h1, h2, fun pos cv hc => ?_⟩
    obtain ⟨c, e1, e2⟩ := h3 pos cv hc
    exact ⟨c, e1, by rw [hide_ne (fun z => by rw [z, hpo] at e2; exact o2 _ (Option.some.inj e2))]; exact e2⟩
  refine ⟨⟨w'.rho, w.ext⟩, mo, ⟨s.len, s.nd, fun a h => ?_, fun a h q => s.nde a h (by rw [e2']; exact List.mem_cons_of_mem _ q), fun n q a h1 h2 => ?_, tb, Gd.sb mo.sub s.inv⟩, ⟨⟨more, e1', rfl, fun q hq => ?_⟩, fun a u t n h => ?_, fun a u n h => ?_⟩, hpo, rfl⟩
  · obtain ⟨u, e⟩ := s.trk a (by rw [e2']; exact List.mem_cons_of_mem _ h)
    exact ⟨u, by rw [hide_ne (fun z => np (by rw [← z]; exact List.mem_append_right _ h))]; exact e⟩
  · have ne : a ≠ p := fun z => npr (by rw [← z]; exact List.mem_of_getElem? h2)
    exact (s.obj n q a h1 h2).mo mo (hide_ne ne)
  · obtain ⟨n1, n2⟩ := hm q hq
    have ne : q ≠ p := fun z => by rw [z, upd_same] at n2; cases n2
    rw [upd_ne ne] at n2
    refine ⟨fun z => n1 ?_, n2⟩
    rcases List.mem_append.mp z with z | z
    · exact List.mem_append_left _ z
    · exact List.mem_append_right _ (List.mem_cons_of_mem _ z)
  · have ne : a ≠ p := ne_of_none h hp
    rw [hide_ne ne]
    exact g.keep a u t n (by rw [upd_ne ne]; exact h)
  · have ne : a ≠ p := ne_of_none h hp
    rw [hide_ne ne]
    exact g.there a u n (by rw [upd_ne ne]; exact h)

/-! ### the turns -/
def noX {α : Type} (m : M α) : M α := fun st => match m st with
  | .exc _ _ => .bad
  | r => r
theorem noX_ok {α : Type} {m : M α} {st st' : Store} {a : α} (h : m st = .ok a st') : noX m st = .ok a st' := by unfold noX; rw [h]
theorem noX_exc {α : Type} {m : M α} {st st' : Store} {e : Ex} (h : m st = .exc e st') : noX m st = .bad := by unfold noX; rw [h]
theorem noX_bad {α : Type} {m : M α} {st : Store} (h : m st = .bad) : noX m st = .bad := by unfold noX; rw [h]
/-- what is wanted behind a turn -/
def PostN (K : W.Frag) (p : Addr) (w : Wd) (H : Hp) (r : Res (List PyData)) (Nx : Hp → Prop) : Prop :=
  match r with
  | .ok acc st' => ∀ w' H' vs, Ge w H w' H' → RelSt K w' H' st' → H' p = none → Rps K w' H' acc vs → Nx (upd H' p (.lst vs))
  | _ => False
theorem PostN.mono {K : W.Frag} {p : Addr} {w w' : Wd} {H H' : Hp} {r : Res (List PyData)} {Nx : Hp → Prop} (g : Ge w H w' H') (h : PostN K p w H r Nx) : PostN K p w' H' r Nx := by
  cases r with
  | ok acc st => exact fun w2 H2 vs g2 => h w2 H2 vs (g.trans g2)
  | exc e st => exact h
  | bad => exact h
abbrev TN := Addr → St → Hp → (Hp → Prop) → Prop
def RfN (K : W.Frag) (t : TN) (f : Env → List PyData → M (List PyData)) : Prop :=
  ∀ p w σ H env st acc vs Nx, RelSt K w H st → RelEnv K w H env σ → H p = none → Rps K w H acc vs → PostN K p w H (f env acc st) Nx → t p σ (upd H p (.lst vs)) Nx
/-- the innermost: test, element -/
def tIn (tt : TT) (te : TE) : TN := fun p σ2 H2 Nx => tt σ2 H2 fun b H3 => if b = true then te σ2 H3 fun y H4 => ∃ acc, H4 p = some (.lst acc) ∧ acc.length < sizeLine ∧ Nx (upd H4 p (.lst (acc ++ [y]))) else Nx H3
def lcIn (ft : Env → M Bool) (fe : Env → M D) (env : Env) (acc : List PyData) : M (List PyData) :=
  bd (noX (ft env)) fun b => if b = true then bd (noX (fe env)) fun d => (match d with
    | .val y => if acc.length < sizeLine then rt (acc ++ [y]) else bad
    | _ => bad) else rt acc
/-- a step within the protected state -/
theorem Rf.stepN {α β : Type} {K : W.Frag} {R : Wd → Hp → α → β → Prop} {t : St → Hp → (β → Hp → Prop) → Prop} {f : Env → M α} (h : Rf K E0 R t f)
    {p : Addr} {w : Wd} {σ : St} {H : Hp} {env : Env} {st : Store} {vs : List V} {g : α → M (List PyData)} {Nx : Hp → Prop} {U : β → Hp → Prop} (hs : RelSt K w H st) (he : RelEnv K w H env σ) (hn : H p = none) (hp : PostN K p w H (bd (noX (f env)) g st) Nx)
    (k : ∀ w1 H1 w2 st' a b, RelSt K w1 H1 st' → R w1 H1 a b → Mo w1 H1 w2 (hide H1 p) → w2.rho = w1.rho → RelSt K w2 (hide H1 p) st' → Ge w H w2 (hide H1 p) → H1 p = some (.lst vs) → PostN K p w2 (hide H1 p) (g a st') Nx → U b H1) : t σ (upd H p (.lst vs)) U := by
  refine h (w.prot p) σ _ env st _ (hs.prot hn) (he.mo (Mo.prot hs hn)) ?_
  cases hf : f env st with
  | ok a st' =>
    rw [bd_ok (noX_ok hf)] at hp
    intro w1 H1 b g1 s1 q1
    obtain ⟨w2, mo, s2, g2, hD, er⟩ := unprot hs hn g1 s1
    exact k w1 H1 w2 st' a b s1 q1 mo er s2 g2 hD (hp.mono g2)
  | exc e st' => rw [bd_bad (noX_exc hf)] at hp; exact hp.elim
  | bad => rw [bd_bad (noX_bad hf)] at hp; exact hp.elim
theorem upd_self {H : Hp} {p : Addr} {o : HO} (h : H p = some o) : upd H p o = H := by
  funext b
  by_cases e : b = p
  · rw [e, upd_same, h]
  · rw [upd_ne e]
theorem rfn_in {K : W.Frag} {tt : TT} {te : TE} {ft : Env → M Bool} {fe : Env → M D} (ht : Rf K E0 RB tt ft) (he : Rf K E0 (RE K) te fe) : RfN K (tIn tt te) (lcIn ft fe) := by
  intro p w σ H env st acc vs Nx s0 e0 n0 q0 hp
  refine ht.stepN s0 e0 n0 hp fun w1 H1 w2 st1 b b' s1 r1 mo er s2 g2 hD hp => ?_
  cases r1
  have hh : upd (hide H1 p) p (.lst vs) = H1 := by rw [upd_hide, upd_self hD]
  cases b with
  | false =>
    rw [if_neg Bool.false_ne_true] at hp ⊢
    have := hp w2 _ vs (Ge.refl _ _) s2 hide_same (q0.mono g2)
    rw [hh] at this
    exact this
  | true =>
    rw [if_pos rfl] at hp ⊢
    rw [← hh]
    refine he.stepN s2 (e0.mono g2) hide_same hp fun w3 H3 w4 st3 d v s3 r3 mo3 er3 s4 g4 hD3 hp => ?_
    cases d with
    | val y =>
      simp only at hp
      split at hp
      · rename_i hl
        refine ⟨vs, hD3, by rw [← q0.length]; exact hl, ?_⟩
        have := hp w4 _ (vs ++ [v]) (Ge.refl _ _) s4 hide_same (((q0.mono g2).mono g4).append (.cons (Rp.mo mo3 r3) .nil))
        rw [upd_hide] at this
        exact this
      · exact hp.elim
    | _ => exact hp.elim
/-! ### a loop of turns -/
def lcF (g : D → Env → M Env) (inner : Env → List PyData → M (List PyData)) (env : Env) : List PyData → List PyData → M (List PyData)
  | [], acc => rt acc
  | x :: r, acc => bd (noX (g (.val x) env)) fun env' => bd (inner env' acc) fun acc' => lcF g inner env r acc'
def lcO (g : D → Env → M Env) (inner : Env → List PyData → M (List PyData)) (n : Nat) (env : Env) : Nat → Nat → List PyData → M (List PyData)
  | 0, _, _ => bad
  | m + 1, i, acc => fun st => match st[n]? with
    | some (.lst xs) => match xs[i]? with
      | none => .ok acc st
      | some x => bd (noX (g (.val x) env)) (fun env' => bd (inner env' acc) fun acc' => lcO g inner n env m (i + 1) acc') st
    | _ => .bad
def lcL (m : Nat) (g : D → Env → M Env) (inner : Env → List PyData → M (List PyData)) (env : Env) (s : Src) (acc : List PyData) : M (List PyData) := match s with
  | .fix xs => lcF g inner env xs acc
  | .obj n => lcO g inner n env m 0 acc
def LcLoop (J : It) (g : TG) (t : TN) (p : Addr) (vs : List Nat) (σ : St) (H : Hp) (Fin : Hp → Prop) : Prop :=
  ∃ W : Nat → Nat → Hp → Prop, (∃ m, W 0 m H) ∧ ∀ i m H, W i m H →
    (J.stop i H ∧ Fin H) ∨ (J.go i H ∧ ∃ Nx : Hp → Prop, (∀ H', Nx H' → ∃ m', m' < m ∧ W (i + 1) m' H') ∧ ∀ x H', J.yld i H x H' → g x (wipe σ vs) H' fun σ2 H2 => wipe σ2 vs = wipe σ vs ∧ t p σ2 H2 Nx)
theorem RelEnv.wiped {K : W.Frag} {w : Wd} {H : Hp} : ∀ {vs : List Nat} {env : Env} {σ : St}, RelEnv K w H env σ → RelEnv K w H (B.kill vs env) (wipe σ vs) := by
  intro vs env σ h
  refine ⟨by rw [wipe_length, (h.kills vs).len], fun i d e => ?_⟩
  have keep : ∀ (l : List Nat) (en : Env) (i : Nat) (d : D), (B.kill l en)[i]? = some (some d) → i ∉ l ∧ en[i]? = some (some d) := by
    intro l
    induction l with
    | nil => intro en i d e; exact ⟨by simp, e⟩
    | cons x l ih =>
      intro en i d e
      obtain ⟨h1, h2⟩ := ih (en.set x none) i d e
      by_cases hx : i = x
      · subst hx
        have hl : i < en.length := by
          have := (List.getElem?_eq_some_iff.mp h2).1
          simpa using this
        rw [List.getElem?_set_self hl] at h2
        cases h2
      · rw [List.getElem?_set_ne (Ne.symm hx)] at h2
        exact ⟨by simp [hx, h1], h2⟩
  obtain ⟨h1, h2⟩ := keep vs env i d e
  obtain ⟨v, e1, r⟩ := h.get i d h2
  exact ⟨v, by rw [wipe_out h1]; exact e1, r⟩
theorem ItOk.prot {K : W.Frag} {w : Wd} {H : Hp} {J : It} {xs : List PyData} {st : Store} {p : Addr} {o : HO} (h : ItOk K w H J xs) (hs : RelSt K w H st) (hp : H p = none) {i : Nat} {x : PyData} (hx : xs[i]? = some x) :
    J.go i (upd H p o) ∧ ∀ v H2, J.yld i (upd H p o) v H2 → Same (upd H p o) H2 ∧ Rp K (w.prot p) H2 x v := (h (w.prot p) _ st (Mo.prot hs hp) (hs.prot hp)).1 i x hx
theorem lc_loop {K : W.Frag} {m0 : Nat} {J : It} {tg : TG} {t : TN} {is vs0 : List Nat} {g : D → Env → M Env} {inner : Env → List PyData → M (List PyData)} (hg : RfG K E0 is tg g) (hi : RfN K t inner) (his : ∀ i ∈ is, i ∈ vs0)
    {w : Wd} {σ : St} {H : Hp} {env : Env} {st : Store} {s : Src} {acc : List PyData} {vs : List V} {p : Addr} {Fin : Hp → Prop} (hs : RelSt K w H st) (he : RelEnv K w H env σ) (hn : H p = none) (hq : Rps K w H acc vs) (hJ : RI K w H s J)
    (hp : PostN K p w H (lcL m0 g inner (kill vs0 env) s acc st) Fin) : LcLoop J tg t p vs0 σ (upd H p (.lst vs)) Fin := by
  have turn : ∀ (w2 : Wd) (H2 : Hp) (st2 : Store) (acc2 : List PyData) (vs2 : List V) (x : PyData) (v : V) (H3 : Hp) (rest : List PyData → M (List PyData)) (Nx : Hp → Prop), Ge w H w2 H2 → RelSt K w2 H2 st2 → H2 p = none → Rps K w2 H2 acc2 vs2 →
      Same (upd H2 p (.lst vs2)) H3 → Rp K (w2.prot p) H3 x v → PostN K p w2 H2 (bd (noX (g (.val x) (kill vs0 env))) (fun env' => bd (inner env' acc2) rest) st2) Fin →
      (∀ w4 H4 st4 acc4 vs4, Ge w H w4 H4 → RelSt K w4 H4 st4 → H4 p = none → Rps K w4 H4 acc4 vs4 → PostN K p w4 H4 (rest acc4 st4) Fin → Nx (upd H4 p (.lst vs4))) →
      tg v (wipe σ vs0) H3 fun σ2 H2 => wipe σ2 vs0 = wipe σ vs0 ∧ t p σ2 H2 Nx := by
    intro w2 H2 st2 acc2 vs2 x v H3 rest Nx g2 s2 n2 q2 sm rx hp2 hN
    have e2 : RelEnv K w2 H2 (kill vs0 env) (wipe σ vs0) := (he.mono g2).wiped
    have s2p := s2.prot (o := .lst vs2) n2
    have g3 : Ge (w2.prot p) (upd H2 p (.lst vs2)) (w2.prot p) H3 := .same sm
    refine hg (w2.prot p) (wipe σ vs0) H3 (kill vs0 env) st2 (.val x) v _ (s2p.same sm) ((e2.mo (Mo.prot s2 n2)).mono g3) rx ?_
    cases hf : g (.val x) (kill vs0 env) st2 with
    | ok env' st' =>
      rw [bd_ok (noX_ok hf)] at hp2
      intro w4 H4 σ4 g4 s4 e4 ww
      refine ⟨(ww vs0 his).trans ?_, ?_⟩
      · have : ∀ (l : List Nat) (τ : St), wipe (wipe τ l) l = wipe τ l := fun l τ => by
          apply List.ext_getElem?
          intro i
          by_cases hi : i ∈ l
          · have key : ∀ (l : List Nat) (τ : St), i ∈ l → (wipe τ l)[i]? = if i < τ.length then some none else none := by
              intro l
              induction l with
              | nil => intro τ h; simp at h
              | cons y l ih =>
                intro τ h
                unfold wipe
                by_cases hy : i = y
                · subst hy
                  by_cases hl : i < τ.length
                  · rw [List.getElem?_set_self (by rw [wipe_length]; exact hl), if_pos hl]
                  · rw [if_neg hl, List.getElem?_eq_none (by rw [List.length_set, wipe_length]; omega)]
                · rw [List.getElem?_set_ne (Ne.symm hy)]
                  exact ih τ (by
                    rcases List.mem_cons.mp h with e | e
                    · exact absurd e hy
                    · exact e)
            rw [key l _ hi, key l _ hi, wipe_length]
          · rw [wipe_out hi]
        exact this vs0 σ
      · obtain ⟨w5, mo5, s5, g5, hD5, er5⟩ := unprot s2 n2 (g3.trans g4) s4
        have hh : upd (hide H4 p) p (.lst vs2) = H4 := by rw [upd_hide, upd_self hD5]
        rw [← hh]
        refine hi p w5 σ4 (hide H4 p) env' st' acc2 vs2 Nx s5 (e4.mo mo5) hide_same (q2.mono g5) ?_
        have hp5 := hp2.mono g5
        cases hr : inner env' acc2 st' with
        | ok acc6 st6 =>
          rw [bd_ok hr] at hp5
          exact fun w6 H6 vs6 g6 s6 n6 q6 => hN w6 H6 st6 acc6 vs6 (g2.trans (g5.trans g6)) s6 n6 q6 (hp5.mono g6)
        | exc e st6 => rw [bd_exc hr] at hp5; exact hp5.elim
        | bad => rw [bd_bad hr] at hp5; exact hp5.elim
    | exc e st' => rw [bd_bad (noX_exc hf)] at hp2; exact hp2.elim
    | bad => rw [bd_bad (noX_bad hf)] at hp2; exact hp2.elim
  cases s with
  | fix xs =>
    let W : Nat → Nat → Hp → Prop := fun i m H' => ∃ w2 H2 st2 acc2 vs2, H' = upd H2 p (.lst vs2) ∧ Ge w H w2 H2 ∧ RelSt K w2 H2 st2 ∧ H2 p = none ∧ Rps K w2 H2 acc2 vs2 ∧ i ≤ xs.length ∧ m = xs.length - i ∧ PostN K p w2 H2 (lcF g inner (kill vs0 env) (xs.drop i) acc2 st2) Fin
    refine ⟨W, ⟨xs.length, w, H, st, acc, vs, rfl, Ge.refl _ _, hs, hn, hq, Nat.zero_le _, rfl, hp⟩, ?_⟩
    rintro i m H' ⟨w2, H2, st2, acc2, vs2, rfl, g2, s2, n2, q2, hil, rfl, hp2⟩
    have J2 : ItOk K w2 H2 J xs := ItOk.mono g2.mo hJ
    by_cases hlt : i < xs.length
    · right
      have ex : xs[i]? = some xs[i] := by simp [hlt]
      have ed : xs.drop i = xs[i] :: xs.drop (i + 1) := List.drop_eq_getElem_cons hlt
      obtain ⟨go, yld⟩ := J2.prot (o := .lst vs2) s2 n2 ex
      refine ⟨go, fun H' => W (i + 1) (xs.length - (i + 1)) H', fun H' h => ⟨_, by omega, h⟩, fun v H3 hy => ?_⟩
      obtain ⟨sm, rx⟩ := yld v H3 hy
      rw [ed] at hp2
      unfold lcF at hp2
      exact turn w2 H2 st2 acc2 vs2 xs[i] v H3 _ _ g2 s2 n2 q2 sm rx hp2 fun w4 H4 st4 acc4 vs4 g4 s4 n4 q4 hp4 => ⟨w4, H4, st4, acc4, vs4, rfl, g4, s4, n4, q4, hlt, rfl, hp4⟩
    · left
      have e : i = xs.length := by omega
      subst e
      refine ⟨(J2 w2 _ st2 (Ge.new n2).mo (s2.new n2)).2, ?_⟩
      rw [List.drop_length] at hp2
      exact hp2 w2 H2 vs2 (Ge.refl _ _) s2 n2 q2
  | obj n =>
    obtain ⟨a, ha, rfl⟩ := hJ
    have npa : a ≠ p := fun z => hs.notin hn (by rw [← z]; exact List.mem_append_left _ (List.mem_of_getElem? ha))
    let W : Nat → Nat → Hp → Prop := fun i m H' => ∃ w2 H2 st2 acc2 vs2, H' = upd H2 p (.lst vs2) ∧ Ge w H w2 H2 ∧ RelSt K w2 H2 st2 ∧ H2 p = none ∧ Rps K w2 H2 acc2 vs2 ∧ PostN K p w2 H2 (lcO g inner n (kill vs0 env) m i acc2 st2) Fin
    refine ⟨W, ⟨m0, w, H, st, acc, vs, rfl, Ge.refl _ _, hs, hn, hq, hp⟩, ?_⟩
    rintro i m H' ⟨w2, H2, st2, acc2, vs2, rfl, g2, s2, n2, q2, hp2⟩
    cases m with
    | zero => exact (show False from hp2).elim
    | succ m =>
      unfold lcO at hp2
      cases ho : st2[n]? with
      | none => simp only [ho] at hp2; exact (show False from hp2).elim
      | some o =>
        cases o with
        | lst xs =>
          simp only [ho] at hp2
          obtain ⟨us, ev, rv⟩ := s2.obj n _ a ho (g2.get ha)
          have ev' : upd H2 p (.lst vs2) a = some (.lst us) := by rw [upd_ne npa]; exact ev
          cases hx : xs[i]? with
          | none =>
            left
            simp only [hx] at hp2
            refine ⟨⟨us, SqL.of ev', ?_⟩, hp2 w2 H2 vs2 (Ge.refl _ _) s2 n2 q2⟩
            rw [← rv.length]
            exact List.getElem?_eq_none_iff.mp hx
          | some x =>
            right
            simp only [hx] at hp2
            obtain ⟨v, hv, rx⟩ := rv.get hx
            refine ⟨⟨us, v, SqL.of ev', hv⟩, fun H' => W (i + 1) m H', fun H' h => ⟨m, Nat.lt_succ_self _, h⟩, fun v' H3 hy => ?_⟩
            obtain ⟨e3, hy⟩ := hy
            subst e3
            have e4 : v' = v := by
              have q := hy us (SqL.of ev')
              rw [hv] at q
              exact (Option.some.inj q).symm
            subst e4
            exact turn w2 H2 st2 acc2 vs2 x v' _ _ _ g2 s2 n2 q2 (Same.refl _) (rx.mo (Mo.prot s2 n2)) hp2 fun w4 H4 st4 acc4 vs4 g4 s4 n4 q4 hp4 => ⟨w4, H4, st4, acc4, vs4, rfl, g4, s4, n4, q4, hp4⟩
        | _ => simp only [ho] at hp2; exact (show False from hp2).elim
/-! ### the comprehension -/
def lcS (m : Nat) (own : List Nat) (fi : Env → M Src) (g : D → Env → M Env) (ft : Env → M Bool) (fe : Env → M D) : Env → M (List PyData) := fun env => bd (fi env) fun s => noX (lcL m g (lcIn ft fe) (kill own env) s [])
theorem rf_lc {K : W.Frag} {E : XK} {m : Nat} {own is : List Nat} {ti : TI} {tg : TG} {tt : TT} {te : TE} {fi : Env → M Src} {g : D → Env → M Env} {ft : Env → M Bool} {fe : Env → M D} (hi : Rf K E (RI K) ti fi) (hg : RfG K E0 is tg g) (his : ∀ i ∈ is, i ∈ own)
    (ht : Rf K E0 RB tt ft) (he : Rf K E0 (RE K) te fe) : RfF K E (tLc ti tg tt te own) (lcS m own fi g ft fe) := by
  intro w σ H env st Q s0 e0 hp
  unfold lcS at hp
  refine hi w σ H env st _ s0 e0 ?_
  cases hf : fi env st with
  | ok s st' =>
    rw [bd_ok hf] at hp
    intro w1 H1 J g1 s1 q1 p np
    refine lc_loop (m0 := m) hg (rfn_in ht he) his s1 (e0.mono g1) np .nil q1 (Fin := fun H' => Q (.ref p) H') ?_
    have hp := hp.mono g1
    cases hr : lcL m g (lcIn ft fe) (kill own env) s [] st' with
    | ok acc st2 =>
      rw [noX_ok hr] at hp
      exact fun w2 H2 vs g2 s2 n2 q2 => hp w2 H2 p vs g2 s2 n2 q2
    | exc e st2 => rw [noX_exc hr] at hp; exact hp.elim
    | bad => rw [noX_bad hr] at hp; exact hp.elim
  | exc e st' => rw [bd_exc hf] at hp; exact hp
  | bad => rw [bd_bad hf] at hp; exact hp
structure STs (X : Cx) (E : XK) (es : List Expr) (t : TT) (f : Env → M Bool) : Prop where
  pt : PTs X es t
  rf : Rf X.K E RB t f
section
variable {X : Cx} {E : XK} {elt tg iter : Expr} {ifs : List Expr} {scope : Scope} {own : List (Str × Nat)} {is : List Nat} {pos : Pos} {ti : TI} {g : TG} {tt : TT} {te : TE} {fi : Env → M Src} {fg : D → Env → M Env} {ft : Env → M Bool} {fe : Env → M D} {t : TT} {f : Env → M Bool} {c : Expr}
def yesT : Env → M Bool := fun _ => rt true
theorem sts_nil : STs X E [] tYes yesT := ⟨pts_nil, fun w σ H env st Q hs he hp => Post.now hp hs rfl⟩
theorem sts_one (h : ST X E c t f) : STs X E [c] t f := ⟨pts_one h.pt, h.rf⟩
theorem sf_lc (m : Nat) (hN : X.N.Nodup) (hi : SI X E tg iter ti fi) (ok : BlkOk X.N X.env.scope scope own)
    (hg : ∀ (s : Shared) (H : Hp) (C : Addr) (cl : List (Str × Addr)) (fp : List Addr), SG (X.blk s H scope (PySem.compEnvC scope cl C X.env) fp) E0 is tg g fg) (ht : ∀ (s : Shared) (H : Hp) (C : Addr) (cl : List (Str × Addr)) (fp : List Addr), STs (X.blk s H scope (PySem.compEnvC scope cl C X.env) fp) E0 ifs tt ft)
    (he : ∀ (s : Shared) (H : Hp) (C : Addr) (cl : List (Str × Addr)) (fp : List Addr), SE (X.blk s H scope (PySem.compEnvC scope cl C X.env) fp) E0 elt te fe) {os : List Nat} (hos : own.map (·.2) = os := by rfl) (his : ∀ i ∈ is, i ∈ os := by decide) (hc : X.calm = true := by rfl) (hs : ∀ x, foldedSetIterable iter X.env x = pure x := by intro _; rfl) :
    SF X E (.ListComp elt [⟨tg, iter, ifs, 0⟩] scope pos) (tLc ti g tt te os) (lcS m os fi fg ft fe) := by
  subst hos
  exact ⟨pe_lc hc hN hi.pi ok (fun s H C cl fp => (hg s H C cl fp).pg) (fun s H C cl fp => (ht s H C cl fp).pt) (fun s H C cl fp => (he s H C cl fp).pe) hs,
    rf_lc hi.rf (hg {} (fun _ => none) 0 [] []).rf his (ht {} (fun _ => none) 0 [] []).rf (he {} (fun _ => none) 0 [] []).rf⟩
end
end B
/-! BL5: defs, their calls (no repr is under way: guards are known), the law's end. -/
namespace B
open PySem L2
variable [Nm] [Gd]

/-- as FnOk, where no guarded builtin is under way -/
structure FnG (P : Program) (w : World) (K : W.Frag) (mg : Str → Option Value) (base : Heap) (k : Nat) (f : Addr) (fd : FuncData) (ps : List Str) (sp : Sp) : Prop where
  size : ∀ vs H Q E, sp vs H Q E → vs.length = ps.length
  goes : ∀ (A : Around) (out : List PySem.Env) (s : Shared) (H : Hp) (args : Args) (us : List Value) (vs : List V) (Q : VK) (E : XK), Room k A → A.guards = some [] → Env0 P w K mg base A out s H →
    BindsTo s fd args (ps.zip us) → Vals vs us → sp vs H Q E → codeAny (model P w) A (.call (.ref f) args) (CR (L2.CX P w) out P w H s Q E) s
theorem FnG.up {P : Program} {w : World} {K : W.Frag} {mg : Str → Option Value} {base : Heap} {j k : Nat} {f : Addr} {fd : FuncData} {ps : List Str} {sp : Sp} (F : FnG P w K mg base j f fd ps sp) (h : j ≤ k) : FnG P w K mg base k f fd ps sp :=
  ⟨F.size, fun A out s H args us vs Q E hr => F.goes A out s H args us vs Q E (hr.mono h)⟩
section
variable {X : Cx} {E : XK} {e : Expr} {es : List Expr} {t tk : TA} {pos p : Pos} {x : Str} {f : Addr} {fd : FuncData} {ps ks : List Str} {k : Nat} {sp : Sp} {kws : List Keyword}
  {g : List Value → List Value → List Value} {gV : List V → List V → List V}
theorem CR.after {pins : List (Addr × Obj)} {σ : St} {H : Hp} {s : Shared} {Q : VK} (hx : Passes (L2.CX X.prog X.w) X E) (I : Inv X pins σ H s) {r : Result} {s' : Shared} (h : CR (L2.CX X.prog X.w) X.stack X.prog X.w H s Q E r s') :
    match r with
    | .ok (.ret u) => EP X pins σ Q u s'
    | .ok _ => False
    | .error e => X.xe e s' := by
  cases r with
  | error e => exact hx pins σ H s e s' I h
  | ok fl => cases fl with
    | ret u => exact I.after h
    | next => exact False.elim h
    | brk => exact False.elim h
    | cont => exact False.elim h
theorem goFn {pins : List (Addr × Obj)} {σ : St} {H : Hp} {s : Shared} {Q : VK} {us : List Value} {vs : List V} (F : FnG X.prog X.w X.K X.mg X.base k f fd ps sp) (hr : Room k X.A) (hG : X.A.guards = some []) (hb : Binds X.K fd ps []) (hx : Passes (L2.CX X.prog X.w) X E)
    (I : Inv X pins σ H s) (r : Vals vs us) (h : sp vs H Q E) : wpAny (model X.prog X.w) X.A (call (.ref f) us) (EP X pins σ Q) X.xe s := by
  have hz : us.length = ps.length := by rw [← r.length]; exact F.size _ _ _ _ h
  have bt := hb s us I.kIn (by rw [List.append_nil]; exact hz)
  rw [List.append_nil] at bt
  refine wpAny_call (codeAny_mono (F.goes X.A X.stack s H ⟨us, []⟩ us vs Q E hr hG I.env0 bt r h) fun r s' hq => ?_)
  have q := CR.after hx I hq
  cases r with
  | error e => exact q
  | ok fl => cases fl with
    | ret u => exact q
    | next => exact False.elim q
    | brk => exact False.elim q
    | cont => exact False.elim q
theorem goFnK {pins : List (Addr × Obj)} {σ : St} {H : Hp} {s : Shared} {Q : VK} {us ws : List Value} {vs zs : List V} (F : FnG X.prog X.w X.K X.mg X.base k f fd ps sp) (hr : Room k X.A) (hG : X.A.guards = some []) (hb : KBinds X.K fd ps ks g gV) (hx : Passes (L2.CX X.prog X.w) X E)
    (I : Inv X pins σ H s) (r : Vals vs us) (rz : Vals zs ws) (h : sp (gV vs zs) H Q E) : wpAny (model X.prog X.w) X.A (call (.ref f) us (ks.zip ws)) (EP X pins σ Q) X.xe s := by
  have rr := hb.rel r rz
  have hz : (g us ws).length = ps.length := by rw [← rr.length]; exact F.size _ _ _ _ h
  refine wpAny_call (codeAny_mono (F.goes X.A X.stack s H ⟨us, ks.zip ws⟩ (g us ws) (gV vs zs) Q E hr hG I.env0 (hb.to s us ws I.kIn hz) rr h) fun r s' hq => ?_)
  have q := CR.after hx I hq
  cases r with
  | error e => exact q
  | ok fl => cases fl with
    | ret u => exact q
    | next => exact False.elim q
    | brk => exact False.elim q
    | cont => exact False.elim q
def tCallG (sp : Sp) (E : XK) (t : TA) : TE := fun σ H Q => t σ H fun vs H1 => sp vs H1 Q E
theorem pg_call (F : FnG X.prog X.w X.K X.mg X.base k f fd ps sp) (hr : Room k X.A) (hG : X.A.guards = some []) (hg : Gl X x) (hm : X.mg x = some (.ref f)) (hk : PySem.W.keepIn X.K (.ref f) = true) (hb : Binds X.K fd ps []) (hx : Passes (L2.CX X.prog X.w) X E)
    (ha : PA X (e :: es) t) (hdb : (x == ("__debug__" : Str)) = false) (he : starEach (e :: es) X.env = (false, eval e X.env) :: starEach es X.env) (hpl : (backTo pos (starEach es X.env)).any (·.1) = false) :
    PE X (.Call (.Name x p) (e :: es) [] pos) (tCallG sp E t) :=
  ⟨fun pins s σ H Q I h => wpAny_Call_Name_kw (ld_glob I hg hm (PySem.W.callWith_K (h₀ := X.base) I.ok.mod.kin hk (thn (ha.run pos pins s σ H _ I h) fun us s1 ⟨vs, H1, I1, r, q⟩ => ⟨I1.kIn, goFn F hr hG hb hx I1 r q⟩) he hpl) hdb)⟩
theorem pg_call0 (F : FnG X.prog X.w X.K X.mg X.base k f fd ps sp) (hr : Room k X.A) (hG : X.A.guards = some []) (hg : Gl X x) (hm : X.mg x = some (.ref f)) (hk : PySem.W.keepIn X.K (.ref f) = true) (hb : Binds X.K fd ps []) (hx : Passes (L2.CX X.prog X.w) X E)
    (hdb : (x == ("__debug__" : Str)) = false) : PE X (.Call (.Name x p) [] [] pos) (tCallG sp E tNil) :=
  ⟨fun pins s σ H Q I h => wpAny_Call_Name_kw (ld_glob I hg hm (PySem.W.callWith_K0 I.kIn hk (goFn (us := []) F hr hG hb hx I .nil h)) hdb)⟩
def tCallGK (sp : Sp) (gV : List V → List V → List V) (E : XK) (t tk : TA) : TE := fun σ H Q => t σ H fun vs H1 => tk σ H1 fun zs H2 => sp (gV vs zs) H2 Q E
theorem pg_callK (F : FnG X.prog X.w X.K X.mg X.base k f fd ps sp) (hr : Room k X.A) (hG : X.A.guards = some []) (hg : Gl X x) (hm : X.mg x = some (.ref f)) (hk : PySem.W.keepIn X.K (.ref f) = true) (hb : KBinds X.K fd ps ks g gV) (hx : Passes (L2.CX X.prog X.w) X E)
    (ha : PA X (e :: es) t) (hkw : PK X kws tk) (hall : (backToKw pos (keywordEach kws X.env)).all (·.1.isSome) = true) (hks : (backToKw pos (keywordEach kws X.env)).filterMap (·.1) = ks)
    (hdb : (x == ("__debug__" : Str)) = false) (he : starEach (e :: es) X.env = (false, eval e X.env) :: starEach es X.env)
    (hpl : ((backTo pos (starEach (e :: es) X.env)).any (·.1) || (backToKw pos (keywordEach kws X.env)).any (·.1.isNone)) = false) :
    PE X (.Call (.Name x p) (e :: es) kws pos) (tCallGK sp gV E t tk) :=
  ⟨fun pins s σ H Q I h => wpAny_Call_Name_kw (ld_glob I hg hm (PySem.W.callWith_KW (h₀ := X.base) I.ok.mod.kin hk hall (thn (ha.run pos pins s σ H _ I h) fun us s1 ⟨vs, H1, I1, r, q⟩ =>
    thn (hkw.run pos pins s1 σ H1 _ I1 q) fun ws s2 ⟨zs, H2, I2, rz, q2⟩ => ⟨I2.kIn, by rw [hks]; exact goFnK F hr hG hb hx I2 r rz q2⟩) hpl he) hdb)⟩
end
/-- a def's body keeps its promise -/
theorem fnG_of {P : Program} {w : World} {K : W.Frag} {mg : Str → Option Value} {base : Heap} {k : Nat} {f : Addr} {nm qual : Str} {pms : Arguments} {body : List Stmt} {sc : Scope} {dV kV dc pm cdv ct oc : Value} {an od : Option Addr}
    {osl : Array (Option Value)} {N ps : List Str} {sp : Sp} (lk : K.lookup f = some ⟨oc, od, .func (PySem.W.fnOf nm qual pms body sc dV kV dc pm an cdv ct), osl⟩) (hcd : PySem.W.codeIn K cdv qual = true) (S : FnScope N ps sc)
    (size : ∀ vs H Q E, sp vs H Q E → vs.length = ps.length)
    (hbody : ∀ (A : Around) (out : List PySem.Env) (s : Shared) (H : Hp) (vs : List V) (Q : VK) (E : XK), Room k (A.deeper (PyProof.Rows.envOfC qual sc s.heap.objs.size f cdv)) → A.guards = some [] → sp vs H Q E →
      ∃ t, PSs (cxOf (L2.CX P w) P w K mg base N qual sc f cdv A out s H E) body t ∧ t { nx := fun _ H' => Q .non H', rt := Q } (start N vs) H) :
    FnG P w K mg base (k + 1) f (PySem.W.fnOf nm qual pms body sc dV kV dc pm an cdv ct) ps sp := by
  refine ⟨size, fun A out s H args us vs Q E hr hG e0 hb r hsp => ?_⟩
  have hz := size _ _ _ _ hsp
  have inH : K.In s.heap := e0.mod.kin.keeps fun b o e => (e0.bs b o e).1
  have lm : s.heap.NoLimit := e0.mod.nolimit.keeps fun b o e => (e0.bs b o e).1
  have hkd : ∀ y ∈ ps.zip us, sc.names.lookup y.1 = some .local ∨ (sc.names.lookup y.1 = some .cell ∧ ((PySem.cellsFrom (s.heap.objs.size + 1) sc.names []).lookup y.1).isSome = true) := fun ⟨n, v⟩ hy => by
    rcases S.par n (List.of_mem_zip hy).1 with z | z
    · exact .inl z
    · exact .inr ⟨z, PySem.W.cellsFrom_some _ _ _ (.inl z)⟩
  refine codeAny_call_function hr.depth (inH _ _ lk) rfl S.co S.gen rfl (PySem.W.codeRec_of inH hcd) (hb _ _ _ _ ?_)
  refine wpAny_newFunctionEnv_cells S.kind hkd fun env he s1 y => ?_
  subst he
  refine ⟨lm.keeps y.toInCall.keep, codeAny_func ?_⟩
  obtain ⟨t, ht, hq⟩ := hbody A out s H vs Q E (hr.deeper _) hG hsp
  have J : Inv (cxOf (L2.CX P w) P w K mg base N qual sc f cdv A out s H E) [] (start N vs) H s1 := inv_start S hr.hd e0 hz r y
  refine wpAny_mono (ht.run [] s1 (start N vs) H _ J hq) (fun fl s' hs => ?_) fun e s' hs => hs
  have out_ : ∀ {σ' : St} {H' : Hp} {v : V} {u : Value}, Inv (cxOf (L2.CX P w) P w K mg base N qual sc f cdv A out s H E) [] σ' H' s' → RelV v u → Q v H' → CE out P w H s Q u s' :=
    fun {σ' H' v u} I rv q => ⟨v, H', I.os, I.bare, I.base, I.hok, rv, q⟩
  cases fl with
  | ret u =>
    obtain ⟨v, σ', H', I, rv, q⟩ := hs
    exact out_ I rv q
  | next =>
    obtain ⟨σ', H', I, q⟩ := hs
    exact out_ (v := V.non) (u := Value.none) I rfl q
  | brk => obtain ⟨_, _, _, q⟩ := hs; exact False.elim q
  | cont => obtain ⟨_, _, _, q⟩ := hs; exact False.elim q

/-! ### what a def does -/
/-- the promise: it does what m does -/
def spOf (K : W.Frag) (n : Nat) (m : List D → M D) : Sp := fun vs H Q E => vs.length = n ∧ ∃ w st ds, RelSt K w H st ∧ RpDs K w H ds vs ∧ Post K E (RE K) w H (m ds st) Q
section
variable {X : Cx} {E : XK} {e : Expr} {es : List Expr} {tr tk : TA} {fr fk : Env → M (List D)} {pos p : Pos} {x : Str} {f : Addr} {fd : FuncData} {ps ks : List Str} {k n : Nat} {m : List D → M D} {kws : List Keyword} {g : List Value → List Value → List Value} {gV : List V → List V → List V} {gD : List D → List D → List D}
def lenIs (n : Nat) (fr : Env → M (List D)) : Prop := ∀ env st ds st', fr env st = .ok ds st' → ds.length = n
theorem lenIs_nil : lenIs 0 aNil := fun _ _ _ _ h => by cases h; rfl
theorem lenIs_cons {fa : Env → M D} (h : lenIs n fr) : lenIs (n + 1) (aCons fa fr) := by
  intro env st ds st' e
  unfold aCons bd at e
  cases q : fa env st with
  | ok a st1 =>
    simp only [q] at e
    cases q2 : fr env st1 with
    | ok b st2 =>
      simp only [q2, rt, Res.ok.injEq] at e
      rw [← e.1, List.length_cons, h _ _ _ _ q2]
    | exc _ _ => simp only [q2] at e; cases e
    | bad => simp only [q2] at e; cases e
  | exc _ _ => simp only [q] at e; cases e
  | bad => simp only [q] at e; cases e
def callF (m : List D → M D) (fr : Env → M (List D)) : Env → M D := fun env => bd (fr env) m
theorem rf_call {K : W.Frag} (hn : lenIs n fr) (ha : Rf K E (RA K) tr fr) : Rf K E (RE K) (tCallG (spOf K n m) E tr) (callF m fr) := by
  intro w σ H env st Q s0 e0 hp
  unfold callF at hp
  refine ha w σ H env st _ s0 e0 ?_
  cases hf : fr env st with
  | ok ds st' =>
    rw [bd_ok hf] at hp
    exact fun w1 H1 vs g1 s1 q1 => ⟨by rw [← q1.length]; exact hn _ _ _ _ hf, w1, st', ds, s1, q1, hp.mono g1⟩
  | exc e st' => rw [bd_exc hf] at hp; exact hp
  | bad => rw [bd_bad hf] at hp; exact hp
theorem se_call {K : W.Frag} (F : FnG X.prog X.w X.K X.mg X.base k f fd ps (spOf K n m)) (hr : Room k X.A) (hG : X.A.guards = some []) (hm : X.mg x = some (.ref f)) (hk : PySem.W.keepIn X.K (.ref f) = true) (hb : Binds X.K fd ps []) (hx : Passes (L2.CX X.prog X.w) X E)
    (ha : SA X E (e :: es) tr fr) (hn : lenIs n fr) (hK : X.K = K := by rfl) (hg : Gl X x := by rfl) (hdb : (x == ("__debug__" : Str)) = false := by decide) (he : starEach (e :: es) X.env = (false, eval e X.env) :: starEach es X.env := by rfl) (hpl : (backTo pos (starEach es X.env)).any (·.1) = false := by rfl) :
    SE X E (.Call (.Name x p) (e :: es) [] pos) (tCallG (spOf K n m) E tr) (callF m fr) := by
  subst hK
  exact ⟨pg_call F hr hG hg hm hk hb hx ha.pa hdb he hpl, rf_call hn ha.rf⟩
theorem se_call0 {K : W.Frag} (F : FnG X.prog X.w X.K X.mg X.base k f fd ps (spOf K 0 m)) (hr : Room k X.A) (hG : X.A.guards = some []) (hm : X.mg x = some (.ref f)) (hk : PySem.W.keepIn X.K (.ref f) = true) (hb : Binds X.K fd ps []) (hx : Passes (L2.CX X.prog X.w) X E)
    (hK : X.K = K := by rfl) (hg : Gl X x := by rfl) (hdb : (x == ("__debug__" : Str)) = false := by decide) : SE X E (.Call (.Name x p) [] [] pos) (tCallG (spOf K 0 m) E tNil) (callF m aNil) := by
  subst hK
  exact ⟨pg_call0 F hr hG hg hm hk hb hx hdb, rf_call lenIs_nil (sa_nil (X := X)).rf⟩
/-- keywords -/
structure SK (X : Cx) (E : XK) (kws : List Keyword) (t : TA) (f : Env → M (List D)) : Prop where
  pk : PK X kws t
  rf : Rf X.K E (RA X.K) t f
variable {ta : TE} {fa : Env → M D} {kpos : Pos} {nm : Option Str}
theorem sk_nil : SK X E [] tNil aNil := ⟨pk_nil, (sa_nil (X := X)).rf⟩
theorem sk_cons (ha : SE X E e ta fa) (hr : SK X E kws tr fr) : SK X E (⟨nm, e, kpos⟩ :: kws) (tCons ta tr) (aCons fa fr) := by
  refine ⟨pk_cons ha.pe hr.pk, fun w σ H env st Q s0 e0 hp => ?_⟩
  refine ha.rf.step s0 e0 hp fun r1 H1 st1 x v g1 s1 e1 q1 hp => ?_
  refine hr.rf.step s1 e1 hp fun r2 H2 st2 xs vs g2 s2 e2 q2 hp => ?_
  exact Post.now hp s2 (.cons (q1.mono g2) q2)
end
/-- a def's value by its body -/
def fnOf (n : Nat) (body : Env → M Fl) (ds : List D) : M D := bd (body (ds.map some ++ List.replicate (n - ds.length) none)) fun f => match f with
  | .rt d => rt d
  | .nx _ => rt (.val .none)
  | _ => bad
theorem RelEnv.start {K : W.Frag} {w : Wd} {H : Hp} {ds : List D} {vs : List V} {N : List Str} (r : RpDs K w H ds vs) : RelEnv K w H (ds.map some ++ List.replicate (N.length - ds.length) none) (L2.start N vs) := by
  have hl := r.length
  refine ⟨by simp [L2.start, hl], fun i d e => ?_⟩
  have : ∀ (ds : List D) (vs : List V), RpDs K w H ds vs → ∀ (i : Nat) (d : D) (t : List (Option D)) (u : St), (∀ j : Nat, t[j]? ≠ some (some d)) → (ds.map some ++ t)[i]? = some (some d) → ∃ v, (vs.map some ++ u)[i]? = some (some v) ∧ RpD K w H d v := by
    intro ds vs r
    induction r with
    | nil => intro i d t u ht h; exact absurd h (ht i)
    | cons r rr ih =>
      intro i d t u ht h
      cases i with
      | zero => simp at h; subst h; exact ⟨_, rfl, r⟩
      | succ i => simpa using ih i d t u ht (by simpa using h)
  refine this ds vs r i d _ _ (fun j h => ?_) e
  have := List.mem_of_getElem? h
  simp at this
section
variable {P : Program} {w : World} {K : W.Frag} {mg : Str → Option Value} {base : Heap}
/-- THE RULE for a def -/
theorem does {x qual : Str} {st : Stmt} {f : Addr} {fd : FuncData} {N ps : List Str} {k : Nat} {body : Env → M Fl} (F : Fun K x qual st f fd) (S : FnScope N ps (defScope st))
    (h : ∀ (A : Around) (out : List PySem.Env) (s : Shared) (H : Hp) (E : XK), Room k (A.deeper (PyProof.Rows.envOfC qual (defScope st) s.heap.objs.size f fd.code)) → A.guards = some [] → ∃ t, SSs (cxOf (L2.CX P w) P w K mg base N qual (defScope st) f fd.code A out s H E) E (defBody st) t body) :
    FnG P w K mg base (k + 1) f fd ps (spOf K ps.length (fnOf N.length body)) := by
  obtain ⟨oc, od, kV, doc, pm, an, cdv, ct, osl, rfl, lk, hcd⟩ := F.ex
  refine fnG_of lk hcd S (fun vs H Q E h => h.1) fun A out s H vs Q E hr hG hsp => ?_
  obtain ⟨t, d⟩ := h A out s H E hr hG
  obtain ⟨_, w, st0, ds, hs, r, hp⟩ := hsp
  refine ⟨t, d.ps, d.rf w _ H _ st0 _ hs (RelEnv.start r) ?_⟩
  unfold fnOf at hp
  cases hf : body (ds.map some ++ List.replicate (N.length - ds.length) none) st0 with
  | ok r st' =>
    rw [bd_ok hf] at hp
    cases r with
    | nx env => exact fun w' H' σ' g s1 _ => hp w' H' _ g s1 .non
    | rt d => exact hp
    | bk env => exact hp.elim
    | ct env => exact hp.elim
  | exc e st' => rw [bd_exc hf] at hp; exact hp
  | bad => rw [bd_bad hf] at hp; exact hp
end
end B
/-! BL6: the law's end. -/
namespace B
open PySem L2
variable [Nm] [Gd]
open PyProof.Rows (AllBare)
open PyProof.Rows (IntsAre)
omit [Nm] [Gd] in
/-- the law's def runs at the heap behind the top; cs: the code objects that make lambdas, their tables, the lambdas' names -/
theorem lawRuns {P : Program} {w : World} {K : W.Frag} {mg mb : Str → Option Value} {k : Nat} {fa a : Addr} {fd : FuncData} {x : Str} {sp : Sp} {s1 : Shared} {vs : List Value} {ns : List Int} {cs : List (Addr × Addr × Str)}
    (inK : K.In s1.heap) (hmg : s1.heap.Ns mainGlobals mg) (hmb : s1.heap.Ns builtinsNs mb) (hbt : ∀ x : Str, x ≠ "__name__" → mb x = bootBuiltins x) (lim : s1.heap.NoLimit) (hgen : s1.gens = #[])
    (tE : ∀ p ∈ cs, s1.heap.get? p.2.1 = some { cls := .none, data := .fields #[] }) (tN : ∀ p ∈ cs, K.lookup p.2.1 = none) (tC : ∀ p ∈ cs, PySem.W.CodeHd s1.heap p.1 p.2.1)
    (hbm : ∃ (bm : Addr) (ob : Obj), mg "__builtins__" = some (.ref bm) ∧ bm ≠ builtinsNs ∧ s1.heap.get? bm = some ob ∧ ob.cls = .type "module" ∧ ob.dict = some builtinsNs ∧ ob.data = .plain)
    (hobj : s1.heap.get? a = some { cls := .type "list", data := .seq vs.toArray }) (hint : IntsAre vs ns) (hsz : ns.length ≤ sizeLine) (hr : Room k callerA)
    (F : ∀ base : Heap, K.In base → base.Ns mainGlobals mg → (∀ p ∈ cs, LamX.TabB base mg p.1 p.2.1) → FnG P w K mg base k fa fd [x] sp) (hbind : ∀ (s : Shared) (u : Value), BindsTo s fd ⟨[u], []⟩ [(x, u)])
    (hsp : ∀ H : Hp, (∀ p ∈ cs, H p.2.1 = some (.tbl #[])) → (∀ b o, H b = some o → (∃ ps, o = .tbl ps) ∨ ∃ ob xs, o = .frz ob (.lst xs)) → SqL K H a (ns.map V.int) → sp [.ref a] H (fun v _ => v = .bl true) fun _ _ _ => False) :
    codeAny (model P w) callerA (.call (.ref fa) ⟨[.ref a], []⟩) (fun r s' => r = .ok (.ret (.bool true)) ∧ OldK s1.heap s'.heap ∧ s'.os = s1.os ∧ AllBare s'.gens) s1 := by
  have rel := vals_ints hint
  have len := hint.length
  let tabs : List Addr := cs.map fun p => p.2.1
  have isT : ∀ b, b ∈ tabs → s1.heap.get? b = some { cls := .none, data := .fields #[] } := fun b hb => by
    obtain ⟨p, hp, e⟩ := List.mem_map.mp hb
    rw [← e]
    exact tE p hp
  have aT : a ∉ tabs := fun z => by
    have q := isT a z
    rw [hobj] at q
    cases q
  have inT : ∀ p ∈ cs, p.2.1 ∈ tabs := fun p hp => List.mem_map.mpr ⟨p, hp, rfl⟩
  have go : ∀ H : Hp, (∀ b, b ∈ tabs → H b = some (.tbl #[])) → (∀ b, b ∉ tabs → H b = none ∨ ∃ o xs, H b = some (.frz o (.lst xs))) → SqL K H a (ns.map V.int) → HOk P w H s1.heap → (∀ b, H b ≠ none → b = a ∨ b ∈ tabs) → (H a ≠ none → K.lookup a = none) →
      codeAny (model P w) callerA (.call (.ref fa) ⟨[.ref a], []⟩) (fun r s' => r = .ok (.ret (.bool true)) ∧ OldK s1.heap s'.heap ∧ s'.os = s1.os ∧ AllBare s'.gens) s1 := by
    intro H ht only sq hok ha hk
    have toBase : ∀ {b : Addr} {o : Obj}, s1.heap.get? b = some o → H b = none → (hidT s1.heap H).get? b = some o := fun e n => hidT_get e n
    have clear : ∀ {b : Addr} {o : Obj}, s1.heap.get? b = some o → (∀ vs n, o.data ≠ .seq vs n) → o.data ≠ .fields #[] → H b = none := fun {b o} e n1 n2 => by
      cases q : H b with
      | none => rfl
      | some u =>
        rcases ha b (by rw [q]; simp) with z | z
        · subst z
          rw [hobj] at e
          cases e
          exact absurd rfl (n1 _ _)
        · rw [isT b z] at e
          cases e
          exact absurd rfl n2
    have nsB : ∀ {b : Addr} {m : Str → Option Value}, s1.heap.Ns b m → (hidT s1.heap H).Ns b m := fun {b m} ⟨o, es, ep, e, d, r⟩ => ⟨o, es, ep, toBase e (clear e (fun _ _ z => by rw [d] at z; cases z) (fun z => by rw [d] at z; cases z)), d, r⟩
    have inB : K.In (hidT s1.heap H) := fun b o e => toBase (inK b o e) (by
      cases q : H b with
      | none => rfl
      | some u =>
        rcases ha b (by rw [q]; simp) with z | z
        · subst z
          rw [hk (by rw [q]; simp)] at e
          cases e
        · obtain ⟨p, hp, ep⟩ := List.mem_map.mp z
          rw [← ep, tN p hp] at e
          cases e)
    have modB : Mod K mg (hidT s1.heap H) := ⟨inB, nsB hmg, ⟨mb, nsB hmb, hbt⟩, let ⟨mc, h1, h2⟩ := lim; ⟨mc, nsB h1, h2⟩⟩
    have tabB : ∀ p ∈ cs, LamX.TabB (hidT s1.heap H) mg p.1 p.2.1 := fun p hp => by
      refine ⟨?_, ?_, fun z => ?_⟩
      · obtain ⟨o, us, file, tf, flags, tg, inF, text, tt, f1, f2, f3, f4⟩ := tC p hp
        refine ⟨o, us, file, tf, flags, tg, inF, text, tt, toBase f1 (clear f1 (fun _ _ z => ?_) fun z => ?_), f2, f3, f4⟩
        · rw [f3] at z; cases z
        · rw [f3] at z; cases z
          simp at f4
      · obtain ⟨bm, ob, g1, g2, g3, g4, g5, g6⟩ := hbm
        have nG : bm ≠ mainGlobals := fun q => by
          obtain ⟨o, es, ep, e, hd, _⟩ := hmg
          rw [q, e] at g3
          cases g3
          rw [hd] at g6
          cases g6
        have nP : bm ≠ p.2.1 := fun q => by
          rw [q, tE p hp] at g3
          cases g3
          cases g6
        exact ⟨bm, ob, g1, g2, nG, nP, toBase g3 (clear g3 (fun _ _ z => by rw [g6] at z; cases z) fun z => by rw [g6] at z; cases z), g4, g5, g6⟩
      · obtain ⟨o, es, ep, e, hd, _⟩ := hmg
        rw [z, tE p hp] at e
        cases e
        cases hd
    have env0 : Env0 P w K mg (hidT s1.heap H) callerA [] s1 H :=
      ⟨rfl, modB, fun b o e => of_hidT e, Nat.le_of_eq (hidT_size _ _), trivial, fun b hb => absurd (show b ∈ ([] : List Addr) from hb) (by simp), hok, .of_eq hgen⟩
    have kinds : ∀ b o, H b = some o → (∃ ps, o = .tbl ps) ∨ ∃ ob xs, o = .frz ob (.lst xs) := fun b o e => by
      by_cases hb : b ∈ tabs
      · rw [ht b hb] at e; cases e; exact .inl ⟨_, rfl⟩
      · rcases only b hb with z | ⟨ob, xs, z⟩
        · rw [z] at e; cases e
        · rw [z] at e; cases e; exact .inr ⟨_, _, rfl⟩
    refine codeAny_mono ((F _ inB (nsB hmg) tabB).goes callerA [] s1 H ⟨[.ref a], []⟩ [.ref a] [.ref a] _ _ hr rfl env0 (hbind s1 (.ref a)) (.cons rfl .nil) (hsp H (fun p hp => ht _ (inT p hp)) kinds sq)) fun r s' h => ?_
    cases r with
    | error e =>
      obtain ⟨_, _, _, _, _, _, _, _, _, _, _, _, z⟩ := h
      exact z.elim
    | ok fl => cases fl with
      | next => exact False.elim h
      | brk => exact False.elim h
      | cont => exact False.elim h
      | ret u =>
        obtain ⟨v, H', os, bare, un, hok', rv, q⟩ := h
        have q2 : v = .bl true := q
        subst q2
        obtain rfl : u = Value.bool true := rv
        have key : ∀ b o, b ∉ tabs → s1.heap.get? b = some o → s'.heap.get? b = some o := fun b o nb e => by
          rcases only b nb with z | ⟨ob, xs, z⟩
          · exact un.keep b o e z (fun y => absurd (show b ∈ ([] : List Addr) from y) (by simp)) (by simp)
          · obtain ⟨e1, _⟩ := hok b _ z
            obtain ⟨e2, _⟩ := hok' b _ (un.frzs b ob _ z)
            rw [e] at e1; cases e1
            exact e2
        have more : ∀ p ∈ cs, ∃ vs : Array Value, s'.heap.get? p.2.1 = some { cls := .none, data := .fields vs } := fun p hp => by
          obtain ⟨vs, z⟩ := un.tbls p.2.1 #[] (ht _ (inT p hp))
          exact ⟨_, hok' p.2.1 _ z⟩
        refine ⟨rfl, ⟨fun b o e => ?_, fun b o e => ?_⟩, os, bare⟩
        · by_cases hb : b ∈ tabs
          · obtain ⟨p, hp, ep⟩ := List.mem_map.mp hb
            obtain ⟨vs, hm⟩ := more p hp
            rw [← ep] at e ⊢
            rw [tE p hp] at e
            cases e
            exact .inr (.inl ⟨((tC p hp).tab (tE p hp)).isCodeTable, rfl, #[], vs, rfl, by rw [Array.empty_append]; exact hm⟩)
          · exact .inl (key b o hb e)
        · by_cases hb : b ∈ tabs
          · obtain ⟨p, hp, ep⟩ := List.mem_map.mp hb
            obtain ⟨vs, hm⟩ := more p hp
            rw [← ep]
            exact ⟨_, hm⟩
          · exact ⟨o, key b o hb e⟩
  cases hk : K.lookup a with
  | some o =>
    have e := inK a o hk
    rw [hobj] at e
    cases e
    refine go (fun b => if b ∈ tabs then some (.tbl #[]) else none) (fun b hb => if_pos hb) (fun b hb => .inl (if_neg hb)) (.inr ⟨_, vs.toArray, _, hk, rfl, rfl, rfl, by rw [List.size_toArray, len]; exact hsz, by simpa using rel⟩) (fun b u z => ?_) (fun b z => ?_) fun z => absurd (if_neg aT) z
    · by_cases hb : b ∈ tabs
      · have z2 := (if_pos hb).symm.trans z
        cases z2
        exact isT b hb
      · have z2 := (if_neg hb).symm.trans z
        cases z2
    · by_cases hb : b ∈ tabs
      · exact .inr hb
      · exact absurd (if_neg hb) z
  | none =>
    refine go (fun b => if b ∈ tabs then some (.tbl #[]) else if b = a then some (.frz { cls := .type "list", data := .seq vs.toArray } (.lst (ns.map V.int))) else none) (fun b hb => if_pos hb) (fun b hb => ?_)
      (.inl (.inr ⟨{ cls := .type "list", data := .seq vs.toArray }, (if_neg aT).trans (if_pos rfl)⟩)) (fun b u z => ?_) (fun b z => ?_) fun _ => hk
    · by_cases hb2 : b = a
      · exact .inr ⟨_, _, (if_neg hb).trans (if_pos hb2)⟩
      · exact .inl ((if_neg hb).trans (if_neg hb2))
    · by_cases hb : b ∈ tabs
      · have z2 := (if_pos hb).symm.trans z
        cases z2
        exact isT b hb
      · have z1 := (if_neg hb).symm.trans z
        by_cases hb2 : b = a
        · have z2 := (if_pos hb2).symm.trans z1
          cases z2
          subst hb2
          exact ⟨hobj, by rw [List.length_map]; exact hsz, vs, _, rel, hobj⟩
        · have z2 := (if_neg hb2).symm.trans z1
          cases z2
    · by_cases hb : b ∈ tabs
      · exact .inr hb
      · by_cases hb2 : b = a
        · exact .inl hb2
        · exact absurd ((if_neg hb).trans (if_neg hb2)) z
/-- nothing more -/
@[reducible] def Gd.no : Gd := ⟨fun _ _ => True, fun _ => False, fun _ _ => trivial⟩
/-- what is wanted of a law at the heap behind the top -/
structure LawAt (P : Program) (w : World) (K : W.Frag) (mg : Str → Option Value) (k : Nat) (fa : Addr) (x : Str) (m : List D → M D) (h : Heap) where
  nm : Nm
  fd : FuncData
  cs : List (Addr × Addr × Str)
  tb : nm.tb = cs.map fun p => (p.2.1, p.2.2)
  tE : ∀ p ∈ cs, h.get? p.2.1 = some { cls := .none, data := .fields #[] }
  tN : ∀ p ∈ cs, K.lookup p.2.1 = none
  tC : ∀ p ∈ cs, PySem.W.CodeHd h p.1 p.2.1
  bind : ∀ (s : Shared) (u : Value), BindsTo s fd ⟨[u], []⟩ [(x, u)]
  ok : ∀ base : Heap, K.In base → base.Ns mainGlobals mg → (∀ p ∈ cs, LamX.TabB base mg p.1 p.2.1) → FnG P w K mg base k fa fd [x] (@spOf nm Gd.no K 1 m)
omit [Nm] [Gd] in
/-- THE END: what is left of the row -/
theorem lawEnds {l : PySem.W.OpenLaw} {n k : Nat} {q : Program} {loose : List Str} {XP : (Str → Option Value) → Heap → Prop} {YP : World → Heap → Prop} {d : DefRec} {K : Params → W.Frag} {x : Str} {m : List D → M D}
    (hn : l.most = some n) (hn2 : n ≤ sizeLine) (hdf : d.params.defaults = []) (hr : Room k callerA) (hY : ∀ (w : World) (h : Heap), YP w h → (K w.params).In h)
    (F : ∀ (w : World) (mg mb : Str → Option Value) (fa : Addr) (h : Heap) (mean : PySem.ExcName → Option Value), (K w.params).In h → PyProof.Rows.Top q (PySem.W.looseW q loose) mean mg mb h → mg d.name = some (.ref fa) → Nonempty (LawAt l.prog w (K w.params) mg k fa x m h))
    (hm : ∀ ns : List Int, ns.length ≤ n → ∃ st, m [.frz (ns.map PyData.int)] [] = .ok (.val (.bool true)) st) :
    PySem.W.WalkO q loose XP YP l.row.toRowW d [] (fun f vs => PySem.call f vs) := by
  refine Att.attach_call hn hdf fun w s0 s1 mg mb fa o pm cd doc a vs ns G Y ho hd hcd hmg hobj hints hlen hg => ?_
  have inK := hY w _ Y
  obtain ⟨L⟩ := F w mg mb fa _ _ inK G.T hmg
  refine lawRuns inK G.T.g G.T.b G.T.builtins G.T.nolimit hg L.tE L.tN L.tC G.T.bmain hobj hints (Nat.le_trans hlen hn2) hr L.ok L.bind fun H hT kinds sq => ?_
  obtain ⟨st, e⟩ := hm ns hlen
  letI := L.nm
  letI := Gd.no
  have intsR : ∀ l : List Int, Rps (K w.params) ⟨[], []⟩ H (l.map PyData.int) (l.map V.int) := fun l => by
    induction l with
    | nil => exact .nil
    | cons i r ih => exact .cons (.int i) ih
  refine ⟨rfl, ⟨[], []⟩, [], [.frz (ns.map PyData.int)], ⟨rfl, List.nodup_nil, fun _ h => by simp at h, fun _ h => by simp at h, fun n o a h => by simp at h, fun p hp => ?_, trivial⟩, .cons ⟨a, _, rfl, ?_, intsR ns⟩ .nil, ?_⟩
  · have hp' : p ∈ L.nm.tb := hp
    rw [L.tb] at hp'
    obtain ⟨c, hc, rfl⟩ := List.mem_map.mp hp'
    exact LamX.TabS.nil (hT c hc)
  · rcases sq with z | z
    · rcases z with z | z
      · rcases kinds a _ z with ⟨_, y⟩ | ⟨_, _, y⟩ <;> cases y
      · exact .inl ⟨z, by simp⟩
    · exact .inr z
  · rw [e]
    intro w' H' v g s r
    cases r
    rfl
end B
/-! BL7: operators. -/
namespace B
open PySem L2
variable [Nm] [Gd]

/-- the data behind a value -/
def dat (st : Store) : D → Option PyData
  | .val p => some p
  | .loc n => match st[n]? with
    | some (.lst xs) => some (.list xs)
    | _ => none
  | .cst _ => none
  | .frz _ => none
  | .err => none
  | .fn _ => none
  | .pr _ _ => none
section
variable {K : W.Frag} {w : Wd} {H : Hp} {st : Store} {d : D} {v : V} {p : PyData}
theorem dat_val (h : dat st d = some p) (n : ∀ xs, p ≠ .list xs) : d = .val p := by
  cases d with
  | val q => simp [dat] at h; rw [h]
  | loc k =>
    simp only [dat] at h
    split at h
    · exact absurd (Option.some.inj h).symm (n _)
    · cases h
  | cst _ => simp [dat] at h
  | frz _ => simp [dat] at h
  | err => simp [dat] at h
  | fn _ => simp [dat] at h
  | pr _ _ => simp [dat] at h
theorem dat_lst {xs : List PyData} (hs : RelSt K w H st) (r : RpD K w H d v) (h : dat st d = some (.list xs)) : ∃ a vs, v = .ref a ∧ H a = some (.lst vs) ∧ Rps K w H xs vs := by
  cases d with
  | val q =>
    simp only [dat, Option.some.injEq] at h
    subst h
    cases r with
    | ls l r => exact ⟨_, _, rfl, l.1, r⟩
  | loc k =>
    simp only [dat] at h
    split at h
    · rename_i ys e
      simp only [Option.some.injEq, PyData.list.injEq] at h
      subst h
      obtain ⟨a, rfl, _, vs, e, r⟩ := hs.at e r
      exact ⟨a, vs, rfl, e, r⟩
    · cases h
  | cst _ => simp [dat] at h
  | frz _ => simp [dat] at h
  | err => simp [dat] at h
  | fn _ => simp [dat] at h
  | pr _ _ => simp [dat] at h
theorem dat_tup {xs : List PyData} (r : RpD K w H d v) (h : dat st d = some (.tuple xs)) : ∃ a vs, v = .ref a ∧ TupAt K w H a vs ∧ Rps K w H xs vs := by
  have e := dat_val h (fun _ q => by cases q)
  subst e
  cases r with
  | tup l r => exact ⟨_, _, rfl, l, r⟩
theorem dat_int {i : Int} (r : RpD K w H d v) (h : dat st d = some (.int i)) : v = .int i := by
  have e := dat_val h (fun _ q => by cases q)
  subst e
  cases r
  rfl
theorem dat_str {i : Str} (r : RpD K w H d v) (h : dat st d = some (.str i)) : v = .str i := by
  have e := dat_val h (fun _ q => by cases q)
  subst e
  cases r
  rfl
theorem dat_bool {i : Bool} (r : RpD K w H d v) (h : dat st d = some (.bool i)) : v = .bl i := by
  have e := dat_val h (fun _ q => by cases q)
  subst e
  cases r
  rfl
theorem dat_dp (hs : RelSt K w H st) (r : RpD K w H d v) (h : dat st d = some p) : Dp K H v p := by
  cases d with
  | val q =>
    simp only [dat, Option.some.injEq] at h
    subst h
    exact Rp.dp r
  | loc k =>
    cases p with
    | list xs =>
      obtain ⟨a, vs, rfl, e, r⟩ := dat_lst hs r h
      exact .lst (SqL.of e) r.dp
    | _ =>
      simp only [dat] at h
      split at h <;> cases h
  | cst _ => simp [dat] at h
  | frz _ => simp [dat] at h
  | err => simp [dat] at h
  | fn _ => simp [dat] at h
  | pr _ _ => simp [dat] at h
end
mutual
theorem Dp.plain {K : W.Frag} {H : Hp} : ∀ {v : V} {d : PyData}, Dp K H v d → d.plain = true
  | _, _, .non => rfl
  | _, _, .bl _ => rfl
  | _, _, .int _ => rfl
  | _, _, .str _ => rfl
  | _, _, .lst _ r => by simp only [PyData.plain]; exact DpAll.plain r
  | _, _, .tup _ r => by simp only [PyData.plain]; exact DpAll.plain r
theorem DpAll.plain {K : W.Frag} {H : Hp} : ∀ {vs : List V} {ds : List PyData}, DpAll K H vs ds → PyData.plainAll ds = true
  | _, _, .nil => rfl
  | _, _, .cons r s => by simp only [PyData.plainAll, Dp.plain r, DpAll.plain s, Bool.and_self]
end
abbrev okV (p : PyData) (st : Store) : Res D := .ok (.val p) st

/-! ### + - * // % ** -/
section
variable {K : W.Frag} {E : XK}
def addF (x y : D) : M D := fun st => match dat st x, dat st y with
  | some (.int i), some (.int j) => okV (.int (i + j)) st
  | some (.str a), some (.str b) => if a.length + b.length ≤ sizeLine then okV (.str (a ++ b)) st else .bad
  | some (.list a), some (.list b) => if a.length + b.length ≤ sizeLine then okV (.list (a ++ b)) st else .bad
  | some (.tuple a), some (.tuple b) => if a.length + b.length ≤ sizeLine then okV (.tuple (a ++ b)) st else .bad
  | _, _ => .bad
def rAddA (K : W.Frag) : R2 := fun x y H Q => rI0 (fun i j => .int (i + j)) x y H Q ∨ (∃ i j, x = .str i ∧ y = .str j ∧ i.length + j.length ≤ sizeLine ∧ Q (.str (i ++ j)) H) ∨ rCat x y H Q ∨ rCatA K x y H Q
theorem op_addA {X : Cx} {K : W.Frag} (hK : X.K = K := by rfl) : OpR X (binaryOp .Add) (rAddA K) := by
  subst hK
  exact OpR.or op_add (OpR.or op_add_str (OpR.or op_cat op_catA))
theorem bop_add : BOp K E (rAddA K) addF := by
  intro w H st dx dy x y Q hs rx ry hp
  unfold addF at hp
  split at hp
  · rename_i e1 e2
    exact .inl ⟨_, _, dat_int rx e1, dat_int ry e2, Post.now hp hs (.int _)⟩
  · rename_i e1 e2
    split at hp
    · rename_i hl
      exact .inr (.inl ⟨_, _, dat_str rx e1, dat_str ry e2, hl, Post.now hp hs (.str _)⟩)
    · exact hp.elim
  · rename_i e1 e2
    split at hp
    · rename_i hl
      obtain ⟨a, vs, e3, ha, ra⟩ := dat_lst hs rx e1
      obtain ⟨b, us, e4, hb, rb⟩ := dat_lst hs ry e2
      refine .inr (.inr (.inl ⟨a, b, vs, us, e3, e4, ha, hb, by rw [← ra.length, ← rb.length]; exact hl, fun p np => ?_⟩))
      exact hp w _ _ (.new np) (hs.new np) (Rp.newLs (hs.notin np) (ra.append rb) np)
    · exact hp.elim
  · rename_i e1 e2
    split at hp
    · rename_i hl
      obtain ⟨a, vs, e3, ha, ra⟩ := dat_tup rx e1
      obtain ⟨b, us, e4, hb, rb⟩ := dat_tup ry e2
      refine .inr (.inr (.inr ⟨a, b, vs, us, e3, e4, ha.sq, hb.sq, by rw [← ra.length, ← rb.length]; exact hl, fun z => ?_, fun z1 z2 => ?_, fun z1 z2 p np => ?_⟩))
      · subst z
        cases ra
        exact Post.now hp hs (.tup hb rb)
      · subst z2
        cases rb
        rw [List.append_nil] at hp
        exact Post.now hp hs (.tup ha ra)
      · exact hp w _ _ (.new np) (hs.new np) (Rp.newTup (hs.notin np) (ra.append rb) np)
    · exact hp.elim
  · exact hp.elim
def subF (x y : D) : M D := fun st => match dat st x, dat st y with
  | some (.int i), some (.int j) => okV (.int (i - j)) st
  | _, _ => .bad
theorem bop_sub : BOp K E (rI0 fun i j => .int (i - j)) subF := by
  intro w H st dx dy x y Q hs rx ry hp
  unfold subF at hp
  split at hp
  · rename_i e1 e2
    exact ⟨_, _, dat_int rx e1, dat_int ry e2, Post.now hp hs (.int _)⟩
  · exact hp.elim
/-- products: ints, one of them small; a tuple or a list times a number -/
def mulF (x y : D) : M D := fun st => match dat st x, dat st y with
  | some (.int i), some (.int j) => if (-(2 ^ 64) < i ∧ i < 2 ^ 64) ∨ (-(2 ^ 64) < j ∧ j < 2 ^ 64) then okV (.int (i * j)) st else .bad
  | some (.tuple a), some (.int j) => if a ≠ [] ∧ 2 ≤ j ∧ j ≤ 1000 ∧ a.length ≤ 1000 then okV (.tuple (List.replicate j.toNat a).flatten) st else .bad
  | some (.list a), some (.int j) => if -(2 ^ 63) ≤ j ∧ j < 2 ^ 63 ∧ a.length * j.toNat ≤ sizeLine then okV (.list (List.replicate j.toNat a).flatten) st else .bad
  | _, _ => .bad
def rMulA (K : W.Frag) : R2 := fun x y H Q => rI CMul (fun i j => .int (i * j)) x y H Q ∨ rRepT K x y H Q ∨ rRep x y H Q
theorem op_mulA {X : Cx} {K : W.Frag} (hK : X.K = K := by rfl) : OpR X (binaryOp .Mult) (rMulA K) := by
  subst hK
  exact OpR.or op_mul (OpR.or op_repT op_rep)
theorem Rps.times {w : Wd} {H : Hp} {a : List PyData} {vs : List V} (r : Rps K w H a vs) : ∀ n : Nat, Rps K w H (List.replicate n a).flatten (List.replicate n vs).flatten
  | 0 => .nil
  | n + 1 => by
    rw [List.replicate_succ, List.replicate_succ, List.flatten_cons, List.flatten_cons]
    exact r.append (Rps.times r n)
theorem bop_mul : BOp K E (rMulA K) mulF := by
  intro w H st dx dy x y Q hs rx ry hp
  unfold mulF at hp
  split at hp
  · rename_i e1 e2
    split at hp
    · rename_i hc
      exact .inl ⟨_, _, dat_int rx e1, dat_int ry e2, hc, Post.now hp hs (.int _)⟩
    · exact hp.elim
  · rename_i e1 e2
    split at hp
    · rename_i hc
      obtain ⟨h1, h2, h3, h4⟩ := hc
      obtain ⟨a, vs, e3, ha, ra⟩ := dat_tup rx e1
      refine .inr (.inl ⟨a, _, vs, e3, dat_int ry e2, ha.sq, ?_, h2, h3, by rw [← ra.length]; exact h4, fun p np => ?_⟩)
      · rintro rfl
        cases ra
        exact h1 rfl
      · exact hp w _ _ (.new np) (hs.new np) (Rp.newTup (hs.notin np) (ra.times _) np)
    · exact hp.elim
  · rename_i e1 e2
    split at hp
    · rename_i hc
      obtain ⟨h1, h2, h3⟩ := hc
      obtain ⟨a, vs, e3, ha, ra⟩ := dat_lst hs rx e1
      refine .inr (.inr ⟨a, _, vs, e3, dat_int ry e2, ha, h1, h2, by rw [← ra.length]; exact h3, fun p np => ?_⟩)
      exact hp w _ _ (.new np) (hs.new np) (Rp.newLs (hs.notin np) (ra.times _) np)
    · exact hp.elim
  · exact hp.elim
def modF (x y : D) : M D := fun st => match dat st x, dat st y with
  | some (.int i), some (.int j) => if 0 < j then okV (.int (i % j)) st else .bad
  | _, _ => .bad
theorem bop_mod : BOp K E (rI (fun _ j => 0 < j) fun i j => .int (i % j)) modF := by
  intro w H st dx dy x y Q hs rx ry hp
  unfold modF at hp
  split at hp
  · rename_i e1 e2
    split at hp
    · rename_i hc
      exact ⟨_, _, dat_int rx e1, dat_int ry e2, hc, Post.now hp hs (.int _)⟩
    · exact hp.elim
  · exact hp.elim
def fdivF (x y : D) : M D := fun st => match dat st x, dat st y with
  | some (.int i), some (.int j) => if 0 < j ∧ j < 1073741824 then okV (.int (i / j)) st else .bad
  | _, _ => .bad
theorem bop_fdiv : BOp K E (rI CDiv fun i j => .int (i / j)) fdivF := by
  intro w H st dx dy x y Q hs rx ry hp
  unfold fdivF at hp
  split at hp
  · rename_i e1 e2
    split at hp
    · rename_i hc
      exact ⟨_, _, dat_int rx e1, dat_int ry e2, hc, Post.now hp hs (.int _)⟩
    · exact hp.elim
  · exact hp.elim
def powF (x y : D) : M D := fun st => match dat st x, dat st y with
  | some (.int i), some (.int j) => if 0 ≤ j ∧ j ≤ 1000000 ∧ i.natAbs < 2 ^ 64 then okV (.int (i ^ j.toNat)) st else .bad
  | _, _ => .bad
theorem bop_pow : BOp K E (rI CPow fun i j => .int (i ^ j.toNat)) powF := by
  intro w H st dx dy x y Q hs rx ry hp
  unfold powF at hp
  split at hp
  · rename_i e1 e2
    split at hp
    · rename_i hc
      exact ⟨_, _, dat_int rx e1, dat_int ry e2, hc, Post.now hp hs (.int _)⟩
    · exact hp.elim
  · exact hp.elim
def negF (x : D) : M D := fun st => match dat st x with
  | some (.int i) => okV (.int (-i)) st
  | _ => .bad

/-! ### comparisons -/
def cmpF (c : Int → Int → Bool) (x y : D) : M D := fun st => match dat st x, dat st y with
  | some (.int i), some (.int j) => okV (.bool (c i j)) st
  | _, _ => .bad
theorem bop_cmp {c : Int → Int → Bool} : BOp K E (rI0 fun i j => .bl (c i j)) (cmpF c) := by
  intro w H st dx dy x y Q hs rx ry hp
  unfold cmpF at hp
  split at hp
  · rename_i e1 e2
    exact ⟨_, _, dat_int rx e1, dat_int ry e2, Post.now hp hs (.bl _)⟩
  · exact hp.elim
def eqF (x y : D) : M D := fun st => match dat st x, dat st y with
  | some d, some e => if min d.depth e.depth ≤ 64 then okV (.bool (PyData.eqv d e)) st else .bad
  | _, _ => .bad
def neF (x y : D) : M D := fun st => match dat st x, dat st y with
  | some d, some e => if min d.depth e.depth ≤ 64 then okV (.bool (!PyData.eqv d e)) st else .bad
  | _, _ => .bad
def rEqP (K : W.Frag) : R2 := fun x y H Q => ∃ d e, Dp K H x d ∧ Dp K H y e ∧ min d.depth e.depth ≤ 64 ∧ Q (.bl (PyData.eqv d e)) H
def rNeP (K : W.Frag) : R2 := fun x y H Q => ∃ d e, Dp K H x d ∧ Dp K H y e ∧ min d.depth e.depth ≤ 64 ∧ Q (.bl (!PyData.eqv d e)) H
theorem op_eqP {X : Cx} {K : W.Frag} (hu : X.A.units + 64 < cLine) (hK : X.K = K := by rfl) : OpR X (compareOp .Eq) (rEqP K) := by
  subst hK
  intro pins s σ H x y v u Q I rx ry h
  obtain ⟨d, e, hd, he, hl, q⟩ := h
  obtain ⟨as, r1⟩ := L2.Dp.reads I d x v hd rx
  obtain ⟨bs, r2⟩ := L2.Dp.reads I e y u he ry
  exact SeqAt.eq_plain r1 r2 (Dp.plain hd) (Dp.plain he) (by omega) ⟨.bl _, H, I, rfl, q⟩
theorem op_neP {X : Cx} {K : W.Frag} (hu : X.A.units + 64 < cLine) (hK : X.K = K := by rfl) : OpR X (compareOp .NotEq) (rNeP K) := by
  subst hK
  intro pins s σ H x y v u Q I rx ry h
  obtain ⟨d, e, hd, he, hl, q⟩ := h
  obtain ⟨as, r1⟩ := L2.Dp.reads I d x v hd rx
  obtain ⟨bs, r2⟩ := L2.Dp.reads I e y u he ry
  exact SeqAt.ne_plain r1 r2 (Dp.plain hd) (Dp.plain he) (by omega) ⟨.bl _, H, I, rfl, q⟩
theorem bop_eq : BOp K E (rEqP K) eqF := by
  intro w H st dx dy x y Q hs rx ry hp
  unfold eqF at hp
  split at hp
  · rename_i e1 e2
    split at hp
    · rename_i hc
      exact ⟨_, _, dat_dp hs rx e1, dat_dp hs ry e2, hc, Post.now hp hs (.bl _)⟩
    · exact hp.elim
  · exact hp.elim
theorem bop_ne : BOp K E (rNeP K) neF := by
  intro w H st dx dy x y Q hs rx ry hp
  unfold neF at hp
  split at hp
  · rename_i e1 e2
    split at hp
    · rename_i hc
      exact ⟨_, _, dat_dp hs rx e1, dat_dp hs ry e2, hc, Post.now hp hs (.bl _)⟩
    · exact hp.elim
  · exact hp.elim
/-- in, not in: a list, a tuple; one sign in a text -/
def inAny (d : PyData) (xs : List PyData) : Bool := xs.any fun y => PyData.eqv y d
def inF (neg : Bool) (x y : D) : M D := fun st => match dat st x, dat st y with
  | some d, some (.list xs) => if min (PyData.depthAll xs) d.depth ≤ 64 then okV (.bool (neg != inAny d xs)) st else .bad
  | some d, some (.tuple xs) => if min (PyData.depthAll xs) d.depth ≤ 64 then okV (.bool (neg != inAny d xs)) st else .bad
  | some (.str a), some (.str b) => match a.cps.toList with
    | [c] => okV (.bool (neg != decide (c ∈ b.cps.toList))) st
    | _ => .bad
  | _, _ => .bad
def rInP (K : W.Frag) (neg : Bool) : R2 := fun x y H Q => (∃ d xs, Dp K H x d ∧ (Dp K H y (.list xs) ∨ Dp K H y (.tuple xs)) ∧ min (PyData.depthAll xs) d.depth ≤ 64 ∧ Q (.bl (neg != inAny d xs)) H) ∨
  ∃ (c : Nat) (z : Str), x = .str ⟨#[c]⟩ ∧ y = .str z ∧ Q (.bl (neg != decide (c ∈ z.cps.toList))) H
theorem op_inP {X : Cx} {K : W.Frag} (hu : X.A.units + 66 < cLine) (hK : X.K = K := by rfl) : OpR X (compareOp .In) (rInP K false) := by
  subst hK
  intro pins s σ H x y v u Q I rx ry h
  rcases h with ⟨d, xs, hd, he, hl, q⟩ | ⟨c, z, e1, e2, q⟩
  · obtain ⟨as, r1⟩ := L2.Dp.reads I d x v hd rx
    rcases he with he | he
    · obtain ⟨bs, r2⟩ := L2.Dp.reads I _ y u he ry
      exact SeqAt.in_list_data r2 r1 (by have := Dp.plain he; simpa [PyData.plain] using this) (Dp.plain hd) (by omega) ⟨.bl _, H, I, rfl, by simpa [inAny] using q⟩
    · obtain ⟨bs, r2⟩ := L2.Dp.reads I _ y u he ry
      exact SeqAt.in_tuple_data r2 r1 (by have := Dp.plain he; simpa [PyData.plain] using this) (Dp.plain hd) (by omega) ⟨.bl _, H, I, rfl, by simpa [inAny] using q⟩
  · exact op_in_sign pins s σ H x y v u Q I rx ry ⟨c, z, e1, e2, by simpa using q⟩
theorem op_notInP {X : Cx} {K : W.Frag} (hu : X.A.units + 66 < cLine) (hK : X.K = K := by rfl) : OpR X (compareOp .NotIn) (rInP K true) := by
  subst hK
  intro pins s σ H x y v u Q I rx ry h
  rcases h with ⟨d, xs, hd, he, hl, q⟩ | ⟨c, z, e1, e2, q⟩
  · obtain ⟨as, r1⟩ := L2.Dp.reads I d x v hd rx
    rcases he with he | he
    · obtain ⟨bs, r2⟩ := L2.Dp.reads I _ y u he ry
      exact SeqAt.notIn_list_data r2 r1 (by have := Dp.plain he; simpa [PyData.plain] using this) (Dp.plain hd) (by omega) ⟨.bl _, H, I, rfl, by simpa [inAny] using q⟩
    · obtain ⟨bs, r2⟩ := L2.Dp.reads I _ y u he ry
      exact SeqAt.notIn_tuple_data r2 r1 (by have := Dp.plain he; simpa [PyData.plain] using this) (Dp.plain hd) (by omega) ⟨.bl _, H, I, rfl, by simpa [inAny] using q⟩
  · exact op_notIn_sign pins s σ H x y v u Q I rx ry ⟨c, z, e1, e2, by simpa using q⟩
theorem bop_in {neg : Bool} : BOp K E (rInP K neg) (inF neg) := by
  intro w H st dx dy x y Q hs rx ry hp
  unfold inF at hp
  split at hp
  · rename_i e1 e2
    split at hp
    · rename_i hc
      exact .inl ⟨_, _, dat_dp hs rx e1, .inl (dat_dp hs ry e2), hc, Post.now hp hs (.bl _)⟩
    · exact hp.elim
  · rename_i e1 e2
    split at hp
    · rename_i hc
      exact .inl ⟨_, _, dat_dp hs rx e1, .inr (dat_dp hs ry e2), hc, Post.now hp hs (.bl _)⟩
    · exact hp.elim
  · rename_i a b e1 e2
    split at hp
    · rename_i c hc
      refine .inr ⟨c, b, ?_, dat_str ry e2, Post.now hp hs (.bl _)⟩
      rw [dat_str rx e1]
      have : a = ⟨#[c]⟩ := by
        cases a with
        | mk cps => simp only [Str.mk.injEq]; simp only at hc; exact Array.toList_inj.mp (by rw [hc])
      rw [this]
    · exact hp.elim
  · exact hp.elim
/-- is None, is not None -/
def isNF (neg : Bool) (x : D) : M D := rt (.val (.bool (neg != match x with
  | .val .none => true
  | _ => false)))
end
section
variable {X : Cx} {E : XK} {a : Expr} {ta : TE} {fa : Env → M D} {pos pos' : Pos}
def negE (fa : Env → M D) : Env → M D := fun env => bd (fa env) negF
theorem se_neg (ha : SE X E a ta fa) : SE X E (.UnaryOp .USub a pos) (tUn (rU fun i => .int (-i)) ta) (negE fa) := by
  refine ⟨pe_un un_neg ha.pe, fun w σ H env st Q s0 e0 hp => ?_⟩
  refine ha.rf.step s0 e0 hp fun r1 H1 st1 x v g1 s1 e1 q1 hp => ?_
  unfold negF at hp
  split at hp
  · rename_i e
    exact ⟨_, dat_int q1 e, Post.now hp s1 (.int _)⟩
  · exact hp.elim
theorem RpD.non_iff {K : W.Frag} {w : Wd} {H : Hp} {d : D} {v : V} (hc : ∀ u, d ≠ .cst u) (hx : d ≠ .err) (hfn : ∀ n, d ≠ .fn n) (r : RpD K w H d v) : decide (v = .non) = (match d with | .val .none => true | _ => false) := by
  cases d with
  | val p =>
    cases p <;> (cases r) <;> simp
  | loc n => obtain ⟨a, e, _⟩ := r; subst e; simp
  | cst u => exact absurd rfl (hc u)
  | frz xs => obtain ⟨a, vs, e, _⟩ := r; subst e; simp
  | err => exact absurd rfl hx
  | fn n => exact absurd rfl (hfn n)
  | pr _ _ => obtain ⟨a, _, _, e, _⟩ := r; subst e; simp
def isN (neg : Bool) (fa : Env → M D) : Env → M D := fun env => bd (fa env) fun d => match d with
  | .cst _ => bad
  | .err => bad
  | .fn _ => bad
  | .pr _ _ => bad
  | d => isNF neg d
theorem se_isN {j} (ha : SE X E a ta fa) : SE X E (.Compare a [.Is] [.Constant .none j pos'] pos) (tIsN ta) (isN false fa) := by
  refine ⟨pe_cmp (pc_isN ha.pe) rfl, fun w σ H env st Q s0 e0 hp => ?_⟩
  refine ha.rf.step s0 e0 hp fun r1 H1 st1 x v g1 s1 e1 q1 hp => ?_
  cases x with
  | cst u => exact hp.elim
  | err => exact hp.elim
  | fn _ => exact hp.elim
  | pr _ _ => exact hp.elim
  | val p => rw [RpD.non_iff (fun _ q => by cases q) (fun q => by cases q) (fun _ q => by cases q) q1]; exact Post.now hp s1 (by cases p <;> exact .bl _)
  | loc n => rw [RpD.non_iff (fun _ q => by cases q) (fun q => by cases q) (fun _ q => by cases q) q1]; exact Post.now hp s1 (.bl _)
  | frz n => rw [RpD.non_iff (fun _ q => by cases q) (fun q => by cases q) (fun _ q => by cases q) q1]; exact Post.now hp s1 (.bl _)
theorem se_notN {j} (ha : SE X E a ta fa) : SE X E (.Compare a [.IsNot] [.Constant .none j pos'] pos) (tNotN ta) (isN true fa) := by
  refine ⟨pe_cmp (pc_notN ha.pe) rfl, fun w σ H env st Q s0 e0 hp => ?_⟩
  refine ha.rf.step s0 e0 hp fun r1 H1 st1 x v g1 s1 e1 q1 hp => ?_
  cases x with
  | cst u => exact hp.elim
  | err => exact hp.elim
  | fn _ => exact hp.elim
  | pr _ _ => exact hp.elim
  | val p => rw [RpD.non_iff (fun _ q => by cases q) (fun q => by cases q) (fun _ q => by cases q) q1]; exact Post.now hp s1 (by cases p <;> exact .bl _)
  | loc n => rw [RpD.non_iff (fun _ q => by cases q) (fun q => by cases q) (fun _ q => by cases q) q1]; exact Post.now hp s1 (.bl _)
  | frz n => rw [RpD.non_iff (fun _ q => by cases q) (fun q => by cases q) (fun _ q => by cases q) q1]; exact Post.now hp s1 (.bl _)
end
end B
/-! BL8: subscripts, slices, dicts, builtins, methods, what is walked. -/
namespace B
open PySem L2
variable [Nm] [Gd]

/-! ### subscripts -/
def ixF (x y : D) : M D := fun st => match dat st x, dat st y with
  | some (.list xs), some (.int i) => match atI xs i with
    | some v => okV v st
    | none => .bad
  | some (.tuple xs), some (.int i) => match atI xs i with
    | some v => okV v st
    | none => .bad
  | some (.str z), some (.int i) => if z.length ≤ sizeLine then (match atI z.cps.toList i with
    | some c => okV (.str ⟨#[c]⟩) st
    | none => .bad) else .bad
  | _, _ => .bad
section
variable {K : W.Frag} {E : XK}
theorem Rps.at {w : Wd} {H : Hp} {xs : List PyData} {vs : List V} {i : Int} {d : PyData} (r : Rps K w H xs vs) (h : atI xs i = some d) : ∃ v, atI vs i = some v ∧ Rp K w H d v := by
  unfold atI at h ⊢
  rw [← r.length]
  cases q : ixN xs.length i with
  | none => rw [q] at h; cases h
  | some j =>
    rw [q] at h
    exact r.get h
theorem bop_ix : BOp K E (rIx K) ixF := by
  intro w H st dx dy x y Q hs rx ry hp
  unfold ixF at hp
  split at hp
  · rename_i e1 e2
    split at hp
    · rename_i v hv
      obtain ⟨a, vs, e3, ha, ra⟩ := dat_lst hs rx e1
      obtain ⟨u, hu, ru⟩ := ra.at hv
      exact .inl ⟨a, vs, _, u, e3, dat_int ry e2, SqL.of ha, hu, Post.now hp hs ru⟩
    · exact hp.elim
  · rename_i e1 e2
    split at hp
    · rename_i v hv
      obtain ⟨a, vs, e3, ha, ra⟩ := dat_tup rx e1
      obtain ⟨u, hu, ru⟩ := ra.at hv
      exact .inr (.inl ⟨a, vs, _, u, e3, dat_int ry e2, ha.sq, hu, Post.now hp hs ru⟩)
    · exact hp.elim
  · rename_i e1 e2
    split at hp
    · rename_i hl
      split at hp
      · rename_i c hc
        exact .inr (.inr ⟨_, _, c, dat_str rx e1, dat_int ry e2, hl, hc, Post.now hp hs (.str _)⟩)
      · exact hp.elim
    · exact hp.elim
  · exact hp.elim
end
section
variable {X : Cx} {E : XK} {a b e : Expr} {ta tb te : TE} {fa fb fe : Env → M D} {pos p2 : Pos}
theorem se_ix {K : W.Frag} (ha : SE X E a ta fa) (hb : SE X E b tb fb) (hK : X.K = K := by rfl) (hs : PlainIx b := by exact fun _ _ => rfl) : SE X E (.Subscript a b pos) (tOp (rIx K) ta tb) (op2 ixF fa fb) := by
  subst hK
  exact ⟨pe_ix ix_seq ha.pe hb.pe hs, rf_op bop_ix ha.rf hb.rf⟩

/-! ### slices -/
structure SO (X : Cx) (E : XK) (e : Option Expr) (t : TO) (f : Env → M (Option Int)) : Prop where
  po : PO X e t
  rf : Rf X.K E (fun _ _ a b => a = b) t f
def oNone : Env → M (Option Int) := fun _ => rt none
theorem so_none : SO X E none tNoPart oNone := ⟨po_none, fun w σ H env st Q hs he hp => Post.now hp hs rfl⟩
def partF (d : D) : M (Option Int) := fun st => match dat st d with
  | some (.int i) => .ok (some i) st
  | _ => .bad
def oSome (fe : Env → M D) : Env → M (Option Int) := fun env => bd (fe env) partF
theorem so_some (h : SE X E e te fe) : SO X E (some e) (tPart te) (oSome fe) := by
  refine ⟨po_some h.pe, fun w σ H env st Q s0 e0 hp => ?_⟩
  refine h.rf.step s0 e0 hp fun r1 H1 st1 x v g1 s1 e1 q1 hp => ?_
  unfold partF at hp
  split at hp
  · rename_i e
    exact ⟨_, dat_int q1 e, Post.now hp s1 rfl⟩
  · exact hp.elim
def cutP {α : Type} (xs : List α) (lo hi : Option Int) : List α := (xs.drop (HT.sIx xs.length 0 lo)).take (HT.sIx xs.length xs.length hi - HT.sIx xs.length 0 lo)
theorem Rps.take {K : W.Frag} {w : Wd} {H : Hp} : ∀ {xs : List PyData} {vs : List V} (n : Nat), Rps K w H xs vs → Rps K w H (xs.take n) (vs.take n)
  | _, _, 0, _ => .nil
  | _, _, _ + 1, .nil => .nil
  | _, _, n + 1, .cons r t => .cons r (Rps.take n t)
theorem Rps.drop {K : W.Frag} {w : Wd} {H : Hp} : ∀ {xs : List PyData} {vs : List V} (n : Nat), Rps K w H xs vs → Rps K w H (xs.drop n) (vs.drop n)
  | _, _, 0, r => r
  | _, _, _ + 1, .nil => .nil
  | _, _, n + 1, .cons _ t => Rps.drop n t
theorem Rps.cut {K : W.Frag} {w : Wd} {H : Hp} {xs : List PyData} {vs : List V} {lo hi : Option Int} (r : Rps K w H xs vs) : Rps K w H (cutP xs lo hi) (cutV vs lo hi) := by
  unfold cutP cutV
  rw [r.length]
  exact (r.drop _).take _
def sliceF (lo hi : Option Int) (x : D) : M D := fun st => match dat st x with
  | some (.list xs) => okV (.list (cutP xs lo hi)) st
  | some (.tuple xs) => okV (.tuple (cutP xs lo hi)) st
  | some (.str z) => if z.length ≤ sizeLine then okV (.str (cutS z lo hi)) st else .bad
  | _ => .bad
def rSlP (K : W.Frag) : V → Option Int → Option Int → Hp → VK → Prop := fun x lo hi H Q => rSlL K x lo hi H Q ∨ rSlA K x lo hi H Q ∨ rSlS x lo hi H Q
theorem sl_any : SlR X (rSlP X.K) := SlR.or sl_list (SlR.or sl_tupA sl_str)
variable {lo hi : Option Expr} {tl th : TO} {fl fh : Env → M (Option Int)}
def slF (fe : Env → M D) (fl fh : Env → M (Option Int)) : Env → M D := fun env => bd (fe env) fun x => bd (fl env) fun l => bd (fh env) fun h => sliceF l h x
theorem cutP_all {α : Type} {xs : List α} {lo hi : Option Int} (h : HT.sIx xs.length 0 lo = 0 ∧ HT.sIx xs.length xs.length hi = xs.length) : cutP xs lo hi = xs := by
  unfold cutP
  rw [h.1, h.2]
  simp
theorem se_slice {K : W.Frag} (he : SE X E e te fe) (hl : SO X E lo tl fl) (hh : SO X E hi th fh) (hK : X.K = K := by rfl) : SE X E (.Subscript e (.Slice lo hi none p2) pos) (tSl (rSlP K) te tl th) (slF fe fl fh) := by
  subst hK
  refine ⟨pe_slice sl_any he.pe hl.po hh.po, fun w σ H env st Q s0 e0 hp => ?_⟩
  refine he.rf.step s0 e0 hp fun r1 H1 st1 x v g1 s1 e1 q1 hp => ?_
  refine hl.rf.step s1 e1 hp fun r2 H2 st2 l l' g2 s2 e2 q2 hp => ?_
  refine hh.rf.step s2 e2 hp fun r3 H3 st3 h h' g3 s3 e3 q3 hp => ?_
  subst q2; subst q3
  have q4 := (q1.mono g2).mono g3
  unfold sliceF at hp
  split at hp
  · rename_i e
    obtain ⟨a, vs, e4, ha, ra⟩ := dat_lst s3 q4 e
    exact .inl ⟨a, vs, e4, SqL.of ha, fun p np => hp r3 _ _ (.new np) (s3.new np) (Rp.newLs (s3.notin np) ra.cut np)⟩
  · rename_i e
    obtain ⟨a, vs, e4, ha, ra⟩ := dat_tup q4 e
    refine .inr (.inl ⟨a, vs, e4, ha.sq, fun z => ?_, fun _ p np => hp r3 _ _ (.new np) (s3.new np) (Rp.newTup (s3.notin np) ra.cut np)⟩)
    rw [← ra.length] at z
    rw [cutP_all z] at hp
    exact Post.now hp s3 (.tup ha ra)
  · rename_i e
    split at hp
    · rename_i hz
      exact .inr (.inr ⟨_, dat_str q4 e, hz, Post.now hp s3 (.str _)⟩)
    · exact hp.elim
  · exact hp.elim
/-- a slice of the script: a fresh list -/
def slFz (fe : Env → M D) (fl fh : Env → M (Option Int)) : Env → M (List PyData) := fun env => bd (fe env) fun x => bd (fl env) fun l => bd (fh env) fun h => match x with
  | .frz xs => rt (cutP xs l h)
  | _ => bad
theorem sf_sliceFz {K : W.Frag} (he : SE X E e te fe) (hl : SO X E lo tl fl) (hh : SO X E hi th fh) (hK : X.K = K := by rfl) : SF X E (.Subscript e (.Slice lo hi none p2) pos) (tSl (rSlL K) te tl th) (slFz fe fl fh) := by
  subst hK
  refine ⟨pe_slice sl_list he.pe hl.po hh.po, fun w σ H env st Q s0 e0 hp => ?_⟩
  refine he.rf.stepF s0 e0 hp fun r1 H1 st1 x v g1 s1 e1 q1 hp => ?_
  refine hl.rf.stepF s1 e1 hp fun r2 H2 st2 l l' g2 s2 e2 q2 hp => ?_
  refine hh.rf.stepF s2 e2 hp fun r3 H3 st3 h h' g3 s3 e3 q3 hp => ?_
  subst q2; subst q3
  have q4 := (q1.mono g2).mono g3
  cases x with
  | frz xs =>
    obtain ⟨a, vs, e4, fz, ra⟩ := q4
    exact ⟨a, vs, e4, fz.sq, fun p np => hp r3 H3 p _ (Ge.refl _ _) s3 np ra.cut⟩
  | _ => exact hp.elim
end

/-! ### calls of builtins by values -/
def BCall (K : W.Frag) (E : XK) (r : List V → Hp → VK → Prop) (g : List D → M D) : Prop :=
  ∀ w H st ds vs Q, RelSt K w H st → RpDs K w H ds vs → Post K E (RE K) w H (g ds st) Q → r vs H Q
def BCallF (K : W.Frag) (E : XK) (r : List V → Hp → VK → Prop) (g : List D → M (List PyData)) : Prop :=
  ∀ w H st ds vs Q, RelSt K w H st → RpDs K w H ds vs → PostF K E w H (g ds st) Q → r vs H Q
section
variable {X : Cx} {E : XK} {e o : Expr} {es : List Expr} {tr : TA} {fr : Env → M (List D)} {x : Str} {id T : String} {p pos apos : Pos} {r : List V → Hp → VK → Prop} {g : List D → M D} {gf : List D → M (List PyData)}
theorem rf_cb {K : W.Frag} (hB : BCall K E r g) (ha : Rf K E (RA K) tr fr) : Rf K E (RE K) (tCB r tr) (callF g fr) := by
  intro w σ H env st Q s0 e0 hp
  exact ha.step s0 e0 hp fun r1 H1 st1 ds vs g1 s1 e1 q1 hp => hB r1 H1 st1 ds vs Q s1 q1 hp
def callFF (gf : List D → M (List PyData)) (fr : Env → M (List D)) : Env → M (List PyData) := fun env => bd (fr env) gf
theorem rf_cbf {K : W.Frag} (hB : BCallF K E r gf) (ha : Rf K E (RA K) tr fr) : RfF K E (tCB r tr) (callFF gf fr) := by
  intro w σ H env st Q s0 e0 hp
  exact ha.stepF s0 e0 hp fun r1 H1 st1 ds vs g1 s1 e1 q1 hp => hB r1 H1 st1 ds vs Q s1 q1 hp
theorem se_callB (hc : CallR X (.builtin id) r) (hB : BCall X.K E r g) (hm : X.mg x = none) (hv : bootBuiltins x = some (.builtin id)) (ha : SA X E (e :: es) tr fr) (hg : Gl X x := by rfl) (hn : x ≠ "__name__" := by decide) (hdb : (x == ("__debug__" : Str)) = false := by decide)
    (he : starEach (e :: es) X.env = (false, eval e X.env) :: starEach es X.env := by rfl) (hpl : (backTo pos (starEach es X.env)).any (·.1) = false := by rfl) : SE X E (.Call (.Name x p) (e :: es) [] pos) (tCB r tr) (callF g fr) :=
  ⟨pe_callB hc hg hm hv ha.pa hn hdb he hpl, rf_cb hB ha.rf⟩
theorem se_callTy (hc : CallR X (.type T) r) (hB : BCall X.K E r g) (hm : X.mg x = none) (hv : bootBuiltins x = some (.type T)) (ha : SA X E (e :: es) tr fr) (hg : Gl X x := by rfl) (hn : x ≠ "__name__" := by decide) (hdb : (x == ("__debug__" : Str)) = false := by decide)
    (he : starEach (e :: es) X.env = (false, eval e X.env) :: starEach es X.env := by rfl) (hpl : (backTo pos (starEach es X.env)).any (·.1) = false := by rfl) : SE X E (.Call (.Name x p) (e :: es) [] pos) (tCB r tr) (callF g fr) :=
  ⟨pe_callTy hc hg hm hv ha.pa hn hdb he hpl, rf_cb hB ha.rf⟩
theorem sf_callB (hc : CallR X (.builtin id) r) (hB : BCallF X.K E r gf) (hm : X.mg x = none) (hv : bootBuiltins x = some (.builtin id)) (ha : SA X E (e :: es) tr fr) (hg : Gl X x := by rfl) (hn : x ≠ "__name__" := by decide) (hdb : (x == ("__debug__" : Str)) = false := by decide)
    (he : starEach (e :: es) X.env = (false, eval e X.env) :: starEach es X.env := by rfl) (hpl : (backTo pos (starEach es X.env)).any (·.1) = false := by rfl) : SF X E (.Call (.Name x p) (e :: es) [] pos) (tCB r tr) (callFF gf fr) :=
  ⟨pe_callB hc hg hm hv ha.pa hn hdb he hpl, rf_cbf hB ha.rf⟩
theorem sf_callTy (hc : CallR X (.type T) r) (hB : BCallF X.K E r gf) (hm : X.mg x = none) (hv : bootBuiltins x = some (.type T)) (ha : SA X E (e :: es) tr fr) (hg : Gl X x := by rfl) (hn : x ≠ "__name__" := by decide) (hdb : (x == ("__debug__" : Str)) = false := by decide)
    (he : starEach (e :: es) X.env = (false, eval e X.env) :: starEach es X.env := by rfl) (hpl : (backTo pos (starEach es X.env)).any (·.1) = false := by rfl) : SF X E (.Call (.Name x p) (e :: es) [] pos) (tCB r tr) (callFF gf fr) :=
  ⟨pe_callTy hc hg hm hv ha.pa hn hdb he hpl, rf_cbf hB ha.rf⟩
/-- a builtin's name as a value: a class -/
theorem se_bltn {u : Value} {v : V} (hm : X.mg x = none) (hv : bootBuiltins x = some u) (rv : RelV v u) (hg : Gl X x := by rfl) (hn : x ≠ "__name__" := by decide) (hdb : (x == ("__debug__" : Str)) = false := by decide) : SE X E (.Name x pos) (tC v) (cD (.cst v)) :=
  ⟨pe_bltn hg hm hv rv hn hdb, rf_const fun _ _ => rfl⟩
end
section
variable {X : Cx} {K : W.Frag}
theorem kLen (hK : X.K = K := by rfl) : CallR X (.builtin "len") (fun xs H Q => ∃ x n, xs = [x] ∧ LenV K x H n ∧ Q (.int n) H) := by subst hK; exact call_len
theorem kTuple (hK : X.K = K := by rfl) : CallR X (.type "tuple") (fun xs H Q => ∃ p ys, xs = [.ref p] ∧ ((SqL K H p ys ∧ ∀ l, H l = none → Q (.ref l) (upd H l (.tup ys))) ∨ (SqT K H p ys ∧ Q (.ref p) H))) := by subst hK; exact call_tuple_of
theorem kList (hK : X.K = K := by rfl) : CallR X (.type "list") (fun xs H Q => ∃ p ys, xs = [.ref p] ∧ (SqL K H p ys ∨ SqT K H p ys) ∧ ∀ l, H l = none → Q (.ref l) (upd H l (.lst ys))) := by subst hK; exact call_list_of
theorem kIsi (hK : X.K = K := by rfl) : CallR X (.builtin "isinstance") (rIsi K) := by subst hK; exact call_isi
theorem kAll (hc : X.calm = true := by rfl) (hK : X.K = K := by rfl) : CallR X (.builtin "all") (rAll K) := by subst hK; exact cr_all hc
theorem kSum (hc : X.calm = true := by rfl) (hK : X.K = K := by rfl) : CallR X (.builtin "sum") (rSum K) := by subst hK; exact cr_sum hc
end
section
variable {K : W.Frag} {E : XK}
theorem RpDs.one {w : Wd} {H : Hp} {d : D} {vs : List V} (r : RpDs K w H [d] vs) : ∃ v, vs = [v] ∧ RpD K w H d v := by
  cases r with
  | cons r t => cases t; exact ⟨_, rfl, r⟩
theorem RpDs.two {w : Wd} {H : Hp} {d e : D} {vs : List V} (r : RpDs K w H [d, e] vs) : ∃ v u, vs = [v, u] ∧ RpD K w H d v ∧ RpD K w H e u := by
  cases r with
  | cons r t => cases t with
    | cons r2 t => cases t; exact ⟨_, _, rfl, r, r2⟩
/-! len -/
def lenF (ds : List D) : M D := fun st => match ds with
  | [d] => (match dat st d with
    | some (.list xs) => okV (.int xs.length) st
    | some (.tuple xs) => okV (.int xs.length) st
    | some (.str z) => if z.length ≤ sizeLine then okV (.int z.length) st else .bad
    | _ => .bad)
  | _ => .bad
theorem bc_len : BCall K E (fun xs H Q => ∃ x n, xs = [x] ∧ LenV K x H n ∧ Q (.int n) H) lenF := by
  intro w H st ds vs Q hs r hp
  unfold lenF at hp
  split at hp
  · obtain ⟨v, e, r1⟩ := r.one
    split at hp
    · rename_i e1
      obtain ⟨a, us, e3, ha, ra⟩ := dat_lst hs r1 e1
      subst e3
      exact ⟨_, us.length, e, .inl ⟨us, SqL.of ha, rfl⟩, by rw [← ra.length]; exact Post.now hp hs (.int _)⟩
    · rename_i e1
      obtain ⟨a, us, e3, ha, ra⟩ := dat_tup r1 e1
      subst e3
      exact ⟨_, us.length, e, .inr ⟨us, ha.sq, rfl⟩, by rw [← ra.length]; exact Post.now hp hs (.int _)⟩
    · rename_i e1
      split at hp
      · rename_i hl
        have e3 := dat_str r1 e1
        subst e3
        exact ⟨_, _, e, ⟨hl, rfl⟩, Post.now hp hs (.int _)⟩
      · exact hp.elim
    · exact hp.elim
  · exact hp.elim
/-! int, str -/
def intF (ds : List D) : M D := fun st => match ds with
  | [d] => (match dat st d with
    | some (.int i) => okV (.int i) st
    | some (.bool b) => okV (.int (if b then 1 else 0)) st
    | _ => .bad)
  | _ => .bad
theorem bc_int : BCall K E (fun xs H Q => (∃ i, xs = [.int i] ∧ Q (.int i) H) ∨ ∃ k, xs = [.bl k] ∧ Q (.int (if k then 1 else 0)) H) intF := by
  intro w H st ds vs Q hs r hp
  unfold intF at hp
  split at hp
  · obtain ⟨v, e, r1⟩ := r.one
    split at hp
    · rename_i e1
      have e3 := dat_int r1 e1
      subst e3
      exact .inl ⟨_, e, Post.now hp hs (.int _)⟩
    · rename_i e1
      have e3 := dat_bool r1 e1
      subst e3
      exact .inr ⟨_, e, Post.now hp hs (.int _)⟩
    · exact hp.elim
  · exact hp.elim
def strF (ds : List D) : M D := fun st => match ds with
  | [d] => (match dat st d with
    | some (.int i) => if i.natAbs.log2 < 1920 then okV (.str (toString i)) st else .bad
    | _ => .bad)
  | _ => .bad
theorem bc_str : BCall K E (fun xs H Q => ∃ i, xs = [.int i] ∧ i.natAbs.log2 < 1920 ∧ Q (.str (toString i)) H) strF := by
  intro w H st ds vs Q hs r hp
  unfold strF at hp
  split at hp
  · obtain ⟨v, e, r1⟩ := r.one
    split at hp
    · rename_i e1
      split at hp
      · rename_i hl
        have e3 := dat_int r1 e1
        subst e3
        exact ⟨_, e, hl, Post.now hp hs (.str _)⟩
      · exact hp.elim
    · exact hp.elim
  · exact hp.elim
/-! tuple, list -/
def tupleF (ds : List D) : M D := fun st => match ds with
  | [d] => (match dat st d with
    | some (.list xs) => okV (.tuple xs) st
    | some (.tuple xs) => okV (.tuple xs) st
    | _ => .bad)
  | _ => .bad
theorem bc_tuple : BCall K E (fun xs H Q => ∃ p ys, xs = [.ref p] ∧ ((SqL K H p ys ∧ ∀ l, H l = none → Q (.ref l) (upd H l (.tup ys))) ∨ (SqT K H p ys ∧ Q (.ref p) H))) tupleF := by
  intro w H st ds vs Q hs r hp
  unfold tupleF at hp
  split at hp
  · obtain ⟨v, e, r1⟩ := r.one
    split at hp
    · rename_i e1
      obtain ⟨a, us, e3, ha, ra⟩ := dat_lst hs r1 e1
      subst e3
      exact ⟨a, us, e, .inl ⟨SqL.of ha, fun p np => hp w _ _ (.new np) (hs.new np) (Rp.newTup (hs.notin np) ra np)⟩⟩
    · rename_i e1
      obtain ⟨a, us, e3, ha, ra⟩ := dat_tup r1 e1
      subst e3
      exact ⟨a, us, e, .inr ⟨ha.sq, Post.now hp hs (.tup ha ra)⟩⟩
    · exact hp.elim
  · exact hp.elim
def listF (ds : List D) : M (List PyData) := fun st => match ds with
  | [d] => (match dat st d with
    | some (.list xs) => .ok xs st
    | some (.tuple xs) => .ok xs st
    | _ => .bad)
  | _ => .bad
theorem bc_list : BCallF K E (fun xs H Q => ∃ p ys, xs = [.ref p] ∧ (SqL K H p ys ∨ SqT K H p ys) ∧ ∀ l, H l = none → Q (.ref l) (upd H l (.lst ys))) listF := by
  intro w H st ds vs Q hs r hp
  unfold listF at hp
  split at hp
  · obtain ⟨v, e, r1⟩ := r.one
    split at hp
    · rename_i e1
      obtain ⟨a, us, e3, ha, ra⟩ := dat_lst hs r1 e1
      subst e3
      exact ⟨a, us, e, .inl (SqL.of ha), fun p np => hp w H p us (Ge.refl _ _) hs np ra⟩
    · rename_i e1
      obtain ⟨a, us, e3, ha, ra⟩ := dat_tup r1 e1
      subst e3
      exact ⟨a, us, e, .inr ha.sq, fun p np => hp w H p us (Ge.refl _ _) hs np ra⟩
    · exact hp.elim
  · exact hp.elim
/-! isinstance against a builtin class -/
def tyName : PyData → String
  | .none => "NoneType"
  | .bool _ => "bool"
  | .int _ => "int"
  | .str _ => "str"
  | .list _ => "list"
  | .tuple _ => "tuple"
  | .dict _ => "dict"
def isiF (ds : List D) : M D := fun st => match ds with
  | [d, .cst (.ty T)] => (match dat st d with
    | some p => (match kitB (tyName p) T with
      | some b => okV (.bool b) st
      | none => .bad)
    | none => .bad)
  | _ => .bad
theorem TupAt.ty {w : Wd} {H : Hp} {a : Addr} {vs : List V} (h : TupAt K w H a vs) : TyX K H (.ref a) (.type "tuple") := by
  rcases h with ⟨h | ⟨o, h⟩, _⟩ | ⟨o, its, n, h1, h2, _⟩
  · exact .base (.tup h)
  · exact .fTuple h
  · exact .kTuple h1 h2
theorem dat_ty {w : Wd} {H : Hp} {st : Store} {d : D} {v : V} {p : PyData} (hs : RelSt K w H st) (r : RpD K w H d v) (h : dat st d = some p) : TyX K H v (.type (tyName p)) := by
  cases p with
  | list xs => obtain ⟨a, us, e, ha, _⟩ := dat_lst hs r h; subst e; exact .base (.lst ha)
  | tuple xs => obtain ⟨a, us, e, ha, _⟩ := dat_tup r h; subst e; exact ha.ty
  | none =>
    have e := dat_val h (fun _ q => by cases q)
    subst e
    cases r
    exact .base .non
  | bool b =>
    have e := dat_bool r h
    subst e
    exact .base (.bl b)
  | int b =>
    have e := dat_int r h
    subst e
    exact .base (.int b)
  | str b =>
    have e := dat_str r h
    subst e
    exact .base (.str b)
  | dict _ =>
    have e := dat_val h (fun _ q => by cases q)
    subst e
    cases r
theorem bc_isi : BCall K E (rIsi K) isiF := by
  intro w H st ds vs Q hs r hp
  unfold isiF at hp
  split at hp
  · obtain ⟨v, u, e, r1, r2⟩ := r.two
    cases r2
    split at hp
    · rename_i e1
      split at hp
      · rename_i b hb
        exact ⟨v, _, _, _, b, e, .ty _, dat_ty hs r1 e1, kit_ty hb, Post.now hp hs (.bl b)⟩
      · exact hp.elim
    · exact hp.elim
  · exact hp.elim
/-! max, min of two -/
def max2F (ds : List D) : M D := fun st => match ds with
  | [d, e] => (match dat st d, dat st e with
    | some (.int i), some (.int j) => okV (.int (if j > i then j else i)) st
    | _, _ => .bad)
  | _ => .bad
theorem bc_max2 : BCall K E (fun xs H Q => ∃ i j, xs = [.int i, .int j] ∧ Q (.int (if j > i then j else i)) H) max2F := by
  intro w H st ds vs Q hs r hp
  unfold max2F at hp
  split at hp
  · obtain ⟨v, u, e, r1, r2⟩ := r.two
    split at hp
    · rename_i e1 e2
      have e3 := dat_int r1 e1
      have e4 := dat_int r2 e2
      subst e3; subst e4
      exact ⟨_, _, e, Post.now hp hs (.int _)⟩
    · exact hp.elim
  · exact hp.elim
end
end B
/-! BL9: what is walked, methods, dicts, sorted, repr, texts. -/
namespace B
open PySem L2
variable [Nm] [Gd]

/-! ### what is walked -/
def iAny (K : W.Frag) (tl : TE) : TI := fun σ H R => tl σ H fun x H1 => (∃ a, x = .ref a ∧ (∃ xs, SqL K H1 a xs) ∧ R (Itl K a) H1) ∨ (∃ a, x = .ref a ∧ (∃ xs, SqT K H1 a xs) ∧ R (Itt K a) H1) ∨ ∃ y, x = .str y ∧ R (Its y) H1
theorem it_list {X : Cx} {tg : Expr} {pins : List (Addr × Obj)} {σ : St} {H : Hp} {s : Shared} {a : Addr} {xs : List V} {R : It → Hp → Prop} {E : Value → Shared → Prop} (I : Inv X pins σ H s) (hq : SqL X.K H a xs) (q : R (Itl X.K a) H) : wpAny (model X.prog X.w) X.A (pyIter (.ref a)) (PIE X pins σ tg R) E s := by
  obtain ⟨its, rv, pl, _⟩ := I.list hq
  exact wpAny_pyIter_list pl.isList (pi_one (tk := s.toks) I _ (turn_list a _) ⟨_, Heap.get?_push_size _ rfl, rfl, rfl⟩ q)
theorem it_tup {X : Cx} {tg : Expr} {pins : List (Addr × Obj)} {σ : St} {H : Hp} {s : Shared} {a : Addr} {xs : List V} {R : It → Hp → Prop} {E : Value → Shared → Prop} (I : Inv X pins σ H s) (hq : SqT X.K H a xs) (q : R (Itt X.K a) H) : wpAny (model X.prog X.w) X.A (pyIter (.ref a)) (PIE X pins σ tg R) E s := by
  obtain ⟨its, rv, pl, _⟩ := I.tuple hq
  exact wpAny_pyIter_tuple (show s.heap.IsTuple a its.toArray from pl) (pi_one (tk := s.toks) I _ (turn_tuple a _) ⟨_, Heap.get?_push_size _ rfl, rfl, rfl⟩ q)
theorem pi_any {X : Cx} {tg l : Expr} {tl : TE} (hl : PE X l tl) : PI X tg l (iAny X.K tl) := by
  refine ⟨fun pins s σ H R I h => thn (hl.run pins s σ H _ I h) fun v s1 ⟨x, H1, I1, r1, q1⟩ => ?_⟩
  rcases q1 with ⟨a, ex, ⟨xs, hq⟩, q⟩ | ⟨a, ex, ⟨xs, hq⟩, q⟩ | ⟨y, ex, q⟩
  · subst ex; cases r1; exact it_list I1 hq q
  · subst ex; cases r1; exact it_tup I1 hq q
  · subst ex
    obtain ⟨t, rfl⟩ := r1
    cases ha : y.cps.all (· < 128)
    · exact wpAny_pyIter_wide ha (pi_one (tk := s1.toks) I1 _ (turn_str _ y t "str_iterator" (.inr rfl)) ⟨_, Heap.get?_push_size _ rfl, rfl, rfl⟩ q)
    · exact wpAny_pyIter_ascii ha (pi_one (tk := s1.toks) I1 _ (turn_str _ y t "str_ascii_iterator" (.inl rfl)) ⟨_, Heap.get?_push_size _ rfl, rfl, rfl⟩ q)
def signs (y : Str) : List PyData := y.cps.toList.map fun c => .str ⟨#[c]⟩
def srcOf (d : D) : M Src := fun st => match d with
  | .val (.tuple xs) => .ok (.fix xs) st
  | .val (.list xs) => .ok (.fix xs) st
  | .val (.str y) => .ok (.fix (signs y)) st
  | .loc n => (match st[n]? with
    | some (.lst _) => .ok (.obj n) st
    | _ => .bad)
  | _ => .bad
section
variable {K : W.Frag}
theorem itok_list {w : Wd} {H : Hp} {a : Addr} {vs : List V} {xs : List PyData} (l : LsAt K w H a vs) (r : Rps K w H xs vs) : ItOk K w H (Itl K a) xs := by
  intro w' H' st' g s'
  have l' := l.mo g
  refine ⟨fun i x hx => ?_, ⟨vs, l'.sq, by rw [r.length]; exact Nat.le_refl _⟩⟩
  obtain ⟨v, hv, rv⟩ := r.get hx
  refine ⟨⟨vs, v, l'.sq, hv⟩, fun u H2 hy => ?_⟩
  obtain ⟨e, hy⟩ := hy
  subst e
  have q := hy vs l'.sq
  rw [hv] at q
  cases q
  exact ⟨Same.refl _, rv.mo g⟩
theorem itok_tup {w : Wd} {H : Hp} {a : Addr} {vs : List V} {xs : List PyData} (l : TupAt K w H a vs) (r : Rps K w H xs vs) : ItOk K w H (Itt K a) xs := by
  intro w' H' st' g s'
  have l' := l.mo g
  refine ⟨fun i x hx => ?_, ⟨vs, l'.sq, by rw [r.length]; exact Nat.le_refl _⟩⟩
  obtain ⟨v, hv, rv⟩ := r.get hx
  refine ⟨⟨vs, v, l'.sq, hv⟩, fun u H2 hy => ?_⟩
  obtain ⟨e, hy⟩ := hy
  subst e
  have q := hy vs l'.sq
  rw [hv] at q
  cases q
  exact ⟨Same.refl _, rv.mo g⟩
theorem itok_str {w : Wd} {H : Hp} {y : Str} : ItOk K w H (Its y) (signs y) := by
  intro w' H' st' g s'
  have hl : (signs y).length = y.cps.size := by simp [signs]
  refine ⟨fun i x hx => ?_, by rw [hl]; exact Nat.le_refl _⟩
  have hi : i < y.cps.size := by rw [← hl]; exact (List.getElem?_eq_some_iff.mp hx).1
  refine ⟨hi, fun u H2 hy => ?_⟩
  obtain ⟨e, c, hc, eu⟩ := hy
  subst e; subst eu
  refine ⟨Same.refl _, ?_⟩
  have : x = .str ⟨#[c]⟩ := by
    simp only [signs, List.getElem?_map, Array.getElem?_toList, hc, Option.map_some, Option.some.injEq] at hx
    exact hx.symm
  rw [this]
  exact .str _
theorem itok_range {w : Wd} {H : Hp} {lo : Int} {n : Nat} : ItOk K w H (Itr lo n) ((List.range n).map fun (i : Nat) => PyData.int (lo + i)) := by
  intro w' H' st' g s'
  refine ⟨fun i x hx => ?_, by simp [Itr]⟩
  have hi : i < n := by
    have := (List.getElem?_eq_some_iff.mp hx).1
    simpa using this
  refine ⟨hi, fun u H2 hy => ?_⟩
  obtain ⟨e, eu⟩ := hy
  subst e; subst eu
  refine ⟨Same.refl _, ?_⟩
  simp only [List.getElem?_map, List.getElem?_range hi, Option.map_some, Option.some.injEq] at hx
  rw [← hx]
  exact .int _
end
section
variable {X : Cx} {E : XK} {a b e tg : Expr} {ta tb te : TE} {fa fb fe : Env → M D} {tr : TA} {fr : Env → M (List D)} {p pos : Pos}
def anyI (fe : Env → M D) : Env → M Src := fun env => bd (fe env) srcOf
theorem si_any {K : W.Frag} (h : SE X E e te fe) (hK : X.K = K := by rfl) : SI X E tg e (iAny K te) (anyI fe) := by
  subst hK
  refine ⟨pi_any h.pe, fun w σ H env st Q s0 e0 hp => ?_⟩
  refine h.rf.step s0 e0 hp fun r1 H1 st1 x v g1 s1 e1 q1 hp => ?_
  unfold srcOf at hp
  split at hp
  · cases q1 with
    | tup l r => exact .inr (.inl ⟨_, rfl, ⟨_, l.sq⟩, Post.now hp s1 (itok_tup l r)⟩)
  · cases q1 with
    | ls l r => exact .inl ⟨_, rfl, ⟨_, l.sq⟩, Post.now hp s1 (itok_list l r)⟩
  · cases q1
    exact .inr (.inr ⟨_, rfl, Post.now hp s1 itok_str⟩)
  · split at hp
    · rename_i e
      obtain ⟨a, ev, ha, vs, hv, _⟩ := s1.at e q1
      exact .inl ⟨a, ev, ⟨vs, SqL.of hv⟩, Post.now hp s1 ⟨a, ha, rfl⟩⟩
    · exact hp.elim
  · exact hp.elim
def rangeSrc (ds : List D) : M Src := fun st => match ds with
  | [.val (.int j)] => if -(2 ^ 62) ≤ j ∧ j < 2 ^ 62 then .ok (.fix ((List.range j.toNat).map fun (i : Nat) => PyData.int (0 + i))) st else .bad
  | _ => .bad
def rngI (fr : Env → M (List D)) : Env → M Src := fun env => bd (fr env) rangeSrc
theorem si_range (hm : X.mg "range" = none) (ha : SA X E [a] tr fr) (hg : Gl X "range" := by rfl) (hs : starEach [a] X.env = [(false, eval a X.env)] := by rfl) : SI X E tg (.Call (.Name "range" p) [a] [] pos) (iRng1 tr) (rngI fr) := by
  refine ⟨pi_range1 hg hm ha.pa hs, fun w σ H env st Q s0 e0 hp => ?_⟩
  refine ha.rf.step s0 e0 hp fun r1 H1 st1 ds vs g1 s1 e1 q1 hp => ?_
  unfold rangeSrc at hp
  split at hp
  · split at hp
    · rename_i hl
      obtain ⟨v, ev, r⟩ := q1.one
      cases r
      exact ⟨_, ev, hl.1, hl.2, Post.now hp s1 itok_range⟩
    · exact hp.elim
  · exact hp.elim
def range2Src (ds : List D) : M Src := fun st => match ds with
  | [.val (.int i), .val (.int j)] => if -(2 ^ 62) ≤ i ∧ i < 2 ^ 62 ∧ -(2 ^ 62) ≤ j ∧ j < 2 ^ 62 then .ok (.fix ((List.range (j - i).toNat).map fun (k : Nat) => PyData.int (i + k))) st else .bad
  | _ => .bad
def rng2I (fr : Env → M (List D)) : Env → M Src := fun env => bd (fr env) range2Src
theorem si_range2 (hm : X.mg "range" = none) (ha : SA X E [a, b] tr fr) (hg : Gl X "range" := by rfl) (hs : starEach [a, b] X.env = [(false, eval a X.env), (false, eval b X.env)] := by rfl) (hs2 : starEach [b] X.env = [(false, eval b X.env)] := by rfl) : SI X E tg (.Call (.Name "range" p) [a, b] [] pos) (iRng2 tr) (rng2I fr) := by
  refine ⟨pi_range2 hg hm ha.pa hs hs2, fun w σ H env st Q s0 e0 hp => ?_⟩
  refine ha.rf.step s0 e0 hp fun r1 H1 st1 ds vs g1 s1 e1 q1 hp => ?_
  unfold range2Src at hp
  split at hp
  · split at hp
    · rename_i hl
      obtain ⟨v, u, ev, r, r'⟩ := q1.two
      cases r; cases r'
      exact ⟨_, _, ev, hl, Post.now hp s1 itok_range⟩
    · exact hp.elim
  · exact hp.elim
end
theorem Ge.write {w : Wd} {H : Hp} {n : Nat} {a : Addr} {u : HO} (ha : w.rho[n]? = some a) : Ge w H w (upd H a u) :=
  ⟨⟨[], by simp, rfl, fun _ h => by simp at h⟩, fun b v _ nb h => by rw [upd_ne (fun z => nb (by rw [z]; exact List.mem_of_getElem? ha))]; exact h, fun b v nb h => ⟨v, by rw [upd_ne (fun z => nb (by rw [z]; exact List.mem_of_getElem? ha))]; exact h⟩⟩
/-! ### methods -/
def isL (d : D) : M Unit := fun st => match dat st d with
  | some (.list _) => .ok () st
  | _ => .bad
section
variable {X : Cx} {E : XK} {o e : Expr} {es : List Expr} {to te : TE} {fo fe : Env → M D} {tr : TA} {fr : Env → M (List D)} {apos cpos : Pos}
def BMt (K : W.Frag) (E : XK) (r : V → List V → Hp → VK → Prop) (g : D → List D → M D) : Prop :=
  ∀ w H st dx ds x vs Q, RelSt K w H st → RpD K w H dx x → RpDs K w H ds vs → Post K E (RE K) w H (g dx ds st) Q → r x vs H Q
def methL (g : D → List D → M D) (fo : Env → M D) (fr : Env → M (List D)) : Env → M D := fun env => bd (fo env) fun x => bd (isL x) fun _ => bd (fr env) fun ds => g x ds
theorem rf_methL {K : W.Frag} {r : V → List V → Hp → VK → Prop} {g : D → List D → M D} (hB : BMt K E r g) (ho : Rf K E (RE K) to fo) (ha : Rf K E (RA K) tr fr) : Rf K E (RE K) (tBM K "list" r to tr) (methL g fo fr) := by
  intro w σ H env st Q s0 e0 hp
  refine ho.step s0 e0 hp fun r1 H1 st1 x v g1 s1 e1 q1 hp => ?_
  have hp2 := hp
  unfold bd isL at hp2
  cases hd : dat st1 x with
  | none => simp only [hd] at hp2; exact hp2.elim
  | some p =>
    cases p with
    | list xs =>
      obtain ⟨a, us, e3, ha', ra⟩ := dat_lst s1 q1 hd
      subst e3
      rw [bd_ok (a := ()) (st' := st1) (by unfold isL; rw [hd])] at hp
      refine ⟨.inl ⟨rfl, us, SqL.of ha'⟩, ?_⟩
      exact ha.step s1 e1 hp fun r2 H2 st2 ds vs g2 s2 e2 q2 hp => hB r2 H2 st2 x ds _ vs Q s2 (q1.mono g2) q2 hp
    | _ => simp only [hd] at hp2; exact hp2.elim
/-- append -/
def appF (x : D) (ds : List D) : M D := fun st => match x, ds with
  | .loc n, [.val y] => (match st[n]? with
    | some (.lst xs) => if xs.length < sizeLine then .ok (.val .none) (st.set n (.lst (xs ++ [y]))) else .bad
    | _ => .bad)
  | _, _ => .bad
theorem bm_app {K : W.Frag} : BMt K E rAppend appF := by
  intro w H st dx ds x vs Q hs rx rd hp
  unfold appF at hp
  split at hp
  · split at hp
    · rename_i e
      split at hp
      · rename_i hl
        obtain ⟨a, ev, ha, us, hu, ru⟩ := hs.at e rx
        obtain ⟨v, evs, rv⟩ := rd.one
        refine ⟨a, us, v, ev, evs, hu, by rw [← ru.length]; exact hl, ?_⟩
        obtain ⟨s2, g2⟩ := hs.write (o := .lst _) (u := .lst (us ++ [v])) ha ⟨_, upd_same, (ru.append (.cons rv .nil)).mono (.write ha)⟩
        exact hp w _ _ g2 s2 .non
      · exact hp.elim
    · exact hp.elim
  · exact hp.elim
theorem se_append {K : W.Frag} (ho : SE X E o to fo) (ha : SA X E [e] tr fr) (hK : X.K = K := by rfl) (hbase : attributeBase o "append" X.env (eval o X.env) = eval o X.env := by rfl)
    (hfew : ((backTo cpos (starEach [e] X.env)).all (fun x => !x.1) && (backToKw cpos (keywordEach [] X.env)).all (fun x => x.1.isSome) && decide ([e].length + ([] : List Keyword).length + (if ([] : List Keyword).isEmpty then 0 else 1) < 30)) = true := by rfl)
    (hline : (apos.endLine == cpos.line) = true := by rfl) (hs : starEach [e] X.env = (false, eval e X.env) :: starEach [] X.env := by rfl) (hplain : (backTo cpos (starEach [] X.env)).any (·.1) = false := by rfl) :
    SE X E (.Call (.Attribute o "append" apos) [e] [] cpos) (tBM K "list" rAppend to tr) (methL appF fo fr) := by
  subst hK
  exact ⟨pe_bm PySem.F.plainAttrs_list PySem.F.slot_list_append PySem.F.type_list_append mt_append ho.pe ha.pa hbase hfew hline hs hplain, rf_methL bm_app ho.rf ha.rf⟩
/-- extend by a list -/
def extF (x : D) (ds : List D) : M D := fun st => match x, ds with
  | .loc n, [d] => (match st[n]?, dat st d with
    | some (.lst xs), some (.list ys) => if xs.length + ys.length ≤ sizeLine then .ok (.val .none) (st.set n (.lst (xs ++ ys))) else .bad
    | _, _ => .bad)
  | _, _ => .bad
theorem bm_ext {K : W.Frag} : BMt K E rExtend extF := by
  intro w H st dx ds x vs Q hs rx rd hp
  unfold extF at hp
  split at hp
  · split at hp
    · rename_i e e2
      split at hp
      · rename_i hl
        obtain ⟨a, ev, ha, us, hu, ru⟩ := hs.at e rx
        obtain ⟨v, evs, rv⟩ := rd.one
        obtain ⟨b, zs, eb, hb, rb⟩ := dat_lst hs rv e2
        subst eb
        refine ⟨a, b, us, zs, ev, evs, hu, hb, by rw [← ru.length, ← rb.length]; exact hl, ?_⟩
        obtain ⟨s2, g2⟩ := hs.write (o := .lst _) (u := .lst (us ++ zs)) ha ⟨_, upd_same, (ru.append rb).mono (.write ha)⟩
        exact hp w _ _ g2 s2 .non
      · exact hp.elim
    · exact hp.elim
  · exact hp.elim
theorem se_extend {K : W.Frag} (ho : SE X E o to fo) (ha : SA X E [e] tr fr) (hK : X.K = K := by rfl) (hbase : attributeBase o "extend" X.env (eval o X.env) = eval o X.env := by rfl)
    (hfew : ((backTo cpos (starEach [e] X.env)).all (fun x => !x.1) && (backToKw cpos (keywordEach [] X.env)).all (fun x => x.1.isSome) && decide ([e].length + ([] : List Keyword).length + (if ([] : List Keyword).isEmpty then 0 else 1) < 30)) = true := by rfl)
    (hline : (apos.endLine == cpos.line) = true := by rfl) (hs : starEach [e] X.env = (false, eval e X.env) :: starEach [] X.env := by rfl) (hplain : (backTo cpos (starEach [] X.env)).any (·.1) = false := by rfl) :
    SE X E (.Call (.Attribute o "extend" apos) [e] [] cpos) (tBM K "list" rExtend to tr) (methL extF fo fr) := by
  subst hK
  exact ⟨pe_bm PySem.F.plainAttrs_list PySem.F.slot_list_extend PySem.F.type_list_extend mt_extend ho.pe ha.pa hbase hfew hline hs hplain, rf_methL bm_ext ho.rf ha.rf⟩
end
/-! ### dicts with number and text keys -/
def keyOf (st : Store) (d : D) : Option Key := match dat st d with
  | some (.int i) => some (.inl i)
  | some (.str x) => some (.inr x)
  | _ => none
def getP {κ : Type} [DecidableEq κ] (kvs : List (κ × PyData)) (k : κ) : Option PyData := (kvs.find? fun kv => decide (kv.1 = k)).map (·.2)
def putP {κ : Type} [DecidableEq κ] (kvs : List (κ × PyData)) (k : κ) (v : PyData) : List (κ × PyData) :=
  if (kvs.any fun kv => decide (kv.1 = k)) = true then kvs.map (fun kv => if kv.1 = k then (kv.1, v) else kv) else kvs ++ [(k, v)]
section
variable {K : W.Frag} {w : Wd} {H : Hp} {st : Store} {κ : Type} [DecidableEq κ]
theorem keyOf_rel {d : D} {v : V} {k : Key} (r : RpD K w H d v) (h : keyOf st d = some k) : v = kV k := by
  unfold keyOf at h
  split at h
  · rename_i e; cases h; exact dat_int r e
  · rename_i e; cases h; exact dat_str r e
  · cases h
theorem RpK.find {kvs : List (κ × PyData)} {vs : List (κ × V)} (r : RpK K w H kvs vs) (k : κ) : (∀ d, getP kvs k = some d → ∃ v, valV vs k = some v ∧ Rp K w H d v) ∧ (getP kvs k = none → valV vs k = none) := by
  induction r with
  | nil => exact ⟨fun d h => by simp [getP] at h, fun _ => rfl⟩
  | @cons j d ds v vs r s ih =>
    by_cases e : j = k
    · subst e
      refine ⟨fun c h => ?_, fun h => ?_⟩
      · simp [getP] at h; subst h; exact ⟨v, by simp [valV], r⟩
      · simp [getP] at h
    · have e1 : getP ((j, d) :: ds) k = getP ds k := by simp [getP, List.find?_cons, e]
      have e2 : valV ((j, v) :: vs) k = valV vs k := by simp [valV, List.find?_cons, e]
      rw [e1, e2]; exact ih
theorem RpK.any {kvs : List (κ × PyData)} {vs : List (κ × V)} (r : RpK K w H kvs vs) (k : κ) : (kvs.any fun kv => decide (kv.1 = k)) = vs.any fun kv => decide (kv.1 = k) := by
  induction r with
  | nil => rfl
  | cons r s ih => simp only [List.any_cons, ih]
theorem RpK.app {kvs : List (κ × PyData)} {vs : List (κ × V)} (r : RpK K w H kvs vs) {k : κ} {d : PyData} {v : V} (q : Rp K w H d v) : RpK K w H (kvs ++ [(k, d)]) (vs ++ [(k, v)]) := by
  induction r with
  | nil => exact .cons q .nil
  | cons r s ih => exact .cons r ih
theorem RpK.put {kvs : List (κ × PyData)} {vs : List (κ × V)} (r : RpK K w H kvs vs) {k : κ} {d : PyData} {v : V} (q : Rp K w H d v) : RpK K w H (putP kvs k d) (putK vs k v) := by
  unfold putP putK
  rw [r.any k]
  split
  · rename_i hany
    clear hany
    induction r with
    | nil => exact .nil
    | @cons j c cs u us r s ih =>
      simp only [List.map_cons]
      by_cases e : j = k
      · rw [if_pos e, if_pos e]; exact .cons q ih
      · rw [if_neg e, if_neg e]; exact .cons r ih
  · exact r.app q
theorem RpK.length {kvs : List (κ × PyData)} {vs : List (κ × V)} (r : RpK K w H kvs vs) : kvs.length = vs.length := by
  induction r with
  | nil => rfl
  | cons _ _ ih => simp [ih]
end
section
variable {X : Cx} {E : XK} {o i e value : Expr} {td ty tv : TE} {fd fi fv : Env → M D} {pos pos' : Pos}
def dgetF (x y : D) : M D := fun st => match x with
  | .loc n => (match st[n]?, keyOf st y with
    | some (.dk kvs), some k => (match getP kvs k with
      | some d => okV d st
      | none => .bad)
    | _, _ => .bad)
  | _ => .bad
theorem se_dget (hu : X.A.units + 1 < cLine) (ho : SE X E o td fd) (hi : SE X E i ty fi) (hs : NoSl i := by exact fun _ _ => rfl) : SE X E (.Subscript o i pos) (tDGet td ty) (op2 dgetF fd fi) := by
  refine ⟨pe_dget hu ho.pe hi.pe hs, fun w σ H env st Q s0 e0 hp => ?_⟩
  refine ho.rf.step s0 e0 hp fun r1 H1 st1 x v g1 s1 e1 q1 hp => ?_
  refine hi.rf.step s1 e1 hp fun r2 H2 st2 y u g2 s2 e2 q2 hp => ?_
  unfold dgetF at hp
  split at hp
  · split at hp
    · rename_i eo ek
      split at hp
      · rename_i d hd
        obtain ⟨a, ev, ha, vs, hv, rv⟩ := s2.at eo (q1.mono g2)
        obtain ⟨z, hz, rz⟩ := (rv.find _).1 d hd
        refine ⟨a, z, ev, ?_, Post.now hp s2 rz⟩
        rw [keyOf_rel q2 ek, ← hz]
        exact DGet.k hv
      · exact hp.elim
    · exact hp.elim
  · exact hp.elim
def dputS (fd fi fv : Env → M D) : Env → M Fl := fun env => bd (fv env) fun v => bd (fd env) fun x => bd (fi env) fun y => fun st => match x, v with
  | .loc n, .val d => (match st[n]?, keyOf st y with
    | some (.dk kvs), some k => if kvs.length < sizeLine then .ok (.nx env) (st.set n (.dk (putP kvs k d))) else .bad
    | _, _ => .bad)
  | _, _ => .bad
theorem ss_dput (hu : X.A.units + 1 < cLine) (ho : SE X E o td fd) (hi : SE X E i ty fi) (hv : SE X E value tv fv) (hs : swapsWith value (some (.Subscript o i pos')) pos.line X.env = pure false := by rfl) :
    SS X E (.Assign [.Subscript o i pos'] value pos) (sDPut td ty tv) (dputS fd fi fv) := by
  refine ⟨ps_dput hu ho.pe hi.pe hv.pe hs, fun w σ H env st Z s0 e0 hp => ?_⟩
  refine hv.rf.stepS s0 e0 hp fun r1 H1 st1 v vv g1 s1 e1 q1 hp => ?_
  refine ho.rf.stepS s1 e1 hp fun r2 H2 st2 x xv g2 s2 e2 q2 hp => ?_
  refine hi.rf.stepS s2 e2 hp fun r3 H3 st3 y yv g3 s3 e3 q3 hp => ?_
  split at hp
  · split at hp
    · rename_i eo ek
      split at hp
      · rename_i hl
        obtain ⟨a, ev, ha, vs, hv', rv⟩ := s3.at eo (q2.mono g3)
        refine ⟨a, _, ev, by rw [keyOf_rel q3 ek]; exact DPut.k hv' (by rw [← rv.length]; exact hl), ?_⟩
        have q1' : Rp _ r3 H3 _ vv := (q1.mono g2).mono g3
        obtain ⟨s4, g4⟩ := s3.write (o := .dk _) (u := .dK (putK vs _ vv)) ha ⟨_, upd_same, (rv.put q1').mono (.write ha)⟩
        exact hp r3 _ _ g4 s4 (e3.mono g4)
      · exact hp.elim
    · exact hp.elim
  · exact hp.elim
end
end B
/-! BL10: dict displays, sorted, repr, texts, ranges, assigned comprehensions. -/
namespace B
open PySem L2
variable [Nm] [Gd]

/-! ### a displayed dict -/
inductive RPs (K : W.Frag) (w : Wd) (H : Hp) : List (D × D) → List (V × V) → Prop where
  | nil : RPs K w H [] []
  | cons {a b : D} {x y : V} {ds : List (D × D)} {vs : List (V × V)} : RpD K w H a x → RpD K w H b y → RPs K w H ds vs → RPs K w H ((a, b) :: ds) ((x, y) :: vs)
theorem RPs.mono {K : W.Frag} {w w' : Wd} {H H' : Hp} (g : Ge w H w' H') : ∀ {ds : List (D × D)} {vs : List (V × V)}, RPs K w H ds vs → RPs K w' H' ds vs
  | _, _, .nil => .nil
  | _, _, .cons a b r => .cons (a.mono g) (b.mono g) (RPs.mono g r)
theorem RPs.mo {K : W.Frag} {w w' : Wd} {H H' : Hp} (g : Mo w H w' H') : ∀ {ds : List (D × D)} {vs : List (V × V)}, RPs K w H ds vs → RPs K w' H' ds vs
  | _, _, .nil => .nil
  | _, _, .cons a b r => .cons (a.mo g) (b.mo g) (RPs.mo g r)
structure SPs (X : Cx) (E : XK) (pos : Pos) (ks : List (Option Expr)) (vs : List Expr) (t : List (TE × TE)) (f : Env → M (List (D × D))) : Prop where
  pp : PPs X pos ks vs t
  rf : Rf X.K E (RPs X.K) (tPairs t) f
section
variable {X : Cx} {E : XK} {pos : Pos} {k v : Expr} {ks : List (Option Expr)} {vs : List Expr} {tk tv : TE} {fk fv : Env → M D} {t : List (TE × TE)} {f : Env → M (List (D × D))}
def pNil : Env → M (List (D × D)) := fun _ => rt []
def pCons (fk fv : Env → M D) (f : Env → M (List (D × D))) : Env → M (List (D × D)) := fun env => bd (fk env) fun a => bd (fv env) fun b => bd (f env) fun r => rt ((a, b) :: r)
theorem sps_nil : SPs X E pos [] [] [] pNil := ⟨pps_nil, fun w σ H env st Q hs he hp => Post.now hp hs .nil⟩
theorem sps_cons (hk : SE X E k tk fk) (hv : SE X E v tv fv) (hr : SPs X E pos ks vs t f) : SPs X E pos (some k :: ks) (v :: vs) ((tk, tv) :: t) (pCons fk fv f) := by
  refine ⟨pps_cons hk.pe hv.pe hr.pp, fun w σ H env st Q s0 e0 hp => ?_⟩
  refine hk.rf.step s0 e0 hp fun r1 H1 st1 x xv g1 s1 e1 q1 hp => ?_
  refine hv.rf.step s1 e1 hp fun r2 H2 st2 y yv g2 s2 e2 q2 hp => ?_
  refine hr.rf.step s2 e2 hp fun r3 H3 st3 l lv g3 s3 e3 q3 hp => ?_
  exact Post.now hp s3 (.cons ((q1.mono g2).mono g3) (q2.mono g3) q3)
end
/-- keys that are numbers and texts, values that are data -/
def kvsOf : List (D × D) → Option (List (Key × PyData))
  | [] => some []
  | (.val (.int i), .val d) :: r => (kvsOf r).map ((Sum.inl i, d) :: ·)
  | (.val (.str x), .val d) :: r => (kvsOf r).map ((Sum.inr x, d) :: ·)
  | _ :: _ => none
def mergeP (kvs more : List (Key × PyData)) : List (Key × PyData) := more.foldl (fun acc kv => putP acc kv.1 kv.2) kvs
theorem RPs.kvs {K : W.Frag} {w : Wd} {H : Hp} : ∀ {ds : List (D × D)} {vs : List (V × V)} {kvs : List (Key × PyData)}, RPs K w H ds vs → kvsOf ds = some kvs → ∃ us : List (Key × V), vs = us.map (fun kv => (kV kv.1, kv.2)) ∧ RpK K w H kvs us
  | _, _, kvs, .nil, e => by
    have : kvs = [] := by simpa [kvsOf] using e.symm
    subst this
    exact ⟨[], rfl, .nil⟩
  | (.val p, .val d) :: r, _, kvs, .cons ha hb t, e => by
    cases p with
    | int i =>
      cases q : kvsOf r with
      | none => simp [kvsOf, q] at e
      | some qs =>
        have : kvs = (Sum.inl i, d) :: qs := by simpa [kvsOf, q] using e.symm
        subst this
        obtain ⟨us, e1, r1⟩ := RPs.kvs t q
        cases ha
        exact ⟨(Sum.inl i, _) :: us, by rw [e1]; rfl, .cons hb r1⟩
    | str i =>
      cases q : kvsOf r with
      | none => simp [kvsOf, q] at e
      | some qs =>
        have : kvs = (Sum.inr i, d) :: qs := by simpa [kvsOf, q] using e.symm
        subst this
        obtain ⟨us, e1, r1⟩ := RPs.kvs t q
        cases ha
        exact ⟨(Sum.inr i, _) :: us, by rw [e1]; rfl, .cons hb r1⟩
    | _ => simp [kvsOf] at e
  | (.val _, .loc _) :: _, _, _, .cons _ _ _, e => by
    rename_i p _ _
    cases p <;> simp [kvsOf] at e
  | (.val _, .cst _) :: _, _, _, .cons _ _ _, e => by
    rename_i p _ _
    cases p <;> simp [kvsOf] at e
  | (.val _, .frz _) :: _, _, _, .cons _ _ _, e => by
    rename_i p _ _
    cases p <;> simp [kvsOf] at e
  | (.val _, .err) :: _, _, _, .cons _ _ _, e => by
    rename_i p _ _
    cases p <;> simp [kvsOf] at e
  | (.val _, .fn _) :: _, _, _, .cons _ _ _, e => by
    rename_i p _ _
    cases p <;> simp [kvsOf] at e
  | (.val _, .pr _ _) :: _, _, _, .cons _ _ _, e => by
    rename_i p _ _
    cases p <;> simp [kvsOf] at e
  | (.err, _) :: _, _, _, .cons _ _ _, e => by simp [kvsOf] at e
  | (.fn _, _) :: _, _, _, .cons _ _ _, e => by simp [kvsOf] at e
  | (.pr _ _, _) :: _, _, _, .cons _ _ _, e => by simp [kvsOf] at e
  | (.loc _, _) :: _, _, _, .cons _ _ _, e => by simp [kvsOf] at e
  | (.cst _, _) :: _, _, _, .cons _ _ _, e => by simp [kvsOf] at e
  | (.frz _, _) :: _, _, _, .cons _ _ _, e => by simp [kvsOf] at e
theorem RpK.merge {K : W.Frag} {w : Wd} {H : Hp} : ∀ {more : List (Key × PyData)} {us : List (Key × V)} {kvs : List (Key × PyData)} {vs : List (Key × V)}, RpK K w H more us → RpK K w H kvs vs → RpK K w H (mergeP kvs more) (mergeK vs us) := by
  intro more us kvs vs r
  induction r generalizing kvs vs with
  | nil => intro q; exact q
  | cons r s ih => intro q; exact ih (q.put r)
def newDk (ps : List (D × D)) : M D := fun st => match kvsOf ps with
  | some kvs => if kvs.length ≤ 15 then .ok (.loc st.length) (st ++ [.dk (mergeP [] kvs)]) else .bad
  | none => .bad
def dispE (f : Env → M (List (D × D))) : Env → M D := fun env => bd (noX (f env)) newDk
theorem se_disp {X : Cx} {E : XK} {pos : Pos} {ks : List (Option Expr)} {vs : List Expr} {t : List (TE × TE)} {f : Env → M (List (D × D))} (h : SPs X E0 pos ks vs t f) (hall : ks.all (·.isSome) = true := by rfl) (hl : ks.length = vs.length := by rfl) (h0 : ks ≠ [] := by intro z; cases z) (h15 : ks.length ≤ 15 := by decide) :
    SE X E (.Dict ks vs pos) (tDisp t) (dispE f) := by
  refine ⟨pe_disp h.pp hall hl h0 h15, fun w σ H env st Q s0 e0 hp => ?_⟩
  intro p np
  replace hp : Post X.K E (RE X.K) w H (bd (noX (f env)) newDk st) Q := hp
  refine h.rf (w.prot p) σ _ env st _ (s0.prot np) (e0.mo (Mo.prot s0 np)) ?_
  cases hf : f env st with
  | ok ps st' =>
    rw [bd_ok (noX_ok hf)] at hp
    intro w1 H1 us g1 s1 q1
    obtain ⟨w2, mo, s2, g2, hD, er⟩ := unprot s0 np g1 s1
    unfold newDk at hp
    cases hk : kvsOf ps with
    | none => simp only [hk] at hp; exact hp.elim
    | some kvs =>
      simp only [hk] at hp
      split at hp
      · rename_i hlen
        obtain ⟨zs, ez, rz⟩ := q1.kvs hk
        refine ⟨hD, zs, ez, by rw [← rz.length]; exact hlen, ?_⟩
        have nn : (hide H1 p) p = none := hide_same
        have np2 := s2.notin nn
        have gg : Ge w2 (hide H1 p) (w2.add p) (upd (hide H1 p) p (.dK (mergeK [] zs))) := ⟨⟨[p], rfl, rfl, fun q hq => by
          have : q = p := by simpa using hq
          subst this
          exact ⟨np2, nn⟩⟩, fun b v _ nb h => by rw [upd_ne (ne_of_none h nn)]; exact h, fun b v nb h => ⟨v, by rw [upd_ne (ne_of_none h nn)]; exact h⟩⟩
        obtain ⟨s3, g3⟩ := s2.push (o := .dk (mergeP [] kvs)) (u := .dK (mergeK [] zs)) nn ⟨_, upd_same, ((RpK.merge (rz.mo mo) .nil)).mono gg⟩
        have := hp _ _ (.ref p) (g2.trans g3) s3 ⟨p, rfl, by rw [s2.len]; simp⟩
        rw [upd_hide] at this
        exact this
      · exact hp.elim
  | exc e st' => rw [bd_bad (noX_exc hf)] at hp; exact hp.elim
  | bad => rw [bd_bad (noX_bad hf)] at hp; exact hp.elim

/-! ### sorted -/
def isTupC : PyData → Bool
  | .tuple (_ :: _) => true
  | _ => false
def notTN : PyData → Bool
  | .none => false
  | .tuple _ => false
  | _ => true
def sortOk (xs : List PyData) : Bool := (xs.all fun d => xs.all fun e => PySem.W.alike d e) && (xs.all isTupC || xs.all notTN) && xs.all fun d => decide (d.depth ≤ 64)
def sortP (xs : List PyData) : List PyData := xs.mergeSort (PySem.W.dataLe false id)
def rSortP (K : W.Frag) : List V → Hp → VK → Prop := fun xs H Q => ∃ a ys ds, xs = [.ref a] ∧ SqL K H a ys ∧ DpAll K H ys ds ∧ sortOk ds = true ∧ ∀ p, H p = none → Q (.ref p) (upd H p (.lst (((ds.zip ys).mergeSort (PySem.W.dataLe false (·.1))).map (·.2))))
theorem sortOk_alike {ds : List PyData} (h : sortOk ds = true) : PySem.W.AllAlike ds ∧ PySem.W.Sortable ds ∧ ∀ d ∈ ds, d.depth ≤ 64 := by
  unfold sortOk at h
  simp only [Bool.and_eq_true, Bool.or_eq_true, List.all_eq_true, decide_eq_true_eq] at h
  obtain ⟨⟨h1, h2⟩, h3⟩ := h
  refine ⟨fun d hd e he => h1 d hd e he, ?_, h3⟩
  rcases h2 with h2 | h2
  · refine .inl fun d hd => ?_
    have := h2 d hd
    unfold isTupC at this
    split at this
    · exact ⟨_, _, rfl⟩
    · cases this
  · refine .inr fun d hd => ?_
    have := h2 d hd
    unfold notTN at this
    split at this
    · cases this
    · cases this
    · exact ⟨fun e => by simp_all, fun xs e => by simp_all⟩
theorem each_of_vals : ∀ {ys : List V} {its : List Value} {ds : List PyData}, Vals ys its → ds.length = ys.length → PySem.W.EachIs (fun (v : Value) (b : PyData × V) => RelV b.2 v) its (ds.zip ys)
  | _, _, [], .nil, _ => .nil
  | _, _, d :: ds, .cons r t, h => .cons r (each_of_vals t (by simpa using h))
  | _, _, [], .cons _ _, h => by simp at h
theorem vals_of_each : ∀ {out : List Value} {bs : List (PyData × V)}, PySem.W.EachIs (fun (v : Value) (b : PyData × V) => RelV b.2 v) out bs → Vals (bs.map (·.2)) out
  | _, _, .nil => .nil
  | _, _, .cons r t => .cons r (vals_of_each t)
theorem DpAll.length {K : W.Frag} {H : Hp} : ∀ {vs : List V} {ds : List PyData}, DpAll K H vs ds → ds.length = vs.length
  | _, _, .nil => rfl
  | _, _, .cons _ s => by rw [List.length_cons, List.length_cons, DpAll.length s]
theorem cr_sortP {X : Cx} {K : W.Frag} (hu : X.A.units + 70 < cLine) (hK : X.K = K := by rfl) : CallR X (.builtin "sorted") (rSortP K) := by
  subst hK
  intro pins s σ H vs us Q I r h
  obtain ⟨a, ys, ds, rfl, hs, hd, ok, q⟩ := h
  obtain ⟨its, rv, hl, hz⟩ := I.list hs
  obtain ⟨al, so, dp⟩ := sortOk_alike ok
  have hlen := DpAll.length hd
  obtain ⟨u, rfl, ru⟩ := vals1 r
  cases ru
  obtain ⟨as, rd⟩ := L2.Dp.readsAll I ds ys its hd rv
  have ez : (ds.zip ys).map (·.1) = ds := List.map_fst_zip (by omega)
  have er := PySem.W.readsAll_each (h := s.heap) (fun (b : PyData × V) => b.1) (bs := ds.zip ys) (vs := its) (as := as) (by rw [ez]; exact rd)
  refine PySem.W.sorted_data (R := fun (v : Value) (b : PyData × V) => RelV b.2 v) (enc := fun b => b.1) (bs := ds.zip ys) hl.isList (each_of_vals rv hlen) er (by rw [ez]; exact al) (by rw [ez]; exact so) ?_ (fun b hb => ?_) fun out ho eo => ?_
  · rw [List.length_zip]; omega
  · have : b.1 ∈ ds := by rw [← ez]; exact List.mem_map.mpr ⟨b, hb, rfl⟩
    have := dp _ this
    omega
  · obtain ⟨ep, he'⟩ := PyProof.Rows.sortedAll_at s.heap its out.toArray
    have rel := vals_of_each eo
    have hlen2 : (((ds.zip ys).mergeSort (PySem.W.dataLe false (·.1))).map (·.2)).length ≤ sizeLine := by
      rw [List.length_map, List.length_mergeSort, List.length_zip]; omega
    exact ⟨.ref _, upd H (s.heap.objs.size + 1) (.lst (((ds.zip ys).mergeSort (PySem.W.dataLe false (·.1))).map (·.2))), I.laid (t' := s.toks) (fun _ _ => PyProof.Rows.sortedAll_old) (Nat.le_succ _) ⟨hlen2, out, ep, rel, he'⟩, rfl, q _ (I.hok.fresh (Nat.le_succ _))⟩
section
variable {K : W.Frag} {E : XK}
theorem Rps.zipMem {w : Wd} {H : Hp} {xs : List PyData} {vs : List V} (r : Rps K w H xs vs) : ∀ b ∈ xs.zip vs, Rp K w H b.1 b.2 := by
  induction xs generalizing vs with
  | nil => intro b h; simp at h
  | cons x xs ih =>
    cases r with
    | cons r t =>
      intro b h
      rcases List.mem_cons.mp h with e | h
      · rw [e]; exact r
      · exact ih t b h
theorem Rps.ofMem {w : Wd} {H : Hp} : ∀ {bs : List (PyData × V)}, (∀ b ∈ bs, Rp K w H b.1 b.2) → Rps K w H (bs.map (·.1)) (bs.map (·.2))
  | [], _ => .nil
  | b :: bs, h => .cons (h b List.mem_cons_self) (Rps.ofMem fun c hc => h c (List.mem_cons_of_mem _ hc))
def sortF (ds : List D) : M (List PyData) := fun st => match ds with
  | [d] => (match dat st d with
    | some (.list xs) => if sortOk xs = true then .ok (sortP xs) st else .bad
    | _ => .bad)
  | _ => .bad
theorem bc_sort : BCallF K E (rSortP K) sortF := by
  intro w H st ds vs Q hs r hp
  unfold sortF at hp
  split at hp
  · obtain ⟨v, e, r1⟩ := r.one
    split at hp
    · rename_i xs e1
      split at hp
      · rename_i ok
        obtain ⟨a, us, e3, ha, ra⟩ := dat_lst hs r1 e1
        subst e3
        refine ⟨a, us, xs, e, SqL.of ha, ra.dp, ok, fun p np => ?_⟩
        refine hp w H p _ (Ge.refl _ _) hs np ?_
        have ez : (xs.zip us).map (·.1) = xs := List.map_fst_zip (by rw [ra.length]; exact Nat.le_refl _)
        have em : ((xs.zip us).mergeSort (PySem.W.dataLe false (·.1))).map (·.1) = sortP xs := by
          unfold sortP
          rw [List.map_mergeSort (r := PySem.W.dataLe false fun (b : PyData × V) => b.1) (s := PySem.W.dataLe false id) (f := fun (b : PyData × V) => b.1) (fun _ _ _ _ => rfl), ez]
        rw [← em]
        exact Rps.ofMem fun b hb => ra.zipMem b (List.mem_mergeSort.mp hb)
      · exact hp.elim
    · exact hp.elim
  · exact hp.elim
/-! ### repr -/
def rReprP (K : W.Frag) : List V → Hp → VK → Prop := fun xs H Q => ∃ x d, xs = [x] ∧ Dp K H x d ∧ d.showable = true ∧ d.shown.length ≤ sizeLine ∧ d.depth ≤ 64 ∧ Q (.str d.shown) H
mutual
theorem plain_noDict : ∀ d : PyData, d.plain = true → d.hasDict = false
  | .none, _ => rfl
  | .bool _, _ => rfl
  | .int _, _ => rfl
  | .str _, _ => rfl
  | .list xs, h => by simp only [PyData.hasDict]; exact plainAll_noDict xs (by simpa [PyData.plain] using h)
  | .tuple xs, h => by simp only [PyData.hasDict]; exact plainAll_noDict xs (by simpa [PyData.plain] using h)
  | .dict _, h => by simp [PyData.plain] at h
theorem plainAll_noDict : ∀ xs : List PyData, PyData.plainAll xs = true → PyData.hasDictAll xs = false
  | [], _ => rfl
  | x :: xs, h => by
    simp only [PyData.plainAll, Bool.and_eq_true] at h
    simp only [PyData.hasDictAll, plain_noDict x h.1, plainAll_noDict xs h.2, Bool.or_self]
end
theorem cr_reprP {X : Cx} {K : W.Frag} (hu : X.A.units + 70 < cLine) (hG : X.A.guards = some []) (hK : X.K = K := by rfl) : CallR X (.builtin "repr") (rReprP K) := by
  subst hK
  intro pins s σ H vs us Q I r h
  obtain ⟨x, d, rfl, hd, sh, hz, dp, q⟩ := h
  obtain ⟨u, rfl, ru⟩ := vals1 r
  cases hd with
  | non => cases ru; exact PySem.P.repr_of_none ⟨.str _, H, I.tok _, ⟨_, rfl⟩, q⟩
  | bl b =>
    cases ru
    refine PySem.P.repr_of_bool ⟨.str _, H, I.tok _, ⟨_, rfl⟩, ?_⟩
    cases b <;> exact q
  | int i =>
    obtain ⟨t, rfl⟩ := ru
    exact PySem.P.repr_of_int (by simpa [PyData.showable] using sh) ⟨.str _, H, I.tok _, ⟨_, rfl⟩, q⟩
  | str z =>
    obtain ⟨t, rfl⟩ := ru
    exact PySem.P.repr_of_str ⟨.str _, H, I.tok _, ⟨_, rfl⟩, q⟩ hz
  | @lst a xs ds hl ha =>
    cases ru
    obtain ⟨as, rd⟩ := L2.Dp.reads I _ _ _ (.lst hl ha) (show RelV (.ref a) (.ref a) from rfl)
    exact PySem.repr_of_reads' rd sh (fun z => by rw [plain_noDict _ (Dp.plain (.lst hl ha))] at z; cases z) hG (by omega) (fun _ _ e => e) (fun h' u tk hk => ⟨.str _, H, I.kept (t' := tk) hk, ⟨_, rfl⟩, q⟩) hz
  | @tup a xs ds hl ha =>
    cases ru
    obtain ⟨as, rd⟩ := L2.Dp.reads I _ _ _ (.tup hl ha) (show RelV (.ref a) (.ref a) from rfl)
    exact PySem.repr_of_reads' rd sh (fun z => by rw [plain_noDict _ (Dp.plain (.tup hl ha))] at z; cases z) hG (by omega) (fun _ _ e => e) (fun h' u tk hk => ⟨.str _, H, I.kept (t' := tk) hk, ⟨_, rfl⟩, q⟩) hz
def reprF (ds : List D) : M D := fun st => match ds with
  | [d] => (match dat st d with
    | some p => if p.showable = true ∧ p.shown.length ≤ sizeLine ∧ p.depth ≤ 64 then okV (.str p.shown) st else .bad
    | _ => .bad)
  | _ => .bad
theorem bc_repr : BCall K E (rReprP K) reprF := by
  intro w H st ds vs Q hs r hp
  unfold reprF at hp
  split at hp
  · obtain ⟨v, e, r1⟩ := r.one
    split at hp
    · rename_i p e1
      split at hp
      · rename_i hc
        exact ⟨v, p, e, dat_dp hs r1 e1, hc.1, hc.2.1, hc.2.2, Post.now hp hs (.str _)⟩
      · exact hp.elim
    · exact hp.elim
  · exact hp.elim
end
end B
/-! BL11: texts, ranges, all, sum, assigned comprehensions, calls with keywords. -/
namespace B
open PySem L2
variable [Nm] [Gd]
section
variable {K : W.Frag} {E : XK}
/-! ### lists of one kind -/
def strsOf : List PyData → Option (List Str)
  | [] => some []
  | .str x :: r => (strsOf r).map (x :: ·)
  | _ :: _ => none
def boolsOf : List PyData → Option (List Bool)
  | [] => some []
  | .bool x :: r => (boolsOf r).map (x :: ·)
  | _ :: _ => none
def intsOf : List PyData → Option (List Int)
  | [] => some []
  | .int x :: r => (intsOf r).map (x :: ·)
  | _ :: _ => none
theorem Rps.strs {w : Wd} {H : Hp} : ∀ {xs : List PyData} {vs : List V} {ys : List Str}, Rps K w H xs vs → strsOf xs = some ys → vs = ys.map V.str
  | _, _, ys, .nil, e => by
    have : ys = [] := by simpa [strsOf] using e.symm
    subst this; rfl
  | .str x :: r, _, ys, .cons h t, e => by
    cases q : strsOf r with
    | none => simp [strsOf, q] at e
    | some qs =>
      have : ys = x :: qs := by simpa [strsOf, q] using e.symm
      subst this
      cases h
      rw [Rps.strs t q]; rfl
  | .none :: _, _, _, .cons _ _, e => by simp [strsOf] at e
  | .bool _ :: _, _, _, .cons _ _, e => by simp [strsOf] at e
  | .int _ :: _, _, _, .cons _ _, e => by simp [strsOf] at e
  | .list _ :: _, _, _, .cons _ _, e => by simp [strsOf] at e
  | .tuple _ :: _, _, _, .cons _ _, e => by simp [strsOf] at e
theorem Rps.bools {w : Wd} {H : Hp} : ∀ {xs : List PyData} {vs : List V} {ys : List Bool}, Rps K w H xs vs → boolsOf xs = some ys → vs = ys.map V.bl
  | _, _, ys, .nil, e => by
    have : ys = [] := by simpa [boolsOf] using e.symm
    subst this; rfl
  | .bool x :: r, _, ys, .cons h t, e => by
    cases q : boolsOf r with
    | none => simp [boolsOf, q] at e
    | some qs =>
      have : ys = x :: qs := by simpa [boolsOf, q] using e.symm
      subst this
      cases h
      rw [Rps.bools t q]; rfl
  | .none :: _, _, _, .cons _ _, e => by simp [boolsOf] at e
  | .str _ :: _, _, _, .cons _ _, e => by simp [boolsOf] at e
  | .int _ :: _, _, _, .cons _ _, e => by simp [boolsOf] at e
  | .list _ :: _, _, _, .cons _ _, e => by simp [boolsOf] at e
  | .tuple _ :: _, _, _, .cons _ _, e => by simp [boolsOf] at e
theorem Rps.ints {w : Wd} {H : Hp} : ∀ {xs : List PyData} {vs : List V} {ys : List Int}, Rps K w H xs vs → intsOf xs = some ys → vs = ys.map V.int
  | _, _, ys, .nil, e => by
    have : ys = [] := by simpa [intsOf] using e.symm
    subst this; rfl
  | .int x :: r, _, ys, .cons h t, e => by
    cases q : intsOf r with
    | none => simp [intsOf, q] at e
    | some qs =>
      have : ys = x :: qs := by simpa [intsOf, q] using e.symm
      subst this
      cases h
      rw [Rps.ints t q]; rfl
  | .none :: _, _, _, .cons _ _, e => by simp [intsOf] at e
  | .str _ :: _, _, _, .cons _ _, e => by simp [intsOf] at e
  | .bool _ :: _, _, _, .cons _ _, e => by simp [intsOf] at e
  | .list _ :: _, _, _, .cons _ _, e => by simp [intsOf] at e
  | .tuple _ :: _, _, _, .cons _ _, e => by simp [intsOf] at e
def allF (ds : List D) : M D := fun st => match ds with
  | [d] => (match dat st d with
    | some (.list xs) => (match boolsOf xs with
      | some bs => okV (.bool (bs.all id)) st
      | none => .bad)
    | _ => .bad)
  | _ => .bad
theorem bc_all : BCall K E (rAll K) allF := by
  intro w H st ds vs Q hs r hp
  unfold allF at hp
  split at hp
  · obtain ⟨v, e, r1⟩ := r.one
    split at hp
    · rename_i xs e1
      split at hp
      · rename_i bs hb
        obtain ⟨a, us, e3, ha, ra⟩ := dat_lst hs r1 e1
        subst e3
        have eu := ra.bools hb
        subst eu
        exact ⟨a, bs, e, SqL.of ha, Post.now hp hs (.bl _)⟩
      · exact hp.elim
    · exact hp.elim
  · exact hp.elim
def sumF (ds : List D) : M D := fun st => match ds with
  | [d] => (match dat st d with
    | some (.list xs) => (match intsOf xs with
      | some bs => okV (.int bs.sum) st
      | none => .bad)
    | _ => .bad)
  | _ => .bad
theorem bc_sum : BCall K E (rSum K) sumF := by
  intro w H st ds vs Q hs r hp
  unfold sumF at hp
  split at hp
  · obtain ⟨v, e, r1⟩ := r.one
    split at hp
    · rename_i xs e1
      split at hp
      · rename_i bs hb
        obtain ⟨a, us, e3, ha, ra⟩ := dat_lst hs r1 e1
        subst e3
        have eu := ra.ints hb
        subst eu
        exact ⟨a, bs, e, SqL.of ha, Post.now hp hs (.int _)⟩
      · exact hp.elim
    · exact hp.elim
  · exact hp.elim
end
/-! ### join -/
def isS (d : D) : M Unit := fun st => match d with
  | .val (.str _) => .ok () st
  | _ => .bad
def seqOf (st : Store) (d : D) : Option (List PyData) := match dat st d with
  | some (.list xs) => some xs
  | some (.tuple xs) => some xs
  | _ => none
def joinF (x y : D) : M D := fun st => match x with
  | .val (.str a) => (match seqOf st y with
    | some xs => (match strsOf xs with
      | some ys => if (ys.map (·.length)).sum + ys.length * a.length ≤ 16777216 then okV (.str (Txt.join a ys)) st else .bad
      | none => .bad)
    | none => .bad)
  | _ => .bad
section
variable {X : Cx} {E : XK} {o e a b : Expr} {to te ta tb : TE} {fo fe fa fb : Env → M D} {apos pos p p1 p2 p3 : Pos} {tr tk : TA} {fr fk : Env → M (List D)}
def joinE (fo fe : Env → M D) : Env → M D := fun env => bd (fo env) fun x => bd (isS x) fun _ => bd (fe env) fun y => joinF x y
theorem se_join {K : W.Frag} (ho : SE X E o to fo) (he : SE X E e te fe) (hK : X.K = K := by rfl) (h1 : starEach [e] X.env = [(false, eval e X.env)] := by rfl) (h2 : attributeBase o "join" X.env (eval o X.env) = eval o X.env := by rfl) (h3 : (apos.endLine == pos.line) = true := by rfl) :
    SE X E (.Call (.Attribute o "join" apos) [e] [] pos) (tM1 (fun x xs H Q => ∃ a p, ∃ ys : List Str, x = .str a ∧ xs = [.ref p] ∧ (SqL K H p (ys.map V.str) ∨ SqT K H p (ys.map V.str)) ∧ (ys.map (·.length)).sum + ys.length * a.length ≤ 16777216 ∧ Q (.str (Txt.join a ys)) H) to te)
      (joinE fo fe) := by
  subst hK
  refine ⟨pe_join ho.pe he.pe h1 h2 h3, fun w σ H env st Q s0 e0 hp => ?_⟩
  refine ho.rf.step s0 e0 hp fun r1 H1 st1 x v g1 s1 e1 q1 hp => ?_
  cases x with
  | val p =>
    cases p with
    | str a =>
      cases q1
      refine ⟨⟨a, rfl⟩, ?_⟩
      replace hp : Post X.K E (RE X.K) r1 H1 (bd (fe env) (fun y => joinF (.val (.str a)) y) st1) Q := hp
      refine he.rf.step s1 e1 hp fun r2 H2 st2 y u g2 s2 e2 q2 hp => ?_
      unfold joinF at hp
      simp only at hp
      split at hp
      · rename_i xs hx
        split at hp
        · rename_i ys hy
          split at hp
          · rename_i hl
            unfold seqOf at hx
            split at hx
            · rename_i zs hz
              cases hx
              obtain ⟨c, us, e3, hc, rc⟩ := dat_lst s2 q2 hz
              subst e3
              have eu := rc.strs hy
              subst eu
              exact ⟨a, c, ys, rfl, rfl, .inl (SqL.of hc), hl, Post.now hp s2 (.str _)⟩
            · rename_i zs hz
              cases hx
              obtain ⟨c, us, e3, hc, rc⟩ := dat_tup q2 hz
              subst e3
              have eu := rc.strs hy
              subst eu
              exact ⟨a, c, ys, rfl, rfl, .inr hc.sq, hl, Post.now hp s2 (.str _)⟩
            · cases hx
          · exact hp.elim
        · exact hp.elim
      · exact hp.elim
    | _ => exact hp.elim
  | _ => exact hp.elim
/-! ### f-strings -/
def fmtF (d : D) : M D := fun st => match d with
  | .val (.str y) => if y.length ≤ sizeLine then okV (.str y) st else .bad
  | .val (.int i) => if i.natAbs.log2 < 1920 then okV (.str (toString i)) st else .bad
  | _ => .bad
def fmtE (fe : Env → M D) : Env → M D := fun env => bd (fe env) fmtF
theorem se_fmt (he : SE X E e te fe) : SE X E (.FormattedValue e (-1) none pos) (tFmt te) (fmtE fe) := by
  refine ⟨pe_fmt he.pe, fun w σ H env st Q s0 e0 hp => ?_⟩
  refine he.rf.step s0 e0 hp fun r1 H1 st1 x v g1 s1 e1 q1 hp => ?_
  unfold fmtF at hp
  split at hp
  · split at hp
    · rename_i hl
      cases q1
      exact .inl ⟨_, rfl, hl, Post.now hp s1 (.str _)⟩
    · exact hp.elim
  · split at hp
    · rename_i hl
      cases q1
      exact .inr ⟨_, rfl, hl, Post.now hp s1 (.str _)⟩
    · exact hp.elim
  · exact hp.elim
structure SJ (X : Cx) (E : XK) (es : List Expr) (ts : List TE) (f : Str → Env → M Str) : Prop where
  pj : PJ X es ts
  rf : ∀ acc, Rf X.K E (fun _ _ a b => a = b) (fun σ H Q => tJs ts acc σ H Q) (f acc)
variable {es : List Expr} {ts : List TE} {fj : Str → Env → M Str}
def jNil : Str → Env → M Str := fun acc _ => rt acc
theorem sj_nil : SJ X E [] [] jNil := ⟨.nil, fun acc w σ H env st Q hs he hp => Post.now hp hs rfl⟩
def jsF (fe : Env → M D) (fj : Str → Env → M Str) (acc : Str) (env : Env) : M Str := bd (fe env) fun d => match d with
  | .val (.str y) => if (acc ++ y).length ≤ sizeLine then fj (acc ++ y) env else bad
  | _ => bad
theorem sj_cons (he : SE X E e te fe) (hr : SJ X E es ts fj) : SJ X E (e :: es) (te :: ts) (jsF fe fj) := by
  refine ⟨.cons he.pe hr.pj, fun acc w σ H env st Q s0 e0 hp => ?_⟩
  refine he.rf.step s0 e0 hp fun r1 H1 st1 x v g1 s1 e1 q1 hp => ?_
  split at hp
  · split at hp
    · rename_i hl
      cases q1
      exact ⟨_, rfl, hl, hr.rf _ r1 σ H1 env st1 Q s1 e1 hp⟩
    · exact hp.elim
  · exact hp.elim
variable {v1 v2 : Expr} {rest : List Expr}
def jsE (fj : Str → Env → M Str) : Env → M D := fun env => bd (fj Str.empty env) fun x => rt (.val (.str x))
theorem se_joined (h : SJ X E (v1 :: v2 :: rest) ts fj) : SE X E (.JoinedStr (v1 :: v2 :: rest) pos) (fun σ H Q => tJs ts Str.empty σ H fun out H1 => Q (.str out) H1) (jsE fj) := by
  refine ⟨pe_joined h.pj, fun w σ H env st Q s0 e0 hp => ?_⟩
  refine (h.rf Str.empty).step s0 e0 hp fun r1 H1 st1 x v g1 s1 e1 q1 hp => ?_
  subst q1
  exact Post.now hp s1 (.str _)
/-! ### list(range(n)), tuple(range(n)) -/
def rgP (a b : Int) : List PyData := (List.range (b - a).toNat).map fun (i : Nat) => PyData.int (a + i)
theorem rgP_rel {K : W.Frag} {w : Wd} {H : Hp} (a b : Int) : Rps K w H (rgP a b) (rgV a b) := by
  unfold rgP rgV
  induction List.range (b - a).toNat with
  | nil => exact .nil
  | cons i r ih => exact .cons (.int _) ih
def rgB (n : Int) : Bool := decide (-(2 ^ 62) ≤ n ∧ n ≤ 16777216)
theorem rgB_ok {n : Int} (h : rgB n = true) : RgOk 0 n := by
  unfold rgB at h
  simp only [decide_eq_true_eq] at h
  exact ⟨by omega, by omega, by omega, by omega, by omega⟩
def rgF (d : D) : M (List PyData) := fun st => match d with
  | .val (.int n) => if rgB n = true then .ok (rgP 0 n) st else .bad
  | _ => .bad
def rgE (fa : Env → M D) : Env → M (List PyData) := fun env => bd (fa env) rgF
def rgT (fa : Env → M D) : Env → M D := fun env => bd (fa env) fun d => bd (rgF d) fun xs => rt (.val (.tuple xs))
theorem sf_listRg (hm : X.mg "list" = none) (hm2 : X.mg "range" = none) (ha : SE X E a ta fa) (hc : X.calm = true := by rfl) (hg : Gl X "list" := by rfl) (hg2 : Gl X "range" := by rfl) (na : starEach [a] X.env = (false, eval a X.env) :: starEach [] X.env := by rfl)
    (nb : starEach [.Call (.Name "range" p1) [a] [] p2] X.env = (false, eval (.Call (.Name "range" p1) [a] [] p2) X.env) :: starEach [] X.env := by rfl) : SF X E (.Call (.Name "list" p) [.Call (.Name "range" p1) [a] [] p2] [] pos) (tLstRg (tRg1 ta)) (rgE fa) := by
  refine ⟨pe_listRg hc hg hm (prg_1 hg2 hm2 ha.pe na) nb, fun w σ H env st Q s0 e0 hp => ?_⟩
  refine ha.rf.stepF s0 e0 hp fun r1 H1 st1 x v g1 s1 e1 q1 hp => ?_
  unfold rgF at hp
  split at hp
  · split at hp
    · rename_i hl
      cases q1
      exact ⟨_, rfl, rgB_ok hl, fun q nq => hp r1 H1 q _ (Ge.refl _ _) s1 nq (rgP_rel _ _)⟩
    · exact hp.elim
  · exact hp.elim
theorem se_tupRg (hm : X.mg "tuple" = none) (hm2 : X.mg "range" = none) (ha : SE X E a ta fa) (hc : X.calm = true := by rfl) (hg : Gl X "tuple" := by rfl) (hg2 : Gl X "range" := by rfl) (na : starEach [a] X.env = (false, eval a X.env) :: starEach [] X.env := by rfl)
    (nb : starEach [.Call (.Name "range" p1) [a] [] p2] X.env = (false, eval (.Call (.Name "range" p1) [a] [] p2) X.env) :: starEach [] X.env := by rfl) : SE X E (.Call (.Name "tuple" p) [.Call (.Name "range" p1) [a] [] p2] [] pos) (tTupRg (tRg1 ta)) (rgT fa) := by
  refine ⟨pe_tupRg hc hg hm (prg_1 hg2 hm2 ha.pe na) nb, fun w σ H env st Q s0 e0 hp => ?_⟩
  refine ha.rf.step s0 e0 hp fun r1 H1 st1 x v g1 s1 e1 q1 hp => ?_
  have hp2 := hp
  unfold bd rgF at hp2
  simp only at hp2
  cases x with
  | val pp =>
    cases pp with
    | int n =>
      simp only at hp2
      by_cases hl : rgB n = true
      · simp only [hl, if_true] at hp2
        cases q1
        exact ⟨_, rfl, rgB_ok hl, fun q nq => hp2 r1 _ _ (.new nq) (s1.new nq) (Rp.newTup (s1.notin nq) (rgP_rel _ _) nq)⟩
      · simp only [hl] at hp2
        exact hp2.elim
    | _ => exact hp2.elim
  | _ => exact hp2.elim
/-- xs[::-1] of a list -/
def revF (d : D) : M (List PyData) := fun st => match dat st d with
  | some (.list xs) => .ok xs.reverse st
  | _ => .bad
theorem Rps.rev {K : W.Frag} {w : Wd} {H : Hp} : ∀ {xs : List PyData} {vs : List V}, Rps K w H xs vs → Rps K w H xs.reverse vs.reverse
  | _, _, .nil => .nil
  | _, _, .cons r t => by
    rw [List.reverse_cons, List.reverse_cons]
    exact (Rps.rev t).append (.cons r .nil)
def revE (fe : Env → M D) : Env → M (List PyData) := fun env => bd (fe env) revF
theorem sf_rev {K : W.Frag} {k : Nat} (he : SE X E e te fe) (hK : X.K = K := by rfl) : SF X E (.Subscript e (.Slice none none (some (.UnaryOp .USub (.Constant (.int 1) k p1) p2)) p3) pos) (tRevL K te) (revE fe) := by
  subst hK
  refine ⟨pe_revL he.pe, fun w σ H env st Q s0 e0 hp => ?_⟩
  refine he.rf.stepF s0 e0 hp fun r1 H1 st1 x v g1 s1 e1 q1 hp => ?_
  unfold revF at hp
  split at hp
  · rename_i xs hx
    obtain ⟨a, us, e3, ha, ra⟩ := dat_lst s1 q1 hx
    exact ⟨a, us, e3, SqL.of ha, fun p np => hp r1 H1 p _ (Ge.refl _ _) s1 np ra.rev⟩
  · exact hp.elim
/-! ### x = [..] -/
variable {elt tg iter : Expr} {ifs : List Expr} {scope : Scope} {own : List (Str × Nat)} {is : List Nat} {ti : TI} {g : TG} {tt : TT} {fi : Env → M Src} {fg : D → Env → M Env} {ft : Env → M Bool} {i : Nat} {y : Str} {py spos : Pos}
def obV (ob : Bool) (f : Env → M (List PyData)) : Env → M D := if ob = true then asObj f else asVal f
theorem ss_setLc (ob : Bool) (m : Nat) (hN : X.N.Nodup) (hi : SI X E tg iter ti fi) (ok : BlkOk X.N X.env.scope scope own)
    (hg : ∀ (s : Shared) (H : Hp) (C : Addr) (cl : List (Str × Addr)) (fp : List Addr), SG (X.blk s H scope (PySem.compEnvC scope cl C X.env) fp) E0 is tg g fg) (ht : ∀ (s : Shared) (H : Hp) (C : Addr) (cl : List (Str × Addr)) (fp : List Addr), STs (X.blk s H scope (PySem.compEnvC scope cl C X.env) fp) E0 ifs tt ft)
    (he : ∀ (s : Shared) (H : Hp) (C : Addr) (cl : List (Str × Addr)) (fp : List Addr), SE (X.blk s H scope (PySem.compEnvC scope cl C X.env) fp) E0 elt te fe)
    (hsw : swapsWith (.ListComp elt [⟨tg, iter, ifs, 0⟩] scope pos) (some (.Name y py)) spos.line X.env = pure true) {os : List Nat} (hos : own.map (·.2) = os := by rfl) (his : ∀ i ∈ is, i ∈ os := by decide) (hc : X.calm = true := by rfl) (hy : X.N[i]? = some y := by rfl) (hyl : X.env.scope.names.lookup y = some .local := by rfl) (hs : ∀ x, foldedSetIterable iter X.env x = pure x := by intro _; rfl) :
    SS X E (.Assign [.Name y py] (.ListComp elt [⟨tg, iter, ifs, 0⟩] scope pos) spos) (tAsg (tLc ti g tt te os) (gName i)) (asgS (obV ob (lcS m os fi fg ft fe)) (setV i)) := by
  subst hos
  have rf := rf_lc (m := m) hi.rf (hg {} (fun _ => none) 0 [] []).rf his (ht {} (fun _ => none) 0 [] []).rf (he {} (fun _ => none) 0 [] []).rf
  refine ⟨ps_setLc hc hN hy hyl hsw hi.pi ok (fun s H C cl fp => (hg s H C cl fp).pg) (fun s H C cl fp => (ht s H C cl fp).pt) (fun s H C cl fp => (he s H C cl fp).pe) hs, ?_⟩
  have rs : RfG X.K E [i] (gName i) (setV i) := fun w σ H env st d v Q s0 e0 r hp => hp w H _ (Ge.refl _ _) s0 (e0.set i r) fun vs h => wipe_set (h i (by simp))
  cases ob with
  | true => exact rf_asg (is := [i]) (rf_obj rf) rs
  | false => exact rf_asg (is := [i]) (rf_val rf) rs
/-! ### f(k = e) -/
theorem rf_callK {K : W.Frag} {n : Nat} {m : List D → M D} {gV : List V → List V → List V} {gD : List D → List D → List D} (hgl : ∀ env st ds st' st2 es st3, fr env st = .ok ds st' → fk env st2 = .ok es st3 → (gD ds es).length = n)
    (hgr : ∀ {w H ds vs es us}, RpDs K w H ds vs → RpDs K w H es us → RpDs K w H (gD ds es) (gV vs us)) (ha : Rf K E (RA K) tr fr) (hk : Rf K E (RA K) tk fk) :
    Rf K E (RE K) (tCallGK (spOf K n m) gV E tr tk) (fun env => bd (fr env) fun ds => bd (fk env) fun es => m (gD ds es)) := by
  intro w σ H env st Q s0 e0 hp
  refine ha w σ H env st _ s0 e0 ?_
  replace hp : Post K E (RE K) w H (bd (fr env) (fun ds => bd (fk env) fun es => m (gD ds es)) st) Q := hp
  cases hf : fr env st with
  | ok ds st' =>
    rw [bd_ok hf] at hp
    intro w1 H1 vs g1 s1 q1
    refine hk w1 σ H1 env st' _ s1 (e0.mono g1) ?_
    have hp := hp.mono g1
    cases hf2 : fk env st' with
    | ok es st2 =>
      rw [bd_ok hf2] at hp
      intro w2 H2 us g2 s2 q2
      have q := hgr (q1.mono g2) q2
      exact ⟨by rw [← q.length]; exact hgl _ _ _ _ _ _ _ hf hf2, w2, st2, _, s2, q, hp.mono g2⟩
    | exc e st2 => rw [bd_exc hf2] at hp; exact hp
    | bad => rw [bd_bad hf2] at hp; exact hp
  | exc e st' => rw [bd_exc hf] at hp; exact hp
  | bad => rw [bd_bad hf] at hp; exact hp
end
end B
/-! BL12: calls with keywords. -/
namespace B
open PySem L2
variable [Nm] [Gd]
def pick {α : Type} (ix : List Nat) (l : List α) : List α := ix.filterMap fun i => l[i]?
/-- how the arguments of a call with keywords bind -/
def KB (fd : FuncData) (ps ks : List Str) (n m : Nat) (ix : List Nat) : Prop :=
  ∀ (s : Shared) (us ws : List Value), us.length = n → ws.length = m → BindsTo s fd ⟨us, ks.zip ws⟩ (ps.zip (pick ix (us ++ ws)))
theorem Vals.pick {vs : List V} {us : List Value} (r : Vals vs us) : ∀ ix : List Nat, Vals (B.pick ix vs) (B.pick ix us)
  | [] => .nil
  | i :: ix => by
    unfold B.pick
    rw [List.filterMap_cons, List.filterMap_cons]
    cases h : vs[i]? with
    | none => rw [r.none_of h]; exact Vals.pick r ix
    | some v =>
      obtain ⟨u, hu, ru⟩ := r.get h
      rw [hu]
      exact .cons ru (Vals.pick r ix)
theorem RpDs.append {K : W.Frag} {w : Wd} {H : Hp} : ∀ {ds es : List D} {vs us : List V}, RpDs K w H ds vs → RpDs K w H es us → RpDs K w H (ds ++ es) (vs ++ us)
  | _, _, _, _, .nil, s => s
  | _, _, _, _, .cons r t, s => .cons r (RpDs.append t s)
theorem RpDs.get {K : W.Frag} {w : Wd} {H : Hp} : ∀ {ds : List D} {vs : List V} (i : Nat), RpDs K w H ds vs → (∃ d v, ds[i]? = some d ∧ vs[i]? = some v ∧ RpD K w H d v) ∨ (ds[i]? = none ∧ vs[i]? = none)
  | _, _, _, .nil => .inr ⟨rfl, rfl⟩
  | _, _, 0, .cons r _ => .inl ⟨_, _, rfl, rfl, r⟩
  | _, _, i + 1, .cons _ t => by simpa using RpDs.get i t
theorem RpDs.pick {K : W.Frag} {w : Wd} {H : Hp} {ds : List D} {vs : List V} (r : RpDs K w H ds vs) : ∀ ix : List Nat, RpDs K w H (B.pick ix ds) (B.pick ix vs)
  | [] => .nil
  | i :: ix => by
    unfold B.pick
    rw [List.filterMap_cons, List.filterMap_cons]
    rcases r.get i with ⟨d, v, h1, h2, h3⟩ | ⟨h1, h2⟩
    · rw [h1, h2]; exact .cons h3 (RpDs.pick r ix)
    · rw [h1, h2]; exact RpDs.pick r ix
section
variable {X : Cx} {E : XK} {e : Expr} {es : List Expr} {tr tk : TA} {fr fk : Env → M (List D)} {pos p : Pos} {x : Str} {f : Addr} {fd : FuncData} {ps ks : List Str} {k n m N : Nat} {md : List D → M D} {kws : List Keyword} {ix : List Nat} {sp : Sp}
theorem goKw {pins : List (Addr × Obj)} {σ : St} {H : Hp} {s : Shared} {Q : VK} {us ws : List Value} {vs zs : List V} (F : FnG X.prog X.w X.K X.mg X.base k f fd ps sp) (hr : Room k X.A) (hG : X.A.guards = some []) (hb : KB fd ps ks n m ix) (hx : Passes (L2.CX X.prog X.w) X E)
    (I : Inv X pins σ H s) (r : Vals vs us) (rz : Vals zs ws) (hn : vs.length = n) (hm : zs.length = m) (h : sp (pick ix (vs ++ zs)) H Q E) : wpAny (model X.prog X.w) X.A (call (.ref f) us (ks.zip ws)) (EP X pins σ Q) X.xe s := by
  have rr := Vals.pick (r.append rz) ix
  refine wpAny_call (codeAny_mono (F.goes X.A X.stack s H ⟨us, ks.zip ws⟩ (pick ix (us ++ ws)) (pick ix (vs ++ zs)) Q E hr hG I.env0 (hb s us ws (r.length ▸ hn) (rz.length ▸ hm)) rr h) fun r s' hq => ?_)
  have q := CR.after hx I hq
  cases r with
  | error e => exact q
  | ok fl => cases fl with
    | ret u => exact q
    | next => exact False.elim q
    | brk => exact False.elim q
    | cont => exact False.elim q
def tCallKw (n m : Nat) (ix : List Nat) (sp : Sp) (E : XK) (t tk : TA) : TE := fun σ H Q => t σ H fun vs H1 => tk σ H1 fun zs H2 => vs.length = n ∧ zs.length = m ∧ sp (pick ix (vs ++ zs)) H2 Q E
theorem pg_callKw (F : FnG X.prog X.w X.K X.mg X.base k f fd ps sp) (hr : Room k X.A) (hG : X.A.guards = some []) (hg : Gl X x) (hm : X.mg x = some (.ref f)) (hk : PySem.W.keepIn X.K (.ref f) = true) (hb : KB fd ps ks n m ix) (hx : Passes (L2.CX X.prog X.w) X E)
    (ha : PA X (e :: es) tr) (hkw : PK X kws tk) (hall : (backToKw pos (keywordEach kws X.env)).all (·.1.isSome) = true) (hks : (backToKw pos (keywordEach kws X.env)).filterMap (·.1) = ks)
    (hdb : (x == ("__debug__" : Str)) = false) (he : starEach (e :: es) X.env = (false, eval e X.env) :: starEach es X.env)
    (hpl : ((backTo pos (starEach (e :: es) X.env)).any (·.1) || (backToKw pos (keywordEach kws X.env)).any (·.1.isNone)) = false) :
    PE X (.Call (.Name x p) (e :: es) kws pos) (tCallKw n m ix sp E tr tk) :=
  ⟨fun pins s σ H Q I h => wpAny_Call_Name_kw (ld_glob I hg hm (PySem.W.callWith_KW (h₀ := X.base) I.ok.mod.kin hk hall (thn (ha.run pos pins s σ H _ I h) fun us s1 ⟨vs, H1, I1, r, q⟩ =>
    thn (hkw.run pos pins s1 σ H1 _ I1 q) fun ws s2 ⟨zs, H2, I2, rz, h1, h2, q2⟩ => ⟨I2.kIn, by rw [hks]; exact goKw F hr hG hb hx I2 r rz h1 h2 q2⟩) hpl he) hdb)⟩
theorem pg_callKw0 (F : FnG X.prog X.w X.K X.mg X.base k f fd ps sp) (hr : Room k X.A) (hG : X.A.guards = some []) (hg : Gl X x) (hm : X.mg x = some (.ref f)) (hk : PySem.W.keepIn X.K (.ref f) = true) (hb : KB fd ps ks 0 m ix) (hx : Passes (L2.CX X.prog X.w) X E)
    (hkw : PK X kws tk) (hall : (backToKw pos (keywordEach kws X.env)).all (·.1.isSome) = true) (hks : (backToKw pos (keywordEach kws X.env)).filterMap (·.1) = ks)
    (hdb : (x == ("__debug__" : Str)) = false) (hpl : ((backTo pos (starEach [] X.env)).any (·.1) || (backToKw pos (keywordEach kws X.env)).any (·.1.isNone)) = false) :
    PE X (.Call (.Name x p) [] kws pos) (tCallKw 0 m ix sp E tNil tk) :=
  ⟨fun pins s σ H Q I h => wpAny_Call_Name_kw (ld_glob I hg hm (PySem.W.callWith_KW0 (h₀ := X.base) I.ok.mod.kin hk hall (thn (hkw.run pos pins s σ H _ I h) fun ws s2 ⟨zs, H2, I2, rz, h1, h2, q2⟩ =>
    ⟨I2.kIn, by rw [hks]; exact goKw (us := []) F hr hG hb hx I2 .nil rz h1 h2 q2⟩) hpl) hdb)⟩
def callKw (ix : List Nat) (md : List D → M D) (fr fk : Env → M (List D)) : Env → M D := fun env => bd (fr env) fun ds => bd (fk env) fun es => md (pick ix (ds ++ es))
theorem rf_callKw {K : W.Frag} (hix : ∀ ds es : List D, ds.length = n → es.length = m → (pick ix (ds ++ es)).length = N) (hn : lenIs n fr) (hm : lenIs m fk) (ha : Rf K E (RA K) tr fr) (hk : Rf K E (RA K) tk fk) :
    Rf K E (RE K) (tCallKw n m ix (spOf K N md) E tr tk) (callKw ix md fr fk) := by
  intro w σ H env st Q s0 e0 hp
  unfold callKw at hp
  refine ha w σ H env st _ s0 e0 ?_
  cases hf : fr env st with
  | ok ds st' =>
    rw [bd_ok hf] at hp
    intro w1 H1 vs g1 s1 q1
    refine hk w1 σ H1 env st' _ s1 (e0.mono g1) ?_
    have hp := hp.mono g1
    cases hf2 : fk env st' with
    | ok es st2 =>
      rw [bd_ok hf2] at hp
      intro w2 H2 us g2 s2 q2
      have q := ((q1.mono g2).append q2).pick ix
      have h1 := hn _ _ _ _ hf
      have h2 := hm _ _ _ _ hf2
      exact ⟨by rw [← q1.length]; exact h1, by rw [← q2.length]; exact h2, by rw [← q.length]; exact hix ds es h1 h2, w2, st2, _, s2, q, hp.mono g2⟩
    | exc e st2 => rw [bd_exc hf2] at hp; exact hp
    | bad => rw [bd_bad hf2] at hp; exact hp
  | exc e st' => rw [bd_exc hf] at hp; exact hp
  | bad => rw [bd_bad hf] at hp; exact hp
theorem se_callKw {K : W.Frag} (F : FnG X.prog X.w X.K X.mg X.base k f fd ps (spOf K N md)) (hr : Room k X.A) (hG : X.A.guards = some []) (hmx : X.mg x = some (.ref f)) (hk : PySem.W.keepIn X.K (.ref f) = true) (hb : KB fd ps ks n m ix) (hx : Passes (L2.CX X.prog X.w) X E)
    (ha : SA X E (e :: es) tr fr) (hkw : SK X E kws tk fk) (hn : lenIs n fr) (hm : lenIs m fk) (hix : ∀ ds es : List D, ds.length = n → es.length = m → (pick ix (ds ++ es)).length = N) (hK : X.K = K := by rfl) (hall : (backToKw pos (keywordEach kws X.env)).all (·.1.isSome) = true := by rfl) (hks : (backToKw pos (keywordEach kws X.env)).filterMap (·.1) = ks := by rfl)
    (hg : Gl X x := by rfl) (hdb : (x == ("__debug__" : Str)) = false := by decide) (he : starEach (e :: es) X.env = (false, eval e X.env) :: starEach es X.env := by rfl)
    (hpl : ((backTo pos (starEach (e :: es) X.env)).any (·.1) || (backToKw pos (keywordEach kws X.env)).any (·.1.isNone)) = false := by rfl) :
    SE X E (.Call (.Name x p) (e :: es) kws pos) (tCallKw n m ix (spOf K N md) E tr tk) (callKw ix md fr fk) := by
  subst hK
  exact ⟨pg_callKw F hr hG hg hmx hk hb hx ha.pa hkw.pk hall hks hdb he hpl, rf_callKw hix hn hm ha.rf hkw.rf⟩
theorem se_callKw0 {K : W.Frag} (F : FnG X.prog X.w X.K X.mg X.base k f fd ps (spOf K N md)) (hr : Room k X.A) (hG : X.A.guards = some []) (hmx : X.mg x = some (.ref f)) (hk : PySem.W.keepIn X.K (.ref f) = true) (hb : KB fd ps ks 0 m ix) (hx : Passes (L2.CX X.prog X.w) X E)
    (hkw : SK X E kws tk fk) (hm : lenIs m fk) (hix : ∀ ds es : List D, ds.length = 0 → es.length = m → (pick ix (ds ++ es)).length = N) (hK : X.K = K := by rfl) (hall : (backToKw pos (keywordEach kws X.env)).all (·.1.isSome) = true := by rfl) (hks : (backToKw pos (keywordEach kws X.env)).filterMap (·.1) = ks := by rfl)
    (hg : Gl X x := by rfl) (hdb : (x == ("__debug__" : Str)) = false := by decide) (hpl : ((backTo pos (starEach [] X.env)).any (·.1) || (backToKw pos (keywordEach kws X.env)).any (·.1.isNone)) = false := by rfl) :
    SE X E (.Call (.Name x p) [] kws pos) (tCallKw 0 m ix (spOf K N md) E tNil tk) (callKw ix md aNil fk) := by
  subst hK
  exact ⟨pg_callKw0 F hr hG hg hmx hk hb hx hkw.pk hall hks hdb hpl, rf_callKw hix lenIs_nil hm (sa_nil (X := X)).rf hkw.rf⟩
end
end B
/-! BL13: a def whose own objects end with it. -/
namespace B
open PySem L2
variable [Nm] [Gd]
section
variable {K : W.Frag} {w w' : Wd} {H H' : Hp}
theorem TupAt.sb (g : Sb w H w' H') {a : Addr} {vs : List V} (h : TupAt K w H a vs) : TupAt K w' H' a vs := by
  rcases h with ⟨h | ⟨o, h⟩, n⟩ | h
  · exact .inl ⟨.inl (g _ _ (fun _ z => by cases z) n h).2, (g _ _ (fun _ z => by cases z) n h).1⟩
  · exact .inl ⟨.inr ⟨o, (g _ _ (fun _ z => by cases z) n h).2⟩, (g _ _ (fun _ z => by cases z) n h).1⟩
  · exact .inr h
theorem LsAt.sb (g : Sb w H w' H') {a : Addr} {vs : List V} (h : LsAt K w H a vs) : LsAt K w' H' a vs := let ⟨n, e⟩ := g _ _ (fun _ z => by cases z) h.2 h.1; ⟨e, n⟩
theorem FzAt.sb (g : Sb w H w' H') {a : Addr} {vs : List V} (h : FzAt K w H a vs) : FzAt K w' H' a vs := by
  rcases h with ⟨⟨o, h⟩, n⟩ | h
  · exact .inl ⟨⟨o, (g _ _ (fun _ z => by cases z) n h).2⟩, (g _ _ (fun _ z => by cases z) n h).1⟩
  · exact .inr h
mutual
theorem Rp.sb (g : Sb w H w' H') : ∀ {d : PyData} {v : V}, Rp K w H d v → Rp K w' H' d v
  | _, _, .non => .non
  | _, _, .bl b => .bl b
  | _, _, .int i => .int i
  | _, _, .str x => .str x
  | _, _, .tup h r => .tup (h.sb g) (Rps.sb g r)
  | _, _, .ls h r => .ls (h.sb g) (Rps.sb g r)
theorem Rps.sb (g : Sb w H w' H') : ∀ {ds : List PyData} {vs : List V}, Rps K w H ds vs → Rps K w' H' ds vs
  | _, _, .nil => .nil
  | _, _, .cons r s => .cons (Rp.sb g r) (Rps.sb g s)
end
theorem RpK.sb (g : Sb w H w' H') {κ : Type} : ∀ {ds : List (κ × PyData)} {vs : List (κ × V)}, RpK K w H ds vs → RpK K w' H' ds vs
  | _, _, .nil => .nil
  | _, _, .cons r s => .cons (r.sb g) (RpK.sb g s)
end
def dOk (n : Nat) : D → Bool
  | .loc m => decide (m < n)
  | .pr _ _ => false
  | _ => true
def fOk (n : Nat) (fs : List (Str × D)) : Bool := fs.all fun p => dOk n p.2
def s1Ok (n : Nat) : S1 → Bool
  | .v _ => true
  | .l m => decide (m < n)
def oOk (n : Nat) : O → Bool
  | .ins _ fs => fOk n fs
  | .lr xs => xs.all (s1Ok n)
  | .dr kvs => kvs.all fun p => s1Ok n p.2
  | _ => true
def stOk (n : Nat) (st : Store) : Bool := st.all (oOk n)
def eOk (n : Nat) : Ex → Bool
  | .own _ fs => fOk n fs
theorem RpD.cut {K : W.Frag} {w w1 : Wd} {H : Hp} {n : Nat} {more : List Addr} (e : w1.rho = w.rho ++ more) (hn : w.rho.length = n) (g : Sb w1 H w H) {d : D} {v : V} (ok : dOk n d = true) (r : RpD K w1 H d v) : RpD K w H d v := by
  cases d with
  | val p => exact Rp.sb g r
  | loc m =>
    obtain ⟨a, ev, ha⟩ := r
    simp only [dOk, decide_eq_true_eq] at ok
    rw [e, List.getElem?_append_left (by omega)] at ha
    exact ⟨a, ev, ha⟩
  | cst u => exact r
  | err => exact r
  | fn _ => exact r
  | pr _ _ => simp [dOk] at ok
  | frz xs => obtain ⟨a, vs, ev, fz, r⟩ := r; exact ⟨a, vs, ev, fz.sb g, Rps.sb g r⟩
theorem RpS.cut {K : W.Frag} {w w1 : Wd} {H : Hp} {n : Nat} {more : List Addr} (e : w1.rho = w.rho ++ more) (hn : w.rho.length = n) (g : Sb w1 H w H) {d : S1} {v : V} (ok : s1Ok n d = true) (r : RpS K w1 H d v) : RpS K w H d v := by
  cases d with
  | v p => exact Rp.sb g r
  | l m =>
    obtain ⟨a, ev, ha⟩ := r
    simp only [s1Ok, decide_eq_true_eq] at ok
    rw [e, List.getElem?_append_left (by omega)] at ha
    exact ⟨a, ev, ha⟩
theorem RpSs.cut {K : W.Frag} {w w1 : Wd} {H : Hp} {n : Nat} {more : List Addr} (e : w1.rho = w.rho ++ more) (hn : w.rho.length = n) (g : Sb w1 H w H) : ∀ {ds : List S1} {vs : List V}, ds.all (s1Ok n) = true → RpSs K w1 H ds vs → RpSs K w H ds vs
  | _, _, _, .nil => .nil
  | _, _, ok, .cons r s => by
    simp only [List.all_cons, Bool.and_eq_true] at ok
    exact .cons (r.cut e hn g ok.1) (RpSs.cut e hn g ok.2 s)
theorem RpKS.cut {K : W.Frag} {w w1 : Wd} {H : Hp} {n : Nat} {more : List Addr} (e : w1.rho = w.rho ++ more) (hn : w.rho.length = n) (g : Sb w1 H w H) {κ : Type} : ∀ {ds : List (κ × S1)} {vs : List (κ × V)}, (ds.all fun p => s1Ok n p.2) = true → RpKS K w1 H ds vs → RpKS K w H ds vs
  | _, _, _, .nil => .nil
  | _, _, ok, .cons r s => by
    simp only [List.all_cons, Bool.and_eq_true] at ok
    exact .cons (r.cut e hn g ok.1) (RpKS.cut e hn g ok.2 s)
theorem lookup_mem {fs : List (Str × D)} {x : Str} {d : D} (h : fs.lookup x = some d) : ∃ y, (y, d) ∈ fs := by
  induction fs with
  | nil => simp at h
  | cons p r ih =>
    obtain ⟨k, c⟩ := p
    rw [List.lookup_cons] at h
    split at h
    · cases h; exact ⟨k, List.mem_cons_self⟩
    · obtain ⟨y, hy⟩ := ih h
      exact ⟨y, List.mem_cons_of_mem _ hy⟩
theorem RpF.cut {K : W.Frag} {w w1 : Wd} {H : Hp} {n : Nat} {more : List Addr} (e : w1.rho = w.rho ++ more) (hn : w.rho.length = n) (g : Sb w1 H w H) {fs : List (Str × D)} {gs : List (Str × V)} (ok : fOk n fs = true) (r : RpF K w1 H fs gs) : RpF K w H fs gs := by
  refine ⟨r.1, fun x => ⟨fun d hd => ?_, (r.2 x).2⟩⟩
  obtain ⟨v, e1, r1⟩ := (r.2 x).1 d hd
  obtain ⟨y, hy⟩ := lookup_mem hd
  exact ⟨v, e1, r1.cut e hn g (List.all_eq_true.mp ok _ hy)⟩
theorem RelSt.cut {K : W.Frag} {w w1 : Wd} {H H1 : Hp} {st st1 : Store} (hs : RelSt K w H st) (g : Ge w H w1 H1) (s1 : RelSt K w1 H1 st1) (ok : stOk st.length (st1.take st.length) = true) :
    RelSt K w H1 (st1.take st.length) ∧ Ge w H w H1 ∧ Sb w1 H1 w H1 ∧ ∃ more, w1.rho = w.rho ++ more := by
  obtain ⟨more, e1, e2, hm⟩ := g.pre
  have sb : Sb w1 H1 w H1 := fun a o _ n h => ⟨fun q => n (by
    rw [Wd.bn, e1, e2]
    rcases List.mem_append.mp q with q | q
    · exact List.mem_append_left _ (List.mem_append_left _ q)
    · exact List.mem_append_right _ q), h⟩
  have hlen : st1.length = w.rho.length + more.length := by rw [s1.len, e1, List.length_append]
  refine ⟨⟨?_, hs.nd, fun a h => s1.trk a (by rw [e2]; exact h), hs.nde, fun n o a h1 h2 => ?_, s1.tab, Gd.sb sb s1.inv⟩, ⟨⟨[], by simp, rfl, fun _ h => by simp at h⟩, g.keep, g.there⟩, sb, more, e1⟩
  · rw [List.length_take, hs.len]; omega
  · have hn : n < st.length := by rw [hs.len]; exact (List.getElem?_eq_some_iff.mp h2).1
    have h1' : st1[n]? = some o := by rw [List.getElem?_take] at h1; simpa [hn] using h1
    have ob := s1.obj n o a h1' (g.get h2)
    have oo : oOk st.length o = true := List.all_eq_true.mp ok o (List.mem_of_getElem? h1)
    cases o with
    | lst xs => obtain ⟨vs, e, r⟩ := ob; exact ⟨vs, e, r.sb sb⟩
    | dk xs => obtain ⟨vs, e, r⟩ := ob; exact ⟨vs, e, r.sb sb⟩
    | dt xs => obtain ⟨vs, e, r⟩ := ob; exact ⟨vs, e, r.sb sb⟩
    | ins C fs => obtain ⟨dx, vs, e, r⟩ := ob; exact ⟨dx, vs, e, r.cut e1 hs.len.symm sb oo⟩
    | lr xs => obtain ⟨vs, e, r⟩ := ob; exact ⟨vs, e, r.cut e1 hs.len.symm sb oo⟩
    | dr xs => obtain ⟨vs, e, r⟩ := ob; exact ⟨vs, e, r.cut e1 hs.len.symm sb oo⟩
/-- the value of a def whose own objects end with it: a list that it made is handed back as a value -/
def fnT (n : Nat) (body : Env → M Fl) (ds : List D) : M D := fun st => match body (ds.map some ++ List.replicate (n - ds.length) none) st with
  | .ok f st1 => if stOk st.length (st1.take st.length) = true then (match f with
    | .rt (.loc k) => if k < st.length then .ok (.loc k) (st1.take st.length) else (match st1[k]? with
      | some (.lst xs) => .ok (.val (.list xs)) (st1.take st.length)
      | _ => .bad)
    | .rt (.pr _ _) => .bad
    | .rt d => .ok d (st1.take st.length)
    | .nx _ => .ok (.val .none) (st1.take st.length)
    | _ => .bad) else .bad
  | .exc e st1 => if stOk st.length (st1.take st.length) = true ∧ eOk st.length e = true then .exc e (st1.take st.length) else .bad
  | .bad => .bad
section
variable {P : Program} {w : World} {K : W.Frag} {mg : Str → Option Value} {base : Heap}
theorem doesT {x qual : Str} {st : Stmt} {f : Addr} {fd : FuncData} {N ps : List Str} {k : Nat} {body : Env → M Fl} (F : Fun K x qual st f fd) (S : FnScope N ps (defScope st))
    (h : ∀ (A : Around) (out : List PySem.Env) (s : Shared) (H : Hp) (E : XK), Room k (A.deeper (PyProof.Rows.envOfC qual (defScope st) s.heap.objs.size f fd.code)) → A.guards = some [] → ∃ t, SSs (cxOf (L2.CX P w) P w K mg base N qual (defScope st) f fd.code A out s H E) E (defBody st) t body) :
    FnG P w K mg base (k + 1) f fd ps (spOf K ps.length (fnT N.length body)) := by
  obtain ⟨oc, od, kV, doc, pm, an, cdv, ct, osl, rfl, lk, hcd⟩ := F.ex
  refine fnG_of lk hcd S (fun vs H Q E h => h.1) fun A out s H vs Q E hr hG hsp => ?_
  obtain ⟨t, d⟩ := h A out s H E hr hG
  obtain ⟨_, w, st0, ds, hs, r, hp⟩ := hsp
  refine ⟨t, d.ps, d.rf w _ H _ st0 _ hs (RelEnv.start r) ?_⟩
  unfold fnT at hp
  cases hf : body (ds.map some ++ List.replicate (N.length - ds.length) none) st0 with
  | ok r st' =>
    rw [hf] at hp
    simp only at hp
    split at hp
    · rename_i ok
      cases r with
      | nx env =>
        intro w' H' σ' g s1 _
        obtain ⟨s2, g2, sb, more, em⟩ := hs.cut g s1 ok
        exact hp w H' _ g2 s2 .non
      | rt d =>
        intro w' H' v g s1 q
        obtain ⟨s2, g2, sb, more, em⟩ := hs.cut g s1 ok
        cases d with
        | val p => exact hp w H' _ g2 s2 (Rp.sb sb q)
        | cst u => exact hp w H' _ g2 s2 q
        | err => exact hp w H' _ g2 s2 q
        | fn _ => exact hp w H' _ g2 s2 q
        | pr _ _ => exact hp.elim
        | frz u => obtain ⟨a, vs, ev, fz, r⟩ := q; exact hp w H' _ g2 s2 ⟨a, vs, ev, fz.sb sb, Rps.sb sb r⟩
        | loc n =>
          simp only at hp
          split at hp
          · rename_i hn
            exact hp w H' _ g2 s2 (RpD.cut em hs.len.symm sb (by simp [dOk, hn]) q)
          · rename_i hn
            split at hp
            · rename_i xs hx
              obtain ⟨a, ev, ha, us, hu, ru⟩ := s1.at hx q
              subst ev
              refine hp w H' _ g2 s2 (.ls ⟨hu, fun z => ?_⟩ (ru.sb sb))
              rcases List.mem_append.mp z with z | z
              · have hd := s1.nd
                rw [em] at hd ha
                rw [List.getElem?_append_right (by rw [← hs.len]; omega)] at ha
                exact (List.nodup_append.mp hd).2.2 a z a (List.mem_of_getElem? ha) rfl
              · obtain ⟨_, _, e2, _⟩ := g.pre
                exact s1.nde a (List.mem_of_getElem? ha) (by rw [e2]; exact z)
            · exact hp.elim
      | bk env => exact hp.elim
      | ct env => exact hp.elim
    · exact hp.elim
  | exc e st' =>
    rw [hf] at hp
    simp only at hp
    split at hp
    · rename_i ok
      intro w' H' c dx g s1 q
      obtain ⟨s2, g2, sb, more, em⟩ := hs.cut g s1 ok.1
      refine hp w H' c dx g2 s2 ?_
      cases e with
      | own C fs =>
        obtain ⟨ec, d, gs, ed, hd, nd, rf⟩ := q
        exact ⟨ec, d, gs, ed, hd, (sb d _ (fun _ z => by cases z) nd hd).1, rf.cut em hs.len.symm sb ok.2⟩
    · exact hp.elim
  | bad => rw [hf] at hp; exact hp.elim
end
end B
/-! BL14: several targets at once; small words for the printed texts. -/
namespace B
open PySem L2
variable [Nm] [Gd]
abbrev ltF : D → D → M D := cmpF fun i j => decide (i < j)
abbrev leF : D → D → M D := cmpF fun i j => decide (i ≤ j)
abbrev gtF : D → D → M D := cmpF fun i j => decide (j < i)
abbrev geF : D → D → M D := cmpF fun i j => decide (j ≤ i)
theorem unitsOf {k : Nat} {A : Around} (hr : Room k A) : A.units + 150 < cLine := by have := hr.un; omega
theorem un {n c j : Nat} (h : n + 150 < c) (hj : j ≤ 150 := by decide) : n + j < c := by omega
theorem binds1 {K : W.Frag} {x qual y : Str} {st : Stmt} {f : Addr} {fd : FuncData} (F : Fun K x qual st f fd) (s : Shared) (u : Value)
    (h : ∀ (kV doc pm : Value) (an : Option Addr) (cdv ct u : Value), bindArgs (PySem.W.fnOf x qual (defArgs st) (defBody st) (defScope st) .none kV doc pm an cdv ct) ⟨[u], []⟩ = pure [(y, u)] := by intros; rfl) : BindsTo s fd ⟨[u], []⟩ [(y, u)] := by
  obtain ⟨oc, od, kV, doc, pm, an, cdv, ct, osl, rfl, lk, hcd⟩ := F.ex
  exact .of_eq (h kV doc pm an cdv ct u)
/-- several names at once -/
def setsN : List Nat → List D → Env → Option Env
  | [], [], env => some env
  | i :: is, d :: ds, env => setsN is ds (env.set i (some d))
  | _, _, _ => none
def parN (is : List Nat) (fr : Env → M (List D)) : Env → M Fl := fun env => bd (fr env) fun ds => match setsN is ds env with
  | some env' => rt (.nx env')
  | none => bad
section
variable {X : Cx} {E : XK} {a b c : Expr} {es ts : List Expr} {tr : TA} {fr : Env → M (List D)} {pos : Pos}
theorem ss_par2 {i j : Nat} {x y : Str} {px py pt : Pos} {kt k2 pt2} (hN : X.N.Nodup) (hij : i ≠ j) (ha : SA X E [a, b] tr fr) (hc : X.calm = true := by rfl) (hi : X.N[i]? = some x := by rfl) (hj : X.N[j]? = some y := by rfl)
    (hx : X.env.scope.names.lookup x = some .local := by rfl) (hy : X.env.scope.names.lookup y = some .local := by rfl) (hw : swappedStores [.Tuple [.Name x px, .Name y py] kt pt] (.Tuple [a, b] k2 pt2) X.env = pure (some [x, y]) := by rfl)
    (hs : swapsWithSole [.Tuple [.Name x px, .Name y py] kt pt] (.Tuple [a, b] k2 pt2) pos.line X.env = pure false := by rfl) :
    SS X E (.Assign [.Tuple [.Name x px, .Name y py] kt pt] (.Tuple [a, b] k2 pt2) pos) (tPar i j tr) (parN [i, j] fr) := by
  refine ⟨ps_par hc hN hi hj hij hx hy ha.pa hw hs, fun w σ H env st Z s0 e0 hp => ?_⟩
  refine ha.rf.stepS s0 e0 hp fun r1 H1 st1 ds vs g1 s1 e1 q1 hp => ?_
  cases q1 with
  | nil => exact hp.elim
  | cons q1 q2 => cases q2 with
    | nil => exact hp.elim
    | cons q2 q3 => cases q3 with
      | nil => exact ⟨_, _, rfl, hp.nxc s1 ((e1.set i q1).set j q2)⟩
      | cons _ _ => exact hp.elim
theorem ss_par3 {i j l : Nat} {x y z : Str} {px py pz pt : Pos} {kt k2 pt2} (hN : X.N.Nodup) (hij : i ≠ j) (hil : i ≠ l) (hjl : j ≠ l) (ha : SA X E [a, b, c] tr fr)
    (hh : PS X (.Assign [.Tuple [.Name x px, .Name y py, .Name z pz] kt pt] (.Tuple [a, b, c] k2 pt2) pos) (tPar3 i j l tr)) :
    SS X E (.Assign [.Tuple [.Name x px, .Name y py, .Name z pz] kt pt] (.Tuple [a, b, c] k2 pt2) pos) (tPar3 i j l tr) (parN [i, j, l] fr) := by
  refine ⟨hh, fun w σ H env st Z s0 e0 hp => ?_⟩
  refine ha.rf.stepS s0 e0 hp fun r1 H1 st1 ds vs g1 s1 e1 q1 hp => ?_
  cases q1 with
  | nil => exact hp.elim
  | cons q1 q2 => cases q2 with
    | nil => exact hp.elim
    | cons q2 q3 => cases q3 with
      | nil => exact hp.elim
      | cons q3 q4 => cases q4 with
        | nil => exact ⟨_, _, _, rfl, hp.nxc s1 (((e1.set i q1).set j q2).set l q3)⟩
        | cons _ _ => exact hp.elim
/-- names as targets of an unpacked tuple -/
structure SN (X : Cx) (ts : List Expr) (is : List Nat) (t : TGs) : Prop where
  pg : PGs X ts t
  go : ∀ (vs : List V) (σ : St) (H : Hp) (Q : St → Hp → Prop), vs.length = is.length → Q ((is.zip vs).foldl (fun s p => s.set p.1 (some p.2)) σ) H → t vs σ H Q
theorem sn_nil : SN X [] [] gNil := ⟨pgs_nil, fun vs σ H Q hl q => by
  cases vs with
  | nil => exact ⟨rfl, q⟩
  | cons _ _ => simp at hl⟩
theorem sn_cons {i : Nat} {x : Str} {is : List Nat} {t : TGs} (hN : X.N.Nodup) (h : SN X ts is t) (hi : X.N[i]? = some x := by rfl) (hx : Loc X.env.scope x := by first | exact Or.inl rfl | exact Or.inr rfl) (hf : X.fn x = true ∨ X.env.scope.names.lookup x = some .local := by first | exact .inl rfl | exact .inr rfl)
    (hs : (assignEach (.Name x pos :: ts) X.env).map (·.2) = assign (.Name x pos) X.env :: (assignEach ts X.env).map (·.2) := by rfl) : SN X (.Name x pos :: ts) (i :: is) (gCons (gName i) t) :=
  ⟨pgs_cons (pg_name hN hi hx hf) h.pg hs, fun vs σ H Q hl q => by
    cases vs with
    | nil => simp at hl
    | cons v vs => exact ⟨v, vs, rfl, h.go vs _ H Q (by simpa using hl) q⟩⟩
theorem RelEnv.sets {K : W.Frag} {w : Wd} {H : Hp} : ∀ {is : List Nat} {ds : List D} {vs : List V} {env env' : Env} {σ : St}, RelEnv K w H env σ → RpDs K w H ds vs → setsN is ds env = some env' → vs.length = is.length ∧ RelEnv K w H env' ((is.zip vs).foldl (fun s p => s.set p.1 (some p.2)) σ)
  | [], _, _, env, env', _, he, .nil, e => by
    have : env' = env := by simpa [setsN] using e.symm
    subst this; exact ⟨rfl, he⟩
  | i :: is, _, _, _, _, _, he, .cons r t, e => by
    obtain ⟨h1, h2⟩ := RelEnv.sets (he.set i r) t (by simpa [setsN] using e)
    exact ⟨by simp [h1], h2⟩
  | [], _, _, _, _, _, _, .cons _ _, e => by simp [setsN] at e
  | _ :: _, _, _, _, _, _, _, .nil, e => by simp [setsN] at e
theorem ss_parG {is : List Nat} {t : TGs} {k k2 n : Nat} {p1 p2 : Pos} (ha : SA X E es tr fr) (hg : SN X ts is t) (hn : is.length = n := by rfl) (hc : X.calm = true := by rfl) (hz : n ≤ sizeLine := by decide) (hln : (assignEach ts X.env).length = n := by rfl) (hst : (assignEach ts X.env).findIdx? (·.1) = none := by rfl)
    (hs : swapsWithSole [.Tuple ts k p1] (.Tuple es k2 p2) pos.line X.env = pure false := by rfl) (hw : swappedStores [.Tuple ts k p1] (.Tuple es k2 p2) X.env = pure none := by rfl)
    (h1 : (assignEach [.Tuple ts k p1] X.env).map (·.2) = [assign (.Tuple ts k p1) X.env] := by rfl) :
    SS X E (.Assign [.Tuple ts k p1] (.Tuple es k2 p2) pos) (tAsg (tTup tr) (gTup X.K n t)) (parN is fr) := by
  refine ⟨ps_asg (pe_tup ha.pa) (pg_tup hc hg.pg hln hst) hs hw h1, fun w σ H env st Z s0 e0 hp => ?_⟩
  refine ha.rf.stepS s0 e0 hp fun r1 H1 st1 ds vs g1 s1 e1 q1 hp => ?_
  cases hq : setsN is ds env with
  | none => simp only [hq] at hp; exact hp.elim
  | some env' =>
    simp only [hq] at hp
    obtain ⟨hl, he⟩ := e1.sets q1 hq
    refine ⟨by rw [hl, hn]; exact hz, fun p np => ⟨p, vs, rfl, SqT.of upd_same, hl.trans hn, ?_⟩⟩
    have g2 : Ge r1 H1 r1 (upd H1 p (.tup vs)) := .new np
    exact hg.go vs σ _ _ hl (hp r1 _ _ g2 (s1.new np) (he.mono g2))
end
end B
namespace B
open PySem L2

/-! what a mirror does, from a store on; X: what is wanted of an exception -/
def wpD {α : Type} (X : Ex → Store → Prop) (r : Res α) (Q : α → Store → Prop) : Prop := match r with
  | .ok a st => Q a st
  | .exc e st => X e st
  | .bad => False
/-- kept shut, so that nothing works the run out by the way -/
structure wpx {α : Type} (X : Ex → Store → Prop) (r : Res α) (Q : α → Store → Prop) : Prop where
  get : wpD X r Q
def noE : Ex → Store → Prop := fun _ _ => False
theorem wp_D {α : Type} {X : Ex → Store → Prop} {r : Res α} {Q : α → Store → Prop} : wpx X r Q = wpD X r Q := propext ⟨fun h => h.get, fun h => ⟨h⟩⟩

section
variable {α β : Type} {st : Store} {Q : α → Store → Prop} {X : Ex → Store → Prop}
@[simp] theorem wp_ok {a : α} : wpx X (.ok a st) Q = Q a st := wp_D
@[simp] theorem wp_bad : wpx X (.bad : Res α) Q = False := wp_D
@[simp] theorem wp_exc {e : Ex} : wpx X (.exc e st : Res α) Q = X e st := wp_D
@[simp] theorem noE_at {e : Ex} : noE e st = False := propext Iff.rfl
@[simp] theorem wp_rt {a : α} : wpx X (rt a st) Q = Q a st := wp_D
@[simp] theorem wp_badM : wpx X ((bad : M α) st) Q = False := wp_D
@[simp] theorem wp_noX {m : M α} : wpx X (noX m st) Q = wpx noE (m st) Q := by
  simp only [noX]; cases m st <;> simp
theorem wp_ite {c : Prop} [Decidable c] {r r' : Res α} : wpx X (if c then r else r') Q = if c then wpx X r Q else wpx X r' Q := by split <;> rfl
@[simp] theorem wp_iteBad {c : Prop} [Decidable c] {r : Res α} : wpx X (if c then r else .bad) Q = (c ∧ wpx X r Q) := by
  by_cases h : c <;> simp [h]
@[simp] theorem wp_iteM {c : Prop} [Decidable c] {m m' : M α} : wpx X ((if c then m else m') st) Q = if c then wpx X (m st) Q else wpx X (m' st) Q := by split <;> rfl
@[simp] theorem wp_iteBadM {c : Prop} [Decidable c] {m : M α} : wpx X ((if c then m else bad) st) Q = (c ∧ wpx X (m st) Q) := by
  by_cases h : c <;> simp [h]
theorem wp_mono {r : Res α} {Q Q' : α → Store → Prop} (h : wpx X r Q) (i : ∀ a s, Q a s → Q' a s) : wpx X r Q' := by
  cases r <;> first | exact ⟨i _ _ h.get⟩ | exact ⟨h.get⟩ | exact h.get.elim
theorem wpx_mono {X' : Ex → Store → Prop} {r : Res α} {Q Q' : α → Store → Prop} (h : wpx X r Q) (i : ∀ a s, Q a s → Q' a s) (j : ∀ e s, X e s → X' e s) : wpx X' r Q' := by
  cases r <;> first | exact ⟨i _ _ h.get⟩ | exact ⟨j _ _ h.get⟩ | exact h.get.elim
theorem wp_iff {r : Res α} : wpx noE r Q ↔ ∃ a s, r = .ok a s ∧ Q a s := by
  cases r with
  | ok a s => exact ⟨fun h => ⟨a, s, rfl, h.get⟩, fun ⟨_, _, e, h⟩ => by cases e; exact ⟨h⟩⟩
  | exc e s => exact ⟨fun h => h.get.elim, fun ⟨_, _, e, _⟩ => nomatch e⟩
  | bad => exact ⟨fun h => h.get.elim, fun ⟨_, _, e, _⟩ => nomatch e⟩
theorem wp_at {r : Res α} {a : α} (e : r = .ok a st) : wpx X r Q = Q a st := by rw [e]; exact wp_D
theorem wp_atX {r : Res α} {e : Ex} (h : r = .exc e st) : wpx X r Q = X e st := by rw [h]; exact wp_D
theorem wp_any {r : Res α} (h : wpx noE r Q) : wpx X r Q := by
  cases r <;> first | exact ⟨h.get⟩ | exact h.get.elim
end

/-! what is still to come, as one word -/
def kM {α β : Type} (X : Ex → Store → Prop) (k : α → M β) (Q : β → Store → Prop) : α → Store → Prop := fun a s => wpx X (k a s) Q
@[simp] theorem kM_at {α β : Type} {X : Ex → Store → Prop} {k : α → M β} {Q : β → Store → Prop} {a : α} {s : Store} : kM X k Q a s = wpx X (k a s) Q := propext Iff.rfl
@[simp] theorem wp_bd {α β : Type} {X : Ex → Store → Prop} {st : Store} {Q : α → Store → Prop} {m : M β} {k : β → M α} : wpx X (bd m k st) Q = wpx X (m st) (kM X k Q) := by
  simp only [bd]; cases m st <;> simp
section
variable {env : Env} {st : Store} {X : Ex → Store → Prop}
@[simp] theorem e_gv {i : Nat} {Q : D → Store → Prop} : wpx X (gv i env st) Q = (match env[i]? with | some (some d) => Q d st | _ => False) := by
  simp only [gv]; rcases env[i]? with _ | _ | d <;> first | rfl | exact wp_D
@[simp] theorem e_cD {d : D} {Q : D → Store → Prop} : wpx X (cD d env st) Q = Q d st := by first | exact propext Iff.rfl | exact wp_D | exact wp_D.trans wp_D.symm
@[simp] theorem e_aNil {Q : List D → Store → Prop} : wpx X (aNil env st) Q = Q [] st := by first | exact propext Iff.rfl | exact wp_D | exact wp_D.trans wp_D.symm
@[simp] theorem e_aCons {f : Env → M D} {g : Env → M (List D)} {Q : List D → Store → Prop} : wpx X (aCons f g env st) Q = wpx X (bd (f env) (fun x => bd (g env) fun xs => rt (x :: xs)) st) Q := by first | exact propext Iff.rfl | exact wp_D | exact wp_D.trans wp_D.symm
@[simp] theorem e_op2 {g : D → D → M D} {f f1 : Env → M D} {Q : D → Store → Prop} : wpx X (op2 g f f1 env st) Q = wpx X (bd (f env) (fun x => bd (f1 env) fun y => g x y) st) Q := by first | exact propext Iff.rfl | exact wp_D | exact wp_D.trans wp_D.symm
@[simp] theorem e_callF {m : List D → M D} {f : Env → M (List D)} {Q : D → Store → Prop} : wpx X (callF m f env st) Q = wpx X (bd (f env) m st) Q := by first | exact propext Iff.rfl | exact wp_D | exact wp_D.trans wp_D.symm
@[simp] theorem e_callFF {m : List D → M (List PyData)} {f : Env → M (List D)} {Q : List PyData → Store → Prop} : wpx X (callFF m f env st) Q = wpx X (bd (f env) m st) Q := by first | exact propext Iff.rfl | exact wp_D | exact wp_D.trans wp_D.symm
@[simp] theorem e_callKw {ix : List Nat} {m : List D → M D} {f g : Env → M (List D)} {Q : D → Store → Prop} : wpx X (callKw ix m f g env st) Q = wpx X (bd (f env) (fun x => bd (g env) fun y => m (pick ix (x ++ y))) st) Q := by first | exact propext Iff.rfl | exact wp_D | exact wp_D.trans wp_D.symm
@[simp] theorem e_asVal {f : Env → M (List PyData)} {Q : D → Store → Prop} : wpx X (asVal f env st) Q = wpx X (bd (f env) (fun xs => rt (.val (.list xs))) st) Q := by first | exact propext Iff.rfl | exact wp_D | exact wp_D.trans wp_D.symm
@[simp] theorem e_asObj {f : Env → M (List PyData)} {Q : D → Store → Prop} : wpx X (asObj f env st) Q = wpx X (bd (f env) newL st) Q := by first | exact propext Iff.rfl | exact wp_D | exact wp_D.trans wp_D.symm
@[simp] theorem e_tupE {f : Env → M (List D)} {Q : D → Store → Prop} : wpx X (tupE f env st) Q = wpx X (bd (f env) tupD st) Q := by first | exact propext Iff.rfl | exact wp_D | exact wp_D.trans wp_D.symm
@[simp] theorem e_lstE {f : Env → M (List D)} {Q : List PyData → Store → Prop} : wpx X (lstE f env st) Q = wpx X (bd (f env) lstD st) Q := by first | exact propext Iff.rfl | exact wp_D | exact wp_D.trans wp_D.symm
@[simp] theorem e_tst {f : Env → M D} {Q : Bool → Store → Prop} : wpx X (tst f env st) Q = wpx X (bd (f env) boolOf st) Q := by first | exact propext Iff.rfl | exact wp_D | exact wp_D.trans wp_D.symm
@[simp] theorem e_truT {f : Env → M D} {Q : Bool → Store → Prop} : wpx X (truT f env st) Q = wpx X (bd (f env) tru st) Q := by first | exact propext Iff.rfl | exact wp_D | exact wp_D.trans wp_D.symm
@[simp] theorem e_andT {f g : Env → M Bool} {Q : Bool → Store → Prop} : wpx X (andT f g env st) Q = wpx X (bd (f env) (fun b => if b = true then g env else rt false) st) Q := by first | exact propext Iff.rfl | exact wp_D | exact wp_D.trans wp_D.symm
@[simp] theorem e_orT {f g : Env → M Bool} {Q : Bool → Store → Prop} : wpx X (orT f g env st) Q = wpx X (bd (f env) (fun b => if b = true then rt true else g env) st) Q := by first | exact propext Iff.rfl | exact wp_D | exact wp_D.trans wp_D.symm
@[simp] theorem e_notT {f : Env → M Bool} {Q : Bool → Store → Prop} : wpx X (notT f env st) Q = wpx X (bd (f env) (fun b => rt (!b)) st) Q := by first | exact propext Iff.rfl | exact wp_D | exact wp_D.trans wp_D.symm
@[simp] theorem e_andV {f g : Env → M D} {Q : D → Store → Prop} : wpx X (andV f g env st) Q = wpx X (bd (f env) (fun x => bd (tru x) fun b => if b = true then g env else rt x) st) Q := by first | exact propext Iff.rfl | exact wp_D | exact wp_D.trans wp_D.symm
@[simp] theorem e_orV {f g : Env → M D} {Q : D → Store → Prop} : wpx X (orV f g env st) Q = wpx X (bd (f env) (fun x => bd (tru x) fun b => if b = true then rt x else g env) st) Q := by first | exact propext Iff.rfl | exact wp_D | exact wp_D.trans wp_D.symm
@[simp] theorem e_notV {f : Env → M D} {Q : D → Store → Prop} : wpx X (notV f env st) Q = wpx X (bd (f env) (fun x => bd (tru x) fun b => rt (.val (.bool (!b)))) st) Q := by first | exact propext Iff.rfl | exact wp_D | exact wp_D.trans wp_D.symm
@[simp] theorem e_ifV {f : Env → M Bool} {g h : Env → M D} {Q : D → Store → Prop} : wpx X (ifV f g h env st) Q = wpx X (bd (f env) (fun b => if b = true then g env else h env) st) Q := by first | exact propext Iff.rfl | exact wp_D | exact wp_D.trans wp_D.symm
@[simp] theorem e_negE {f : Env → M D} {Q : D → Store → Prop} : wpx X (negE f env st) Q = wpx X (bd (f env) negF st) Q := by first | exact propext Iff.rfl | exact wp_D | exact wp_D.trans wp_D.symm
@[simp] theorem e_seqS {f g : Env → M Fl} {Q : Fl → Store → Prop} : wpx X (seqS f g env st) Q = wpx X (bd (f env) (fun r => match r with | .nx e => g e | r => rt r) st) Q := by first | exact propext Iff.rfl | exact wp_D | exact wp_D.trans wp_D.symm
@[simp] theorem e_killS {is : List Nat} {f : Env → M Fl} {Q : Fl → Store → Prop} : wpx X (killS is f env st) Q = wpx X (bd (f env) (fun r => match r with | .nx e => rt (.nx (kill is e)) | r => rt r) st) Q := by first | exact propext Iff.rfl | exact wp_D | exact wp_D.trans wp_D.symm
@[simp] theorem e_dropS {f : Env → M D} {Q : Fl → Store → Prop} : wpx X (dropS f env st) Q = wpx X (bd (f env) (fun _ => rt (.nx env)) st) Q := by first | exact propext Iff.rfl | exact wp_D | exact wp_D.trans wp_D.symm
@[simp] theorem e_retS {f : Env → M D} {Q : Fl → Store → Prop} : wpx X (retS f env st) Q = wpx X (bd (f env) (fun d => rt (.rt d)) st) Q := by first | exact propext Iff.rfl | exact wp_D | exact wp_D.trans wp_D.symm
@[simp] theorem e_ifS {t : Env → M Bool} {f g : Env → M Fl} {Q : Fl → Store → Prop} : wpx X (ifS t f g env st) Q = wpx X (bd (t env) (fun b => if b = true then f env else g env) st) Q := by first | exact propext Iff.rfl | exact wp_D | exact wp_D.trans wp_D.symm
@[simp] theorem e_asgS {f : Env → M D} {g : D → Env → M Env} {Q : Fl → Store → Prop} : wpx X (asgS f g env st) Q = wpx X (bd (f env) (fun d => bd (g d env) fun e => rt (.nx e)) st) Q := by first | exact propext Iff.rfl | exact wp_D | exact wp_D.trans wp_D.symm
@[simp] theorem e_parN {is : List Nat} {f : Env → M (List D)} {Q : Fl → Store → Prop} : wpx X (parN is f env st) Q = wpx X (bd (f env) (fun ds => match setsN is ds env with | some e => rt (.nx e) | none => bad) st) Q := by first | exact propext Iff.rfl | exact wp_D | exact wp_D.trans wp_D.symm
@[simp] theorem e_anyI {f : Env → M D} {Q : Src → Store → Prop} : wpx X (anyI f env st) Q = wpx X (bd (f env) srcOf st) Q := by first | exact propext Iff.rfl | exact wp_D | exact wp_D.trans wp_D.symm
@[simp] theorem e_rngI {f : Env → M (List D)} {Q : Src → Store → Prop} : wpx X (rngI f env st) Q = wpx X (bd (f env) rangeSrc st) Q := by first | exact propext Iff.rfl | exact wp_D | exact wp_D.trans wp_D.symm
@[simp] theorem e_rng2I {f : Env → M (List D)} {Q : Src → Store → Prop} : wpx X (rng2I f env st) Q = wpx X (bd (f env) range2Src st) Q := by first | exact propext Iff.rfl | exact wp_D | exact wp_D.trans wp_D.symm
@[simp] theorem e_joinE {fo fe : Env → M D} {Q : D → Store → Prop} : wpx X (joinE fo fe env st) Q = wpx X (bd (fo env) (fun x => bd (isS x) fun _ => bd (fe env) fun y => joinF x y) st) Q := by first | exact propext Iff.rfl | exact wp_D | exact wp_D.trans wp_D.symm
@[simp] theorem e_fmtE {fe : Env → M D} {Q : D → Store → Prop} : wpx X (fmtE fe env st) Q = wpx X (bd (fe env) fmtF st) Q := by first | exact propext Iff.rfl | exact wp_D | exact wp_D.trans wp_D.symm
@[simp] theorem e_jsE {fj : Str → Env → M Str} {Q : D → Store → Prop} : wpx X (jsE fj env st) Q = wpx X (bd (fj Str.empty env) (fun x => rt (.val (.str x))) st) Q := by first | exact propext Iff.rfl | exact wp_D | exact wp_D.trans wp_D.symm
@[simp] theorem e_oSome {f : Env → M D} {Q : Option Int → Store → Prop} : wpx X (oSome f env st) Q = wpx X (bd (f env) partF st) Q := by first | exact propext Iff.rfl | exact wp_D | exact wp_D.trans wp_D.symm
@[simp] theorem e_slF {f : Env → M D} {fl fh : Env → M (Option Int)} {Q : D → Store → Prop} : wpx X (slF f fl fh env st) Q = wpx X (bd (f env) (fun x => bd (fl env) fun l => bd (fh env) fun h => sliceF l h x) st) Q := by first | exact propext Iff.rfl | exact wp_D | exact wp_D.trans wp_D.symm
@[simp] theorem e_slFz {f : Env → M D} {fl fh : Env → M (Option Int)} {Q : List PyData → Store → Prop} : wpx X (slFz f fl fh env st) Q = wpx X (bd (f env) (fun x => bd (fl env) fun l => bd (fh env) fun h => match x with | .frz xs => rt (cutP xs l h) | _ => bad) st) Q := by first | exact propext Iff.rfl | exact wp_D | exact wp_D.trans wp_D.symm
@[simp] theorem e_methL {g : D → List D → M D} {fo : Env → M D} {fr : Env → M (List D)} {Q : D → Store → Prop} : wpx X (methL g fo fr env st) Q = wpx X (bd (fo env) (fun x => bd (isL x) fun _ => bd (fr env) fun ds => g x ds) st) Q := by first | exact propext Iff.rfl | exact wp_D | exact wp_D.trans wp_D.symm
@[simp] theorem e_rgE {f : Env → M D} {Q : List PyData → Store → Prop} : wpx X (rgE f env st) Q = wpx X (bd (f env) rgF st) Q := by first | exact propext Iff.rfl | exact wp_D | exact wp_D.trans wp_D.symm
@[simp] theorem e_rgT {f : Env → M D} {Q : D → Store → Prop} : wpx X (rgT f env st) Q = wpx X (bd (f env) (fun d => bd (rgF d) fun xs => rt (.val (.tuple xs))) st) Q := by first | exact propext Iff.rfl | exact wp_D | exact wp_D.trans wp_D.symm
@[simp] theorem e_revE {f : Env → M D} {Q : List PyData → Store → Prop} : wpx X (revE f env st) Q = wpx X (bd (f env) revF st) Q := by first | exact propext Iff.rfl | exact wp_D | exact wp_D.trans wp_D.symm
@[simp] theorem e_dispE {f : Env → M (List (D × D))} {Q : D → Store → Prop} : wpx X (dispE f env st) Q = wpx X (bd (noX (f env)) newDk st) Q := by first | exact propext Iff.rfl | exact wp_D | exact wp_D.trans wp_D.symm
@[simp] theorem e_pCons {fk fv : Env → M D} {f : Env → M (List (D × D))} {Q : List (D × D) → Store → Prop} : wpx X (pCons fk fv f env st) Q = wpx X (bd (fk env) (fun a => bd (fv env) fun b => bd (f env) fun r => rt ((a, b) :: r)) st) Q := by first | exact propext Iff.rfl | exact wp_D | exact wp_D.trans wp_D.symm
@[simp] theorem e_isN {ng : Bool} {f : Env → M D} {Q : D → Store → Prop} : wpx X (isN ng f env st) Q = wpx X (bd (f env) (fun d => match d with | .cst _ => bad | .err => bad | .fn _ => bad | .pr _ _ => bad | d => isNF ng d) st) Q := by first | exact propext Iff.rfl | exact wp_D | exact wp_D.trans wp_D.symm
@[simp] theorem e_newL {xs : List PyData} {Q : D → Store → Prop} : wpx X (newL xs st) Q = Q (.loc st.length) (st ++ [.lst xs]) := by first | exact propext Iff.rfl | exact wp_D | exact wp_D.trans wp_D.symm
@[simp] theorem e_boolOf {b : Bool} {Q : Bool → Store → Prop} : wpx X (boolOf (.val (.bool b)) st) Q = Q b st := by first | exact propext Iff.rfl | exact wp_D | exact wp_D.trans wp_D.symm
@[simp] theorem e_yesT {Q : Bool → Store → Prop} : wpx X (yesT env st) Q = Q true st := by first | exact propext Iff.rfl | exact wp_D | exact wp_D.trans wp_D.symm
@[simp] theorem e_nxS {Q : Fl → Store → Prop} : wpx X (nxS env st) Q = Q (.nx env) st := by first | exact propext Iff.rfl | exact wp_D | exact wp_D.trans wp_D.symm
@[simp] theorem e_bkS {Q : Fl → Store → Prop} : wpx X (bkS env st) Q = Q (.bk env) st := by first | exact propext Iff.rfl | exact wp_D | exact wp_D.trans wp_D.symm
@[simp] theorem e_ctS {Q : Fl → Store → Prop} : wpx X (ctS env st) Q = Q (.ct env) st := by first | exact propext Iff.rfl | exact wp_D | exact wp_D.trans wp_D.symm
@[simp] theorem e_setV {i : Nat} {d : D} {Q : Env → Store → Prop} : wpx X (setV i d env st) Q = Q (env.set i (some d)) st := by first | exact propext Iff.rfl | exact wp_D | exact wp_D.trans wp_D.symm
@[simp] theorem e_setsNil {Q : Env → Store → Prop} : wpx X (setsNil [] env st) Q = Q env st := by first | exact propext Iff.rfl | exact wp_D | exact wp_D.trans wp_D.symm
@[simp] theorem e_setsCons {f : D → Env → M Env} {g : List PyData → Env → M Env} {d : PyData} {r : List PyData} {Q : Env → Store → Prop} : wpx X (setsCons f g (d :: r) env st) Q = wpx X (bd (f (.val d) env) (fun e => g r e) st) Q := by first | exact propext Iff.rfl | exact wp_D | exact wp_D.trans wp_D.symm
@[simp] theorem e_setT {n : Nat} {g : List PyData → Env → M Env} {ps : List PyData} {Q : Env → Store → Prop} : wpx X (setT n g (.val (.tuple ps)) env st) Q = (ps.length = n ∧ wpx X (g ps env st) Q) := by
  simp only [setT]; by_cases h : ps.length = n <;> simp [h]
/-! calls -/
@[simp] theorem e_fnOf {n : Nat} {b : Env → M Fl} {ds : List D} {Q : D → Store → Prop} : wpx X (fnOf n b ds st) Q = wpx X (bd (b (ds.map some ++ List.replicate (n - ds.length) none)) (fun f => match f with | .rt d => rt d | .nx _ => rt (.val .none) | _ => bad) st) Q := by first | exact propext Iff.rfl | exact wp_D | exact wp_D.trans wp_D.symm
def outT (n : Nat) (st1 : Store) (Q : D → Store → Prop) : D → Prop
  | .loc k => if k < n then Q (.loc k) (st1.take n) else (match st1[k]? with | some (.lst xs) => Q (.val (.list xs)) (st1.take n) | _ => False)
  | .pr _ _ => False
  | d => Q d (st1.take n)
@[simp] theorem outT_val {n : Nat} {s : Store} {Q : D → Store → Prop} {p : PyData} : outT n s Q (.val p) = Q (.val p) (s.take n) := by first | exact propext Iff.rfl | exact wp_D | exact wp_D.trans wp_D.symm
@[simp] theorem outT_loc {n k : Nat} {s : Store} {Q : D → Store → Prop} : outT n s Q (.loc k) = if k < n then Q (.loc k) (s.take n) else (match s[k]? with | some (.lst xs) => Q (.val (.list xs)) (s.take n) | _ => False) := by first | exact propext Iff.rfl | exact wp_D | exact wp_D.trans wp_D.symm
def kT (n : Nat) (Q : D → Store → Prop) : Fl → Store → Prop := fun f s => stOk n (s.take n) = true ∧ match f with | .rt d => outT n s Q d | .nx _ => Q (.val .none) (s.take n) | _ => False
@[simp] theorem kT_rt {n : Nat} {Q : D → Store → Prop} {d : D} {s : Store} : kT n Q (.rt d) s = (stOk n (s.take n) = true ∧ outT n s Q d) := by first | exact propext Iff.rfl | exact wp_D | exact wp_D.trans wp_D.symm
@[simp] theorem kT_nx {n : Nat} {Q : D → Store → Prop} {e : Env} {s : Store} : kT n Q (.nx e) s = (stOk n (s.take n) = true ∧ Q (.val .none) (s.take n)) := by first | exact propext Iff.rfl | exact wp_D | exact wp_D.trans wp_D.symm
def xT (n : Nat) (X : Ex → Store → Prop) : Ex → Store → Prop := fun e s => (stOk n (s.take n) = true ∧ eOk n e = true) ∧ X e (s.take n)
@[simp] theorem xT_at {n : Nat} {e : Ex} {s : Store} : xT n X e s = ((stOk n (s.take n) = true ∧ eOk n e = true) ∧ X e (s.take n)) := propext Iff.rfl
@[simp] theorem xT_no {n : Nat} : xT n noE = noE := by
  funext e s; simp [xT, noE]
@[simp] theorem e_fnT {n : Nat} {b : Env → M Fl} {ds : List D} {Q : D → Store → Prop} : wpx X (fnT n b ds st) Q = wpx (xT st.length X) (b (ds.map some ++ List.replicate (n - ds.length) none) st) (kT st.length Q) := by
  simp only [fnT]
  cases b (ds.map some ++ List.replicate (n - ds.length) none) st with
  | ok f s =>
    simp only [wp_ok, kT]
    by_cases h : stOk st.length (s.take st.length) = true
    · simp only [h, if_pos, true_and]
      cases f with
      | rt d =>
        cases d with
        | loc k =>
          simp only [outT]
          by_cases hk : k < st.length
          · simp only [hk, if_pos]; exact wp_D
          · simp only [hk, if_false]
            cases s[k]? with
            | none => exact wp_D
            | some o => cases o <;> exact wp_D
        | _ => exact wp_D
      | _ => exact wp_D
    · simp [h]
  | exc e s =>
    simp only [wp_exc, xT]
    by_cases h : stOk st.length (s.take st.length) = true ∧ eOk st.length e = true
    · simp [h]
    · simp [h]
  | bad => simp
/-! loops -/
def kL (J : Env → Store → Prop) (Q : Fl → Store → Prop) : Fl → Store → Prop := fun f s => match f with | .nx e => J e s | .ct e => J e s | .bk e => Q (.nx e) s | .rt d => Q (.rt d) s
@[simp] theorem kL_nx {J : Env → Store → Prop} {Q : Fl → Store → Prop} {e : Env} {s : Store} : kL J Q (.nx e) s = J e s := by first | exact propext Iff.rfl | exact wp_D | exact wp_D.trans wp_D.symm
@[simp] theorem kL_ct {J : Env → Store → Prop} {Q : Fl → Store → Prop} {e : Env} {s : Store} : kL J Q (.ct e) s = J e s := by first | exact propext Iff.rfl | exact wp_D | exact wp_D.trans wp_D.symm
@[simp] theorem kL_bk {J : Env → Store → Prop} {Q : Fl → Store → Prop} {e : Env} {s : Store} : kL J Q (.bk e) s = Q (.nx e) s := by first | exact propext Iff.rfl | exact wp_D | exact wp_D.trans wp_D.symm
@[simp] theorem kL_rt {J : Env → Store → Prop} {Q : Fl → Store → Prop} {d : D} {s : Store} : kL J Q (.rt d) s = Q (.rt d) s := by first | exact propext Iff.rfl | exact wp_D | exact wp_D.trans wp_D.symm
theorem wp_forF {body : PyData → Env → M Fl} {Q : Fl → Store → Prop} (I : Nat → Env → Store → Prop) : ∀ (xs : List PyData) (env : Env) (st : Store), I 0 env st →
    (∀ i x env st, xs[i]? = some x → I i env st → wpx X (body x env st) (kL (I (i + 1)) Q)) →
    (∀ env st, I xs.length env st → Q (.nx env) st) → wpx X (forF body xs env st) Q := by
  intro xs
  induction xs generalizing I with
  | nil => intro env st h0 _ hd; exact ⟨hd env st h0⟩
  | cons x r ih =>
    intro env st h0 hs hd
    simp only [forF, wp_bd]
    refine wp_mono (hs 0 x env st rfl h0) fun f s hf => ?_
    cases f with
    | nx e => exact ih (fun i => I (i + 1)) e s hf (fun i y env st hy => hs (i + 1) y env st (by simpa using hy)) fun env st h => hd env st h
    | ct e => exact ih (fun i => I (i + 1)) e s hf (fun i y env st hy => hs (i + 1) y env st (by simpa using hy)) fun env st h => hd env st h
    | bk e => exact ⟨hf⟩
    | rt d => exact ⟨hf⟩
@[simp] theorem e_forS {m : Nat} {fi : Env → M Src} {g : D → Env → M Env} {fb : Env → M Fl} {Q : Fl → Store → Prop} : wpx X (forS m fi g fb env st) Q = wpx X (bd (fi env) (fun s => match s with
    | .fix xs => forF (fun x env => bd (g (.val x) env) fb) xs env
    | .obj n => forO (fun x env => bd (g (.val x) env) fb) n m 0 env) st) Q := by first | exact propext Iff.rfl | exact wp_D | exact wp_D.trans wp_D.symm
theorem wp_forO {body : PyData → Env → M Fl} {Q : Fl → Store → Prop} {n : Nat} (I : Nat → List PyData → Env → Store → Prop)
    (hr : ∀ i xs env st, I i xs env st → st[n]? = some (.lst xs))
    (hs : ∀ i xs x env st, xs[i]? = some x → I i xs env st → wpx X (body x env st) (kL (fun e s => ∃ ys, I (i + 1) ys e s) Q))
    (hd : ∀ i xs env st, xs[i]? = none → I i xs env st → Q (.nx env) st) {lim : Nat} (hl : ∀ i xs env st, I i xs env st → xs.length ≤ lim) :
    ∀ (m i : Nat) (xs : List PyData) (env : Env) (st : Store), I i xs env st → lim + 1 ≤ m + i → i ≤ lim → wpx X (forO body n m i env st) Q := by
  intro m
  induction m with
  | zero => intro i xs env st h h1 h2; omega
  | succ m ih =>
    intro i xs env st h h1 h2
    simp only [forO, hr i xs env st h]
    cases hx : xs[i]? with
    | none => exact ⟨hd i xs env st hx h⟩
    | some x =>
      simp only [wp_bd]
      have hi : i < xs.length := by
        rcases Nat.lt_or_ge i xs.length with h | h
        · exact h
        · rw [List.getElem?_eq_none h] at hx; cases hx
      refine wp_mono (hs i xs x env st hx h) fun f s hf => ?_
      cases f with
      | nx e =>
        obtain ⟨ys, hI⟩ := hf
        by_cases hlim : i + 1 ≤ lim
        · exact ih (i + 1) ys e s hI (by omega) hlim
        · have := hl i xs env st h
          omega
      | ct e =>
        obtain ⟨ys, hI⟩ := hf
        by_cases hlim : i + 1 ≤ lim
        · exact ih (i + 1) ys e s hI (by omega) hlim
        · have := hl i xs env st h
          omega
      | bk e => exact ⟨hf⟩
      | rt d => exact ⟨hf⟩
theorem wp_lcF {g : D → Env → M Env} {inner : Env → List PyData → M (List PyData)} {env : Env} (I : Nat → List PyData → Store → Prop) : ∀ (xs acc : List PyData) (st : Store), I 0 acc st →
    (∀ i x acc st, xs[i]? = some x → I i acc st → wpx noE (g (.val x) env st) fun e s => wpx noE (inner e acc s) fun acc' s' => I (i + 1) acc' s') → wpx noE (lcF g inner env xs acc st) (I xs.length) := by
  intro xs
  induction xs generalizing I with
  | nil => intro acc st h _; exact ⟨h⟩
  | cons x r ih =>
    intro acc st h hs
    simp only [lcF, wp_bd, wp_noX]
    refine wp_mono (hs 0 x acc st rfl h) fun e s hf => ?_
    show wpx noE (bd (inner e acc) (fun acc' => lcF g inner env r acc') s) _
    rw [wp_bd]
    refine wp_mono hf fun acc' s' h' => ?_
    exact ih (fun i => I (i + 1)) acc' s' h' fun i y a t hy => hs (i + 1) y a t (by simpa using hy)
theorem wp_lcO {g : D → Env → M Env} {inner : Env → List PyData → M (List PyData)} {n : Nat} {env : Env} {Q : List PyData → Store → Prop} (xs : List PyData) (I : Nat → List PyData → Store → Prop)
    (hr : ∀ i acc st, I i acc st → st[n]? = some (.lst xs))
    (hs : ∀ i x acc st, xs[i]? = some x → I i acc st → wpx noE (g (.val x) env st) fun e s => wpx noE (inner e acc s) fun acc' s' => I (i + 1) acc' s')
    (hd : ∀ acc st, I xs.length acc st → Q acc st) : ∀ (m i : Nat) (acc : List PyData) (st : Store), I i acc st → xs.length < m + i → i ≤ xs.length → wpx noE (lcO g inner n env m i acc st) Q := by
  intro m
  induction m with
  | zero => intro i acc st h h1 h2; omega
  | succ m ih =>
    intro i acc st h h1 h2
    simp only [lcO, hr i acc st h]
    cases hx : xs[i]? with
    | none =>
      have : i = xs.length := by
        rcases Nat.lt_or_ge i xs.length with h' | h'
        · rw [List.getElem?_eq_getElem h'] at hx; cases hx
        · omega
      subst this
      exact ⟨hd acc st h⟩
    | some x =>
      simp only [wp_bd, wp_noX]
      have hi : i < xs.length := by
        rcases Nat.lt_or_ge i xs.length with h' | h'
        · exact h'
        · rw [List.getElem?_eq_none h'] at hx; cases hx
      refine wp_mono (hs i x acc st hx h) fun e s hf => ?_
      show wpx noE (bd (inner e acc) (fun acc' => lcO g inner n env m (i + 1) acc') s) Q
      rw [wp_bd]
      exact wp_mono hf fun acc' s' h' => ih (i + 1) acc' s' h' (by omega) (by omega)
@[simp] theorem e_lcIn {ft : Env → M Bool} {fe : Env → M D} {acc : List PyData} {Q : List PyData → Store → Prop} : wpx noE (lcIn ft fe env acc st) Q = wpx noE (bd (ft env) (fun b => if b = true then bd (fe env) (fun d => match d with
    | .val y => if acc.length < sizeLine then rt (acc ++ [y]) else bad
    | _ => bad) else rt acc) st) Q := by
  simp only [lcIn, wp_bd, wp_noX]
  refine congrArg (wpx noE _) (funext fun b => funext fun s => ?_)
  cases b
  · rfl
  · simp only [kM, if_pos, wp_bd, wp_noX]; try rfl
@[simp] theorem e_lcS {m : Nat} {own : List Nat} {fi : Env → M Src} {g : D → Env → M Env} {ft : Env → M Bool} {fe : Env → M D} {Q : List PyData → Store → Prop} : wpx X (lcS m own fi g ft fe env st) Q = wpx X (bd (fi env) (fun src => match src with
    | .fix xs => noX (lcF g (lcIn ft fe) (kill own env) xs [])
    | .obj n => noX (lcO g (lcIn ft fe) n (kill own env) m 0 [])) st) Q := by
  simp only [lcS, wp_bd, lcL]
  refine congrArg (wpx X _) (funext fun r => funext fun s => ?_)
  cases r <;> simp only [kM, wp_noX]
@[simp] theorem e_srcT {xs : List PyData} {Q : Src → Store → Prop} : wpx X (srcOf (.val (.tuple xs)) st) Q = Q (.fix xs) st := by first | exact propext Iff.rfl | exact wp_D | exact wp_D.trans wp_D.symm
@[simp] theorem e_srcL {xs : List PyData} {Q : Src → Store → Prop} : wpx X (srcOf (.val (.list xs)) st) Q = Q (.fix xs) st := by first | exact propext Iff.rfl | exact wp_D | exact wp_D.trans wp_D.symm
@[simp] theorem e_srcS {y : Str} {Q : Src → Store → Prop} : wpx X (srcOf (.val (.str y)) st) Q = Q (.fix (signs y)) st := by first | exact propext Iff.rfl | exact wp_D | exact wp_D.trans wp_D.symm
theorem e_srcO {n : Nat} {Q : Src → Store → Prop} : wpx X (srcOf (.loc n) st) Q = (match st[n]? with | some (.lst _) => Q (.obj n) st | _ => False) := by
  simp only [srcOf]; cases st[n]? with
  | none => first | rfl | exact wp_D
  | some o => cases o <;> first | rfl | exact wp_D

def rgOk (j : Int) : Prop := -(2 ^ 62) ≤ j ∧ j < 2 ^ 62
theorem rgOk.of {j : Int} (h0 : -1000 ≤ j) (h1 : j ≤ 16777216) : rgOk j := ⟨Int.le_trans (by decide) h0, Int.lt_of_le_of_lt h1 (by decide)⟩
@[simp] theorem e_rangeSrc {j : Int} {Q : Src → Store → Prop} : wpx X (rangeSrc [.val (.int j)] st) Q = (rgOk j ∧ Q (.fix ((List.range j.toNat).map fun (i : Nat) => PyData.int (0 + i))) st) := by
  simp only [rangeSrc, wp_iteBad, wp_ok, rgOk]
@[simp] theorem e_range2Src {i j : Int} {Q : Src → Store → Prop} : wpx X (range2Src [.val (.int i), .val (.int j)] st) Q = ((rgOk i ∧ rgOk j) ∧ Q (.fix ((List.range (j - i).toNat).map fun (k : Nat) => PyData.int (i + k))) st) := by
  simp only [range2Src, wp_iteBad, wp_ok, rgOk, and_assoc]
/-! texts -/

@[simp] theorem e_isS {x : Str} {Q : Unit → Store → Prop} : wpx X (isS (.val (.str x)) st) Q = Q () st := by first | exact propext Iff.rfl | exact wp_D | exact wp_D.trans wp_D.symm

@[simp] theorem e_fmtS {y : Str} {Q : D → Store → Prop} : wpx X (fmtF (.val (.str y)) st) Q = (y.length ≤ sizeLine ∧ Q (.val (.str y)) st) := by simp only [fmtF, wp_iteBad, wp_ok]
@[simp] theorem e_fmtI {i : Int} {Q : D → Store → Prop} : wpx X (fmtF (.val (.int i)) st) Q = (i.natAbs.log2 < 1920 ∧ Q (.val (.str (toString i))) st) := by simp only [fmtF, wp_iteBad, wp_ok]

@[simp] theorem e_jNil {acc : Str} {Q : Str → Store → Prop} : wpx X (jNil acc env st) Q = Q acc st := by first | exact propext Iff.rfl | exact wp_D | exact wp_D.trans wp_D.symm
@[simp] theorem e_jsF {fe : Env → M D} {fj : Str → Env → M Str} {acc : Str} {Q : Str → Store → Prop} : wpx X (jsF fe fj acc env st) Q = wpx X (bd (fe env) (fun d => match d with
    | .val (.str y) => if (acc ++ y).length ≤ sizeLine then fj (acc ++ y) env else bad
    | _ => bad) st) Q := by first | exact propext Iff.rfl | exact wp_D | exact wp_D.trans wp_D.symm
/-! parts of lists -/
@[simp] theorem e_oNone {Q : Option Int → Store → Prop} : wpx X (oNone env st) Q = Q none st := by first | exact propext Iff.rfl | exact wp_D | exact wp_D.trans wp_D.symm

@[simp] theorem e_partF {i : Int} {Q : Option Int → Store → Prop} : wpx X (partF (.val (.int i)) st) Q = Q (some i) st := by first | exact propext Iff.rfl | exact wp_D | exact wp_D.trans wp_D.symm



@[simp] theorem e_isL {n : Nat} {Q : Unit → Store → Prop} : wpx X (isL (.loc n) st) Q = (match st[n]? with | some (.lst _) => Q () st | _ => False) := by
  simp only [isL, dat]; cases st[n]? with
  | none => first | rfl | exact wp_D
  | some o => cases o <;> first | rfl | exact wp_D
@[simp] theorem e_appF {n : Nat} {y : PyData} {Q : D → Store → Prop} : wpx X (appF (.loc n) [.val y] st) Q = (match st[n]? with | some (.lst xs) => xs.length < sizeLine ∧ Q (.val .none) (st.set n (.lst (xs ++ [y]))) | _ => False) := by
  simp only [appF]; cases st[n]? with
  | none => first | rfl | exact wp_D
  | some o => cases o <;> simp
@[simp] theorem e_extF {n : Nat} {ys : List PyData} {Q : D → Store → Prop} : wpx X (extF (.loc n) [.val (.list ys)] st) Q = (match st[n]? with | some (.lst xs) => xs.length + ys.length ≤ sizeLine ∧ Q (.val .none) (st.set n (.lst (xs ++ ys))) | _ => False) := by
  simp only [extF, dat]; cases st[n]? with
  | none => first | rfl | exact wp_D
  | some o => cases o <;> simp


@[simp] theorem e_rgF {n : Int} {Q : List PyData → Store → Prop} : wpx X (rgF (.val (.int n)) st) Q = (rgB n = true ∧ Q (rgP 0 n) st) := by simp only [rgF, wp_iteBad, wp_ok]

@[simp] theorem e_obT {f : Env → M (List PyData)} : obV true f = asObj f := rfl
@[simp] theorem e_obF {f : Env → M (List PyData)} : obV false f = asVal f := rfl

@[simp] theorem e_pNil {Q : List (D × D) → Store → Prop} : wpx X (pNil env st) Q = Q [] st := by first | exact propext Iff.rfl | exact wp_D | exact wp_D.trans wp_D.symm

@[simp] theorem e_dputS {fd fi fv : Env → M D} {Q : Fl → Store → Prop} : wpx X (dputS fd fi fv env st) Q = wpx X (bd (fv env) (fun v => bd (fd env) fun x => bd (fi env) fun y => fun st => match x, v with
    | .loc n, .val d => (match st[n]?, keyOf st y with
      | some (.dk kvs), some k => if kvs.length < sizeLine then .ok (.nx env) (st.set n (.dk (putP kvs k d))) else .bad
      | _, _ => .bad)
    | _, _ => .bad) st) Q := by first | exact propext Iff.rfl | exact wp_D | exact wp_D.trans wp_D.symm
end
/-! plain values under the operators -/
section
variable {st : Store} {Q : D → Store → Prop} {X : Ex → Store → Prop}
@[simp] theorem datV {p : PyData} : dat st (.val p) = some p := rfl
@[simp] theorem f_addI {i j : Int} : wpx X (addF (.val (.int i)) (.val (.int j)) st) Q = Q (.val (.int (i + j))) st := by first | exact propext Iff.rfl | exact wp_D | exact wp_D.trans wp_D.symm
@[simp] theorem f_addS {i j : Str} : wpx X (addF (.val (.str i)) (.val (.str j)) st) Q = (i.length + j.length ≤ sizeLine ∧ Q (.val (.str (i ++ j))) st) := by simp only [addF, datV, wp_iteBad, wp_ok]
@[simp] theorem f_addL {i j : List PyData} : wpx X (addF (.val (.list i)) (.val (.list j)) st) Q = (i.length + j.length ≤ sizeLine ∧ Q (.val (.list (i ++ j))) st) := by simp only [addF, datV, wp_iteBad, wp_ok]
@[simp] theorem f_addT {i j : List PyData} : wpx X (addF (.val (.tuple i)) (.val (.tuple j)) st) Q = (i.length + j.length ≤ sizeLine ∧ Q (.val (.tuple (i ++ j))) st) := by simp only [addF, datV, wp_iteBad, wp_ok]
@[simp] theorem f_sub {i j : Int} : wpx X (subF (.val (.int i)) (.val (.int j)) st) Q = Q (.val (.int (i - j))) st := by first | exact propext Iff.rfl | exact wp_D | exact wp_D.trans wp_D.symm
@[simp] theorem f_mulI {i j : Int} : wpx X (mulF (.val (.int i)) (.val (.int j)) st) Q = (((-(2 ^ 64) < i ∧ i < 2 ^ 64) ∨ (-(2 ^ 64) < j ∧ j < 2 ^ 64)) ∧ Q (.val (.int (i * j))) st) := by simp only [mulF, datV, wp_iteBad, wp_ok]
@[simp] theorem f_mulT {a : List PyData} {j : Int} : wpx X (mulF (.val (.tuple a)) (.val (.int j)) st) Q = ((a ≠ [] ∧ 2 ≤ j ∧ j ≤ 1000 ∧ a.length ≤ 1000) ∧ Q (.val (.tuple (List.replicate j.toNat a).flatten)) st) := by simp only [mulF, datV, wp_iteBad, wp_ok]
@[simp] theorem f_mulL {a : List PyData} {j : Int} : wpx X (mulF (.val (.list a)) (.val (.int j)) st) Q = ((-(2 ^ 63) ≤ j ∧ j < 2 ^ 63 ∧ a.length * j.toNat ≤ sizeLine) ∧ Q (.val (.list (List.replicate j.toNat a).flatten)) st) := by simp only [mulF, datV, wp_iteBad, wp_ok]
@[simp] theorem f_mod {i j : Int} : wpx X (modF (.val (.int i)) (.val (.int j)) st) Q = (0 < j ∧ Q (.val (.int (i % j))) st) := by simp only [modF, datV, wp_iteBad, wp_ok]
@[simp] theorem f_fdiv {i j : Int} : wpx X (fdivF (.val (.int i)) (.val (.int j)) st) Q = ((0 < j ∧ j < 1073741824) ∧ Q (.val (.int (i / j))) st) := by simp only [fdivF, datV, wp_iteBad, wp_ok]
@[simp] theorem f_pow {i j : Int} : wpx X (powF (.val (.int i)) (.val (.int j)) st) Q = ((0 ≤ j ∧ j ≤ 1000000 ∧ i.natAbs < 2 ^ 64) ∧ Q (.val (.int (i ^ j.toNat))) st) := by simp only [powF, datV, wp_iteBad, wp_ok]
@[simp] theorem f_neg {i : Int} : wpx X (negF (.val (.int i)) st) Q = Q (.val (.int (-i))) st := by first | exact propext Iff.rfl | exact wp_D | exact wp_D.trans wp_D.symm
@[simp] theorem f_cmp {c : Int → Int → Bool} {i j : Int} : wpx X (cmpF c (.val (.int i)) (.val (.int j)) st) Q = Q (.val (.bool (c i j))) st := by first | exact propext Iff.rfl | exact wp_D | exact wp_D.trans wp_D.symm
@[simp] theorem f_eq {d e : PyData} : wpx X (eqF (.val d) (.val e) st) Q = (min d.depth e.depth ≤ 64 ∧ Q (.val (.bool (PyData.eqv d e))) st) := by simp only [eqF, datV, wp_iteBad, wp_ok]
@[simp] theorem f_ne {d e : PyData} : wpx X (neF (.val d) (.val e) st) Q = (min d.depth e.depth ≤ 64 ∧ Q (.val (.bool (!PyData.eqv d e))) st) := by simp only [neF, datV, wp_iteBad, wp_ok]
@[simp] theorem f_inL {n : Bool} {d : PyData} {xs : List PyData} : wpx X (inF n (.val d) (.val (.list xs)) st) Q = (min (PyData.depthAll xs) d.depth ≤ 64 ∧ Q (.val (.bool (n != inAny d xs))) st) := by simp only [inF, datV, wp_iteBad, wp_ok]
@[simp] theorem f_inT {n : Bool} {d : PyData} {xs : List PyData} : wpx X (inF n (.val d) (.val (.tuple xs)) st) Q = (min (PyData.depthAll xs) d.depth ≤ 64 ∧ Q (.val (.bool (n != inAny d xs))) st) := by simp only [inF, datV, wp_iteBad, wp_ok]
@[simp] theorem f_ixL {xs : List PyData} {i : Int} : wpx X (ixF (.val (.list xs)) (.val (.int i)) st) Q = (match atI xs i with | some v => Q (.val v) st | none => False) := by
  simp only [ixF, datV]; cases atI xs i <;> first | rfl | exact wp_D
@[simp] theorem f_ixT {xs : List PyData} {i : Int} : wpx X (ixF (.val (.tuple xs)) (.val (.int i)) st) Q = (match atI xs i with | some v => Q (.val v) st | none => False) := by
  simp only [ixF, datV]; cases atI xs i <;> first | rfl | exact wp_D
@[simp] theorem f_slL {xs : List PyData} {lo hi : Option Int} : wpx X (sliceF lo hi (.val (.list xs)) st) Q = Q (.val (.list (cutP xs lo hi))) st := by first | exact propext Iff.rfl | exact wp_D | exact wp_D.trans wp_D.symm
@[simp] theorem f_slT {xs : List PyData} {lo hi : Option Int} : wpx X (sliceF lo hi (.val (.tuple xs)) st) Q = Q (.val (.tuple (cutP xs lo hi))) st := by first | exact propext Iff.rfl | exact wp_D | exact wp_D.trans wp_D.symm
@[simp] theorem f_lenL {xs : List PyData} : wpx X (lenF [.val (.list xs)] st) Q = Q (.val (.int xs.length)) st := by first | exact propext Iff.rfl | exact wp_D | exact wp_D.trans wp_D.symm
@[simp] theorem f_lenT {xs : List PyData} : wpx X (lenF [.val (.tuple xs)] st) Q = Q (.val (.int xs.length)) st := by first | exact propext Iff.rfl | exact wp_D | exact wp_D.trans wp_D.symm
@[simp] theorem f_intI {i : Int} : wpx X (intF [.val (.int i)] st) Q = Q (.val (.int i)) st := by first | exact propext Iff.rfl | exact wp_D | exact wp_D.trans wp_D.symm
@[simp] theorem f_strI {i : Int} : wpx X (strF [.val (.int i)] st) Q = (i.natAbs.log2 < 1920 ∧ Q (.val (.str (toString i))) st) := by simp only [strF, datV, wp_iteBad, wp_ok]
@[simp] theorem f_tupL {xs : List PyData} : wpx X (tupleF [.val (.list xs)] st) Q = Q (.val (.tuple xs)) st := by first | exact propext Iff.rfl | exact wp_D | exact wp_D.trans wp_D.symm
@[simp] theorem f_tupT {xs : List PyData} : wpx X (tupleF [.val (.tuple xs)] st) Q = Q (.val (.tuple xs)) st := by first | exact propext Iff.rfl | exact wp_D | exact wp_D.trans wp_D.symm
theorem f_tupO {n : Nat} {xs : List PyData} (h : st[n]? = some (.lst xs)) : wpx X (tupleF [.loc n] st) Q = Q (.val (.tuple xs)) st := by simp only [tupleF, dat, h]; exact wp_D
@[simp] theorem f_lstL {xs : List PyData} {Q : List PyData → Store → Prop} : wpx X (listF [.val (.list xs)] st) Q = Q xs st := by first | exact propext Iff.rfl | exact wp_D | exact wp_D.trans wp_D.symm
@[simp] theorem f_lstT {xs : List PyData} {Q : List PyData → Store → Prop} : wpx X (listF [.val (.tuple xs)] st) Q = Q xs st := by first | exact propext Iff.rfl | exact wp_D | exact wp_D.trans wp_D.symm
@[simp] theorem f_revL {xs : List PyData} {Q : List PyData → Store → Prop} : wpx X (revF (.val (.list xs)) st) Q = Q xs.reverse st := by first | exact propext Iff.rfl | exact wp_D | exact wp_D.trans wp_D.symm
@[simp] theorem f_isi {d : PyData} {T : String} : wpx X (isiF [.val d, .cst (.ty T)] st) Q = (match kitB (tyName d) T with | some b => Q (.val (.bool b)) st | none => False) := by
  simp only [isiF, datV]; cases kitB (tyName d) T <;> first | rfl | exact wp_D
@[simp] theorem f_sort {xs : List PyData} {Q : List PyData → Store → Prop} : wpx X (sortF [.val (.list xs)] st) Q = (sortOk xs = true ∧ Q (sortP xs) st) := by simp only [sortF, datV, wp_iteBad, wp_ok]
@[simp] theorem f_repr {p : PyData} : wpx X (reprF [.val p] st) Q = ((p.showable = true ∧ p.shown.length ≤ sizeLine ∧ p.depth ≤ 64) ∧ Q (.val (.str p.shown)) st) := by simp only [reprF, datV, wp_iteBad, wp_ok]
@[simp] theorem f_tupD {ds : List D} : wpx X (tupD ds st) Q = (match vals ds with | some ps => ps.length ≤ sizeLine ∧ Q (.val (.tuple ps)) st | none => False) := by
  simp only [tupD]; cases vals ds with
  | none => first | rfl | exact wp_D
  | some ps => simp only [wp_iteM, wp_rt, wp_badM]; by_cases h : ps.length ≤ sizeLine <;> simp [h]
@[simp] theorem f_lstD {ds : List D} {Q : List PyData → Store → Prop} : wpx X (lstD ds st) Q = (match vals ds with | some ps => ps.length ≤ sizeLine ∧ Q ps st | none => False) := by
  simp only [lstD]; cases vals ds with
  | none => first | rfl | exact wp_D
  | some ps => simp only [wp_iteM, wp_rt, wp_badM]; by_cases h : ps.length ≤ sizeLine <;> simp [h]
@[simp] theorem vals_nil : vals [] = some [] := rfl
@[simp] theorem vals_cons {p : PyData} {r : List D} : vals (.val p :: r) = (vals r).map (p :: ·) := rfl
@[simp] theorem f_joinL {a : Str} {xs : List PyData} : wpx X (joinF (.val (.str a)) (.val (.list xs)) st) Q = (match strsOf xs with | some ys => (ys.map (·.length)).sum + ys.length * a.length ≤ 16777216 ∧ Q (.val (.str (Txt.join a ys))) st | none => False) := by
  simp only [joinF, seqOf, datV]; cases strsOf xs with
  | none => first | rfl | exact wp_D
  | some ys => simp only [wp_iteBad, wp_ok]
@[simp] theorem f_joinT {a : Str} {xs : List PyData} : wpx X (joinF (.val (.str a)) (.val (.tuple xs)) st) Q = (match strsOf xs with | some ys => (ys.map (·.length)).sum + ys.length * a.length ≤ 16777216 ∧ Q (.val (.str (Txt.join a ys))) st | none => False) := by
  simp only [joinF, seqOf, datV]; cases strsOf xs with
  | none => first | rfl | exact wp_D
  | some ys => simp only [wp_iteBad, wp_ok]
@[simp] theorem strsOf_nil : strsOf [] = some [] := rfl
@[simp] theorem strsOf_cons {x : Str} {r : List PyData} : strsOf (.str x :: r) = (strsOf r).map (x :: ·) := rfl
@[simp] theorem strsOf_map {xs : List Str} : strsOf (xs.map PyData.str) = some xs := by
  induction xs with
  | nil => first | rfl | exact wp_D
  | cons x r ih => simp [ih]
@[simp] theorem strsOf_map2 {α : Type} {f : α → Str} {xs : List α} : strsOf (xs.map fun x => PyData.str (f x)) = some (xs.map f) := by
  induction xs with
  | nil => first | rfl | exact wp_D
  | cons x r ih => simp [ih]
@[simp] theorem f_truB {b : Bool} {Q : Bool → Store → Prop} : wpx X (tru (.val (.bool b)) st) Q = Q b st := by first | exact propext Iff.rfl | exact wp_D | exact wp_D.trans wp_D.symm
@[simp] theorem f_truN {Q : Bool → Store → Prop} : wpx X (tru (.val .none) st) Q = Q false st := by first | exact propext Iff.rfl | exact wp_D | exact wp_D.trans wp_D.symm
@[simp] theorem f_truI {i : Int} {Q : Bool → Store → Prop} : wpx X (tru (.val (.int i)) st) Q = Q (i != 0) st := by first | exact propext Iff.rfl | exact wp_D | exact wp_D.trans wp_D.symm
@[simp] theorem f_truL {xs : List PyData} {Q : Bool → Store → Prop} : wpx X (tru (.val (.list xs)) st) Q = Q (!xs.isEmpty) st := by first | exact propext Iff.rfl | exact wp_D | exact wp_D.trans wp_D.symm
@[simp] theorem f_truT {xs : List PyData} {Q : Bool → Store → Prop} : wpx X (tru (.val (.tuple xs)) st) Q = Q (!xs.isEmpty) st := by first | exact propext Iff.rfl | exact wp_D | exact wp_D.trans wp_D.symm
@[simp] theorem f_truS {y : Str} {Q : Bool → Store → Prop} : wpx X (tru (.val (.str y)) st) Q = (y.length ≤ sizeLine ∧ Q ((y.length : Int) != 0) st) := by simp only [tru, wp_iteBad, wp_ok]
@[simp] theorem kill_nil {env : Env} : kill [] env = env := rfl
@[simp] theorem kill_cons {i : Nat} {is : List Nat} {env : Env} : kill (i :: is) env = kill is (env.set i none) := rfl
@[simp] theorem setsN_nil {env : Env} : setsN [] [] env = some env := rfl
@[simp] theorem setsN_cons {i : Nat} {is : List Nat} {d : D} {ds : List D} {env : Env} : setsN (i :: is) (d :: ds) env = setsN is ds (env.set i (some d)) := rfl
end
end B
namespace B
open PySem L2

@[simp] theorem ofString_inj {a b : String} : (Str.ofString a = Str.ofString b) = (a = b) := by
  refine propext ⟨fun h => ?_, fun h => by rw [h]⟩
  have h1 := congrArg TL.tl h
  rw [TL.tl_ofString, TL.tl_ofString] at h1
  have h2 : a.toList = b.toList := (List.map_inj_right fun x y hxy => Char.toNat_inj.mp hxy).mp h1
  exact String.toList_inj.mp h2
@[simp] theorem dget_feed {X : Ex → Store → Prop} {n : Nat} {k : Str} {st : Store} {Q : D → Store → Prop} : wpx X (dgetF (.loc n) (.val (.str k)) st) Q = (match st[n]? with | some (.dk kvs) => (match getP kvs (.inr k) with | some d => Q (.val d) st | none => False) | _ => False) := by
  simp only [dgetF, keyOf, datV]
  cases st[n]? with
  | none => first | rfl | exact wp_D
  | some o => cases o with
    | dk kvs => simp only []; cases getP kvs (.inr k) <;> first | rfl | exact wp_D
    | _ => first | rfl | exact wp_D
@[simp] theorem getP_nil {k : Key} : getP ([] : List (Key × PyData)) k = none := rfl
@[simp] theorem getP_cons {k k' : Key} {d : PyData} {r : List (Key × PyData)} : getP ((k', d) :: r) k = if k' = k then some d else getP r k := by
  simp only [getP, List.find?_cons]
  by_cases h : k' = k <;> simp [h]
@[simp] theorem keyOf_str {st : Store} {x : Str} : keyOf st (.val (.str x)) = some (.inr x) := rfl
@[simp] theorem keyOf_int {st : Store} {i : Int} : keyOf st (.val (.int i)) = some (.inl i) := rfl

/-! texts: how long, and of which signs -/
def Sm (m : Nat) (x : Str) : Prop := x.length ≤ m ∧ ∀ c ∈ x.cps.toList, c < 1114112
theorem Sm.mono {m n : Nat} {x : Str} (h : Sm m x) (hm : m ≤ n) : Sm n x := ⟨Nat.le_trans h.1 hm, h.2⟩
theorem len_cat (x y : Str) : (x ++ y).length = x.length + y.length := by
  rw [TL.len_tl, TL.len_tl, TL.len_tl, TL.tl_append, List.length_append]
theorem Sm.cat {m n : Nat} {x y : Str} (h : Sm m x) (k : Sm n y) : Sm (m + n) (x ++ y) := by
  refine ⟨by rw [len_cat]; exact Nat.add_le_add h.1 k.1, fun c hc => ?_⟩
  have : c ∈ TL.tl (x ++ y) := hc
  rw [TL.tl_append, List.mem_append] at this
  exact this.elim (h.2 c) (k.2 c)
theorem Sm.lit {m : Nat} {x : Str} (h : (decide (x.length ≤ m) && x.cps.toList.all fun c => decide (c < 1114112)) = true) : Sm m x := by
  rw [Bool.and_eq_true, List.all_eq_true] at h
  exact ⟨of_decide_eq_true h.1, fun c hc => of_decide_eq_true (h.2 c hc)⟩
theorem log2_of_lt {n k : Nat} (hk : 0 < k) (h : n < 2 ^ k) : n.log2 < k := by
  by_cases h0 : n = 0
  · subst h0; exact hk
  · exact (Nat.log2_lt h0).mpr h
theorem Sm.int {i : Int} {k : Nat} (hk : 0 < k) (h : i.natAbs < 2 ^ k) : Sm (k + 1) ((toString i : String) : Str) := by
  refine ⟨?_, fun c hc => ?_⟩
  · rw [show (((toString i : String) : Str)).length = (toString i).length from ofString_length _]
    exact int_text_length_le hk (log2_of_lt hk h)
  · by_cases hlt : c < 1114112
    · exact hlt
    · exact absurd hc (PyProof.Rows.int_text_free' c ⟨by omega, by omega⟩ i)
theorem int_pos (i : Int) : 1 ≤ ((toString i : String) : Str).length := by
  rw [show (((toString i : String) : Str)).length = (toString i).length from ofString_length _]
  cases i with
  | ofNat m =>
    show 1 ≤ (Nat.repr m).length
    have := Nat.length_repr_pos (n := m)
    omega
  | negSucc m =>
    show 1 ≤ ("-" ++ Nat.repr (m + 1)).length
    rw [String.length_append]
    have : "-".length = 1 := rfl
    omega
theorem Sm.sum {m : Nat} : ∀ {ys : List Str}, (∀ y ∈ ys, Sm m y) → (ys.map (·.length)).sum ≤ ys.length * m
  | [], _ => by simp
  | y :: r, h => by
    have h1 := Sm.sum (ys := r) fun z hz => h z (List.mem_cons_of_mem _ hz)
    have h2 := (h y (List.mem_cons_self ..)).1
    simp only [List.map_cons, List.sum_cons, List.length_cons, Nat.succ_mul]
    omega
theorem mem_joinL {s : List Nat} {c : Nat} : ∀ {l : List (List Nat)}, c ∈ TL.joinL s l → c ∈ s ∨ ∃ x ∈ l, c ∈ x
  | [], h => by cases h
  | [x], h => .inr ⟨x, List.mem_cons_self .., by simpa [TL.joinL] using h⟩
  | x :: y :: r, h => by
    simp only [TL.joinL, List.mem_append] at h
    rcases h with h | h | h
    · exact .inr ⟨x, List.mem_cons_self .., h⟩
    · exact .inl h
    · exact (mem_joinL (l := y :: r) h).imp_right fun ⟨z, hz, hc⟩ => ⟨z, List.mem_cons_of_mem _ hz, hc⟩
theorem Sm.join {m s n : Nat} {a : Str} {ys : List Str} (h : ∀ y ∈ ys, Sm m y) (ha : Sm s a) (hn : ys.length ≤ n) : Sm (n * (m + s)) (Txt.join a ys) := by
  refine ⟨?_, fun c hc => ?_⟩
  · rw [TL.join_eq]
    have h1 := StrLaws.join_length_le a ys
    have h2 := Sm.sum h
    have h3 : ys.length * a.length ≤ ys.length * s := Nat.mul_le_mul_left _ ha.1
    have h4 : ys.length * (m + s) ≤ n * (m + s) := Nat.mul_le_mul_right _ hn
    rw [Nat.mul_add] at h4
    omega
  · have hc' : c ∈ TL.tl (Txt.join a ys) := hc
    rw [TL.join_eq, TL.tl_join] at hc'
    rcases mem_joinL hc' with hc' | ⟨x, hx, hc'⟩
    · exact ha.2 c hc'
    · obtain ⟨y, hy, rfl⟩ := List.mem_map.mp hx
      exact (h y hy).2 c hc'
theorem join_fits {m s n : Nat} {a : Str} {ys : List Str} (h : ∀ y ∈ ys, Sm m y) (ha : a.length ≤ s) (hn : ys.length ≤ n) (hb : n * (m + s) ≤ 16777216) : (ys.map (·.length)).sum + ys.length * a.length ≤ 16777216 := by
  have h2 := Sm.sum h
  have h3 : ys.length * a.length ≤ ys.length * s := Nat.mul_le_mul_left _ ha
  have h4 : ys.length * (m + s) ≤ n * (m + s) := Nat.mul_le_mul_right _ hn
  rw [Nat.mul_add] at h4
  omega
theorem join_pos {a : Str} : ∀ {ys : List Str}, ys ≠ [] → (∀ y ∈ ys, 1 ≤ y.length) → 1 ≤ (Txt.join a ys).length
  | [], h, _ => absurd rfl h
  | y :: r, _, h => by
    have h1 := h y (List.mem_cons_self ..)
    have h2 := PyProof.Rows.len_join_ge_sum a (y :: r)
    simp only [List.map_cons, List.sum_cons] at h2
    omega

/-! data: how great when written -/
structure Sz (n k : Nat) (p : PyData) : Prop where
  sh : p.showable = true
  len : p.shown.length ≤ n
  dp : p.depth ≤ k
theorem Sz.mono {n k n' k' : Nat} {p : PyData} (h : Sz n k p) (hn : n ≤ n') (hk : k ≤ k') : Sz n' k' p := ⟨h.sh, Nat.le_trans h.len hn, Nat.le_trans h.dp hk⟩
theorem Sz.fits {n k : Nat} {p : PyData} (h : Sz n k p) (hn : n ≤ 16777216) (hk : k ≤ 64) : p.showable = true ∧ p.shown.length ≤ sizeLine ∧ p.depth ≤ 64 := ⟨h.sh, by rw [sizeLine_eq]; exact Nat.le_trans h.len hn, Nat.le_trans h.dp hk⟩
theorem Sz.int {i : Int} {k : Nat} (hk : 0 < k) (hk2 : k ≤ 1920) (h : i.natAbs < 2 ^ k) : Sz (k + 1) 0 (.int i) := by
  refine ⟨?_, ?_, Nat.le_refl _⟩
  · simp only [PyData.showable, decide_eq_true_eq]
    exact Nat.lt_of_lt_of_le (log2_of_lt hk h) hk2
  · rw [PyData.shown_int]; exact (Sm.int hk h).1
theorem Sz.str {x : Str} {m : Nat} (h : Sm m x) : Sz (10 * m + 2) 0 (.str x) := by
  refine ⟨rfl, ?_, Nat.le_refl _⟩
  rw [PyData.shown_str]
  have h1 := StrLaws.reprText_len x (fun c hc => Nat.lt_trans (h.2 c hc) (by decide))
  have h2 := h.1
  omega
theorem Sz.all {n k : Nat} : ∀ {xs : List PyData}, (∀ x ∈ xs, Sz n k x) → PyData.showableAll xs = true ∧ ((PyData.shownAll xs).map (·.length)).sum ≤ xs.length * n ∧ PyData.depthAll xs ≤ k
  | [], _ => ⟨rfl, by simp [PyData.shownAll], Nat.zero_le _⟩
  | x :: r, h => by
    obtain ⟨h1, h2, h3⟩ := Sz.all (xs := r) fun z hz => h z (List.mem_cons_of_mem _ hz)
    have hx := h x (List.mem_cons_self ..)
    refine ⟨by simp only [PyData.showableAll, hx.sh, h1, Bool.and_self], ?_, ?_⟩
    · simp only [PyData.shownAll, List.map_cons, List.sum_cons, List.length_cons, Nat.succ_mul]
      have := hx.len
      omega
    · simp only [PyData.depthAll]
      exact Nat.max_le.mpr ⟨hx.dp, h3⟩
theorem Sz.tuple {n k m : Nat} {xs : List PyData} (h : ∀ x ∈ xs, Sz n k x) (hm : xs.length ≤ m) : Sz (m * (n + 2) + 3) (k + 1) (.tuple xs) := by
  obtain ⟨h1, h2, h3⟩ := Sz.all h
  refine ⟨by simp only [PyData.showable, h1], ?_, by simp only [PyData.depth]; omega⟩
  simp only [PyData.shown]
  have h4 := PySem.tupleText_len_le (PyData.shownAll xs)
  rw [PyData.shownAll_length] at h4
  have h5 : xs.length * (n + 2) ≤ m * (n + 2) := Nat.mul_le_mul_right _ hm
  rw [Nat.mul_add] at h5
  omega
theorem Sz.list {n k m : Nat} {xs : List PyData} (h : ∀ x ∈ xs, Sz n k x) (hm : xs.length ≤ m) : Sz (m * (n + 2) + 3) (k + 1) (.list xs) := by
  obtain ⟨h1, h2, h3⟩ := Sz.all h
  refine ⟨by simp only [PyData.showable, h1], ?_, by simp only [PyData.depth]; omega⟩
  simp only [PyData.shown]
  have h4 := PySem.listText_len_le (PyData.shownAll xs)
  rw [PyData.shownAll_length] at h4
  have h5 : xs.length * (n + 2) ≤ m * (n + 2) := Nat.mul_le_mul_right _ hm
  rw [Nat.mul_add] at h5
  omega

/-! stores without instances -/
def plO : O → Bool
  | .ins _ _ => false
  | .lr _ => false
  | .dr _ => false
  | _ => true
def Pl (st : Store) : Prop := ∀ o ∈ st, plO o = true
theorem Pl.ok {st : Store} (h : Pl st) (n : Nat) : stOk n st = true := by
  refine List.all_eq_true.mpr fun o ho => ?_
  have := h o ho
  cases o with
  | lst _ => rfl
  | dk _ => rfl
  | dt _ => rfl
  | _ => cases this
theorem Pl.take {st : Store} (h : Pl st) (n : Nat) : Pl (st.take n) := fun o ho => h o (List.mem_of_mem_take ho)
theorem Pl.nil : Pl [] := fun _ h => nomatch h
theorem Pl.lst {st : Store} (h : Pl st) (xs : List PyData) : Pl (st ++ [.lst xs]) := fun o ho => by
  rcases List.mem_append.mp ho with ho | ho
  · exact h o ho
  · rw [List.mem_singleton.mp ho]; rfl
theorem Pl.cons_dk {st : Store} (h : Pl st) (kvs : List (Key × PyData)) : Pl (.dk kvs :: st) := fun o ho => by
  rcases List.mem_cons.mp ho with rfl | ho
  · rfl
  · exact h o ho
@[simp] theorem take_own {st st' : Store} : (st ++ st').take st.length = st := by simp
@[simp] theorem set_own {st : Store} {o o' : O} {r : Store} : (st ++ o :: r).set st.length o' = st ++ o' :: r := by
  rw [List.set_append_right _ _ (Nat.le_refl _), Nat.sub_self]; rfl
@[simp] theorem get_own {st : Store} {o : O} {r : Store} : (st ++ o :: r)[st.length]? = some o := by
  rw [List.getElem?_append_right (Nat.le_refl _), Nat.sub_self]; rfl

/-! comprehensions whose parts leave the store alone -/
theorem lc_map {g : D → Env → M Env} {ft : Env → M Bool} {fe : Env → M D} {env : Env} {Q : List PyData → Store → Prop} {st : Store} {xs : List PyData} (f : PyData → PyData)
    (h : ∀ x ∈ xs, wpx noE (g (.val x) env st) fun e s => wpx noE (ft e s) fun b s => b = true ∧ wpx noE (fe e s) fun d s => d = .val (f x) ∧ s = st) (hl : xs.length ≤ sizeLine) (hq : Q (xs.map f) st) : wpx noE (lcF g (lcIn ft fe) env xs [] st) Q := by
  refine wp_mono (wp_lcF (I := fun i acc s => acc = (xs.take i).map f ∧ s = st) xs [] st ⟨by simp, rfl⟩ ?_) ?_
  · rintro i x acc s hx ⟨rfl, rfl⟩
    refine wp_mono (h x (List.mem_of_getElem? hx)) fun e s hs => ?_
    simp only [e_lcIn, wp_bd]
    refine wp_mono hs fun b s hs => ?_
    obtain ⟨rfl, hs⟩ := hs
    simp only [kM_at, if_pos, wp_bd]
    refine wp_mono hs fun d s hs => ?_
    obtain ⟨rfl, rfl⟩ := hs
    simp only [kM_at, wp_iteBadM, wp_rt]
    have hi : i < xs.length := by
      rcases Nat.lt_or_ge i xs.length with h' | h'
      · exact h'
      · rw [List.getElem?_eq_none h'] at hx; cases hx
    refine ⟨by rw [List.length_map, List.length_take]; omega, ?_, trivial⟩
    rw [List.take_succ, hx]; simp
  · rintro acc s ⟨rfl, rfl⟩
    rw [List.take_length]; exact hq
theorem lc_filter {g : D → Env → M Env} {ft : Env → M Bool} {fe : Env → M D} {env : Env} {Q : List PyData → Store → Prop} {st : Store} {xs : List PyData} (p : PyData → Bool) (f : PyData → PyData)
    (h : ∀ x ∈ xs, wpx noE (g (.val x) env st) fun e s => wpx noE (ft e s) fun b s => b = p x ∧ (if b = true then wpx noE (fe e s) fun d s => d = .val (f x) ∧ s = st else s = st)) (hl : xs.length ≤ sizeLine) (hq : Q ((xs.filter p).map f) st) : wpx noE (lcF g (lcIn ft fe) env xs [] st) Q := by
  refine wp_mono (wp_lcF (I := fun i acc s => acc = ((xs.take i).filter p).map f ∧ s = st) xs [] st ⟨by simp, rfl⟩ ?_) ?_
  · rintro i x acc s hx ⟨rfl, rfl⟩
    refine wp_mono (h x (List.mem_of_getElem? hx)) fun e s hs => ?_
    simp only [e_lcIn, wp_bd]
    refine wp_mono hs fun b s hs => ?_
    obtain ⟨rfl, hs⟩ := hs
    simp only [kM_at]
    have hi : i < xs.length := by
      rcases Nat.lt_or_ge i xs.length with h' | h'
      · exact h'
      · rw [List.getElem?_eq_none h'] at hx; cases hx
    by_cases hp : p x = true
    · rw [if_pos hp] at hs ⊢
      rw [wp_bd]
      refine wp_mono hs fun d s hs => ?_
      obtain ⟨rfl, rfl⟩ := hs
      simp only [kM_at, wp_iteBadM, wp_rt]
      refine ⟨?_, ?_, trivial⟩
      · rw [List.length_map]
        have := List.length_filter_le p (xs.take i)
        rw [List.length_take] at this
        omega
      · rw [List.take_succ, hx]; simp [hp]
    · rw [if_neg hp] at hs ⊢
      subst hs
      simp only [wp_rt]
      refine ⟨?_, trivial⟩
      rw [List.take_succ, hx]; simp [hp]
  · rintro acc s ⟨rfl, rfl⟩
    rw [List.take_length]; exact hq
theorem wp_end {r : Res D} (h : wpx noE r fun d _ => d = .val (.bool true)) : ∃ st, r = .ok (.val (.bool true)) st := by
  obtain ⟨a, s, e, rfl⟩ := wp_iff.mp h
  exact ⟨s, e⟩
theorem of_wp {r : Res D} {d : D} {st : Store} (h : wpx noE r fun a s => a = d ∧ s = st) : r = .ok d st := by
  obtain ⟨a, s, e, rfl, rfl⟩ := wp_iff.mp h
  exact e
end B
namespace B
open PySem L2
@[simp] theorem kit_NoneType_int : kitB "NoneType" "int" = some false := by decide +kernel
@[simp] theorem kit_NoneType_str : kitB "NoneType" "str" = some false := by decide +kernel
@[simp] theorem kit_NoneType_tuple : kitB "NoneType" "tuple" = some false := by decide +kernel
@[simp] theorem kit_NoneType_list : kitB "NoneType" "list" = some false := by decide +kernel
@[simp] theorem kit_NoneType_bool : kitB "NoneType" "bool" = some false := by decide +kernel
@[simp] theorem kit_NoneType_dict : kitB "NoneType" "dict" = some false := by decide +kernel
@[simp] theorem kit_bool_int : kitB "bool" "int" = some true := by decide +kernel
@[simp] theorem kit_bool_str : kitB "bool" "str" = some false := by decide +kernel
@[simp] theorem kit_bool_tuple : kitB "bool" "tuple" = some false := by decide +kernel
@[simp] theorem kit_bool_list : kitB "bool" "list" = some false := by decide +kernel
@[simp] theorem kit_bool_bool : kitB "bool" "bool" = some true := by decide +kernel
@[simp] theorem kit_bool_dict : kitB "bool" "dict" = some false := by decide +kernel
@[simp] theorem kit_int_int : kitB "int" "int" = some true := by decide +kernel
@[simp] theorem kit_int_str : kitB "int" "str" = some false := by decide +kernel
@[simp] theorem kit_int_tuple : kitB "int" "tuple" = some false := by decide +kernel
@[simp] theorem kit_int_list : kitB "int" "list" = some false := by decide +kernel
@[simp] theorem kit_int_bool : kitB "int" "bool" = some false := by decide +kernel
@[simp] theorem kit_int_dict : kitB "int" "dict" = some false := by decide +kernel
@[simp] theorem kit_str_int : kitB "str" "int" = some false := by decide +kernel
@[simp] theorem kit_str_str : kitB "str" "str" = some true := by decide +kernel
@[simp] theorem kit_str_tuple : kitB "str" "tuple" = some false := by decide +kernel
@[simp] theorem kit_str_list : kitB "str" "list" = some false := by decide +kernel
@[simp] theorem kit_str_bool : kitB "str" "bool" = some false := by decide +kernel
@[simp] theorem kit_str_dict : kitB "str" "dict" = some false := by decide +kernel
@[simp] theorem kit_list_int : kitB "list" "int" = some false := by decide +kernel
@[simp] theorem kit_list_str : kitB "list" "str" = some false := by decide +kernel
@[simp] theorem kit_list_tuple : kitB "list" "tuple" = some false := by decide +kernel
@[simp] theorem kit_list_list : kitB "list" "list" = some true := by decide +kernel
@[simp] theorem kit_list_bool : kitB "list" "bool" = some false := by decide +kernel
@[simp] theorem kit_list_dict : kitB "list" "dict" = some false := by decide +kernel
@[simp] theorem kit_tuple_int : kitB "tuple" "int" = some false := by decide +kernel
@[simp] theorem kit_tuple_str : kitB "tuple" "str" = some false := by decide +kernel
@[simp] theorem kit_tuple_tuple : kitB "tuple" "tuple" = some true := by decide +kernel
@[simp] theorem kit_tuple_list : kitB "tuple" "list" = some false := by decide +kernel
@[simp] theorem kit_tuple_bool : kitB "tuple" "bool" = some false := by decide +kernel
@[simp] theorem kit_tuple_dict : kitB "tuple" "dict" = some false := by decide +kernel
@[simp] theorem kit_dict_int : kitB "dict" "int" = some false := by decide +kernel
@[simp] theorem kit_dict_str : kitB "dict" "str" = some false := by decide +kernel
@[simp] theorem kit_dict_tuple : kitB "dict" "tuple" = some false := by decide +kernel
@[simp] theorem kit_dict_list : kitB "dict" "list" = some false := by decide +kernel
@[simp] theorem kit_dict_bool : kitB "dict" "bool" = some false := by decide +kernel
@[simp] theorem kit_dict_dict : kitB "dict" "dict" = some true := by decide +kernel

@[simp] theorem ty_none : tyName .none = "NoneType" := rfl
@[simp] theorem ty_bool {b : Bool} : tyName (.bool b) = "bool" := rfl
@[simp] theorem ty_int {b : Int} : tyName (.int b) = "int" := rfl
@[simp] theorem ty_str {b : Str} : tyName (.str b) = "str" := rfl
@[simp] theorem ty_list {b : List PyData} : tyName (.list b) = "list" := rfl
@[simp] theorem ty_tuple {b : List PyData} : tyName (.tuple b) = "tuple" := rfl
@[simp] theorem ty_dict {b : List (PyData × PyData)} : tyName (.dict b) = "dict" := rfl
@[simp] theorem sizeL : sizeLine = 16777216 := sizeLine_eq
/-! places in lists -/
theorem atI_get {α : Type} {xs : List α} {i : Int} (h0 : 0 ≤ i) (h1 : i < xs.length) : atI xs i = xs[i.toNat]? := by
  simp [atI, ixN, h0, h1]
@[simp] theorem atI_0 {α : Type} {a : α} {r : List α} : atI (a :: r) 0 = some a := by
  rw [atI_get (by decide) (by simp)]; rfl
@[simp] theorem atI_1 {α : Type} {a b : α} {r : List α} : atI (a :: b :: r) 1 = some b := by
  rw [atI_get (by decide) (by simp; omega)]; rfl
@[simp] theorem atI_2 {α : Type} {a b c : α} {r : List α} : atI (a :: b :: c :: r) 2 = some c := by
  rw [atI_get (by decide) (by simp; omega)]; rfl
@[simp] theorem atI_3 {α : Type} {a b c d : α} {r : List α} : atI (a :: b :: c :: d :: r) 3 = some d := by
  rw [atI_get (by decide) (by simp; omega)]; rfl
theorem atI_some {α : Type} {xs : List α} {i : Int} (h0 : 0 ≤ i) (h1 : i < xs.length) : ∃ x ∈ xs, atI xs i = some x := by
  have h : i.toNat < xs.length := by omega
  exact ⟨xs[i.toNat], List.getElem_mem h, by rw [atI_get h0 h1, List.getElem?_eq_getElem h]⟩
theorem emod_pos {x m : Int} (h : 0 < m) : 0 ≤ x % m := Int.emod_nonneg _ (by omega)
/-! texts -/
@[simp] theorem empty_cat {x : Str} : Str.empty ++ x = x := TL.ext_tl (by rw [TL.tl_append]; rfl)
@[simp] theorem cat_empty {x : Str} : x ++ Str.ofString "" = x := TL.ext_tl (by rw [TL.tl_append]; exact List.append_nil _)
@[simp] theorem len_catS (x y : Str) : (x ++ y).length = x.length + y.length := len_cat x y
@[simp] theorem len_lit (s : String) : (Str.ofString s).length = s.toList.length := by rw [ofString_length, String.length_toList]
@[simp] theorem len_empty : Str.empty.length = 0 := rfl
@[simp] theorem cat_empty2 {x : Str} : x ++ Str.empty = x := TL.ext_tl (by rw [TL.tl_append]; exact List.append_nil _)
@[simp] theorem cat_assoc (x y z : Str) : x ++ y ++ z = x ++ (y ++ z) := TL.ext_tl (by simp only [TL.tl_append, List.append_assoc])
@[simp] theorem lit_cat (a b : String) : Str.ofString a ++ Str.ofString b = Str.ofString (a ++ b) := TL.ext_tl (by simp only [TL.tl_append, TL.tl_ofString, String.toList_append, List.map_append])
@[simp] theorem lit_cat2 (a b : String) (x : Str) : Str.ofString a ++ (Str.ofString b ++ x) = Str.ofString (a ++ b) ++ x := by rw [← cat_assoc, lit_cat]
theorem join_nil (a : Str) : Txt.join a [] = Str.empty := TL.ext_tl (by rw [TL.join_eq, TL.tl_join]; rfl)
@[simp] theorem join_one (a x : Str) : Txt.join a [x] = x := TL.ext_tl (by rw [TL.join_eq, TL.tl_join]; rfl)
@[simp] theorem join_cons2 (a x y : Str) (r : List Str) : Txt.join a (x :: y :: r) = x ++ (a ++ Txt.join a (y :: r)) := TL.ext_tl (by
  rw [TL.join_eq, TL.tl_join, TL.tl_append, TL.tl_append, TL.join_eq, TL.tl_join]; simp only [List.map_cons, TL.joinL])
theorem lcF_call {i : Nat} {m : List D → M D} {f : PyData → PyData} {xs : List PyData} {env : Env} {st : Store} (hi : i < env.length) (hl : xs.length ≤ sizeLine) (h : ∀ x ∈ xs, m [.val x] st = .ok (.val (f x)) st) :
    lcF (setV i) (lcIn yesT (callF m (aCons (gv i) aNil))) env xs [] st = .ok (xs.map f) st := by
  have : wpx noE (lcF (setV i) (lcIn yesT (callF m (aCons (gv i) aNil))) env xs [] st) fun a s => a = xs.map f ∧ s = st :=
    lc_map f (fun x hx => by simp [hi, h x hx]) hl ⟨rfl, rfl⟩
  obtain ⟨a, s, e, rfl, rfl⟩ := wp_iff.mp this
  exact e
theorem lcF_wp {g : D → Env → M Env} {ft : Env → M Bool} {fe : Env → M D} {env : Env} {st : Store} {xs : List PyData} (f : PyData → PyData)
    (h : ∀ x ∈ xs, wpx noE (g (.val x) env st) fun e s => wpx noE (ft e s) fun b s => b = true ∧ wpx noE (fe e s) fun d s => d = .val (f x) ∧ s = st) (hl : xs.length ≤ sizeLine) : lcF g (lcIn ft fe) env xs [] st = .ok (xs.map f) st := by
  have : wpx noE (lcF g (lcIn ft fe) env xs [] st) fun a s => a = xs.map f ∧ s = st := lc_map f h hl ⟨rfl, rfl⟩
  obtain ⟨a, s, e, rfl, rfl⟩ := wp_iff.mp this
  exact e
@[simp] theorem eqv_str {a b : Str} : PyData.eqv (.str a) (.str b) = decide (a = b) := by
  simp only [PyData.eqv]; by_cases h : a = b <;> simp [h]
@[simp] theorem eqv_int {a b : Int} : PyData.eqv (.int a) (.int b) = decide (a = b) := by
  simp only [PyData.eqv]; by_cases h : a = b <;> simp [h]
/-! lists of the store under the operators -/
@[simp] theorem o_len {X : Ex → Store → Prop} {st : Store} {n : Nat}  {Q : D → Store → Prop} : wpx X (lenF [.loc n] st) Q = (match st[n]? with | some (.lst xs) => Q (.val (.int xs.length)) st | _ => False) := by
  simp only [lenF, dat]
  cases st[n]? with
  | none => first | rfl | exact wp_D
  | some o => cases o <;> first | rfl | simp
@[simp] theorem o_tup {X : Ex → Store → Prop} {st : Store} {n : Nat}  {Q : D → Store → Prop} : wpx X (tupleF [.loc n] st) Q = (match st[n]? with | some (.lst xs) => Q (.val (.tuple xs)) st | _ => False) := by
  simp only [tupleF, dat]
  cases st[n]? with
  | none => first | rfl | exact wp_D
  | some o => cases o <;> first | rfl | simp
@[simp] theorem o_lst {X : Ex → Store → Prop} {st : Store} {n : Nat}  {Q : List PyData → Store → Prop} : wpx X (listF [.loc n] st) Q = (match st[n]? with | some (.lst xs) => Q xs st | _ => False) := by
  simp only [listF, dat]
  cases st[n]? with
  | none => first | rfl | exact wp_D
  | some o => cases o <;> first | rfl | simp
@[simp] theorem o_sort {X : Ex → Store → Prop} {st : Store} {n : Nat}  {Q : List PyData → Store → Prop} : wpx X (sortF [.loc n] st) Q = (match st[n]? with | some (.lst xs) => sortOk xs = true ∧ Q (sortP xs) st | _ => False) := by
  simp only [sortF, dat]
  cases st[n]? with
  | none => first | rfl | exact wp_D
  | some o => cases o <;> first | rfl | simp
@[simp] theorem o_rev {X : Ex → Store → Prop} {st : Store} {n : Nat}  {Q : List PyData → Store → Prop} : wpx X (revF (.loc n) st) Q = (match st[n]? with | some (.lst xs) => Q xs.reverse st | _ => False) := by
  simp only [revF, dat]
  cases st[n]? with
  | none => first | rfl | exact wp_D
  | some o => cases o <;> first | rfl | simp
@[simp] theorem o_ix {X : Ex → Store → Prop} {st : Store} {n : Nat} {i : Int} {Q : D → Store → Prop} : wpx X (ixF (.loc n) (.val (.int i)) st) Q = (match st[n]? with | some (.lst xs) => (match atI xs i with | some v => Q (.val v) st | none => False) | _ => False) := by
  simp only [ixF, dat]
  cases st[n]? with
  | none => first | rfl | exact wp_D
  | some o => cases o with
    | lst xs => simp only []; cases atI xs i <;> first | rfl | exact wp_D
    | _ => first | rfl | exact wp_D
@[simp] theorem o_sl {X : Ex → Store → Prop} {st : Store} {n : Nat} {lo hi : Option Int} {Q : D → Store → Prop} : wpx X (sliceF lo hi (.loc n) st) Q = (match st[n]? with | some (.lst xs) => Q (.val (.list (cutP xs lo hi))) st | _ => False) := by
  simp only [sliceF, dat]
  cases st[n]? with
  | none => first | rfl | exact wp_D
  | some o => cases o <;> first | rfl | simp
@[simp] theorem o_eq {X : Ex → Store → Prop} {st : Store} {n : Nat} {e : PyData} {Q : D → Store → Prop} : wpx X (eqF (.loc n) (.val e) st) Q = (match st[n]? with | some (.lst xs) => min (PyData.list xs).depth e.depth ≤ 64 ∧ Q (.val (.bool (PyData.eqv (.list xs) e))) st | _ => False) := by
  simp only [eqF, dat]
  cases st[n]? with
  | none => first | rfl | exact wp_D
  | some o => cases o <;> first | rfl | simp
@[simp] theorem o_ne {X : Ex → Store → Prop} {st : Store} {n : Nat} {e : PyData} {Q : D → Store → Prop} : wpx X (neF (.loc n) (.val e) st) Q = (match st[n]? with | some (.lst xs) => min (PyData.list xs).depth e.depth ≤ 64 ∧ Q (.val (.bool (!PyData.eqv (.list xs) e))) st | _ => False) := by
  simp only [neF, dat]
  cases st[n]? with
  | none => first | rfl | exact wp_D
  | some o => cases o <;> first | rfl | simp
@[simp] theorem o_in {X : Ex → Store → Prop} {st : Store} {n : Nat} {e : PyData} {b : Bool} {Q : D → Store → Prop} : wpx X (inF b (.val e) (.loc n) st) Q = (match st[n]? with | some (.lst xs) => min (PyData.depthAll xs) e.depth ≤ 64 ∧ Q (.val (.bool (b != inAny e xs))) st | _ => False) := by
  simp only [inF, dat]
  cases st[n]? with
  | none => first | rfl | exact wp_D
  | some o => cases o <;> first | rfl | simp
@[simp] theorem o_add {X : Ex → Store → Prop} {st : Store} {n : Nat} {ys : List PyData} {Q : D → Store → Prop} : wpx X (addF (.loc n) (.val (.list ys)) st) Q = (match st[n]? with | some (.lst xs) => xs.length + ys.length ≤ sizeLine ∧ Q (.val (.list (xs ++ ys))) st | _ => False) := by
  simp only [addF, dat]
  cases st[n]? with
  | none => first | rfl | exact wp_D
  | some o => cases o <;> first | rfl | simp
@[simp] theorem o_repr {X : Ex → Store → Prop} {st : Store} {n : Nat}  {Q : D → Store → Prop} : wpx X (reprF [.loc n] st) Q = (match st[n]? with | some (.lst xs) => ((PyData.list xs).showable = true ∧ (PyData.list xs).shown.length ≤ sizeLine ∧ (PyData.list xs).depth ≤ 64) ∧ Q (.val (.str (PyData.list xs).shown)) st | _ => False) := by
  simp only [reprF, dat]
  cases st[n]? with
  | none => first | rfl | exact wp_D
  | some o => cases o <;> first | rfl | simp
@[simp] theorem o_join {X : Ex → Store → Prop} {st : Store} {n : Nat} {a : Str} {Q : D → Store → Prop} : wpx X (joinF (.val (.str a)) (.loc n) st) Q = (match st[n]? with | some (.lst xs) => (match strsOf xs with | some ys => (ys.map (·.length)).sum + ys.length * a.length ≤ 16777216 ∧ Q (.val (.str (Txt.join a ys))) st | none => False) | _ => False) := by
  simp only [joinF, seqOf, dat]
  cases st[n]? with
  | none => first | rfl | exact wp_D
  | some o => cases o with
    | lst xs => simp only []; cases strsOf xs with
      | none => first | rfl | exact wp_D
      | some ys => simp only [wp_iteBad, wp_ok]
    | _ => first | rfl | exact wp_D
@[simp] theorem o_src {X : Ex → Store → Prop} {st : Store} {n : Nat} {Q : Src → Store → Prop} : wpx X (srcOf (.loc n) st) Q = (match st[n]? with | some (.lst _) => Q (.obj n) st | _ => False) := e_srcO
@[simp] theorem o_tru {X : Ex → Store → Prop} {st : Store} {n : Nat} {Q : Bool → Store → Prop} : wpx X (tru (.loc n) st) Q = (match st[n]? with | some (.lst xs) => Q (!xs.isEmpty) st | some (.dk xs) => Q (!xs.isEmpty) st | _ => False) := by
  simp only [tru]
  cases st[n]? with
  | none => first | rfl | exact wp_D
  | some o => cases o <;> first | rfl | exact wp_D
@[simp] theorem o_ext {X : Ex → Store → Prop} {st : Store} {n k : Nat} {Q : D → Store → Prop} : wpx X (extF (.loc n) [.loc k] st) Q = (match st[n]?, st[k]? with | some (.lst xs), some (.lst ys) => xs.length + ys.length ≤ sizeLine ∧ Q (.val .none) (st.set n (.lst (xs ++ ys))) | _, _ => False) := by
  simp only [extF, dat]
  generalize st[n]? = a
  generalize st[k]? = b
  rcases a with _ | a
  · exact wp_D
  · rcases b with _ | b
    · cases a <;> first | rfl | exact wp_D
    · cases a <;> cases b <;> first | rfl | exact wp_D | simp
end B
namespace B
open PySem L2
/-- a loop whose turns leave everything as it was -/
theorem for_same {X : Ex → Store → Prop} {body : PyData → Env → M Fl} {Q : Fl → Store → Prop} {xs : List PyData} {env : Env} {st : Store}
    (h : ∀ x ∈ xs, wpx X (body x env st) (kL (fun e s => e = env ∧ s = st) Q)) (hd : Q (.nx env) st) : wpx X (forF body xs env st) Q := by
  refine wp_forF (I := fun _ e s => e = env ∧ s = st) _ _ _ ⟨rfl, rfl⟩ ?_ ?_
  · rintro i x _ _ hx ⟨rfl, rfl⟩
    exact h x (List.mem_of_getElem? hx)
  · rintro _ _ ⟨rfl, rfl⟩
    exact hd
/-- a comprehension over an object, whose test never holds -/
theorem lcO_none {g : D → Env → M Env} {ft : Env → M Bool} {fe : Env → M D} {env : Env} {Q : List PyData → Store → Prop} {st : Store} {xs : List PyData} {n m : Nat}
    (hst : st[n]? = some (.lst xs)) (hm : xs.length < m) (h : ∀ x ∈ xs, wpx noE (g (.val x) env st) fun e s => wpx noE (ft e s) fun b s' => b = false ∧ s' = st) (hd : Q [] st) :
    wpx noE (lcO g (lcIn ft fe) n env m 0 [] st) Q := by
  refine wp_lcO xs (fun _ acc s => acc = [] ∧ s = st) ?_ ?_ ?_ m 0 [] st ⟨rfl, rfl⟩ (by omega) (by omega)
  · rintro i acc s ⟨_, rfl⟩
    exact hst
  · rintro i x acc s hx ⟨rfl, rfl⟩
    refine wp_mono (h x (List.mem_of_getElem? hx)) fun e s he => ?_
    rw [e_lcIn, wp_bd]
    refine wp_mono he ?_
    rintro b s' ⟨rfl, rfl⟩
    simp
  · rintro acc s ⟨rfl, rfl⟩
    exact hd
end B
namespace B
open PySem PySem.W PySem.Calls PyProof.Rows L2
/-- an exception's own __init__(self, x, y): super().__init__(x, y); self.x = x; self.y = y -/
def bodyI2 (x y : Str) (p0 p1 p2 p3 p4 p5 p6 q1 q2 q3 q4 r1 r2 r3 r4 : Pos) : List Stmt :=
  [.Expr (.Call (.Attribute (.Call (.Name "super" p0) [] [] p1) "__init__" p2) [.Name x p3, .Name y p4] [] p5) p6,
   .Assign [.Attribute (.Name "self" q1) x q2] (.Name x q3) q4,
   .Assign [.Attribute (.Name "self" r1) y r2] (.Name y r3) r4]
/-- what the written part says of it -/
structure IniK (P : Program) (K : W.Frag) (C fI : Addr) (fd : FuncData) (body : List Stmt) (sc : Scope) (ps : List Str) : Prop where
  oex : OexC K C
  ex : ∃ (oc ct dV kV dc pm : Value) (od an : Option Addr) (nm qual : Str) (pms : Arguments) (cda cc : Addr) (osl : Array (Option Value)), fd = ksFn nm qual pms body sc dV kV dc pm an (.ref cda) ct cc ∧
    K.lookup fI = some ⟨oc, od, .func fd, osl⟩ ∧ codeIn K (.ref cda) qual = true ∧ (∃ (p : Arg), (pms.posonlyargs ++ pms.args).head? = some p ∧ p.arg = "self") ∧
    (∃ (cl : Value) (cld : Option Addr) (csl : Array (Option Value)), K.lookup cc = some ⟨cl, cld, .cell (some (.ref C)), csl⟩) ∧
    ∃ (ccl : Value) (cdd : Option Addr) (vs : Array Value) (ccs : Array (Option Value)) (file : Str) (tf : Tok), K.lookup cda = some ⟨ccl, cdd, .fields vs, ccs⟩ ∧ vs[2]? = some (.str file tf) ∧ ((P.main.file : Str) == file) = true
  mro : mroIn K C (.ref C) = some true
  sub : subIn K (.ref C) (.type "ValueError") = some true
  sup : ks_superIn K C C "__init__" = some (some (.builtin "ValueError.__init__"))
  opq : nsIn K cStatics "thirdparty.any" = some none
  top : (P.main.scope.names.lookup ("super" : Str)).isSome = false
  kS : sc.names.lookup ("super" : Str) = some .globalImplicit
  kC : sc.names.lookup ("__class__" : Str) = some .free
  kd : sc.kind = .function
  co : sc.isCoroutine = false
  gn : sc.isGenerator = false
  nc : ∀ x ∈ sc.names, x.2 ≠ .cell
  lo : ∀ x ∈ ps, sc.names.lookup x = some .local
theorem boot_super : bootBuiltins "super" = some (.type "super") := by decide +kernel
section
variable {P : Program} {w : World} {K : W.Frag} {mg : Str → Option Value} {base : Heap} {A : Around} {E : Value → Shared → Prop} {h : Heap} {g : Array GenState} {d : Drawn} {t : Nat} {os : OsState}
abbrev exOb (C : Addr) (dx : Option Addr) (t1 : Addr) : Obj := { cls := .ref C, dict := dx, data := .fields #[.ref t1, .none, .none, .none, .bool false, .none] }
theorem mwCalled {C e u t0 : Addr} {rest : List Value} {Q : Value → Shared → Prop} (T : OexC K C) (hX : K.In h) (he : h.get? e = some (exOb C none t0)) (hu : h.get? u = some (kxs_mw "ValueError.__init__" e)) (hl : rest.length ≤ sizeLine)
    (hq : ∀ h' t1, (∀ b o, b ≠ e → h.get? b = some o → h'.get? b = some o) → h'.get? e = some (exOb C none t1) → Q .none ⟨h', g, d, t, os⟩) : wpAny (model P w) A (call (.ref u) rest) Q E ⟨h, g, d, t, os⟩ := by
  obtain ⟨nm, q, N, bs, bm, sn, sub, ab, col, dd, k0, k1, k2, k3, k5, hC, hbm⟩ := T.cls
  refine wpAny_call (codeAny_of_tree ?_)
  show wpAny _ A.in1 (callAny (.ref u) ⟨rest, []⟩) _ _ _
  simp only [callAny]
  refine wpAny_bind (wpAny_load hu ?_)
  refine KFB.if_so (by show (Value.type "method-wrapper" == Value.type "method" || Value.type "method-wrapper" == Value.type "builtin_function_or_method" || Value.type "method-wrapper" == Value.type "method-wrapper") = true; decide) ?_
  refine wpAny_bind (check_bound_init PySem.F.excBase_ValueError.toExcCallFacts (hX _ _ hC) he rfl ?_)
  refine wpAny_bind (wpAny_pure (wpAny_pure ?_))
  refine ⟨plainId_quiet PySem.F.excBase_ValueError.init.plain _, codeAny_builtin PySem.F.excBase_ValueError.initEntry ?_⟩
  exact exc_init_tree (cls := .ref C) (t0 := t0) (dv := none) (c2 := .none) (c3 := .none) (b4 := .bool false) he hl fun h' k e' t' => hq h' _ k e'

/-- what is told of such an __init__: nothing but the two fields -/
def spI2 (C : Addr) (x y : Str) : Sp := fun vs H Q _ => ∃ (a : Addr) (u v : V), vs = [.ref a, u, v] ∧ H a = some (exo a C none) ∧
  ∀ dx, H dx = none → dx ≠ a → Q .non (upd (upd H dx (exd dx [(y, v), (x, u)])) a (exo a C (some dx)))
theorem iniOk2 {C fI : Addr} {fd : FuncData} {sc : Scope} {x y : Str} {CX : CXT} {p0 p1 p2 p3 p4 p5 p6 q1 q2 q3 q4 r1 r2 r3 r4 : Pos}
    (T : IniK P K C fI fd (bodyI2 x y p0 p1 p2 p3 p4 p5 p6 q1 q2 q3 q4 r1 r2 r3 r4) sc ["self", x, y]) (hm : mg "super" = none) (hxy : x ≠ y) (hx0 : x ≠ "self") (hy0 : y ≠ "self")
    (hx : findIn K (.ref C) x = some none) (hy : findIn K (.ref C) y = some none) (pl : PySem.Env → Sem Bool)
    (hev : ∀ env : PySem.Env, eval (.Call (.Attribute (.Call (.Name "super" p0) [] [] p1) "__init__" p2) [.Name x p3, .Name y p4] [] p5) env = (do
      let ov ← attributeBase (.Call (.Name "super" p0) [] [] p1) "__init__" env (eval (.Call (.Name "super" p0) [] [] p1) env)
      standAt p2.atName
      let (f, first) ← holding [ov] (getMethod ov "__init__" (pl env))
      callWith p5 f first (backTo p5 (starEach [.Name x p3, .Name y p4] env)) [])) (dx : (x == ("__debug__" : Str)) = false) (dy : (y == ("__debug__" : Str)) = false) : FnOk P w K mg base CX 1 fI fd ["self", x, y] (spI2 C x y) := by
  obtain ⟨oc, ct, dV, kV, dc, pm, od, an, nm, qual, pms, cda, cc, osl, rfl, lk, hcd, ⟨ar, har, ear⟩, ⟨cl, cld, csl, lcc⟩, ccl, cdd, vs0, ccs, file, tf, lcd, hvs, hfile⟩ := T.ex
  refine ⟨fun vs H Q E h => ?_, fun A outer s H args us vs Q E hr e0 hb r hsp => ?_⟩
  · obtain ⟨a, u, v, rfl, _⟩ := h; rfl
  obtain ⟨a, yu, yv, rfl, ea, hq⟩ := hsp
  match us, r with
  | [ua, uu, uv], .cons ra (.cons ru (.cons rv .nil)) =>
  obtain rfl : ua = Value.ref a := ra
  have KX : K.In s.heap := e0.mod.kin.keeps fun b o e => (e0.bs b o e).1
  have lm : s.heap.NoLimit := e0.mod.nolimit.keeps fun b o e => (e0.bs b o e).1
  obtain ⟨hp, g, d, t, os⟩ := s
  refine ks_codeAny_call_defAt (binds := List.zip ["self", x, y] [.ref a, uu, uv]) hr.depth (KX _ _ lk) rfl lm (codeRec_of KX hcd) rfl hb T.nc (fun z hz => T.lo _ (List.of_mem_zip hz).1) (fun h0 hns hk0 => ?_) T.co T.gn T.kd
  have K0 : K.In h0 := KX.keeps hk0
  have gl : h0.Ns mainGlobals mg := (e0.mod.glob.keeps fun b o e => (e0.bs b o e).1).keeps hk0
  obtain ⟨mb, hmb, hbt⟩ := e0.mod.blt
  have bl : h0.Ns builtinsNs mb := (hmb.keeps fun b o e => (e0.bs b o e).1).keeps hk0
  obtain ⟨t1, ho⟩ := exo_at e0.hok ea
  have i0 : InstAt h0 a (exOb C none t1) C none := ⟨hk0 _ _ ho, rfl, rfl, trivial⟩
  obtain ⟨cn, cq, cN, bs, bm, sn, sub, ab, col, dd, k0, k1, k2, k3, k5, hC, hbm⟩ := T.oex.cls
  have hcl : clsIn K C = some { name := cn, bases := bs, mro := .ref C :: bm, ns := cN, qualname := cq, hasDict := true, slotNames := sn, subclasses := sub, abstract := ab, collection := col, hasDel := false } := by unfold clsIn; rw [hC] <;> rfl
  have isL : ∀ z : Str, z ∈ (["self", x, y] : List Str) → sc.names.lookup z = some .local := T.lo
  have l0 : (List.zip (["self", x, y] : List Str) [Value.ref a, uu, uv]).reverse.lookup ar.arg = some (.ref a) := by
    rw [ear]
    simp [List.lookup, Ne.symm hx0, Ne.symm hy0, beq_eq_false_iff_ne.mpr (Ne.symm hx0), beq_eq_false_iff_ne.mpr (Ne.symm hy0)]
  have l1 : (List.zip (["self", x, y] : List Str) [Value.ref a, uu, uv]).reverse.lookup x = some uu := by
    simp [List.lookup, beq_eq_false_iff_ne.mpr hxy]
  have l2 : (List.zip (["self", x, y] : List Str) [Value.ref a, uu, uv]).reverse.lookup y = some uv := by
    simp [List.lookup]
  have hint : ∀ env : PySem.Env, env.scope.kind = .function → interactive env = false := fun env e => by unfold interactive; rw [e]; rfl
  refine ks_wpAt_execs_cons (ks_wpAt_Expr_any (hi := hint _ T.kd) (ks_wpAt_MethodCall (ks_wpAt_super_base T.kS T.kC rfl rfl (K0 _ _ lk) rfl har rfl (K0 _ _ lcd) rfl hvs hfile T.top ?_) (hev _)))
  refine ks_loadName_global T.kd T.kS (loadGlobal_builtin gl hm bl ((hbt _ (by decide +kernel)).trans boot_super) ⟨rfl, ?_⟩)
  refine wpAny_loadName_free T.kd T.kC rfl ⟨_, K0 _ _ lcc, rfl⟩ ?_
  refine wpAny_loadName_local T.kd (isL _ (by rw [ear]; simp)) hns l0 ?_
  refine ks_wpAny_isType_cls (K0 _ _ hC) rfl ⟨rfl, ?_⟩
  refine ks_wpAny_call_super (K0 _ _ hC) rfl i0.at_ i0.cls (fun c e => by cases e) (looks_mroIn K0 T.mro) fun h1 e1 kp1 => ?_
  have K1 := K0.keeps kp1
  have i1 : InstAt h1 a (exOb C none t1) C none := ⟨kp1 _ _ i0.at_, rfl, rfl, trivial⟩
  have hsup : alongIn K "__init__" (((Value.ref C :: bm).dropWhile (· != .ref C)).drop 1) = some (some (.builtin "ValueError.__init__")) := by
    have := T.sup
    unfold ks_superIn at this
    rw [hcl] at this
    exact this
  refine kxs_getMethod kxs_ValueError e1 (looks_opaque K1 T.opq) (l₀ := .ref C :: bm) (fun A Q E s k q => wpAny_bind ((looks_clsIn K1 hcl) A _ E s k (wpAny_pure q))) rfl K1 hsup (i1.type.andThen (looks_subIn K1 T.sub)) (ks_ne K1 i1 hcl) (by decide) ?_
  have hmw : (h1.push (kxs_mw "ValueError.__init__" a)).get? h1.objs.size = some (kxs_mw "ValueError.__init__" a) := Heap.get?_push_at rfl rfl
  have kp2 : ∀ b o, h0.get? b = some o → (h1.push (kxs_mw "ValueError.__init__" a)).get? b = some o := fun b o e => Heap.get?_push_of_some _ (kp1 b o e)
  have ns2 := hns.keeps kp2
  show wpAny _ _ (callWith p5 (.ref h1.objs.size) [] [(false, eval (.Name x p3) _), (false, eval (.Name y p4) _)] []) _ _ _
  refine kxs_callWith (i := "ValueError.__init__") (x := a) rfl (evalArgs_plain (spliced_cons (wpAny_Name (wpAny_loadName_local T.kd (isL x (by simp)) ns2 l1 (spliced_cons (wpAny_Name (wpAny_loadName_local T.kd (isL y (by simp)) ns2 l2 (spliced_nil ⟨hmw, ?_⟩)) dy))) dx)))
  refine mwCalled T.oex (K0.keeps kp2) (kp2 _ _ i0.at_) hmw (by show 2 ≤ sizeLine; rw [sizeLine_eq]; omega) fun h3 t3 kp3 e3 => ?_
  have aL : hp.objs.size ≠ a := Nat.ne_of_gt (Heap.lt_size ho)
  have nK : ∀ b o, K.lookup b = some o → b ≠ a := fun b o e z => by
    subst z
    have := (e0.bs _ _ (e0.mod.kin _ _ e)).2
    rw [ea] at this
    cases this
  have K3 : K.In h3 := fun b o e => kp3 b o (nK b o e) (kp2 b o (K0 b o e))
  obtain ⟨oL, esL, epL, eL, dL⟩ := hns
  have eL3 : h3.get? hp.objs.size = some oL := kp3 _ _ aL (kp2 _ _ eL)
  have hns3 : h3.Ns hp.objs.size fun z => (List.zip (["self", x, y] : List Str) [Value.ref a, uu, uv]).reverse.lookup z := ⟨oL, esL, epL, eL3, dL⟩
  have l0' : (List.zip (["self", x, y] : List Str) [Value.ref a, uu, uv]).reverse.lookup ("self" : Str) = some (Value.ref a) := ear ▸ l0
  refine ks_wpAt_execs_cons (ks_wpAt_Assign_Attr (wpAt_of_wpAny (wpAny_Name (wpAny_loadName_local T.kd (isL x (by simp)) hns3 l1 (wpAny_Name (wpAny_loadName_local T.kd (isL _ (by simp)) hns3 l0' ?_))) dx)))
  refine set_plain K3 (ox := exOb C none t3) (od := none) ⟨e3, rfl, rfl, trivial⟩ T.oex.sa ?_
  refine PySem.HandSPX.exc_osa K3 e3 hcl (show PySem.HandSPX.refsVE (.ref C :: bm) = true from hbm) rfl hx fun h4 tk4 xd kp4 dn dne e4 n4 => ?_
  have K4 : K.In h4 := fun b o e => kp4 b o (nK b o e) (K3 b o e)
  have eL4 : h4.get? hp.objs.size = some oL := kp4 _ _ aL eL3
  have hns4 : h4.Ns hp.objs.size fun z => (List.zip (["self", x, y] : List Str) [Value.ref a, uu, uv]).reverse.lookup z := ⟨oL, esL, epL, eL4, dL⟩
  have w4 : Within (fun z => if z = x then some uu else none) [x] := fun z hz => by
    by_cases e : z = x
    · rw [e]; simp
    · exact absurd (if_neg e) hz
  obtain ⟨oD, _, _, hoD, _, _⟩ := n4.count w4
  refine ks_wpAt_execs_cons (ks_wpAt_Assign_Attr (wpAt_of_wpAny (wpAny_Name (wpAny_loadName_local T.kd (isL y (by simp)) hns4 l2 (wpAny_Name (wpAny_loadName_local T.kd (isL _ (by simp)) hns4 l0' ?_))) dy)))
  refine set_plain K4 (ox := exOb C (some xd) t3) (od := some oD) ⟨e4, rfl, rfl, hoD⟩ T.oex.sa ?_
  refine PySem.OEX.osa_old K4 e4 n4 w4 (by show 1 ≤ 1000; omega) hcl (show PySem.HandSPX.refsVE (.ref C :: bm) = true from hbm) rfl hy fun h5 tk5 kp5 n5 => ?_
  show PySem.wpAt _ _ _ (execs [] _) _ _ _
  rw [execs_nil]
  refine wpAt_of_wpAny (wpAny_pure ?_)
  have kp : ∀ b o, b ≠ a → hp.get? b = some o → h5.get? b = some o := fun b o hb e => by
    have hd : b ≠ xd := Nat.ne_of_lt (Nat.lt_of_lt_of_le (Nat.lt_trans (Heap.lt_size e) (Heap.lt_size eL3)) dn)
    exact kp5 b o hd (kp4 b o hb (kp3 b o hb (kp2 b o (hk0 b o e))))
  have hdn : hp.objs.size ≤ xd := Nat.le_trans (Nat.le_of_lt (Heap.lt_size eL3)) dn
  have nd : H xd = none := e0.hok.fresh hdn
  have e5 : h5.get? a = some (exOb C (some xd) t3) := kp5 _ _ (Ne.symm dne) e4
  have na : ∀ {b : Addr}, H b = none → b ≠ a := fun {b} n z => by rw [z, ea] at n; cases n
  have nb : ∀ {b : Addr} {o : Obj}, hp.get? b = some o → b ≠ xd := fun {b o} q => Nat.ne_of_lt (Nat.lt_of_lt_of_le (Heap.lt_size q) hdn)
  refine ⟨.non, _, rfl, e0.bare, ⟨fun b o q n _ _ => kp b o (na n) q, fun b o q n _ _ => ⟨o.slots, kp b o (na n) q⟩, fun b o q n _ => by rw [upd_ne (na n), upd_ne (nb q)]; exact n, fun b o q _ => ?_, fun b xs q => ?_, fun b o v q => ?_, fun b ps q => ?_⟩, fun b o q => ?_, rfl, hq xd nd dne⟩
  · by_cases hb : b = a
    · exact ⟨_, by rw [hb]; exact e5⟩
    · exact ⟨o, kp b o hb q⟩
  · rw [upd_ne (at_ne ea q exo_tup), upd_ne (ne_of_none q nd)]; exact q
  · rw [upd_ne (at_ne ea q exo_frz), upd_ne (ne_of_none q nd)]; exact q
  · exact ⟨#[], by rw [upd_ne (at_ne ea q exo_tbl), upd_ne (ne_of_none q nd), q]; simp⟩
  · by_cases hb : b = a
    · subst hb
      rw [upd_same] at q
      cases q
      exact exo_ok e5
    · rw [upd_ne hb] at q
      by_cases hd : b = xd
      · subst hd
        rw [upd_same] at q
        cases q
        exact exd_ok n5 (relO_put rv (relO_put ru fun g => True.intro))
      · rw [upd_ne hd] at q
        refine (e0.hok b o q).stay (fun c v hc z => kp c v ?_ z) (fun c hc => by rw [upd_ne (at_ne ea hc exo_own), upd_ne (ne_of_none hc nd)]; exact hc) fun c xs hc => by rw [upd_ne (at_ne ea hc exo_tup), upd_ne (ne_of_none hc nd)]; exact hc
        rcases hc with hc | hc
        · rw [hc]; exact hb
        · exact at_ne ea hc exo_own
end

theorem iniOk {P : Program} {w : World} {K : W.Frag} {mg : Str → Option Value} {base : Heap} {C fI : Addr} {fd : FuncData} {st : Stmt} {x y : Str} {CX : CXT} {p0 p1 p2 p3 p4 p5 p6 q1 q2 q3 q4 r1 r2 r3 r4 : Pos}
    (T : IniK P K C fI fd (defBody st) (defScope st) ["self", x, y]) (bo : defBody st = bodyI2 x y p0 p1 p2 p3 p4 p5 p6 q1 q2 q3 q4 r1 r2 r3 r4) (hm : mg "super" = none) (hxy : x ≠ y) (hx0 : x ≠ "self") (hy0 : y ≠ "self")
    (hx : findIn K (.ref C) x = some none) (hy : findIn K (.ref C) y = some none) (pl : PySem.Env → Sem Bool)
    (hev : ∀ env : PySem.Env, eval (.Call (.Attribute (.Call (.Name "super" p0) [] [] p1) "__init__" p2) [.Name x p3, .Name y p4] [] p5) env = (do
      let ov ← attributeBase (.Call (.Name "super" p0) [] [] p1) "__init__" env (eval (.Call (.Name "super" p0) [] [] p1) env)
      standAt p2.atName
      let (f, first) ← holding [ov] (getMethod ov "__init__" (pl env))
      callWith p5 f first (backTo p5 (starEach [.Name x p3, .Name y p4] env)) [])) (dx : (x == ("__debug__" : Str)) = false) (dy : (y == ("__debug__" : Str)) = false) : FnOk P w K mg base CX 1 fI fd ["self", x, y] (spI2 C x y) :=
  iniOk2 (bo ▸ T) hm hxy hx0 hy0 hx hy pl hev dx dy
section
variable [Nm] [Gd]
variable {X : Cx} {E : XK}
/-- raise C(..) -/
def raiseS (cn : Str) (fs : List Str) (fr : B.Env → M (List D)) : B.Env → M Fl := fun env => bd (fr env) fun ds => fun st => if ds.length = fs.length then .exc (.own cn (fs.zip ds).reverse) st else .bad
/-- an own exception class with two fields -/
structure ExcAt (P : Program) (K : W.Frag) (mg : Str → Option Value) (cn : Str) (C fI : Addr) (fd : FuncData) (f1 f2 : Str) : Prop where
  g : mg cn = some (.ref C)
  oex : OexC K C
  iC : findIn K (.ref C) "__init__" = some (some (.ref fI))
  tI : typeIn K (.ref fI) = some (.type "function")
  b : L2.Binds K fd ["self", f1, f2] []
  ok : ∀ (w : World) (base : Heap) (CX : CXT), FnOk P w K mg base CX 1 fI fd ["self", f1, f2] (spI2 C f1 f2)
theorem ss_raise2 {cn f1 f2 : Str} {C fI : Addr} {fd : FuncData} {e1 e2 : Expr} {tr : TA} {fr : B.Env → M (List D)} {p p2 pos : Pos} (T : ExcAt X.prog X.K X.mg cn C fI fd f1 f2) (hC : Nm.cl cn = C) (hf : f1 ≠ f2)
    (tk : Takes X (fun cls d _ H => E cls d H)) (hr : Room 2 X.A) (ha : SA X E [e1, e2] tr fr) (hc : X.calm = true := by rfl) (hg : Gl X cn := by rfl) (hdb : (cn == ("__debug__" : Str)) = false := by decide)
    (he : starEach [e1, e2] X.env = (false, eval e1 X.env) :: starEach [e2] X.env := by rfl) (hpl : (backTo p2 (starEach [e2] X.env)).any (·.1) = false := by rfl) :
    SS X E (.Raise (some (.Call (.Name cn p) [e1, e2] [] p2)) none pos) (fun _ σ H => tMkO C (spI2 C f1 f2) [] tr σ H fun cls d H' => E cls d H') (raiseS cn [f1, f2] fr) := by
  refine ⟨ps_raise hc tk (pmk_oex T.oex T.iC T.tI (T.ok _ _ (L2.CX X.prog X.w)) hr T.b .nil (passes_call tk fun _ _ _ _ h => h.elim) hg T.g ha.pa hdb he hpl), fun w σ H env st Z s0 e0 hp => ?_⟩
  refine ha.rf.stepS s0 e0 hp fun w1 H1 st1 ds vs g1 s1 en1 q1 hp => ?_
  by_cases hl : ds.length = [f1, f2].length
  · match ds, vs, q1 with
    | [d1, d2], _, .cons r1 (.cons r2 .nil) =>
    rename_i v1 v2
    simp only [hl, if_true] at hp
    refine ⟨by show 2 ≤ 1000; omega, fun a na => ?_⟩
    refine ⟨a, _, _, rfl, upd_same, fun dx nx ne => ⟨rfl, dx, [(f2, v2), (f1, v1)], upd_same, by rw [upd_ne ne, upd_same], ?_, ?_⟩⟩
    · rw [upd_ne ne] at nx; exact nx
    · rw [upd_ne ne] at nx
      have eH : upd (del (upd (upd (upd H1 a (exo a C none)) dx (exd dx [(f2, v2), (f1, v1)])) a (exo a C (some dx))) a) dx (.xd [(f2, v2), (f1, v1)]) = upd H1 dx (.xd [(f2, v2), (f1, v1)]) := by
        funext b
        by_cases hb : b = dx
        · rw [hb, upd_same, upd_same]
        · rw [upd_ne hb, upd_ne hb]
          by_cases hb2 : b = a
          · rw [hb2, del_same, na]
          · rw [del_ne hb2, upd_ne hb2, upd_ne hb, upd_ne hb2]
      rw [eH]
      refine hp w1 _ (.ref C) (some dx) (Ge.new nx) (s1.new nx) ⟨by rw [hC], dx, _, rfl, upd_same, s1.notin nx, rfl, fun z => ?_⟩
      have m1 := r1.mono (Ge.new (w := w1) (o := .xd [(f2, v2), (f1, v1)]) nx)
      have m2 := r2.mono (Ge.new (w := w1) (o := .xd [(f2, v2), (f1, v1)]) nx)
      simp only [List.zip_cons_cons, List.zip_nil_right, List.reverse_cons, List.reverse_nil, List.nil_append, List.cons_append, List.lookup]
      by_cases z2 : z = f2
      · subst z2
        simp only [beq_self_eq_true]
        exact ⟨(fun d e => by cases e; exact ⟨_, rfl, m2⟩), (fun e => by cases e)⟩
      · rw [beq_eq_false_iff_ne.mpr z2]
        by_cases z1 : z = f1
        · subst z1
          simp only [beq_self_eq_true]
          exact ⟨(fun d e => by cases e; exact ⟨_, rfl, m1⟩), (fun e => by cases e)⟩
        · rw [beq_eq_false_iff_ne.mpr z1]
          exact ⟨(fun d e => by cases e), (fun _ => rfl)⟩
    | [], _, _ => exact absurd hl (by simp)
    | [_], _, _ => exact absurd hl (by simp)
    | _ :: _ :: _ :: _, _, _ => exact absurd hl (by simp)
  · simp only [hl, if_false] at hp
    exact hp.elim
end
end B
/-! BL20: lambdas that a def gets and calls. -/
namespace B
open PySem PySem.W PySem.Calls PyProof.Rows L2 LamX
section
variable {X : Cx} {pins : List (Addr × Obj)} {σ : L2.St} {H : Hp} {s : Shared}
/-- the lambda's function is made; all that is tracked goes on, tables may grow -/
theorem lamMade {T : List (Addr × Str)} {c P : Addr} {params : Arguments} {body : Expr} {scope : Scope} {pos : Pos} {E : Value → Shared → Prop} {Q : Value → Shared → Prop} (I : Inv X pins σ H s) (TB : TabB X.base X.mg c P) (hcode : X.env.code = .ref c)
    (hm : (P, X.env.qual ++ "<lambda>") ∈ T) (hu : ∀ p ∈ T, p.1 = P → p.2 = X.env.qual ++ "<lambda>") (hT : Tabs T H) (hdef : defaultsOf params X.env = ([], [])) (hfree : ∀ y ∈ scope.names, y.2 = .free → ∃ c, X.env.cells.lookup y.1 = some c)
    (h : ∀ (f c' : Addr) (pm ctv : Value) (H1 : Hp) (s' : Shared), Inv X pins σ H1 s' → ExtN H H1 → (∀ b o, H b = some o → ∃ o', H1 b = some o') → Tabs T H1 →
      s'.heap.get? f = some (kla_obj "<lambda>" (X.env.qual ++ "<lambda>") params body scope (cloFrom X.env.cells scope.names []) pm c' ctv) → H1 f = none → f ∉ frs X.stack → H1 c' = some (CodeO c' (X.env.qual ++ "<lambda>")) → Q (.ref f) s') :
    wpAny (model X.prog X.w) X.A (eval (.Lambda params body scope pos) X.env) Q E s := by
  obtain ⟨ps, hP, ht, ha⟩ := hT _ hm
  have bP : s.heap.BuiltinsAt X.mg P := TB.bm.keeps I.bk
  have oP : s.heap.get? P = some { cls := .none, data := .fields ps } := I.hok P _ hP
  have noFrame : ∀ f, s.heap.objs.size ≤ f → f ∉ frs X.stack := fun f hf z => by
    rcases List.mem_cons.mp (I.stkSub _ z) with e | e
    · have lt := I.lt
      rw [← e] at lt
      exact absurd (Nat.lt_of_lt_of_le lt hf) (Nat.lt_irrefl _)
    · exact I.nofs hf e
  refine kla_eval hdef ?_
  cases hc : codeAmong pos ps.toList with
  | some cv =>
    obtain ⟨c', rfl, hco⟩ := ha pos cv hc
    refine kla_makeFunctionHit (mg := X.mg) (c := c) (P := P) (ps := ps) (closure_ok hfree) I.ok.glob (I.mod.glob.keeps I.bk) hcode (TB.code.keeps I.bk) oP ht hc bP fun ctv h' tk hx hsz => ?_
    exact h h'.objs.size c' _ ctv H _ (I.kept fun b o e => Heap.get?_push_of_some _ (hx b o e)) (ExtN.refl H) (fun b o e => ⟨o, e⟩) hT (Heap.get?_push_size _ rfl) (I.hok.fresh hsz) (noFrame _ hsz) hco
  | none =>
    refine kla_makeFunction (mg := X.mg) (c := c) (P := P) (ps := ps) (closure_ok hfree) I.ok.glob (I.mod.glob.keeps I.bk) hcode (TB.code.keeps I.bk) oP ht hc TB.gP bP fun c' ctv h' tk hx hge hlt hrec htb => ?_
    obtain ⟨c2, oc, vs, t, ec, hoc, hd, hv⟩ := hrec
    cases ec
    have hsz : s.heap.objs.size ≤ h'.objs.size := Nat.le_trans hge (Nat.le_of_lt hlt)
    have nC : H c' = none := I.hok.fresh hge
    have J := inv_table (t' := tk) (more := #[rawInt pos.line, rawInt pos.col, .ref c']) (h' := h'.push (kla_obj "<lambda>" (X.env.qual ++ "<lambda>") params body scope (cloFrom X.env.cells scope.names []) ((X.mg "__name__").getD .none) c' ctv)) I hP
      (fun b o hb e => Heap.get?_push_of_some _ (hx b o hb e)) (Heap.get?_push_of_some _ htb) hge ⟨oc, vs, t, Heap.get?_push_of_some _ hoc, hd, hv⟩
    have eN : ExtN H (upd (upd H P (.tbl (ps ++ #[rawInt pos.line, rawInt pos.col, .ref c']))) c' (CodeO c' (X.env.qual ++ "<lambda>"))) := fun b o e n => by
      have nb : b ≠ P := fun z => by rw [z, hP] at e; exact n ps (Option.some.inj e).symm
      rw [upd_ne (ne_of_none e nC), upd_ne nb]
      exact e
    have eL : (ps ++ #[rawInt pos.line, rawInt pos.col, .ref c']).toList = ps.toList ++ [rawInt pos.line, rawInt pos.col, .ref c'] := by simp
    refine h h'.objs.size c' _ ctv _ _ J eN (fun b o e => ?_) (fun p hp => ?_) (Heap.get?_push_size _ rfl) ?_ (noFrame _ hsz) upd_same
    · by_cases hb : b = P
      · exact ⟨_, by rw [hb, upd_ne (ne_of_none hP nC), upd_same]⟩
      · exact ⟨o, by rw [upd_ne (ne_of_none e nC), upd_ne hb]; exact e⟩
    · by_cases hb : p.1 = P
      · rw [hu p hp hb, hb]
        refine ⟨_, by rw [upd_ne (ne_of_none hP nC), upd_same], by rw [eL]; exact PySem.TriplesOk_snoc _ _ _ _ ht, fun p' cv hcv => ?_⟩
        rw [eL] at hcv
        rcases among_app _ ht hcv with z | z
        · obtain ⟨c0, e1, e2⟩ := ha p' cv z
          exact ⟨c0, e1, eN _ _ e2 codeO_ne⟩
        · exact ⟨c', z, upd_same⟩
      · obtain ⟨qs, a1, a2, a3⟩ := hT p hp
        refine ⟨qs, by rw [upd_ne (ne_of_none a1 nC), upd_ne hb]; exact a1, a2, fun p' cv hcv => ?_⟩
        obtain ⟨c0, e1, e2⟩ := a3 p' cv hcv
        exact ⟨c0, e1, eN _ _ e2 codeO_ne⟩
    · rw [upd_ne (Nat.ne_of_gt hlt), upd_ne (Nat.ne_of_gt (Nat.lt_of_lt_of_le (Heap.lt_size oP) hsz))]
      exact I.hok.fresh hsz
/-- the context of the def that got the lambda -/
abbrev cxH (X : Cx) (Ng : List Str) (x : Str) (sg : Scope) (g : Addr) (cdg : Value) (s : Shared) (H : Hp) : Cx := cxOf C8.CX0 X.prog X.w X.K X.mg X.base Ng x sg g cdg X.A X.stack s H C8.E0
/-- a(), within a try of the def that got the lambda -/
theorem actPE {Ng : List Str} {qg : Str} {sg : Scope} {g f c' : Addr} {cdg pm ctv : Value} {params : Arguments} {body : Expr} {scope : Scope} {k i : Nat} {a : Str} {pn : List (Addr × Obj)} {xe : Value → Shared → Prop} {W : WX} {tb : XK → TE} {p1 p2 : Pos}
    (I : Inv X pins σ H s) (L : LamS X.env.scope scope) (hf : s.heap.get? f = some (kla_obj "<lambda>" (X.env.qual ++ "<lambda>") params body scope (cloFrom X.env.cells scope.names []) pm c' ctv)) (hfn : H f = none) (hfr : f ∉ frs X.stack)
    (hbind : bindArgs (kla_fn "<lambda>" (X.env.qual ++ "<lambda>") params body scope (cloFrom X.env.cells scope.names []) pm (.ref c') ctv) ⟨[], []⟩ = pure [])
    (tk : Takes ((cxH X Ng qg sg g cdg s H).tr pn xe) W) (hr : Room (k + 1) (X.A.deeper (envOfC qg sg s.heap.objs.size g cdg))) (hG : X.A.guards = some [])
    (hbody : ∀ (A : Around) (outer : List PySem.Env) (s : Shared) (H : Hp) (E : XK), Room k (A.deeper (lamEnv X scope s.heap.objs.size f c')) → A.guards = some [] → PE (lamCx X A outer s H E scope f c') body (tb E))
    (hN : Ng[i]? = some a) (hv : Vis sg a) (hd : (a == ("__debug__" : Str)) = false) (hcd : (a == ("__classdict__" : Str)) = false) :
    PE ((cxH X Ng qg sg g cdg s H).tr pn xe) (.Call (.Name a p1) [] [] p2)
      (fun σZ HZ Q => σZ[i]? = some (some (.ref f)) ∧ HZ c' = some (CodeO c' (X.env.qual ++ "<lambda>")) ∧ tb (fun cls d H' => W cls d σZ H') σ HZ Q) := by
  refine ⟨fun pinsZ sZ σZ HZ Q IZ h => ?_⟩
  obtain ⟨hs, hc, ht⟩ := h
  refine wpAny_Call_Name_kw (thn ((pe_var (pos := p1) (i := i) hN hv hd hcd).run pinsZ sZ σZ HZ (fun v H1 => v = .ref f ∧ H1 = HZ) IZ ⟨.ref f, hs, rfl, rfl⟩) fun u s1 hz => ?_)
  obtain ⟨v, H1, J1, r1, rfl, rfl⟩ := hz
  obtain rfl : u = Value.ref f := r1
  have f1 : s1.heap.get? f = some (kla_obj "<lambda>" (X.env.qual ++ "<lambda>") params body scope (cloFrom X.env.cells scope.names []) pm c' ctv) := J1.base.keep f _ hf hfn hfr (fun z => nomatch (show f ∈ ([] : List Addr) from z))
  refine callWith_F0 ⟨_, _, _, _, f1⟩ ?_
  have un : Un (frs X.stack) [] H H1 s.heap s1.heap := J1.base
  obtain ⟨⟨oc, vs, t, hoc, hdc, hvc⟩, _, _⟩ := J1.hok c' _ hc
  have rc : codeAny (model X.prog X.w) (X.A.deeper (envOfC qg sg s.heap.objs.size g cdg)) (.call (.ref f) ⟨[], []⟩) (CR (L2.CX X.prog X.w) (envOfC qg sg s.heap.objs.size g cdg :: X.stack) X.prog X.w H1 s1 Q (fun cls d H' => W cls d σZ H')) s1 := by
    refine kla_callFunE hr.depth f1 rfl L.co L.gen rfl ⟨c', oc, vs, t, rfl, hoc, hdc, hvc⟩ ?_
    rw [hbind]
    refine wpAny_pure (wpAny_newFunctionEnv (fun y hy => (L.own y hy).2) (fun y hy => absurd hy (by simp)) (fun h1 hns hsb => ⟨J1.nolimit.fresh _ hsb, ?_⟩) L.kind)
    show codeAny _ _ (.expr body (lamEnv X scope s1.heap.objs.size f c')) _ _
    have kp : ∀ b o, s1.heap.get? b = some o → h1.get? b = some o := fun b o e => hsb.extBut b o (Nat.ne_of_lt (Heap.lt_size e)) (Heap.get?_push_of_some _ e)
    have J : Inv (lamCx X (X.A.deeper (envOfC qg sg s.heap.objs.size g cdg)) (envOfC qg sg s.heap.objs.size g cdg :: X.stack) s1 H1 (fun cls d H' => W cls d σZ H') scope f c') [] σ H1 { s1 with heap := h1, toks := s1.toks + ([] : List (Str × Value)).length } :=
      lam_start2 I L J1.env0 hr.hd un hns kp
    refine kla_codeExpr (wpAny_mono ((hbody _ _ s1 H1 _ (hr.deeper _) hG).run [] _ _ H1 Q J ht) (fun v s' hq => ?_) fun e s' hq => hq)
    obtain ⟨w', H', J', rv, q⟩ := hq
    exact ⟨w', H', J'.os, J'.bare, J'.base, J'.hok, rv, q⟩
  refine wpAny_call (codeAny_mono rc fun r s' hq => ?_)
  cases r with
  | error e => exact passAt tk σZ pinsZ H1 s1 e s' J1 hq
  | ok fl => cases fl with
    | ret u => exact J1.after hq
    | next => exact False.elim hq
    | brk => exact False.elim hq
    | cont => exact False.elim hq
end
section
variable [Nm] [Gd]
variable {X : Cx}
/-- the def x(a) does mh of what a does -/
def Hears (X : Cx) (Ng : List Str) (x : Str) (sg : Scope) (g : Addr) (cdg : Value) (bg : List Stmt) (a q : Str) (k : Nat) (mh : M D → M D) : Prop :=
  ∀ (f c' : Addr) (s : Shared) (H : Hp) (Q : VK) (tl : XK → Hp → VK → Prop) (w : Wd) (st : Store) (m : M D), Room k (X.A.deeper (envOfC x sg s.heap.objs.size g cdg)) →
    (∀ (W : WX) (pn : List (Addr × Obj)) (xe : Value → Shared → Prop) (p1 p2 : Pos), Takes ((cxH X Ng x sg g cdg s H).tr pn xe) W →
      PE ((cxH X Ng x sg g cdg s H).tr pn xe) (.Call (.Name a p1) [] [] p2) (fun σZ HZ Q => σZ[0]? = some (some (.ref f)) ∧ HZ c' = some (CodeO c' q) ∧ tl (fun cls d H' => W cls d σZ H') HZ Q)) →
    H c' = some (CodeO c' q) → RelSt X.K w H st → (∀ (E : XK) (w' : Wd) (H' : Hp) (st' : Store) (Q' : VK), Ge w H w' H' → RelSt X.K w' H' st' → Post X.K E (RE X.K) w' H' (m st') Q' → tl E H' Q') →
    Post X.K C8.E0 (RE X.K) w H (mh m st) Q →
    ∃ t, PSs (cxH X Ng x sg g cdg s H).nox bg t ∧ t { nx := fun _ H' => Q .non H', rt := Q } (L2.start Ng [.ref f]) H
def lamF (mh : M D → M D) (fb : B.Env → M D) : B.Env → M D := fun env => noX (mh (fb env))
/-- x(lambda: body) -/
theorem se_lam {K : W.Frag} {E : XK} {mh : M D → M D} {x a : Str} {g c P : Addr} {k kh : Nat} {pg : Arguments} {bg : List Stmt} {sg : Scope} {dV kV doc pm cdv ct oc : Value} {an od : Option Addr} {osl : Array (Option Value)} {Ng : List Str}
    {params : Arguments} {body : Expr} {scope : Scope} {t : XK → TE} {fb : B.Env → M D} {p lpos pos : Pos} (hm : X.mg x = some (.ref g)) (hk : keepIn X.K (.ref g) = true)
    (lk : X.K.lookup g = some ⟨oc, od, .func (PySem.W.fnOf x x pg bg sg dV kV doc pm an cdv ct), osl⟩) (hcg : codeIn X.K cdv x = true) (hb : L2.Binds X.K (PySem.W.fnOf x x pg bg sg dV kV doc pm an cdv ct) [a] []) (Sg : FnScope Ng [a] sg) (hNg : Ng[0]? = some a) (hva : Vis sg a)
    (hG : Hears X Ng x sg g cdv bg a (X.env.qual ++ "<lambda>") kh mh) (hkh : kh ≤ k + 1)
    (TB : TabB X.base X.mg c P) (hcode : X.env.code = .ref c) (hmT : (P, X.env.qual ++ "<lambda>") ∈ Nm.tb) (hu : ∀ p ∈ Nm.tb, p.1 = P → p.2 = X.env.qual ++ "<lambda>") (hr : Room (k + 2) X.A) (hGu : X.A.guards = some []) (L : LamS X.env.scope scope) (hdef : defaultsOf params X.env = ([], []))
    (hbind : ∀ (q : Str) (cl : List (Str × Addr)) (pm cv ctv : Value), bindArgs (kla_fn "<lambda>" q params body scope cl pm cv ctv) ⟨[], []⟩ = pure [])
    (hbody : ∀ (A : Around) (outer : List PySem.Env) (s : Shared) (H : Hp) (E : XK) (f c' : Addr), Room k (A.deeper (lamEnv X scope s.heap.objs.size f c')) → A.guards = some [] → SE (lamCx X A outer s H E scope f c') E body (t E) fb)
    (hK : X.K = K := by rfl) (hg : Gl X x := by rfl) (hdb : (x == ("__debug__" : Str)) = false := by decide) (hd : (a == ("__debug__" : Str)) = false := by decide) (hcd : (a == ("__classdict__" : Str)) = false := by decide) :
    SE X E (.Call (.Name x p) [.Lambda params body scope lpos] [] pos) (fun σ H Q => ∃ (w : Wd) (st : Store) (m : M D), RelSt X.K w H st ∧ (∀ (E : XK) (w' : Wd) (H' : Hp) (st' : Store) (Q' : VK), Ge w H w' H' → RelSt X.K w' H' st' → Post X.K E (RE X.K) w' H' (m st') Q' → t E σ H' Q') ∧ Post X.K C8.E0 (RE X.K) w H (mh m st) Q) (lamF mh fb) := by
  have hbr : ∀ E : XK, Rf X.K E (RE X.K) (t E) fb := fun E => (hbody X.A X.outer X.s_0 (fun _ => none) E 0 0 ((hr.deeper _).mono (by omega)) hGu).rf
  refine ⟨⟨fun pins s σ H Q I h => ?_⟩, fun w σ H env st Q s0 e0 hp => ?_⟩
  · obtain ⟨w, st, m, s0, hT, hp⟩ := h
    refine wpAny_Call_Name_kw (ld_glob I hg hm ?_ hdb)
    refine callWith_K (h₀ := X.base) I.ok.mod.kin hk ?_ (by rfl) (by rfl)
    show wpAny _ _ (spliced ((false, eval (.Lambda params body scope lpos) X.env) :: backTo pos (starEach [] X.env))) _ _ s
    refine spliced_cons (lamMade I TB hcode hmT hu s0.tab hdef (L.has I.ok) fun f c' pm' ctv H1 s' I1 eN eT T1 hf hfn hfr hco => ?_)
    refine spliced_nil ⟨I1.kIn, ?_⟩
    have g1 : Ge w H w H1 := ⟨⟨[], by simp, rfl, fun _ h => by simp at h⟩, fun b o t _ e => eN b o e t, fun b o _ e => eT b o e⟩
    have s1 : RelSt X.K w H1 st := ⟨s0.len, s0.nd, fun b hb => let ⟨o, e⟩ := s0.trk b hb; eT b o e, s0.nde, fun n o b h1 h2 => (s0.obj n o b h1 h2).mono g1 (by
      obtain ⟨u, e, n1, _⟩ := s0.kind (List.mem_of_getElem? h2)
      rw [e]
      exact eN b u e n1), T1, Gd.sb g1.sb s0.inv⟩
    have rc : codeAny (model X.prog X.w) X.A (.call (.ref g) ⟨[.ref f], []⟩) (CR C8.CX0 X.stack X.prog X.w H1 s' Q C8.E0) s' := by
      refine run_ofS (N := Ng) (ps := [a]) (us := [.ref f]) (vs := [.ref f]) lk hcg Sg hr I1.env0 (hb s' [.ref f] I1.kIn rfl) (.cons rfl .nil) rfl fun hr' => ?_
      obtain ⟨t', ht', hq'⟩ := hG f c' s' H1 Q (fun E H' Q' => t E σ H' Q') w st m (hr'.mono hkh) (fun W pn xe p1 p2 tk => actPE (i := 0) (tb := t) I1 L hf hfn hfr (hbind _ _ _ _ _) tk hr' hGu (fun A outer s H E hr2 hg2 => (hbody A outer s H E f c' hr2 hg2).pe) hNg hva hd hcd) hco s1
        (fun E w' H' st' Q' g s q => hT E w' H' st' Q' (g1.trans g) s q) (hp.mono g1)
      exact ⟨t', ht'.nox, hq'⟩
    refine wpAny_call (codeAny_mono rc fun r s2 hq => ?_)
    cases r with
    | error e => exact (show False from hq).elim
    | ok fl => cases fl with
      | ret u => exact I1.after hq
      | next => exact False.elim hq
      | brk => exact False.elim hq
      | cont => exact False.elim hq
  · refine ⟨w, st, fb env, s0, fun E w' H' st' Q' g s q => hbr E w' σ H' env st' Q' s (e0.mono g) q, ?_⟩
    unfold lamF at hp
    cases hf : mh (fb env) st with
    | ok a st' => rw [noX_ok hf] at hp; exact hp
    | exc e st' => rw [noX_exc hf] at hp; exact hp.elim
    | bad => rw [noX_bad hf] at hp; exact hp.elim
end
end B
/-! BL21: try: return ('told', ask()) / except C as e: suite. -/
namespace B
open PySem PySem.W PySem.Calls PyProof.Rows L2 LamX
def notErr : D → Bool
  | .err => false
  | _ => true
/-- no instance holds the exception in hand -/
def errFree (st : Store) : Bool := st.all fun o => match o with
  | .ins _ fs => fs.all fun p => notErr p.2
  | _ => true
theorem RpD.conv [nm : Nm] {g1 g2 : Gd} {K : W.Frag} {w : Wd} {H : Hp} {d : D} {v : V} (hd : notErr d = true) (r : @RpD nm g1 K w H d v) : @RpD nm g2 K w H d v := by
  cases d with
  | err => cases hd
  | _ => exact r
theorem RelSt.conv [nm : Nm] {g1 g2 : Gd} {K : W.Frag} {w : Wd} {H : Hp} {st : Store} (he : errFree st = true) (hG : g2.G w H) (h : @RelSt nm g1 K w H st) : @RelSt nm g2 K w H st := by
  obtain ⟨h1, h2, h3, h4, h5, h6, _⟩ := h
  refine @RelSt.mk nm g2 K w H st h1 h2 h3 h4 (fun n o a e1 e2 => ?_) h6 hG
  have ho := h5 n o a e1 e2
  cases o with
  | lst xs => exact ho
  | dk xs => exact ho
  | dt xs => exact ho
  | lr xs => exact ho
  | dr xs => exact ho
  | ins C fs =>
    obtain ⟨dx, gs, e, r1, r2⟩ := ho
    have hf : fs.all (fun p => notErr p.2) = true := List.all_eq_true.mp he _ (List.mem_of_getElem? e1)
    refine ⟨dx, gs, e, r1, fun x => ⟨fun d hd => ?_, (r2 x).2⟩⟩
    obtain ⟨v, ev, rv⟩ := (r2 x).1 d hd
    obtain ⟨y, hy⟩ := lookup_mem hd
    exact ⟨v, ev, RpD.conv (List.all_eq_true.mp hf _ hy) rv⟩
/-- the exception in hand, told by what holds meanwhile -/
structure ErrIn [Nm] (gd : Gd) (K : W.Frag) (a dx : Addr) (fs : List (Str × D)) (oe : Obj) (C : Str) : Prop where
  xv : ∀ v, gd.xv v → v = .ref a
  G : ∀ w H, gd.G w H → ∃ gs, H dx = some (.xd gs) ∧ ∀ f p, fs.lookup f = some (.val p) → ∃ v, gs.lookup f = some v ∧ Rp K w H p v
  hz : Zc (.ref (Nm.cl C)) (some dx) oe
  hf : ∃ vs, oe.data = .fields vs
@[reducible] def gdX [Nm] (gd : Gd) (K : W.Frag) (a dx : Addr) (gs : List (Str × V)) (fs : List (Str × D)) : Gd where
  G := fun w H => gd.G w H ∧ (dx ∉ w.bn ∧ H dx = some (.xd gs)) ∧ ∀ f p, fs.lookup f = some (.val p) → ∃ v, gs.lookup f = some v ∧ Rp K w H p v
  xv := fun v => v = .ref a
  sb := fun s h => ⟨gd.sb s h.1, s _ _ (fun _ z => by cases z) h.2.1.1 h.2.1.2, fun f p e => let ⟨v, e1, r⟩ := h.2.2 f p e; ⟨v, e1, Rp.sb s r⟩⟩
/-- what such a def does with what it calls -/
def heardM (told : Str) (i n : Nat) (caught : List Str) (hand : Str → List (Str × D) → B.Env → M Fl) (ask : M D) : M D := fun st => match ask st with
  | .ok (.val p) st' => .ok (.val (.tuple [.str told, p])) st'
  | .exc (.own C fs) st' => if C ∈ caught ∧ errFree st' = true then (match hand C fs ((List.replicate n none).set i (some .err)) st' with
    | .ok (.rt (.val p)) st2 => if errFree (st2.take st'.length) = true ∧ stOk st'.length (st2.take st'.length) = true then .ok (.val p) (st2.take st'.length) else .bad
    | _ => .bad) else .bad
  | _ => .bad
section
variable [nm : Nm] [gd : Gd]
variable {X : Cx}
theorem hears_try {Ng : List Str} {x n a q told xc : Str} {sg : Scope} {g CX : Addr} {cdg : Value} {i k : Nat} {caught : List Str} {hand : Str → List (Str × D) → B.Env → M Fl} {b0 : Stmt} {suite : List Stmt} {j kt : Nat} {p1 p2 p3 p4 p5 p6 p7 p8 : Pos}
    (hN : Ng.Nodup) (hi : Ng[i]? = some n) (hi0 : i ≠ 0) (hln : sg.names.lookup n = some .local) (hgl : sg.names.lookup xc = some .globalImplicit) (hmx : X.mg xc = some (.ref CX)) (hde : (xc == ("__debug__" : Str)) = false)
    (hexm : ∀ C ∈ caught, exmOne X.K (.ref (Nm.cl C)) (.ref CX) = some true) (h0 : Ng.length ≠ 0)
    (hsu : ∀ C ∈ caught, ∀ (fs : List (Str × D)) (gd' : Gd) (e dx : Addr) (oe : Obj) (pn : List (Addr × Obj)) (s : Shared) (H : Hp), Room k (X.A.deeper (envOfC x sg s.heap.objs.size g cdg)) → @ErrIn nm gd' X.K e dx fs oe C → ∃ t, @SSs nm gd' ((cxH X Ng x sg g cdg s H).nox.suite e ((e, oe) :: pn)) C8.E0 (b0 :: suite) t (hand C fs)) :
    Hears X Ng x sg g cdg [.Try [.Return (some (.Tuple [.Constant (.str told) j p1, .Call (.Name a p2) [] [] p3] kt p4)) p5] [.ExceptHandler (some (.Name xc p6)) (some n) (b0 :: suite) p7] [] [] p8] a q k (heardM told i Ng.length caught hand) := by
  intro f c' s H Q tl w st m hr act hco s0 hT hp
  refine ⟨_, pss_one (ps_try_as (X := (cxH X Ng x sg g cdg s H).nox) (i := i) (c := .ref CX)
    (tb := fun W => tRet (tTup (tCons (tC (.str told)) (tCons (fun σZ HZ Q => σZ[0]? = some (some (.ref f)) ∧ HZ c' = some (CodeO c' q) ∧ tl (fun cls d H' => W cls d σZ H') HZ Q) tNil))))
    (ts := fun e cls d D σ H1 => ∀ (oe : Obj) (pn : List (Addr × Obj)), Zc cls d oe → (∃ vs, oe.data = .fields vs) → ∃ t, PSs ((cxH X Ng x sg g cdg s H).nox.suite e ((e, oe) :: pn)) (b0 :: suite) t ∧ t D σ H1)
    rfl rfl hN hi hln ⟨hgl, hde, .inl hmx⟩ LamX.takes0 (fun W pn xe tk _ => pss_one (ps_ret (pe_tup (pa_cons pe_str (pa_cons (act W pn xe p2 p3 tk) pa_nil))))) (fun e oe cls d pn hz hf => ⟨fun pins s' σ H' D I h => ?_⟩)), ?_⟩
  · obtain ⟨t, ht, hq⟩ := h oe pn hz hf
    exact ht.run pins s' σ H' D I hq
  · have hl0 : (L2.start Ng [V.ref f])[0]? = some (some (V.ref f)) := by
      unfold L2.start
      simp
    refine ⟨hl0, hco, ?_⟩
    refine hT _ w H st _ (Ge.refl _ _) s0 ?_
    unfold heardM at hp
    cases hm : m st with
    | bad => rw [hm] at hp; exact hp.elim
    | ok d st' =>
      rw [hm] at hp
      cases d with
      | val p =>
        intro w' H' v g1 s1 r
        refine ⟨by show 2 ≤ sizeLine; decide, fun ad na => ?_⟩
        have hp' : Post X.K C8.E0 (RE X.K) w H (.ok (.val (.tuple [.str told, p])) st') Q := hp
        exact hp' w' _ _ (g1.trans (Ge.new na)) (s1.new na) (Rp.newTup (s1.notin na) (.cons (.str told) (.cons r .nil)) na)
      | _ => exact hp.elim
    | exc ex st' =>
      rw [hm] at hp
      obtain ⟨C, fs⟩ := ex
      intro w' H' c dx g1 s1 rx
      obtain ⟨ec, d, gs, rfl, hd, nd, rF⟩ := rx
      subst ec
      by_cases hC : C ∈ caught ∧ errFree st' = true
      · simp only [hC, and_self, if_true] at hp
        refine ⟨true, hexm C hC.1, fun _ e ne oe pn hz hf => ?_, fun z => nomatch z⟩
        have hG : (gdX gd X.K e d gs fs).G w' H' := ⟨s1.inv, ⟨nd, hd⟩, fun f p ef => let ⟨v, e1, r⟩ := (rF.2 f).1 _ ef; ⟨v, e1, r⟩⟩
        obtain ⟨t, sd⟩ := hsu C hC.1 fs (gdX gd X.K e d gs fs) e d oe pn s H hr ⟨fun v h => h, fun w H h => ⟨gs, h.2.1.2, h.2.2⟩, hz, hf⟩
        have s1' : @RelSt nm (gdX gd X.K e d gs fs) X.K w' H' st' := RelSt.conv (g1 := gd) hC.2 hG s1
        obtain ⟨sp1, sr1⟩ := sd
        refine ⟨t, sp1, sr1 w' _ H' ((List.replicate Ng.length none).set i (some .err)) st' _ s1' (@RelEnv.mk nm (gdX gd X.K e d gs fs) X.K w' H' _ _ (by simp [L2.start]; omega) fun l dd el => ?_) ?_⟩
        · have hlt : l < Ng.length := by
            have := (List.getElem?_eq_some_iff.mp el).1
            simpa using this
          by_cases hl : l = i
          · subst hl
            rw [List.getElem?_set_self (by simpa using hlt)] at el
            cases el
            refine ⟨.ref e, ?_, rfl⟩
            rw [List.getElem?_set_self (by simp [L2.start]; omega)]
          · rw [List.getElem?_set_ne (Ne.symm hl), List.getElem?_replicate] at el
            simp [hlt] at el
        · cases hh : hand C fs ((List.replicate Ng.length none).set i (some .err)) st' with
          | bad => rw [hh] at hp; exact hp.elim
          | exc _ _ => rw [hh] at hp; exact hp.elim
          | ok fl st2 =>
            rw [hh] at hp
            cases fl with
            | rt dv =>
              cases dv with
              | val p =>
                by_cases hE : errFree (st2.take st'.length) = true ∧ stOk st'.length (st2.take st'.length) = true
                · simp only [hE, and_self, if_true] at hp
                  intro w2 H2 v g2 s2 r2
                  obtain ⟨s3, g3, sb, _⟩ := @RelSt.cut nm (gdX gd X.K e d gs fs) _ _ _ _ _ _ _ s1' g2 s2 hE.2
                  have i3 := (@RelSt.inv nm (gdX gd X.K e d gs fs) _ _ _ _ s3).1
                  exact hp w' H2 v (g1.trans g3) (RelSt.conv (g1 := gdX gd X.K e d gs fs) hE.1 i3 s3) (Rp.sb sb r2)
                · simp only [hE, if_false] at hp
                  exact hp.elim
              | _ => exact hp.elim
            | _ => exact hp.elim
      · simp only [hC, if_false] at hp
        exact hp.elim
end
end B
/-! BL22: what an except suite asks of the exception in hand. -/
namespace B
open PySem PySem.W PySem.Calls PyProof.Rows L2 LamX
/-- isinstance(e, c) -/
def rIsX (K : W.Frag) (D a dx : Addr) : List V → Hp → VK → Prop := fun xs H Q => ∃ (c : V) (cv : Value) (b : Bool) (gs : List (Str × V)), xs = [.ref a, c] ∧ H dx = some (.xd gs) ∧ (∀ u, L2.RelV c u → u = cv) ∧ kitOne K (.ref D) cv = some b ∧ Q (.bl b) H
theorem call_isX {X : Cx} {a D dx : Addr} {oe : Obj} {pn : List (Addr × Obj)} (C : ExcC X.K D) (hz : Zc (.ref D) (some dx) oe) (hf : ∃ vs, oe.data = .fields vs) : CallR (X.suite a ((a, oe) :: pn)) (.builtin "isinstance") (rIsX X.K D a dx) := by
  intro pins s σ H xs us Q I r h
  obtain ⟨c, cv, b, gs, rfl, hdx, hcv, e, q⟩ := h
  match us, r with
  | [ua, uc], .cons ra (.cons rc .nil) =>
  obtain rfl : ua = Value.ref a := ra
  obtain rfl := hcv _ rc
  obtain ⟨hget, _⟩ := I.pin (a, oe) (List.mem_append.mpr (.inl List.mem_cons_self))
  obtain ⟨vs, hv⟩ := hf
  have hx : ObjOk X.prog X.w H s.heap dx (.xd gs) := I.hok dx _ hdx
  obtain ⟨mA, hns, _⟩ := hx
  obtain ⟨od, ho, _⟩ := lookIn_ns hns
  have J : InstAt s.heap a oe D (some od) := ⟨hget, hz.1, by unfold notCls; rw [hv] <;> rfl, by rw [hz.2]; exact ho⟩
  obtain ⟨cd, hc, _⟩ := any_some C.hd
  exact kia_one (kitx_exc (od := some od) (by rw [hc]; rfl) C.hg C.hk C.hs C.ha C.hn C.ht C.hm) I.kIn J e (fun z => nomatch z) fun tk => ⟨.bl b, H, I.kept (t' := tk) fun _ _ z => z, rfl, q⟩
section
variable [nm : Nm] [gd : Gd]
variable {X : Cx} {E : XK}
def isErr (i : Nat) (b : Bool) : B.Env → M D := fun env => bd (gv i env) fun d => match d with
  | .err => rt (.val (.bool b))
  | _ => bad
theorem se_isErr {a dx Ca : Addr} {oe : Obj} {pn : List (Addr × Obj)} {fs : List (Str × D)} {C n cn : Str} {i : Nat} {b : Bool} {p p1 p2 pos : Pos} (T : ErrIn gd X.K a dx fs oe C) (K1 : ExcC X.K (Nm.cl C)) (hk : kitOne X.K (.ref (Nm.cl C)) (.ref Ca) = some b)
    (hm : X.mg "isinstance" = none) (hmc : X.mg cn = some (.ref Ca)) (hN : X.N[i]? = some n) (hg : Gl X "isinstance") (hgc : Gl X cn)
    (he : SE (X.suite a ((a, oe) :: pn)) E (.Name n p1) (tVar i) (gv i)) (hdc : (cn == ("__debug__" : Str)) = false := by decide) :
    SE (X.suite a ((a, oe) :: pn)) E (.Call (.Name "isinstance" p) [.Name n p1, .Name cn p2] [] pos) (tCB (rIsX X.K (Nm.cl C) a dx) (tCons (tVar i) (tCons (tC (.ref Ca)) tNil))) (isErr i b) := by
  refine ⟨pe_callB (call_isX K1 T.hz T.hf) hg hm (by decide +kernel) (pa_cons he.pe (pa_cons (pe_glob (X := X.suite a ((a, oe) :: pn)) hgc hmc rfl hdc) pa_nil)) (by decide) (by decide) rfl rfl, fun w σ H env st Q s0 e0 hp => ?_⟩
  unfold isErr at hp
  refine he.rf.step s0 e0 hp fun w1 H1 st1 d v g1 s1 e1 q1 hp => ?_
  cases d with
  | err =>
    obtain rfl := T.xv v q1
    obtain ⟨gs, hgs, _⟩ := T.G w1 H1 s1.inv
    exact ⟨_, .ref Ca, b, gs, rfl, hgs, fun u r => by cases r; rfl, hk, Post.now hp s1 (.bl b)⟩
  | _ => exact hp.elim
def errF (i : Nat) (fs : List (Str × D)) (f : Str) : B.Env → M D := fun env => bd (gv i env) fun d => match d with
  | .err => (match fs.lookup f with
    | some (.val p) => rt (.val p)
    | _ => bad)
  | _ => bad
theorem se_errF {a dx : Addr} {oe : Obj} {pn : List (Addr × Obj)} {fs : List (Str × D)} {C n f : Str} {i : Nat} {p1 pos : Pos} (T : ErrIn gd X.K a dx fs oe C) (K1 : XfC X.K (Nm.cl C)) (hno : findIn X.K (.ref (Nm.cl C)) f = some none)
    (he : SE (X.suite a ((a, oe) :: pn)) E (.Name n p1) (tVar i) (gv i)) (hb : attributeBase (.Name n p1) f X.env (eval (.Name n p1) X.env) = eval (.Name n p1) X.env := by rfl) :
    SE (X.suite a ((a, oe) :: pn)) E (.Attribute (.Name n p1) f pos) (tXf a (.ref (Nm.cl C)) (some dx) (Nm.cl C) f (tVar i)) (errF i fs f) := by
  refine ⟨pe_xf K1 hno T.hz T.hf he.pe hb, fun w σ H env st Q s0 e0 hp => ?_⟩
  unfold errF at hp
  refine he.rf.step s0 e0 hp fun w1 H1 st1 d v g1 s1 e1 q1 hp => ?_
  cases d with
  | err =>
    obtain rfl := T.xv v q1
    obtain ⟨gs, hgs, hF⟩ := T.G w1 H1 s1.inv
    simp only at hp
    cases hl : fs.lookup f with
    | none => rw [hl] at hp; exact hp.elim
    | some d =>
      rw [hl] at hp
      cases d with
      | val p =>
        obtain ⟨u, eu, ru⟩ := hF f p hl
        exact ⟨rfl, rfl, dx, gs, u, rfl, hgs, eu, Post.now hp s1 ru⟩
      | _ => exact hp.elim
  | _ => exact hp.elim
end
end B
/-! BL23: chains of comparisons, split, int of a text, ord, text * int, steps in slices, xs[i] = e, enumerate. -/
namespace B
open PySem L2
def clsDef (s : Stmt) (k : Nat) : Stmt := match s with
  | .ClassDef _ _ _ body _ _ _ _ _ _ _ => body.getD k (.Pass ⟨0, 0, 0, 0⟩)
  | _ => .Pass ⟨0, 0, 0, 0⟩
variable [Nm] [Gd]
section
variable {X : Cx} {E : XK} {a b c e o i value : Expr} {ta tb tc : TE} {fa fb fc : Env → M D} {pos p1 p2 p3 : Pos}
/-! ### a < b < c -/
def chE (g g' : D → D → M D) (fa fb fc : Env → M D) : Env → M D := fun env => bd (fa env) fun x => bd (fb env) fun y => bd (g x y) fun z => bd (boolOf z) fun k => if k = true then bd (fc env) fun u => g' y u else rt (.val (.bool false))
theorem rf_chain {K : W.Frag} {r r' : R2} {g g' : D → D → M D} (hB : BOp K E r g) (hB' : BOp K E r' g') (ha : Rf K E (RE K) ta fa) (hb : Rf K E (RE K) tb fb) (hc : Rf K E (RE K) tc fc) : Rf K E (RE K) (tChain r r' ta tb tc) (chE g g' fa fb fc) := by
  intro w σ H env st Q s0 e0 hp
  refine ha.step s0 e0 hp fun w1 H1 st1 x v g1 s1 e1 q1 hp => ?_
  refine hb.step s1 e1 hp fun w2 H2 st2 y u g2 s2 e2 q2 hp => ?_
  refine hB w2 H2 st2 x y v u _ s2 (q1.mono g2) q2 ?_
  cases hg : g x y st2 with
  | bad => rw [bd_bad hg] at hp; exact hp
  | exc ex st3 => rw [bd_exc hg] at hp; exact hp
  | ok z st3 =>
    rw [bd_ok hg] at hp
    intro w3 H3 zv g3 s3 q3
    obtain ⟨k, rfl, hp3⟩ := post_bool q3 (hp.mono g3)
    refine ⟨k, rfl, ?_⟩
    cases k with
    | false =>
      simp only [Bool.false_eq_true, if_false] at hp3 ⊢
      exact Post.now hp3 s3 (.bl false)
    | true =>
      simp only [if_true] at hp3 ⊢
      refine hc.step s3 (e2.mono g3) hp3 fun w5 H5 st5 t tv g5 s5 e5 q5 hp5 => ?_
      exact hB' w5 H5 st5 y t u tv Q s5 ((q2.mono g3).mono g5) q5 hp5
theorem se_chain {op op' : CmpOp} {r r' : R2} {g g' : D → D → M D} (ho : OpR X (compareOp op) r) (hB : BOp X.K E r g) (ho' : OpR X (compareOp op') r') (hB' : BOp X.K E r' g') (ha : SE X E a ta fa) (hb : SE X E b tb fb) (hc : SE X E c tc fc)
    (hm : lastMarks [op, op'] [b, c] = false := by with_unfolding_all rfl) : SE X E (.Compare a [op, op'] [b, c] pos) (tChain r r' ta tb tc) (chE g g' fa fb fc) := ⟨pe_chain ho ho' ha.pe hb.pe hc.pe hm, rf_chain hB hB' ha.rf hb.rf hc.rf⟩
theorem st_chain {op op' : CmpOp} {r r' : R2} {g g' : D → D → M D} (ho : OpR X (compareOp op) r) (hB : BOp X.K E r g) (ho' : OpR X (compareOp op') r') (hB' : BOp X.K E r' g') (ha : SE X E a ta fa) (hb : SE X E b tb fb) (hc : SE X E c tc fc)
    (hm : lastMarks [op, op'] [b, c] = false := by with_unfolding_all rfl) : ST X E (.Compare a [op, op'] [b, c] pos) (tTest (tChain r r' ta tb tc)) (tst (chE g g' fa fb fc)) := by
  refine ⟨pt_chain ho ho' ha.pe hb.pe hc.pe hm, fun w σ H env st Q s0 e0 hp => ?_⟩
  refine (rf_chain hB hB' ha.rf hb.rf hc.rf).step s0 e0 hp fun w1 H1 st1 d v g1 s1 e1 q1 hp => ?_
  obtain ⟨k, ek, hp⟩ := post_bool (g := rt) q1 (show Post X.K E RB w1 H1 (bd (boolOf d) rt st1) Q by
    unfold bd
    cases q : boolOf d st1 <;> (rw [q] at hp; exact hp))
  exact ⟨k, ek, Post.now hp s1 rfl⟩
/-! ### s.split(t) -/
def splF (x y : D) : M (List PyData) := fun st => match x, y with
  | .val (.str a), .val (.str b) => if (b.length == 0) = false ∧ a.length + 2 ≤ sizeLine then .ok ((Txt.split a b).map PyData.str) st else .bad
  | _, _ => .bad
def isS1 (d : D) : M Unit := fun st => match d with
  | .val (.str _) => .ok () st
  | _ => .bad
def splE (fo fe : Env → M D) : Env → M (List PyData) := fun env => bd (fo env) fun x => bd (isS1 x) fun _ => bd (fe env) fun y => splF x y
theorem strsR {K : W.Frag} {w : Wd} {H : Hp} : ∀ ys : List Str, Rps K w H (ys.map PyData.str) (ys.map V.str)
  | [] => .nil
  | y :: r => .cons (.str y) (strsR r)
variable {apos cpos : Pos}
theorem sf_split {to te : TE} {fo fe : Env → M D} (ho : SE X E o to fo) (he : SE X E e te fe) (h1 : starEach [e] X.env = [(false, eval e X.env)] := by rfl) (h2 : attributeBase o "split" X.env (eval o X.env) = eval o X.env := by rfl) (h3 : (apos.endLine == cpos.line) = true := by rfl) :
    SF X E (.Call (.Attribute o "split" apos) [e] [] cpos) (tM1 (fun x xs H Q => ∃ a b, x = .str a ∧ xs = [.str b] ∧ (b.length == 0) = false ∧ a.length + 2 ≤ sizeLine ∧ rNewStrs (Txt.split a b) H Q) to te) (splE fo fe) := by
  refine ⟨pe_split ho.pe he.pe h1 h2 h3, fun w σ H env st Q s0 e0 hp => ?_⟩
  refine ho.rf.stepF s0 e0 hp fun w1 H1 st1 x v g1 s1 e1 q1 hp => ?_
  have nx : ∀ {d : D} {v : V} {st : Store} {u : Unit} {st' : Store}, isS1 d st = .ok u st' → ∃ a, d = .val (.str a) ∧ st' = st := fun {d v st u st'} h => by
    unfold isS1 at h
    split at h
    · cases h; exact ⟨_, rfl, rfl⟩
    · cases h
  cases hx : isS1 x st1 with
  | bad => rw [bd_bad hx] at hp; exact hp.elim
  | exc ex st2 =>
    unfold isS1 at hx
    split at hx <;> cases hx
  | ok uu st2 =>
    rw [bd_ok hx] at hp
    obtain ⟨a, rfl, rfl⟩ := nx (v := v) hx
    obtain ⟨⟩ : v = .str a := by cases q1; rfl
    refine ⟨⟨a, rfl⟩, ?_⟩
    refine he.rf.stepF s1 e1 hp fun w2 H2 st2 y u g2 s2 e2 q2 hp => ?_
    unfold splF at hp
    split at hp
    · rename_i b' b ea
      cases ea
      cases q2
      split at hp
      · rename_i hl
        exact ⟨a, b, rfl, rfl, hl.1, hl.2, fun p np => hp w2 H2 p _ (Ge.refl _ _) s2 np (strsR _)⟩
      · exact hp.elim
    · exact hp.elim
end
/-! ### int(s), ord(c) -/
def intG (ds : List D) : M D := fun st => match ds with
  | [.val (.int i)] => .ok (.val (.int i)) st
  | [.val (.bool b)] => .ok (.val (.int (if b then 1 else 0))) st
  | [.val (.str a)] => (match PySem.intText? a with
    | some n => if a.length ≤ 640 then .ok (.val (.int n)) st else .bad
    | none => .bad)
  | _ => .bad
def ordG (ds : List D) : M D := fun st => match ds with
  | [.val (.str a)] => if a.length = 1 then .ok (.val (.int (a.cps.getD 0 0 : Nat))) st else .bad
  | _ => .bad
section
variable {K : W.Frag} {E : XK}
theorem bc_intG : BCall K E (fun xs H Q => ((∃ i, xs = [.int i] ∧ Q (.int i) H) ∨ ∃ k, xs = [.bl k] ∧ Q (.int (if k then 1 else 0)) H) ∨ ∃ a n, xs = [.str a] ∧ PySem.intText? a = some n ∧ a.length ≤ 640 ∧ Q (.int n) H) intG := by
  intro w H st ds vs Q hs r hp
  unfold intG at hp
  split at hp
  · obtain ⟨v, rfl, r1⟩ := r.one
    cases r1
    exact .inl (.inl ⟨_, rfl, Post.now hp hs (.int _)⟩)
  · obtain ⟨v, rfl, r1⟩ := r.one
    cases r1
    exact .inl (.inr ⟨_, rfl, Post.now hp hs (.int _)⟩)
  · obtain ⟨v, rfl, r1⟩ := r.one
    cases r1
    split at hp
    · rename_i n hn
      split at hp
      · rename_i hl
        exact .inr ⟨_, n, rfl, hn, hl, Post.now hp hs (.int _)⟩
      · exact hp.elim
    · exact hp.elim
  · exact hp.elim
theorem bc_ord : BCall K E (fun xs H Q => ∃ x : Str, xs = [.str x] ∧ x.length = 1 ∧ Q (.int (x.cps.getD 0 0 : Nat)) H) ordG := by
  intro w H st ds vs Q hs r hp
  unfold ordG at hp
  split at hp
  · obtain ⟨v, rfl, r1⟩ := r.one
    cases r1
    split at hp
    · rename_i hl
      exact ⟨_, rfl, hl, Post.now hp hs (.int _)⟩
    · exact hp.elim
  · exact hp.elim
end
/-! ### s * n -/
def repS (x : Str) (n : Int) : Str := ⟨(List.replicate n.toNat x.cps.toList).flatten.toArray⟩
def rRepS : R2 := fun x y H Q => ∃ (a : Str) (n : Int), x = .str a ∧ y = .int n ∧ (-(2 ^ 40) ≤ n ∧ n ≤ 16777216 ∧ a.length ≤ 16777216 ∧ a.length * n.toNat ≤ 16777216) ∧ Q (.str (repS a n)) H
theorem fold_cat : ∀ (l : List (Array Nat)) (acc : Array Nat), (l.foldl (· ++ ·) acc).toList = acc.toList ++ (l.map (·.toList)).flatten
  | [], acc => by simp
  | x :: r, acc => by
    rw [List.foldl_cons, fold_cat r]
    simp
theorem repS_fold (x : Str) (n : Int) : (⟨(List.replicate n.toNat x.cps).foldl (· ++ ·) #[]⟩ : Str) = repS x n := by
  unfold repS
  congr 1
  apply Array.ext'
  rw [fold_cat]
  simp
theorem repS_one (x : Str) : repS x 1 = x := by
  unfold repS
  show (⟨([x.cps.toList] : List (List Nat)).flatten.toArray⟩ : Str) = x
  simp
theorem repS_nil (x : Str) (n : Int) (h : x.length = 0) : repS x n = x := by
  have e : x.cps.toList = [] := by
    have : x.cps.size = 0 := h
    exact Array.toList_eq_nil_iff.mpr (Array.size_eq_zero_iff.mp this)
  have e2 : x.cps = #[] := Array.toList_eq_nil_iff.mp e
  unfold repS
  rw [e]
  have : (List.replicate n.toNat ([] : List Nat)).flatten = [] := by simp
  rw [this]
  cases x
  simp at e2
  rw [e2]
theorem op_repS {X : Cx} : OpR X (binaryOp .Mult) rRepS := by
  intro pins s σ H x y v u Q I rx ry h
  obtain ⟨a, n, rfl, rfl, ⟨h1, h2, h3, h4⟩, q⟩ := h
  obtain ⟨t, rfl⟩ := rx
  obtain ⟨t2, rfl⟩ := ry
  have big : (2 : Int) ^ 40 = 1099511627776 := by decide
  have big2 : (2 : Int) ^ 63 = 9223372036854775808 := by decide
  rw [big] at h1
  refine PySem.P.mul_str ?_ (fun hn _ => ?_) (fun hn _ => ?_) ?_
  · rw [decide_eq_false (by rw [big2]; omega), decide_eq_false (by rw [big2]; omega)]; rfl
  · intro hc
    have hq : (2 ^ 63 - 1 : Int) / 16777216 ≤ (2 ^ 63 - 1) / n := by
      apply Int.le_ediv_of_mul_le (by omega)
      have : (2 ^ 63 - 1 : Int) / 16777216 = 549755813887 := by decide
      rw [this]
      have : (549755813887 : Int) * n ≤ 549755813887 * 16777216 := Int.mul_le_mul_of_nonneg_left (by omega) (by omega)
      have e : (549755813887 : Int) * 16777216 ≤ 2 ^ 63 - 1 := by decide
      omega
    have : (2 ^ 63 - 1 : Int) / 16777216 = 549755813887 := by decide
    rw [this] at hq
    omega
  · show decide (a.length * n.toNat > sizeLine) = false
    rw [sizeLine_eq]
    exact decide_eq_false (by omega)
  · by_cases hn : n < 1
    · rw [if_pos hn]
      have e : repS a n = Str.empty := by
        unfold repS
        have : n.toNat = 0 := by omega
        rw [this]
        rfl
      rw [e] at q
      exact ⟨by decide, .str Str.empty, H, I.tok _, ⟨_, rfl⟩, q⟩
    · rw [if_neg hn]
      by_cases h5 : (n == 1 || a.length == 0) = true
      · rw [if_pos h5]
        have e : repS a n = a := by
          rcases Bool.or_eq_true_iff.mp h5 with z | z
          · rw [eq_of_beq z, repS_one]
          · exact repS_nil a n (eq_of_beq z)
        rw [e] at q
        exact ⟨.str a, H, I, ⟨_, rfl⟩, q⟩
      · rw [if_neg h5, repS_fold]
        have hl : (repS a n).length = n.toNat * a.length := by
          show (repS a n).cps.size = _
          unfold repS
          simp [Str.length]
        exact ⟨by rw [hl, Nat.mul_comm]; exact h4, .str (repS a n), H, I.tok _, ⟨_, rfl⟩, q⟩
end B
/-! BL24: products of any kind, slices with a step, xs[i] = e, enumerate of a list. -/
namespace B
open PySem L2 PySem.Calls PyProof.Rows
variable [Nm] [Gd]
/-! ### a * b -/
def mulG (x y : D) : M D := fun st => match x, y with
  | .val (.str a), .val (.int n) => if -(2 ^ 40) ≤ n ∧ n ≤ 16777216 ∧ a.length ≤ 16777216 ∧ a.length * n.toNat ≤ 16777216 then .ok (.val (.str (repS a n))) st else .bad
  | x, y => mulF x y st
def rMulG (K : W.Frag) : R2 := fun x y H Q => rMulA K x y H Q ∨ rRepS x y H Q
theorem op_mulG {X : Cx} {K : W.Frag} (hK : X.K = K := by rfl) : OpR X (binaryOp .Mult) (rMulG K) := OpR.or (op_mulA hK) op_repS
theorem bop_mulG {K : W.Frag} {E : XK} : BOp K E (rMulG K) mulG := by
  intro w H st dx dy x y Q hs rx ry hp
  unfold mulG at hp
  split at hp
  · split at hp
    · rename_i hl
      cases rx
      cases ry
      exact .inr ⟨_, _, rfl, rfl, hl, Post.now hp hs (.str _)⟩
    · exact hp.elim
  · exact .inl (bop_mul w H st dx dy x y Q hs rx ry hp)
/-! ### xs[a:b:c] -/
def pickV {α : Type} (xs : List α) (lo hi st : Option Int) : List α := (sliceRange (sliceBounds lo hi st xs.length).1 (sliceBounds lo hi st xs.length).2.1 (sliceBounds lo hi st xs.length).2.2).filterMap (xs[·]?)
theorem Paired.pick {α β : Type} {R : α → β → Prop} {l : List Nat} {xs : List α} {ys : List β} (hl : xs.length = ys.length) (r : ∀ (i : Nat) x y, xs[i]? = some x → ys[i]? = some y → R x y) : ∀ x ∈ List.zip (l.filterMap (xs[·]?)) (l.filterMap (ys[·]?)), R x.1 x.2 := by
  induction l with
  | nil => simp
  | cons i l ih =>
    by_cases hi : i < xs.length
    · have e1 : xs[i]? = some xs[i] := List.getElem?_eq_getElem hi
      have e2 : ys[i]? = some (ys[i]'(hl ▸ hi)) := List.getElem?_eq_getElem (hl ▸ hi)
      simp only [List.filterMap_cons, e1, e2, List.zip_cons_cons, List.mem_cons]
      rintro x (rfl | hx)
      · exact r i _ _ e1 e2
      · exact ih x hx
    · have e1 : xs[i]? = none := List.getElem?_eq_none (by omega)
      have e2 : ys[i]? = none := List.getElem?_eq_none (by omega)
      simp only [List.filterMap_cons, e1, e2]
      exact ih
theorem pick_len {α β : Type} {l : List Nat} {xs : List α} {ys : List β} (hl : xs.length = ys.length) : (l.filterMap (xs[·]?)).length = (l.filterMap (ys[·]?)).length := by
  induction l with
  | nil => rfl
  | cons i l ih =>
    by_cases hi : i < xs.length
    · simp only [List.filterMap_cons, List.getElem?_eq_getElem hi, List.getElem?_eq_getElem (hl ▸ hi : i < ys.length), List.length_cons, ih]
    · simp only [List.filterMap_cons, List.getElem?_eq_none (Nat.le_of_not_lt hi), List.getElem?_eq_none (by omega : ys.length ≤ i), ih]
theorem Vals.of_zip : ∀ {xs : List V} {us : List Value}, xs.length = us.length → (∀ x ∈ xs.zip us, L2.RelV x.1 x.2) → Vals xs us
  | [], [], _, _ => .nil
  | x :: xs, u :: us, h, r => .cons (r (x, u) (by simp)) (Vals.of_zip (by simpa using h) fun y hy => r y (by simp [hy]))
  | [], _ :: _, h, _ => by simp at h
  | _ :: _, [], h, _ => by simp at h
theorem Vals.get : ∀ {xs : List V} {us : List Value}, Vals xs us → ∀ (i : Nat) x u, xs[i]? = some x → us[i]? = some u → L2.RelV x u
  | _, _, .nil, i, x, u, h, _ => by simp at h
  | _, _, .cons r s, 0, x, u, h1, h2 => by simp at h1 h2; subst h1; subst h2; exact r
  | _, _, .cons r s, i + 1, x, u, h1, h2 => Vals.get s i x u (by simpa using h1) (by simpa using h2)
theorem Vals.pickN {xs : List V} {us : List Value} (r : Vals xs us) (l : List Nat) : Vals (l.filterMap (xs[·]?)) (l.filterMap (us[·]?)) :=
  Vals.of_zip (pick_len r.length) (Paired.pick r.length (Vals.get r))
theorem Rps.of_zip {K : W.Frag} {w : Wd} {H : Hp} : ∀ {xs : List PyData} {us : List V}, xs.length = us.length → (∀ x ∈ xs.zip us, Rp K w H x.1 x.2) → Rps K w H xs us
  | [], [], _, _ => .nil
  | x :: xs, u :: us, h, r => .cons (r (x, u) (by simp)) (Rps.of_zip (by simpa using h) fun y hy => r y (by simp [hy]))
  | [], _ :: _, h, _ => by simp at h
  | _ :: _, [], h, _ => by simp at h
theorem Rps.pick {K : W.Frag} {w : Wd} {H : Hp} {xs : List PyData} {us : List V} (r : Rps K w H xs us) (l : List Nat) : Rps K w H (l.filterMap (xs[·]?)) (l.filterMap (us[·]?)) :=
  Rps.of_zip (pick_len r.length) (Paired.pick r.length fun i x y h1 h2 => by
    obtain ⟨v, e, rv⟩ := r.get h1
    rw [h2] at e
    cases e
    exact rv)
section
variable {X : Cx} {E : XK} {e : Expr} {te : TE} {fe : Env → M D} {lo hi : Option Expr} {stp : Expr} {tl th ts : TO} {fl fh fs : Env → M (Option Int)} {pos p2 : Pos}
def tSl3 (K : W.Frag) (te : TE) (tl th ts : TO) : TE := fun σ H Q => te σ H fun x H1 => tl σ H1 fun l H2 => th σ H2 fun h H3 => ts σ H3 fun s H4 => s ≠ some 0 ∧ ∃ a xs, x = .ref a ∧ SqL K H4 a xs ∧ ∀ p, H4 p = none → Q (.ref p) (upd H4 p (.lst (pickV xs l h s)))
theorem pe_slice3 (he : PE X e te) (hl : PO X lo tl) (hu : PO X hi th) (hs : PO X (some stp) ts) : PE X (.Subscript e (.Slice lo hi (some stp) p2) pos) (tSl3 X.K te tl th ts) := by
  refine ⟨fun pins s σ H Q I h => ?_⟩
  refine Subscript_ (thn (he.run pins s σ H _ I h) fun v s1 ⟨x, H1, I1, r1, q1⟩ => ?_)
  refine wpAny_Slice (thn (hl.run pins s1 σ H1 _ I1 q1) fun vl s2 ⟨l, H2, I2, pl, q2⟩ => thn (hu.run pins s2 σ H2 _ I2 q2) fun vu s3 ⟨u, H3, I3, pu, q3⟩ => thn (hs.run pins s3 σ H3 _ I3 q3) fun vs s4 ⟨o, H4, I4, ps, n0, a, xs, ex, hx, q⟩ => ?_)
  subst ex
  obtain rfl : v = Value.ref a := r1
  have I5 : Inv X pins σ H4 { s4 with heap := s4.heap.push { cls := .type "slice", data := .fields #[vl, vu, vs] } } := I4.kept (t' := s4.toks) fun b ob q => Heap.get?_push_of_some _ q
  obtain ⟨its, r, ht, hz⟩ := I5.list hx
  have hlen := r.length
  show wpAny (model X.prog X.w) X.A (subscriptTail e (.Slice lo hi (some stp) p2) (.ref a) (.ref s4.heap.objs.size)) (EP X pins σ Q) X.xe { s4 with heap := s4.heap.push { cls := .type "slice", data := .fields #[vl, vu, vs] } }
  refine tail_any (ops := [.ref a, .ref s4.heap.objs.size]) ht.isList.typeIs (PySem.slot_list_getitem.lookup) ?_ (by with_unfolding_all rfl)
  refine wpAny_getItem_list_slice ht.isList (Heap.IsSliceOf.new _ vl vu vs) pl pu ps n0 ?_ (by rw [List.size_toArray]; omega)
  refine ⟨.ref _, _, I5.laid (t' := s4.toks) (o := .lst (pickV xs l u o)) (fun b ob q => Heap.get?_push_of_some _ q) (Nat.le_refl _) ?_, rfl, q _ (I5.hok.fresh (Nat.le_refl _))⟩
  have hpk := Vals.pickN r (sliceRange (sliceBounds l u o xs.length).1 (sliceBounds l u o xs.length).2.1 (sliceBounds l u o xs.length).2.2)
  have e1 : slicePick its.toArray l u o = (pickV its l u o).toArray := by
    unfold slicePick pickV
    simp only [List.size_toArray]
    congr 1
    simp
  have e2 : pickV its l u o = (sliceRange (sliceBounds l u o xs.length).1 (sliceBounds l u o xs.length).2.1 (sliceBounds l u o xs.length).2.2).filterMap (its[·]?) := by
    unfold pickV
    rw [hlen]
  refine ⟨?_, pickV its l u o, 0, by rw [e2]; exact hpk, by rw [e1]; exact Heap.get?_push_size _ rfl⟩
  have hb := slicePick_size_le its.toArray l u o
  rw [e1, List.size_toArray, List.size_toArray] at hb
  have : (pickV xs l u o).length = (pickV its l u o).length := by
    rw [e2]
    exact hpk.length
  omega
def sl3F (fe : Env → M D) (fl fh fs : Env → M (Option Int)) : Env → M (List PyData) := fun env => bd (fe env) fun x => bd (fl env) fun l => bd (fh env) fun h => bd (fs env) fun s => fun st => match dat st x with
  | some (.list xs) => if s ≠ some 0 then .ok (pickV xs l h s) st else .bad
  | _ => .bad
theorem sf_slice3 {K : W.Frag} (he : SE X E e te fe) (hl : SO X E lo tl fl) (hh : SO X E hi th fh) (hs : SO X E (some stp) ts fs) (hK : X.K = K := by rfl) : SF X E (.Subscript e (.Slice lo hi (some stp) p2) pos) (tSl3 K te tl th ts) (sl3F fe fl fh fs) := by
  subst hK
  refine ⟨pe_slice3 he.pe hl.po hh.po hs.po, fun w σ H env st Q s0 e0 hp => ?_⟩
  refine he.rf.stepF s0 e0 hp fun w1 H1 st1 x v g1 s1 e1 q1 hp => ?_
  refine hl.rf.stepF s1 e1 hp fun w2 H2 st2 l l' g2 s2 e2 q2 hp => ?_
  refine hh.rf.stepF s2 e2 hp fun w3 H3 st3 h h' g3 s3 e3 q3 hp => ?_
  refine hs.rf.stepF s3 e3 hp fun w4 H4 st4 c c' g4 s4 e4 q4 hp => ?_
  subst q2; subst q3; subst q4
  split at hp
  · rename_i xs hx
    split at hp
    · rename_i hc
      obtain ⟨a, us, e5, ha, ra⟩ := dat_lst s4 (((q1.mono g2).mono g3).mono g4) hx
      refine ⟨hc, a, us, e5, SqL.of ha, fun p np => ?_⟩
      have := hp w4 H4 p _ (Ge.refl _ _) s4 np (ra.pick _)
      unfold pickV
      rw [← ra.length]
      exact this
    · exact hp.elim
  · exact hp.elim
end
section
variable {X : Cx} {E : XK} {o i value : Expr} {td ty tv : TE} {fd fi fv : Env → M D} {pos pos' : Pos}
/-! ### xs[i] = e -/
def lputS (fd fi fv : Env → M D) : Env → M Fl := fun env => bd (fv env) fun v => bd (fd env) fun x => bd (fi env) fun y => fun st => match x, y, v with
  | .loc n, .val (.int k), .val p => (match st[n]? with
    | some (.lst xs) => (match ixN xs.length k with
      | some j => .ok (.nx env) (st.set n (.lst (xs.set j p)))
      | none => .bad)
    | _ => .bad)
  | _, _, _ => .bad
theorem Rps.set {K : W.Frag} {w : Wd} {H : Hp} : ∀ {xs : List PyData} {vs : List V} (j : Nat) {d : PyData} {v : V}, Rps K w H xs vs → Rp K w H d v → Rps K w H (xs.set j d) (vs.set j v)
  | _, _, _, _, _, .nil, _ => .nil
  | _, _, 0, _, _, .cons _ t, r => .cons r t
  | _, _, j + 1, _, _, .cons q t, r => .cons q (Rps.set j t r)
theorem ss_lput (ho : SE X E o td fd) (hi : SE X E i ty fi) (hv : SE X E value tv fv) (hs : swapsWithSole [.Subscript o i pos'] value pos.line X.env = pure false := by rfl) (hw : swappedStores [.Subscript o i pos'] value X.env = pure none := by rfl)
    (h1 : (assignEach [.Subscript o i pos'] X.env).map (·.2) = [assign (.Subscript o i pos') X.env] := by rfl)
    (ha : ∀ v, assign (.Subscript o i pos') X.env v = (do
      let ov ← holding [v] (eval o X.env)
      let iv ← holding [v, ov] (eval i X.env)
      standAt pos'
      holding [v, ov, iv] (setItem ov iv v)
      release [v, ov, iv] []) := by intro _; rfl) :
    SS X E (.Assign [.Subscript o i pos'] value pos) (tAsg tv (gSub td ty rSetL)) (lputS fd fi fv) := by
  refine ⟨ps_asg hv.pe (pg_sub ho.pe hi.pe set_list ha) hs hw h1, fun w σ H env st Z s0 e0 hp0 => ?_⟩
  refine hv.rf.stepS s0 e0 hp0 fun w1 H1 st1 v vv g1 s1 e1 q1 hp1 => ?_
  refine ho.rf.stepS s1 e1 hp1 fun w2 H2 st2 x xv g2 s2 e2 q2 hp2 => ?_
  refine hi.rf.stepS s2 e2 hp2 fun w3 H3 st3 y yv g3 s3 e3 q3 hp => ?_
  clear hp0 hp1 hp2
  split at hp
  · rename_i n k p
    split at hp
    · rename_i xs eo
      split at hp
      · rename_i j hj
        obtain ⟨a, ea, ha, vs, hvs, rv⟩ := s3.at eo (q2.mono g3)
        cases q3
        have r1 : Rp X.K w3 H3 p vv := ((q1.mono g2).mono g3)
        have g4 : Ge w3 H3 w3 (upd H3 a (.lst (vs.set j vv))) := Ge.write ha
        obtain ⟨s4, _⟩ := s3.write (o := .lst (xs.set j p)) (u := .lst (vs.set j vv)) ha ⟨_, upd_same, (rv.set j r1).mono g4⟩
        exact ⟨a, vs, k, j, ea, rfl, hvs, by rw [← rv.length]; exact hj, hp w3 _ σ g4 s4 (e3.mono g4)⟩
      · exact hp.elim
    · exact hp.elim
  · exact hp.elim
end
/-! ### enumerate(xs) -/
def enumP (xs : List PyData) : List PyData := (List.range xs.length).map fun (i : Nat) => PyData.tuple [.int (i : Nat), xs.getD i .none]
theorem enumP_get {xs : List PyData} {i : Nat} {x : PyData} (h : (enumP xs)[i]? = some x) : ∃ d, xs[i]? = some d ∧ x = .tuple [.int i, d] := by
  unfold enumP at h
  rw [List.getElem?_map] at h
  by_cases hi : i < xs.length
  · rw [List.getElem?_range hi] at h
    simp only [Option.map_some, Option.some.injEq] at h
    refine ⟨xs[i], List.getElem?_eq_getElem hi, ?_⟩
    rw [← h, List.getD_eq_getElem?_getD, List.getElem?_eq_getElem hi]
    rfl
  · rw [List.getElem?_eq_none (by simpa using hi)] at h
    cases h
def enumF (ds : List D) : M Src := fun st => match ds with
  | [.val (.list xs)] => .ok (.fix (enumP xs)) st
  | _ => .bad
def enumI (fr : Env → M (List D)) : Env → M Src := fun env => bd (fr env) enumF
theorem si_enum {X : Cx} {E : XK} {K : W.Frag} {e : Expr} {tr : TA} {fr : Env → M (List D)} {elts : List Expr} {kk : Nat} {tpos p pos : Pos} (hm : X.mg "enumerate" = none) (ha : SA X E [e] tr fr) (hK : X.K = K := by rfl) (hg : Gl X "enumerate" := by rfl) (hs : starEach [e] X.env = [(false, eval e X.env)] := by rfl) :
    SI X E (.Tuple elts kk tpos) (.Call (.Name "enumerate" p) [e] [] pos) (iEnum K tr) (enumI fr) := by
  subst hK
  refine ⟨pi_enum hg hm ha.pa hs, fun w σ H env st Q s0 e0 hp => ?_⟩
  refine ha.rf.step s0 e0 hp fun w1 H1 st1 ds vs g1 s1 e1 q1 hp => ?_
  unfold enumF at hp
  split at hp
  · rename_i xs
    obtain ⟨v, rfl, r1⟩ := q1.one
    cases r1 with
    | @ls a us _ hl rr =>
      refine ⟨a, us, rfl, hl.sq, Post.now hp s1 fun w2 H2 st2 mo s2 => ⟨fun i x hx => ?_, ?_⟩⟩
      · obtain ⟨d, hd, rfl⟩ := enumP_get hx
        obtain ⟨u, hu, ru⟩ := (Rps.mo mo rr).get hd
        refine ⟨⟨us, u, (hl.mo mo).sq, hu⟩, ?_⟩
        rintro v H3 ⟨T, y, rfl, hT, rfl, hy⟩
        have ey : y = u := by
          have := hy us (hl.mo mo).sq
          rw [hu] at this
          exact (Option.some.inj this).symm
        subst ey
        exact ⟨Same.new hT, Rp.newTup (s2.notin hT) (.cons (.int _) (.cons ru .nil)) hT⟩
      · refine ⟨us, (hl.mo mo).sq, ?_⟩
        simp only [enumP, List.length_map, List.length_range]
        rw [rr.length]
        exact Nat.le_refl _
  · exact hp.elim
/-! ### x is None, as a test -/
section
variable {X : Cx} {E : XK} {a : Expr} {ta : TE} {fa : Env → M D} {pos pos' : Pos}
theorem rf_tB {K : W.Frag} {t : TE} {f : Env → M D} (h : Rf K E (RE K) t f) : Rf K E RB (tB t) (tst f) := by
  intro w σ H env st Q s0 e0 hp
  refine h.step s0 e0 hp fun w1 H1 st1 d v g1 s1 e1 q1 hp => ?_
  obtain ⟨k, ek, hp⟩ := post_bool (g := rt) q1 (show Post K E RB w1 H1 (bd (boolOf d) rt st1) Q by
    unfold bd
    cases q : boolOf d st1 <;> (rw [q] at hp; exact hp))
  exact ⟨k, ek, Post.now hp s1 rfl⟩
theorem st_isN {j} (ha : SE X E a ta fa) : ST X E (.Compare a [.Is] [.Constant .none j pos'] pos) (tB (tIsN ta)) (tst (isN false fa)) := ⟨pt_cmp (pc_isN ha.pe), rf_tB (se_isN (pos := pos) (pos' := pos') (j := j) ha).rf⟩
theorem st_notN {j} (ha : SE X E a ta fa) : ST X E (.Compare a [.IsNot] [.Constant .none j pos'] pos) (tB (tNotN ta)) (tst (isN true fa)) := ⟨pt_cmp (pc_notN ha.pe), rf_tB (se_notN (pos := pos) (pos' := pos') (j := j) ha).rf⟩
end
/-! ### xs + ys, as an object -/
def catF (x y : D) : M (List PyData) := fun st => match dat st x, dat st y with
  | some (.list a), some (.list b) => if a.length + b.length ≤ sizeLine then .ok (a ++ b) st else .bad
  | _, _ => .bad
def catE (fa fb : Env → M D) : Env → M (List PyData) := fun env => bd (fa env) fun x => bd (fb env) fun y => catF x y
theorem sf_cat {X : Cx} {E : XK} {a b : Expr} {ta tb : TE} {fa fb : Env → M D} {pos : Pos} {K : W.Frag} (ha : SE X E a ta fa) (hb : SE X E b tb fb) (hK : X.K = K := by rfl) : SF X E (.BinOp a .Add b pos) (tOp (rAddA K) ta tb) (catE fa fb) := by
  subst hK
  refine ⟨pe_op op_addA ha.pe hb.pe, fun w σ H env st Q s0 e0 hp => ?_⟩
  refine ha.rf.stepF s0 e0 hp fun w1 H1 st1 x v g1 s1 e1 q1 hp => ?_
  refine hb.rf.stepF s1 e1 hp fun w2 H2 st2 y u g2 s2 e2 q2 hp => ?_
  unfold catF at hp
  split at hp
  · rename_i d1 d2
    split at hp
    · rename_i hl
      obtain ⟨a, vs, e3, ha, ra⟩ := dat_lst s2 (q1.mono g2) d1
      obtain ⟨b, us, e4, hb, rb⟩ := dat_lst s2 q2 d2
      exact .inr (.inr (.inl ⟨a, b, vs, us, e3, e4, ha, hb, by rw [← ra.length, ← rb.length]; exact hl, fun p np => hp w2 H2 p _ (Ge.refl _ _) s2 np (ra.append rb)⟩))
    · exact hp.elim
  · exact hp.elim
/-! ### for x in (a, b, ..): the items may be objects -/
def forD (body : D → Env → M Fl) : List D → Env → M Fl
  | [], env => rt (.nx env)
  | x :: r, env => bd (body x env) fun f => match f with
    | .nx env' => forD body r env'
    | .ct env' => forD body r env'
    | .bk env' => rt (.nx env')
    | .rt d => rt (.rt d)
def forT (fr : Env → M (List D)) (g : D → Env → M Env) (fb : Env → M Fl) : Env → M Fl := fun env => bd (fr env) fun ds => if ds.length ≤ sizeLine then forD (fun d env => bd (g d env) fb) ds env else bad
theorem RpDs.at' {K : W.Frag} {w : Wd} {H : Hp} : ∀ {ds : List D} {vs : List V}, RpDs K w H ds vs → ∀ {i : Nat} {d : D}, ds[i]? = some d → ∃ v, vs[i]? = some v ∧ RpD K w H d v
  | _, _, .nil, _, _, e => by simp at e
  | _, _, .cons r t, 0, d, e => by
    simp at e
    subst e
    exact ⟨_, rfl, r⟩
  | _, _, .cons r t, i + 1, d, e => by
    obtain ⟨v, hv, q⟩ := RpDs.at' t (i := i) (by simpa using e)
    exact ⟨v, by simpa using hv, q⟩
theorem RpDs.len' {K : W.Frag} {w : Wd} {H : Hp} : ∀ {ds : List D} {vs : List V}, RpDs K w H ds vs → ds.length = vs.length
  | _, _, .nil => rfl
  | _, _, .cons _ t => by simp [RpDs.len' t]
theorem rf_forT {X : Cx} {E : XK} {es : List Expr} {K : W.Frag} {tr : TA} {tg : TG} {ts : TS} {fr : Env → M (List D)} {fs : Env → M Fl} {is : List Nat} {g : D → Env → M Env} (hK : X.K = K) (h : SA X E es tr fr) (hg : RfG K E is tg g) (hb : RfS K E ts fs) : RfS K E (tFor (iAny K (tTup tr)) tg ts) (forT fr g fs) := by
  subst hK
  intro w σ H env st Z s0 e0 hp
  unfold tFor iAny tTup
  refine h.rf.stepS s0 e0 hp fun w0 H0 st1 ds vs g0 s0' e0' q0 hp => ?_
  split at hp
  · rename_i hl
    refine ⟨by rw [← q0.len']; exact hl, fun p hn => ?_⟩
    have gN : Ge w0 H0 w0 (upd H0 p (.tup vs)) := .new hn
    have s1 := s0'.new (o := .tup vs) hn
    have e1 := e0'.mono gN
    have l : TupAt X.K w0 (upd H0 p (.tup vs)) p vs := .inl ⟨.inl upd_same, s0'.notin hn⟩
    have q1 := q0.mono gN
    have hp1 := hp.mono gN
    generalize upd H0 p (.tup vs) = H1 at gN s1 e1 l q1 hp1
    refine .inr (.inl ⟨p, rfl, ⟨vs, l.sq⟩, ?_⟩)
    let W : Nat → Nat → L2.St → Hp → Prop := fun i m σ H => ∃ w env st, Ge w0 H1 w H ∧ RelSt X.K w H st ∧ RelEnv X.K w H env σ ∧ i ≤ ds.length ∧ m = ds.length - i ∧ PostS X.K E w H (forD (fun x env => bd (g x env) fs) (ds.drop i) env st) Z
    refine ⟨W, ⟨ds.length, w0, env, st1, Ge.refl _ _, s1, e1, Nat.zero_le _, rfl, hp1⟩, ?_⟩
    rintro i m σ2 H2 ⟨w2, env2, st2, g2, s2, e2, hil, rfl, hp2⟩
    have l2 := l.mo g2.mo
    have q2 := q1.mono g2
    by_cases hlt : i < ds.length
    · right
      have ed : ds.drop i = ds[i] :: ds.drop (i + 1) := List.drop_eq_getElem_cons hlt
      obtain ⟨v, hv, rx⟩ := q2.at' (i := i) (d := ds[i]) (by simp [hlt])
      refine ⟨⟨vs, v, l2.sq, hv⟩, fun σ' H' => W (i + 1) (ds.length - (i + 1)) σ' H', fun σ' H' h => ⟨_, by omega, h⟩, fun v' H3 hy => ?_⟩
      obtain ⟨e3, hy⟩ := hy
      subst e3
      have e4 : v' = v := by
        have q := hy vs l2.sq
        rw [hv] at q
        exact (Option.some.inj q).symm
      subst e4
      rw [ed] at hp2
      unfold forD at hp2
      refine hg w2 σ2 _ env2 st2 ds[i] v' _ s2 e2 rx ?_
      cases hf : g ds[i] env2 st2 with
      | ok env' st' =>
        intro w4 H4 σ4 g4 s4 e4 _
        refine hb w4 σ4 H4 env' st' _ s4 e4 ?_
        have hp4 := hp2.mono g4
        have eb : bd (g ds[i] env2) fs st2 = fs env' st' := bd_ok hf
        cases hr : fs env' st' with
        | ok r st5 =>
          rw [bd_ok (eb.trans hr)] at hp4
          cases r with
          | nx env5 => exact fun w5 H5 σ5 g5 s5 e5 => ⟨w5, env5, st5, g2.trans (g4.trans g5), s5, e5, hlt, rfl, hp4.mono g5⟩
          | ct env5 => exact fun w5 H5 σ5 g5 s5 e5 => ⟨w5, env5, st5, g2.trans (g4.trans g5), s5, e5, hlt, rfl, hp4.mono g5⟩
          | bk env5 => exact hp4
          | rt d => exact hp4
        | exc e st5 => rw [bd_exc (eb.trans hr)] at hp4; exact hp4
        | bad => rw [bd_bad (eb.trans hr)] at hp4; exact hp4
      | exc e st' => rw [bd_exc (bd_exc hf)] at hp2; exact hp2
      | bad => rw [bd_bad (bd_bad hf)] at hp2; exact hp2
    · left
      have e : i = ds.length := by omega
      subst e
      refine ⟨⟨vs, l2.sq, by rw [q2.len']; exact Nat.le_refl _⟩, ?_⟩
      rw [List.drop_length] at hp2
      exact hp2.nxc s2 e2
  · exact hp.elim
theorem ss_forT {X : Cx} {E : XK} {es : List Expr} {ss : List Stmt} {tr : TA} {ts : TS} {fr : Env → M (List D)} {fs : Env → M Fl} {pos tpos : Pos} {x1} {tg : Expr} {is : List Nat} {t : TG} {g : D → Env → M Env} {K : W.Frag} (hp : PassesOwn (model X.prog X.w) X.A X.env X.xe) (h : SA X E es tr fr) (hg : SG X E is tg t g) (hb : SSs X E ss ts fs) (hK : X.K = K := by rfl) (hc : X.calm = true := by rfl)
    (hs : ∀ x, foldedSetIterable (.Tuple es x1 tpos) X.env x = pure x := by intro _; rfl) : SS X E (.For tg (.Tuple es x1 tpos) ss [] pos) (tFor (iAny K (tTup tr)) t ts) (forT fr g fs) := by
  subst hK
  exact ⟨ps_for hp hc (pi_any (pe_tup h.pa)) hg.pg hb.ps hs, rf_forT rfl h hg.rf hb.rf⟩
end B
/-! BL25: the logic's rules for BL19 .. BL24. -/
namespace B
open PySem L2
section
variable {env : Env} {st : Store} {X : Ex → Store → Prop}
@[simp] theorem e_chE {g g' : D → D → M D} {fa fb fc : Env → M D} {Q : D → Store → Prop} : wpx X (chE g g' fa fb fc env st) Q = wpx X (bd (fa env) (fun x => bd (fb env) fun y => bd (g x y) fun z => bd (boolOf z) fun k => if k = true then bd (fc env) fun u => g' y u else rt (.val (.bool false))) st) Q := by first | exact propext Iff.rfl | exact wp_D | exact wp_D.trans wp_D.symm
@[simp] theorem e_splE {fo fe : Env → M D} {Q : List PyData → Store → Prop} : wpx X (splE fo fe env st) Q = wpx X (bd (fo env) (fun x => bd (isS1 x) fun _ => bd (fe env) fun y => splF x y) st) Q := by first | exact propext Iff.rfl | exact wp_D | exact wp_D.trans wp_D.symm
@[simp] theorem e_forT {fr : Env → M (List D)} {g : D → Env → M Env} {fb : Env → M Fl} {Q : Fl → Store → Prop} : wpx X (forT fr g fb env st) Q = wpx X (bd (fr env) (fun ds => if ds.length ≤ sizeLine then forD (fun d env => bd (g d env) fb) ds env else bad) st) Q := by first | exact propext Iff.rfl | exact wp_D | exact wp_D.trans wp_D.symm
theorem wp_forD {body : D → Env → M Fl} {Q : Fl → Store → Prop} (I : Nat → Env → Store → Prop) : ∀ (xs : List D) (env : Env) (st : Store), I 0 env st →
    (∀ i x env st, xs[i]? = some x → I i env st → wpx X (body x env st) (kL (I (i + 1)) Q)) →
    (∀ env st, I xs.length env st → Q (.nx env) st) → wpx X (forD body xs env st) Q := by
  intro xs
  induction xs generalizing I with
  | nil => intro env st h0 _ hd; exact ⟨hd env st h0⟩
  | cons x r ih =>
    intro env st h0 hs hd
    simp only [forD, wp_bd]
    refine wp_mono (hs 0 x env st rfl h0) fun f s hf => ?_
    cases f with
    | nx e => exact ih (fun i => I (i + 1)) e s hf (fun i y env st hy => hs (i + 1) y env st (by simpa using hy)) fun env st h => hd env st h
    | ct e => exact ih (fun i => I (i + 1)) e s hf (fun i y env st hy => hs (i + 1) y env st (by simpa using hy)) fun env st h => hd env st h
    | bk e => exact ⟨hf⟩
    | rt d => exact ⟨hf⟩
@[simp] theorem e_catE {fo fe : Env → M D} {Q : List PyData → Store → Prop} : wpx X (catE fo fe env st) Q = wpx X (bd (fo env) (fun x => bd (fe env) fun y => catF x y) st) Q := by first | exact propext Iff.rfl | exact wp_D | exact wp_D.trans wp_D.symm
@[simp] theorem f_cat {a b : List PyData} {Q : List PyData → Store → Prop} : wpx X (catF (.val (.list a)) (.val (.list b)) st) Q = (a.length + b.length ≤ sizeLine ∧ Q (a ++ b) st) := by simp only [catF, dat, wp_iteBad, wp_ok]
@[simp] theorem e_isS1 {x : Str} {Q : Unit → Store → Prop} : wpx X (isS1 (.val (.str x)) st) Q = Q () st := by first | exact propext Iff.rfl | exact wp_D | exact wp_D.trans wp_D.symm
@[simp] theorem f_spl {a b : Str} {Q : List PyData → Store → Prop} : wpx X (splF (.val (.str a)) (.val (.str b)) st) Q = (((b.length == 0) = false ∧ a.length + 2 ≤ sizeLine) ∧ Q ((Txt.split a b).map PyData.str) st) := by simp only [splF, wp_iteBad, wp_ok]
@[simp] theorem e_sl3F {fe : Env → M D} {fl fh fs : Env → M (Option Int)} {Q : List PyData → Store → Prop} : wpx X (sl3F fe fl fh fs env st) Q = wpx X (bd (fe env) (fun x => bd (fl env) fun l => bd (fh env) fun h => bd (fs env) fun s => fun st => match dat st x with
    | some (.list xs) => if s ≠ some 0 then .ok (pickV xs l h s) st else .bad
    | _ => .bad) st) Q := by first | exact propext Iff.rfl | exact wp_D | exact wp_D.trans wp_D.symm
@[simp] theorem e_lputS {fd fi fv : Env → M D} {Q : Fl → Store → Prop} : wpx X (lputS fd fi fv env st) Q = wpx X (bd (fv env) (fun v => bd (fd env) fun x => bd (fi env) fun y => fun st => match x, y, v with
    | .loc n, .val (.int k), .val p => (match st[n]? with
      | some (.lst xs) => (match ixN xs.length k with
        | some j => .ok (.nx env) (st.set n (.lst (xs.set j p)))
        | none => .bad)
      | _ => .bad)
    | _, _, _ => .bad) st) Q := by first | exact propext Iff.rfl | exact wp_D | exact wp_D.trans wp_D.symm
@[simp] theorem e_enumI {fr : Env → M (List D)} {Q : Src → Store → Prop} : wpx X (enumI fr env st) Q = wpx X (bd (fr env) enumF st) Q := by first | exact propext Iff.rfl | exact wp_D | exact wp_D.trans wp_D.symm
@[simp] theorem f_enum {xs : List PyData} {Q : Src → Store → Prop} : wpx X (enumF [.val (.list xs)] st) Q = Q (.fix (enumP xs)) st := by first | exact propext Iff.rfl | exact wp_D | exact wp_D.trans wp_D.symm
@[simp] theorem f_intGI {i : Int} {Q : D → Store → Prop} : wpx X (intG [.val (.int i)] st) Q = Q (.val (.int i)) st := by first | exact propext Iff.rfl | exact wp_D | exact wp_D.trans wp_D.symm
@[simp] theorem f_intGB {b : Bool} {Q : D → Store → Prop} : wpx X (intG [.val (.bool b)] st) Q = Q (.val (.int (if b then 1 else 0))) st := by first | exact propext Iff.rfl | exact wp_D | exact wp_D.trans wp_D.symm
@[simp] theorem f_intGS {a : Str} {Q : D → Store → Prop} : wpx X (intG [.val (.str a)] st) Q = (match PySem.intText? a with | some n => a.length ≤ 640 ∧ Q (.val (.int n)) st | none => False) := by
  simp only [intG]
  cases PySem.intText? a with
  | none => exact wp_D
  | some n => simp only [wp_iteBad, wp_ok]
@[simp] theorem f_ordG {a : Str} {Q : D → Store → Prop} : wpx X (ordG [.val (.str a)] st) Q = (a.length = 1 ∧ Q (.val (.int (a.cps.getD 0 0 : Nat))) st) := by simp only [ordG, wp_iteBad, wp_ok]
@[simp] theorem f_mulGI {i j : Int} {Q : D → Store → Prop} : wpx X (mulG (.val (.int i)) (.val (.int j)) st) Q = (((-(2 ^ 64) < i ∧ i < 2 ^ 64) ∨ (-(2 ^ 64) < j ∧ j < 2 ^ 64)) ∧ Q (.val (.int (i * j))) st) := f_mulI
@[simp] theorem f_mulGT {a : List PyData} {j : Int} {Q : D → Store → Prop} : wpx X (mulG (.val (.tuple a)) (.val (.int j)) st) Q = ((a ≠ [] ∧ 2 ≤ j ∧ j ≤ 1000 ∧ a.length ≤ 1000) ∧ Q (.val (.tuple (List.replicate j.toNat a).flatten)) st) := f_mulT
@[simp] theorem f_mulGL {a : List PyData} {j : Int} {Q : D → Store → Prop} : wpx X (mulG (.val (.list a)) (.val (.int j)) st) Q = ((-(2 ^ 63) ≤ j ∧ j < 2 ^ 63 ∧ a.length * j.toNat ≤ sizeLine) ∧ Q (.val (.list (List.replicate j.toNat a).flatten)) st) := f_mulL
@[simp] theorem f_mulGS {a : Str} {n : Int} {Q : D → Store → Prop} : wpx X (mulG (.val (.str a)) (.val (.int n)) st) Q = ((-(2 ^ 40) ≤ n ∧ n ≤ 16777216 ∧ a.length ≤ 16777216 ∧ a.length * n.toNat ≤ 16777216) ∧ Q (.val (.str (repS a n))) st) := by simp only [mulG, wp_iteBad, wp_ok]
@[simp] theorem e_raiseS {cn : Str} {fs : List Str} {fr : Env → M (List D)} {Q : Fl → Store → Prop} : wpx X (raiseS cn fs fr env st) Q = wpx X (bd (fr env) (fun ds => fun st => if ds.length = fs.length then .exc (.own cn (fs.zip ds).reverse) st else .bad) st) Q := by first | exact propext Iff.rfl | exact wp_D | exact wp_D.trans wp_D.symm
@[simp] theorem e_isErr {i : Nat} {b : Bool} {Q : D → Store → Prop} : wpx X (isErr i b env st) Q = (match env[i]? with | some (some .err) => Q (.val (.bool b)) st | _ => False) := by
  simp only [isErr, wp_bd, e_gv]
  rcases env[i]? with _ | _ | d
  · rfl
  · rfl
  · cases d <;> simp
@[simp] theorem e_errF {i : Nat} {fs : List (Str × D)} {f : Str} {Q : D → Store → Prop} : wpx X (errF i fs f env st) Q = (match env[i]? with | some (some .err) => (match fs.lookup f with | some (.val p) => Q (.val p) st | _ => False) | _ => False) := by
  simp only [errF, wp_bd, e_gv]
  rcases env[i]? with _ | _ | d
  · rfl
  · rfl
  · cases d with
    | err =>
      simp only [kM_at]
      rcases fs.lookup f with _ | d
      · simp
      · cases d <;> simp
    | _ => simp
@[simp] theorem e_lamF {mh : M D → M D} {fb : Env → M D} {Q : D → Store → Prop} : wpx X (lamF mh fb env st) Q = wpx noE (mh (fb env) st) Q := by
  simp only [lamF, wp_noX]
end
end B
/-! BL26: programs as data; what the laws draw (parts that no mirror is needed for). -/
namespace B
open PySem L2
def feedO (cs : List Int) (a l c : Int) : O := .dk [(.inr "cells", .list (cs.map .int)), (.inr "at", .int a), (.inr "left", .int l), (.inr "count", .int c)]
def isFeed (o : O) : Prop := ∃ cs a l c, o = feedO cs a l c

theorem eqv_nil (cs : List Int) : PyData.eqv (.list (cs.map .int)) (.list []) = decide (cs = []) := by
  cases cs <;> simp [PyData.eqv, PyData.eqvAll]
theorem atI_mod {cs : List Int} (h : cs ≠ []) (a : Int) : ∃ v, atI (cs.map PyData.int) (a % (cs.length : Int)) = some (.int v) := by
  have hl : 0 < cs.length := List.length_pos_iff.mpr h
  have h1 : 0 ≤ a % (cs.length : Int) := Int.emod_nonneg _ (by omega)
  have h2 : a % (cs.length : Int) < cs.length := Int.emod_lt_of_pos _ (by omega)
  rw [atI_get h1 (by rw [List.length_map]; exact h2)]
  have h3 : (a % (cs.length : Int)).toNat < cs.length := by omega
  exact ⟨cs[(a % (cs.length : Int)).toNat], by rw [List.getElem?_map, List.getElem?_eq_getElem h3]; rfl⟩
def NameOk (p : PyData) : Prop := ∃ x, p = .str x ∧ Sm 8 x
def Num (i : Int) : Prop := i.natAbs < 2 ^ 200
def WayOk (p : PyData) : Prop := (∃ i, p = .int i ∧ Num i) ∨ p = .tuple [.str "back"] ∨ ∃ x, p = .tuple [.str "fail", .str x] ∧ Sm 8 x
def HandOk (p : PyData) : Prop := ∃ x i, p = .tuple [.str x, .int i] ∧ Sm 8 x ∧ Num i
def RowOk (p : PyData) : Prop := ∃ cs ws hs, p = .tuple [.tuple cs, .tuple ws, .tuple hs] ∧ (∀ c ∈ cs, NameOk c) ∧ (∀ c ∈ ws, WayOk c) ∧ (∀ c ∈ hs, HandOk c) ∧ cs.length ≤ 10 ∧ ws.length ≤ 14 ∧ hs.length ≤ 4
def FunOk (p : PyData) : Prop := ∃ x rs, p = .tuple [.str x, .tuple rs] ∧ Sm 8 x ∧ (∀ r ∈ rs, RowOk r) ∧ rs.length ≤ 12
def ProgOk (p : PyData) : Prop := ∃ fs, p = .tuple fs ∧ (∀ f ∈ fs, FunOk f) ∧ fs.length ≤ 8 ∧ fs ≠ []

theorem num_log {i : Int} (h : Num i) : i.natAbs.log2 < 1920 := Nat.lt_of_lt_of_le (log2_of_lt (by decide) h) (by decide)
abbrev SpotOk := HandOk
theorem sortOk_pairs {xs : List PyData} (h : ∀ x ∈ xs, ∃ a i, x = PyData.tuple [.str a, .int i]) : sortOk xs = true := by
  simp only [sortOk, Bool.and_eq_true, List.all_eq_true, Bool.or_eq_true]
  refine ⟨⟨fun d hd e he => ?_, .inl fun d hd => ?_⟩, fun d hd => ?_⟩
  · obtain ⟨a, i, rfl⟩ := h d hd
    obtain ⟨b, j, rfl⟩ := h e he
    rfl
  · obtain ⟨a, i, rfl⟩ := h d hd
    rfl
  · obtain ⟨a, i, rfl⟩ := h d hd
    simp [PyData.depth, PyData.depthAll]
theorem sortOk_strs {xs : List PyData} (h : ∀ x ∈ xs, ∃ a, x = PyData.str a) : sortOk xs = true := by
  simp only [sortOk, Bool.and_eq_true, List.all_eq_true, Bool.or_eq_true]
  refine ⟨⟨fun d hd e he => ?_, .inr fun d hd => ?_⟩, fun d hd => ?_⟩
  · obtain ⟨a, rfl⟩ := h d hd
    obtain ⟨b, rfl⟩ := h e he
    rfl
  · obtain ⟨a, rfl⟩ := h d hd
    rfl
  · obtain ⟨a, rfl⟩ := h d hd
    simp [PyData.depth]
theorem mem_sortP {xs : List PyData} {x : PyData} : x ∈ sortP xs ↔ x ∈ xs := (List.mergeSort_perm xs _).mem_iff
theorem len_sortP {xs : List PyData} : (sortP xs).length = xs.length := (List.mergeSort_perm xs _).length_eq
def nameB : PyData → Bool
  | .str x => decide (x.length ≤ 8) && x.cps.toList.all fun c => decide (c < 1114112)
  | _ => false
def numB (i : Int) : Bool := decide (i.natAbs < 2 ^ 200)
def wayB : PyData → Bool
  | .int i => numB i
  | .tuple [.str a] => decide (a = "back")
  | .tuple [.str a, x] => decide (a = "fail") && nameB x
  | _ => false
def handB : PyData → Bool
  | .tuple [x, .int i] => nameB x && numB i
  | _ => false
def rowB : PyData → Bool
  | .tuple [.tuple cs, .tuple ws, .tuple hs] => cs.all nameB && ws.all wayB && hs.all handB && decide (cs.length ≤ 10 ∧ ws.length ≤ 14 ∧ hs.length ≤ 4)
  | _ => false
def funB : PyData → Bool
  | .tuple [x, .tuple rs] => nameB x && rs.all rowB && decide (rs.length ≤ 12)
  | _ => false
def progB : PyData → Bool
  | .tuple fs => fs.all funB && decide (fs.length ≤ 8 ∧ fs ≠ [])
  | _ => false
theorem name_of {p : PyData} (h : nameB p = true) : NameOk p := by
  cases p with
  | str x => exact ⟨x, rfl, Sm.lit h⟩
  | _ => cases h
theorem num_of {i : Int} (h : numB i = true) : Num i := by
  unfold numB at h; show i.natAbs < 2 ^ 200; exact of_decide_eq_true h
theorem way_of {p : PyData} (h : wayB p = true) : WayOk p := by
  unfold wayB at h
  split at h
  · exact .inl ⟨_, rfl, num_of h⟩
  · rw [of_decide_eq_true h]; exact .inr (.inl rfl)
  · rw [Bool.and_eq_true] at h
    rw [of_decide_eq_true h.1]
    obtain ⟨x, rfl, hx⟩ := name_of h.2
    exact .inr (.inr ⟨x, rfl, hx⟩)
  · cases h
theorem hand_of {p : PyData} (h : handB p = true) : HandOk p := by
  unfold handB at h
  split at h
  · rw [Bool.and_eq_true] at h
    obtain ⟨x, rfl, hx⟩ := name_of h.1
    exact ⟨x, _, rfl, hx, num_of h.2⟩
  · cases h
theorem row_of {p : PyData} (h : rowB p = true) : RowOk p := by
  unfold rowB at h
  split at h
  · simp only [Bool.and_eq_true, List.all_eq_true, decide_eq_true_eq] at h
    obtain ⟨⟨⟨h1, h2⟩, h3⟩, h4⟩ := h
    exact ⟨_, _, _, rfl, fun c hc => name_of (h1 c hc), fun c hc => way_of (h2 c hc), fun c hc => hand_of (h3 c hc), h4⟩
  · cases h
theorem fun_of {p : PyData} (h : funB p = true) : FunOk p := by
  unfold funB at h
  split at h
  · simp only [Bool.and_eq_true, List.all_eq_true, decide_eq_true_eq] at h
    obtain ⟨⟨h1, h2⟩, h3⟩ := h
    obtain ⟨x, rfl, hx⟩ := name_of h1
    exact ⟨_, _, rfl, hx, fun c hc => row_of (h2 c hc), h3⟩
  · cases h
theorem prog_of {p : PyData} (h : progB p = true) : ProgOk p := by
  unfold progB at h
  split at h
  · simp only [Bool.and_eq_true, List.all_eq_true, decide_eq_true_eq] at h
    exact ⟨_, rfl, fun c hc => fun_of (h.1 c hc), h.2⟩
  · cases h
theorem mem_cutP {xs : List PyData} {lo hi : Option Int} {x : PyData} (h : x ∈ cutP xs lo hi) : x ∈ xs := List.mem_of_mem_drop (List.mem_of_mem_take h)
theorem len_cutP {xs : List PyData} {lo hi : Option Int} : (cutP xs lo hi).length ≤ xs.length := by
  simp only [cutP, List.length_take, List.length_drop]; omega
theorem num_small {i : Int} (h0 : 0 ≤ i) (h1 : i < 1000) : Num i := by
  have : i.natAbs < 1000 := by omega
  exact Nat.lt_trans this (by decide)
theorem range_get {n i : Nat} {x : PyData} (h : ((List.range n).map fun (t : Nat) => PyData.int (t : Int))[i]? = some x) : x = .int i ∧ i < n := by
  rw [List.getElem?_map] at h
  rcases Nat.lt_or_ge i n with h1 | h1
  · rw [List.getElem?_range h1] at h
    simp at h
    exact ⟨h.symm, h1⟩
  · rw [List.getElem?_eq_none (by simpa using h1)] at h
    cases h
theorem take_set_at {α : Type} (l : List α) (n : Nat) (a : α) : (l.set n a).take n = l.take n := by
  rw [List.take_set, List.set_eq_of_length_le (by rw [List.length_take]; omega)]
@[simp] theorem get_own1 {st : Store} {o p : O} {r : Store} : (st ++ o :: p :: r)[st.length + 1]? = some p := by
  rw [List.getElem?_append_right (by omega), show st.length + 1 - st.length = 1 by omega]; rfl
@[simp] theorem set_own1 {st : Store} {o p q : O} {r : Store} : (st ++ o :: p :: r).set (st.length + 1) q = st ++ o :: q :: r := by
  rw [List.set_append_right _ _ (by omega), show st.length + 1 - st.length = 1 by omega]; rfl
theorem depth0 {p : PyData} (h : NameOk p) : p.depth = 0 := by
  obtain ⟨x, rfl, _⟩ := h; rfl
def kR (R : Env → Store → Prop) : Fl → Store → Prop := fun f s => match f with
  | .nx e => R e s
  | _ => False
@[simp] theorem kR_nx {R : Env → Store → Prop} {e : Env} {s : Store} : kR R (.nx e) s = R e s := propext Iff.rfl
theorem seq_cut {f g : Env → M Fl} {env : Env} {st : Store} {Q : Fl → Store → Prop} (R : Env → Store → Prop) (h1 : wpx noE (f env st) (kR R)) (h2 : ∀ e s, R e s → wpx noE (g e s) Q) : wpx noE (seqS f g env st) Q := by
  rw [e_seqS, wp_bd]
  refine wp_mono h1 fun r s h => ?_
  cases r with
  | nx e => exact h2 e s h
  | _ => exact h.elim
def rowE (ts : List PyData) (size : Int) (calls : List PyData) : Env := [some (.loc 0), some (.val (.list ts)), some (.val (.int size)), some (.val (.list calls)), none, none, none, none, none, none]
def menuL (size : Int) : List PyData := rgP 0 size ++ [.tuple [.str "back"], .tuple [.str "fail", .str "bad"], .tuple [.str "fail", .str "back"]]
theorem menu_ok {size : Int} (h1 : size ≤ 4) : ∀ x ∈ menuL size, WayOk x := by
  intro x hx
  rcases List.mem_append.mp hx with hx | hx
  · obtain ⟨t, ht, rfl⟩ := List.mem_map.mp hx
    have := List.mem_range.mp ht
    exact .inl ⟨_, rfl, num_small (by omega) (by omega)⟩
  · simp only [List.mem_cons, List.not_mem_nil, or_false] at hx
    rcases hx with rfl | rfl | rfl
    · exact .inr (.inl rfl)
    · exact .inr (.inr ⟨_, rfl, Sm.lit (by decide +kernel)⟩)
    · exact .inr (.inr ⟨_, rfl, Sm.lit (by decide +kernel)⟩)
theorem menu_len {size : Int} (h0 : 1 ≤ size) : ((menuL size).length : Int) = size + 3 := by
  simp [menuL, rgP]; omega
theorem way_depth {p : PyData} (h : WayOk p) : p.depth ≤ 64 := by
  rcases h with ⟨i, rfl, hi⟩ | rfl | ⟨x, rfl, hx⟩
  · simp [PyData.depth]
  · simp [PyData.depth, PyData.depthAll]
  · simp [PyData.depth, PyData.depthAll]
abbrev SRT : List PyData := [.str "", .str "bad", .str "back", .str "zz"]
theorem srt_at {i : Int} (h0 : 0 ≤ i) (h1 : i < 4) : ∃ x, Sm 8 x ∧ atI SRT i = some (.str x) := by
  obtain ⟨y, hy, e⟩ := atI_some (xs := SRT) h0 (by simpa using h1)
  obtain ⟨x, rfl, hx⟩ := name_of ((List.all_eq_true.mp (show SRT.all nameB = true by decide +kernel)) y hy)
  exact ⟨x, hx, e⟩
def headD : PyData → PyData
  | .tuple (x :: _) => x
  | _ => .none
abbrev POOLS : List PyData := [.list [.str "main", .str "f", .str "g"], .list [.str "a"], .list [.str "function", .str "back", .str "fail", .str "zzzzzzzz"], .list [.str "b", .str "ab", .str "abc", .str "a"], .list [.str "g", .str "f"]]
def poolB : PyData → Bool
  | .list ts => ts.all nameB && decide (1 ≤ ts.length ∧ ts.length ≤ 4)
  | _ => false
theorem pool_at {i : Int} (h0 : 0 ≤ i) (h1 : i < 5) : ∃ ts, (∀ t ∈ ts, NameOk t) ∧ 1 ≤ ts.length ∧ ts.length ≤ 4 ∧ atI POOLS i = some (.list ts) := by
  obtain ⟨y, hy, e⟩ := atI_some (xs := POOLS) h0 (by simpa using h1)
  have := (List.all_eq_true.mp (show POOLS.all poolB = true by decide +kernel)) y hy
  unfold poolB at this
  split at this
  · simp only [Bool.and_eq_true, List.all_eq_true, decide_eq_true_eq] at this
    exact ⟨_, fun t ht => name_of (this.1 t ht), this.2.1, this.2.2, e⟩
  · cases this
theorem name_sz {x : Str} (h : Sm 8 x) : Sz 82 0 (.str x) := Sz.str h
theorem way_sz {p : PyData} (h : WayOk p) : Sz 201 1 p := by
  rcases h with ⟨i, rfl, hi⟩ | rfl | ⟨x, rfl, hx⟩
  · exact (Sz.int (k := 200) (by decide) (by decide) hi).mono (by decide) (by decide)
  · refine (Sz.tuple (n := 82) (k := 0) (m := 2) (fun x hx => ?_) (by simp)).mono (by decide) (by decide)
    rw [List.mem_singleton.mp hx]; exact name_sz (Sm.lit (by decide +kernel))
  · refine (Sz.tuple (n := 82) (k := 0) (m := 2) (fun y hy => ?_) (by simp)).mono (by decide) (by decide)
    simp only [List.mem_cons, List.not_mem_nil, or_false] at hy
    rcases hy with rfl | rfl
    · exact name_sz (Sm.lit (by decide +kernel))
    · exact name_sz hx
theorem hand_sz {p : PyData} (h : HandOk p) : Sz 409 1 p := by
  obtain ⟨x, i, rfl, hx, hi⟩ := h
  refine (Sz.tuple (n := 201) (k := 0) (m := 2) (fun y hy => ?_) (by simp)).mono (by decide) (by decide)
  simp only [List.mem_cons, List.not_mem_nil, or_false] at hy
  rcases hy with rfl | rfl
  · exact (name_sz hx).mono (by decide) (by decide)
  · exact Sz.int (k := 200) (by decide) (by decide) hi
theorem row_sz {p : PyData} (h : RowOk p) : Sz 8544 3 p := by
  obtain ⟨cs, ws, hs, rfl, hc, hw, hh, lc, lw, lh⟩ := h
  refine (Sz.tuple (n := 2845) (k := 2) (m := 3) (fun y hy => ?_) (by simp)).mono (by decide) (by decide)
  simp only [List.mem_cons, List.not_mem_nil, or_false] at hy
  rcases hy with rfl | rfl | rfl
  · exact (Sz.tuple (n := 82) (k := 0) (m := 10) (fun y hy => by obtain ⟨x, rfl, hx⟩ := hc y hy; exact name_sz hx) lc).mono (by decide) (by decide)
  · exact (Sz.tuple (n := 201) (k := 1) (m := 14) (fun y hy => way_sz (hw y hy)) lw).mono (by decide) (by decide)
  · exact (Sz.tuple (n := 409) (k := 1) (m := 4) (fun y hy => hand_sz (hh y hy)) lh).mono (by decide) (by decide)
theorem fun_sz {p : PyData} (h : FunOk p) : Sz 205117 5 p := by
  obtain ⟨x, rs, rfl, hx, hr, lr⟩ := h
  refine (Sz.tuple (n := 102555) (k := 4) (m := 2) (fun y hy => ?_) (by simp)).mono (by decide) (by decide)
  simp only [List.mem_cons, List.not_mem_nil, or_false] at hy
  rcases hy with rfl | rfl
  · exact (name_sz hx).mono (by decide) (by decide)
  · exact (Sz.tuple (n := 8544) (k := 3) (m := 12) (fun y hy => row_sz (hr y hy)) lr).mono (by decide) (by decide)
theorem prog_sz {p : PyData} (h : ProgOk p) : Sz 1640955 6 p := by
  obtain ⟨fs, rfl, hf, lf, _⟩ := h
  exact (Sz.tuple (n := 205117) (k := 5) (m := 8) (fun y hy => fun_sz (hf y hy)) lf).mono (by decide) (by decide)
theorem join_sm {f : PyData → Str} {xs : List PyData} {m n s : Nat} {a : Str} (h : ∀ x ∈ xs, Sm m (f x)) (hn : xs.length ≤ n) (ha : Sm s a) : Sm (n * (m + s)) (Txt.join a (xs.map f)) :=
  Sm.join (fun y hy => by obtain ⟨x, hx, rfl⟩ := List.mem_map.mp hy; exact h x hx) ha (by rw [List.length_map]; exact hn)
theorem join_ok {f : PyData → Str} {xs : List PyData} {m n s : Nat} {a : Str} (h : ∀ x ∈ xs, Sm m (f x)) (hn : xs.length ≤ n) (ha : a.length ≤ s) (hb : n * (m + s) ≤ 16777216) : (xs.map ((·.length) ∘ f)).sum + xs.length * a.length ≤ 16777216 := by
  have := join_fits (ys := xs.map f) (fun y hy => by obtain ⟨x, hx, rfl⟩ := List.mem_map.mp hy; exact h x hx) ha (by rw [List.length_map]; exact hn) hb
  simpa using this
end B
/-! BL27: signs of texts under comprehensions; names and numbers. -/
namespace B
open PySem L2
section
variable {st : Store} {X : Ex → Store → Prop} {Q : D → Store → Prop}
@[simp] theorem f_inS {n : Bool} {c : Nat} {z : Str} : wpx X (inF n (.val (.str ⟨#[c]⟩)) (.val (.str z)) st) Q = Q (.val (.bool (n != decide (c ∈ z.cps.toList)))) st := by
  simp only [inF, datV]; exact wp_D
@[simp] theorem f_lenS {z : Str} : wpx X (lenF [.val (.str z)] st) Q = (z.length ≤ sizeLine ∧ Q (.val (.int z.length)) st) := by simp only [lenF, datV, wp_iteBad, wp_ok]
@[simp] theorem f_ixS {z : Str} {i : Int} : wpx X (ixF (.val (.str z)) (.val (.int i)) st) Q = (z.length ≤ sizeLine ∧ match atI z.cps.toList i with | some c => Q (.val (.str ⟨#[c]⟩)) st | none => False) := by
  simp only [ixF, datV, wp_iteBad]
  cases atI z.cps.toList i <;> simp
@[simp] theorem f_slS {z : Str} {lo hi : Option Int} : wpx X (sliceF lo hi (.val (.str z)) st) Q = (z.length ≤ sizeLine ∧ Q (.val (.str (cutS z lo hi))) st) := by simp only [sliceF, datV, wp_iteBad, wp_ok]
@[simp] theorem f_all {xs : List PyData} : wpx X (allF [.val (.list xs)] st) Q = (match boolsOf xs with | some bs => Q (.val (.bool (bs.all id))) st | none => False) := by
  simp only [allF, datV]; cases boolsOf xs <;> exact wp_D
@[simp] theorem boolsOf_map {α : Type} {f : α → Bool} : ∀ {xs : List α}, boolsOf (xs.map fun x => PyData.bool (f x)) = some (xs.map f)
  | [] => rfl
  | x :: r => by simp [boolsOf, boolsOf_map (xs := r)]
end
@[simp] theorem dep_nil {d : PyData} : (min d.depth (PyData.list []).depth ≤ 64) = True := eq_true (Nat.le_trans (Nat.min_le_right _ _) (by simp [PyData.depth, PyData.depthAll]))
@[simp] theorem dep_str {d : PyData} {s : Str} : (min d.depth (PyData.str s).depth ≤ 64) = True := eq_true (Nat.le_trans (Nat.min_le_right _ _) (by simp [PyData.depth]))
@[simp] theorem dep_int {d : PyData} {s : Int} : (min d.depth (PyData.int s).depth ≤ 64) = True := eq_true (Nat.le_trans (Nat.min_le_right _ _) (by simp [PyData.depth]))
@[simp] theorem eqv_nils {xs : List PyData} : PyData.eqv (.list xs) (.list []) = xs.isEmpty := by
  cases xs <;> simp [PyData.eqv, PyData.eqvAll]
@[simp] theorem f_lstN {X : Ex → Store → Prop} {st : Store} {Q : List PyData → Store → Prop} : wpx X (lstD [] st) Q = Q [] st := by
  simp [vals]
section
variable {X : Ex → Store → Prop} {st : Store} {Q : D → Store → Prop} {n : Bool}
@[simp] theorem f_isNN : wpx X (isNF n (.val .none) st) Q = Q (.val (.bool (n != true))) st := by simp [isNF]
@[simp] theorem f_isNI {i : Int} : wpx X (isNF n (.val (.int i)) st) Q = Q (.val (.bool (n != false))) st := by simp [isNF]
@[simp] theorem f_isNT {i : List PyData} : wpx X (isNF n (.val (.tuple i)) st) Q = Q (.val (.bool (n != false))) st := by simp [isNF]
@[simp] theorem f_isNS {i : Str} : wpx X (isNF n (.val (.str i)) st) Q = Q (.val (.bool (n != false))) st := by simp [isNF]
@[simp] theorem f_isNL {i : List PyData} : wpx X (isNF n (.val (.list i)) st) Q = Q (.val (.bool (n != false))) st := by simp [isNF]
end
theorem of_wpX {r : Res D} {e : Ex} {st : Store} (h : wpx (fun x s => x = e ∧ s = st) r fun _ _ => False) : r = .exc e st := by
  cases r with
  | ok a s => simp at h
  | bad => simp at h
  | exc x s => simp at h; rw [h.1, h.2]
theorem enum_get {xs : List PyData} {i : Nat} {x : PyData} (h : (enumP xs)[i]? = some x) : ∃ d, xs[i]? = some d ∧ x = .tuple [.int i, d] := by
  unfold enumP at h
  rw [List.getElem?_map] at h
  by_cases hi : i < xs.length
  · rw [List.getElem?_range hi] at h
    simp only [Option.map_some, Option.some.injEq] at h
    refine ⟨xs[i], List.getElem?_eq_getElem hi, ?_⟩
    rw [← h, List.getD_eq_getElem?_getD, List.getElem?_eq_getElem hi]
    rfl
  · rw [List.getElem?_eq_none (by simpa using hi)] at h
    cases h
theorem heard_exc {told : Str} {i n : Nat} {caught : List Str} {hand : Str → List (Str × D) → B.Env → M Fl} {ask : M D} {st : Store} {C : Str} {fs : List (Str × D)} {p : PyData}
    (ha : ask st = .exc (.own C fs) st) (hC : C ∈ caught) (he : errFree st = true) (hp : Pl st) (h : wpx noE (hand C fs ((List.replicate n none).set i (some .err)) st) fun f s => f = .rt (.val p) ∧ s.take st.length = st) :
    heardM told i n caught hand ask st = .ok (.val p) st := by
  obtain ⟨a, s, e, rfl, hs⟩ := wp_iff.mp h
  unfold heardM
  rw [ha]
  simp only [hC, he, and_self, if_true, e, hs, hp.ok, Pl.ok hp]
theorem heard_ok {told : Str} {i n : Nat} {caught : List Str} {hand : Str → List (Str × D) → B.Env → M Fl} {ask : M D} {st : Store} {p : PyData}
    (ha : ask st = .ok (.val p) st) : heardM told i n caught hand ask st = .ok (.val (.tuple [.str told, p])) st := by
  unfold heardM
  rw [ha]
def sign (p : PyData) : Nat := match p with
  | .str s => s.cps.getD 0 0
  | _ => 0
theorem signs_mem {x : Str} {p : PyData} (h : p ∈ signs x) : ∃ c, c ∈ x.cps.toList ∧ p = .str ⟨#[c]⟩ ∧ sign p = c := by
  obtain ⟨c, hc, rfl⟩ := List.mem_map.mp h
  exact ⟨c, hc, rfl, rfl⟩
theorem signs_map {x : Str} {f : Nat → PyData} : (signs x).map (fun p => f (sign p)) = x.cps.toList.map f := by
  unfold signs
  rw [List.map_map]
  rfl
theorem signs_filter {x : Str} {f : Nat → Bool} : (signs x).filter (fun p => f (sign p)) = (x.cps.toList.filter f).map fun c => .str ⟨#[c]⟩ := by
  unfold signs
  rw [List.filter_map]
  rfl
theorem signs_len {x : Str} : (signs x).length = x.length := by
  unfold signs
  rw [List.length_map]
  exact Array.length_toList
/-- [c in A for c in x] -/
theorem lc_inA {A x : Str} {i : Nat} {env : Env} {st : Store} (hi : i < env.length) (hl : x.length ≤ sizeLine) :
    lcF (setV i) (lcIn yesT (op2 (inF false) (gv i) (cD (.val (.str A))))) env (signs x) [] st = .ok (x.cps.toList.map fun c => PyData.bool (decide (c ∈ A.cps.toList))) st := by
  have h := lcF_wp (g := setV i) (ft := yesT) (fe := op2 (inF false) (gv i) (cD (.val (.str A)))) (env := env) (st := st) (xs := signs x) (fun p => PyData.bool (decide (sign p ∈ A.cps.toList))) (fun p hp => by
    obtain ⟨c, hc, rfl, e⟩ := signs_mem hp
    simp [hi, e]) (by rw [signs_len]; exact hl)
  rw [h, signs_map (f := fun c => PyData.bool (decide (c ∈ A.cps.toList)))]
/-- a comprehension that keeps some signs -/
theorem lc_keep {x : Str} {i : Nat} {env : Env} {st : Store} {ft : Env → M Bool} (p : Nat → Bool) (hi : i < env.length) (hl : x.length ≤ sizeLine) (h : ∀ c ∈ x.cps.toList, wpx noE (ft (env.set i (some (.val (.str ⟨#[c]⟩)))) st) fun b s => b = p c ∧ s = st) :
    lcF (setV i) (lcIn ft (gv i)) env (signs x) [] st = .ok ((x.cps.toList.filter p).map fun c => PyData.str ⟨#[c]⟩) st := by
  have : wpx noE (lcF (setV i) (lcIn ft (gv i)) env (signs x) [] st) fun a s => a = ((signs x).filter fun q => p (sign q)).map id ∧ s = st := by
    refine lc_filter (fun q => p (sign q)) id (fun q hq => ?_) (by rw [signs_len]; exact hl) ⟨rfl, rfl⟩
    obtain ⟨c, hc, rfl, e⟩ := signs_mem hq
    simp only [e_setV]
    refine wp_mono (h c hc) ?_
    rintro b s ⟨rfl, rfl⟩
    refine ⟨by rw [e], ?_⟩
    by_cases hp : p c = true
    · rw [if_pos hp]; simp [hi]
    · rw [if_neg hp]
  obtain ⟨a, s, e, rfl, rfl⟩ := wp_iff.mp this
  rw [e, List.map_id, signs_filter]
theorem alpha_iff {c : Nat} : c ∈ (Str.ofString "abcdefghijklmnopqrstuvwxyz").cps.toList ↔ 97 ≤ c ∧ c ≤ 122 := by
  have : (Str.ofString "abcdefghijklmnopqrstuvwxyz").cps.toList = List.range' 97 26 := by decide +kernel
  rw [this, List.mem_range'_1]
  omega
theorem digit_iff {c : Nat} : c ∈ (Str.ofString "0123456789").cps.toList ↔ 48 ≤ c ∧ c ≤ 57 := by
  have : (Str.ofString "0123456789").cps.toList = List.range' 48 10 := by decide +kernel
  rw [this, List.mem_range'_1]
  omega
theorem alpha_arr {c : Nat} : c ∈ (Str.ofString "abcdefghijklmnopqrstuvwxyz").cps ↔ 97 ≤ c ∧ c ≤ 122 := by rw [← alpha_iff, Array.mem_toList_iff]
theorem digit_arr {c : Nat} : c ∈ (Str.ofString "0123456789").cps ↔ 48 ≤ c ∧ c ≤ 57 := by rw [← digit_iff, Array.mem_toList_iff]
/-- a name -/
def nmB (x : Str) : Bool := decide (1 ≤ x.length ∧ x.length ≤ 8) && x.cps.toList.all fun c => decide (97 ≤ c ∧ c ≤ 122)
/-- the number that a word is -/
def numOf (x : Str) : Option Int := if (1 ≤ x.length ∧ x.length ≤ 60) ∧ (x.cps.toList.all fun c => decide (48 ≤ c ∧ c ≤ 57)) = true ∧ (x.length = 1 ∨ x.cps.toList.head? ≠ some 48) then some ((NumText.digitsVal x.cps.toList : Nat) : Int) else none
def optI : Option Int → PyData
  | some n => .int n
  | none => .none
theorem fold_digits : ∀ (cs : List Nat) (acc : Nat), (∀ c ∈ cs, 48 ≤ c ∧ c ≤ 57) → cs.foldl (fun acc c => acc * 10 + (c - 48)) acc < (acc + 1) * 10 ^ cs.length
  | [], acc, _ => by simp
  | c :: r, acc, h => by
    have h1 := fold_digits r (acc * 10 + (c - 48)) fun d hd => h d (List.mem_cons_of_mem _ hd)
    have h2 := h c (List.mem_cons_self ..)
    simp only [List.foldl_cons, List.length_cons]
    refine Nat.lt_of_lt_of_le h1 ?_
    have : acc * 10 + (c - 48) + 1 ≤ (acc + 1) * 10 := by omega
    calc (acc * 10 + (c - 48) + 1) * 10 ^ r.length ≤ (acc + 1) * 10 * 10 ^ r.length := Nat.mul_le_mul_right _ this
      _ = (acc + 1) * 10 ^ (r.length + 1) := by rw [Nat.pow_succ, Nat.mul_assoc, Nat.mul_comm 10]
theorem digits_lt {cs : List Nat} (h : ∀ c ∈ cs, 48 ≤ c ∧ c ≤ 57) : NumText.digitsVal cs < 10 ^ cs.length := by
  have := fold_digits cs 0 h
  simpa [NumText.digitsVal] using this
theorem numOf_num {x : Str} {n : Int} (h : numOf x = some n) : 0 ≤ n ∧ Num n := by
  unfold numOf at h
  split at h
  · rename_i hc
    obtain ⟨⟨h1, h2⟩, h3, _⟩ := hc
    cases h
    have h4 : ∀ c ∈ x.cps.toList, 48 ≤ c ∧ c ≤ 57 := fun c hc => of_decide_eq_true (List.all_eq_true.mp h3 c hc)
    have h5 := digits_lt h4
    have h6 : x.cps.toList.length ≤ 60 := by rw [Array.length_toList]; exact h2
    have h7 : 10 ^ x.cps.toList.length ≤ 10 ^ 60 := Nat.pow_le_pow_right (by decide) h6
    refine ⟨by omega, ?_⟩
    unfold Num
    rw [Int.natAbs_natCast]
    exact Nat.lt_of_lt_of_le (Nat.lt_of_lt_of_le h5 h7) (by decide +kernel)
  · cases h
theorem nm_sm {x : Str} (h : nmB x = true) : Sm 8 x := by
  unfold nmB at h
  rw [Bool.and_eq_true, List.all_eq_true] at h
  refine ⟨(of_decide_eq_true h.1).2, fun c hc => ?_⟩
  have := of_decide_eq_true (h.2 c hc)
  omega
theorem intText_all {x : Str} (h : (x.cps.toList.all fun c => decide (48 ≤ c ∧ c ≤ 57)) = true) (h1 : 1 ≤ x.length) (h2 : x.length ≤ 60) : intText? x = some ((NumText.digitsVal x.cps.toList : Nat) : Int) := by
  refine intText_digits (fun c hc => of_decide_eq_true (List.all_eq_true.mp h c hc)) (fun e => ?_) (by omega)
  have : x.cps.toList.length = 0 := by rw [e]; rfl
  rw [Array.length_toList] at this
  have : x.length = 0 := this
  omega
theorem all_inA {x : Str} : (x.cps.toList.map fun c => decide (c ∈ (Str.ofString "abcdefghijklmnopqrstuvwxyz").cps.toList)).all id = x.cps.toList.all fun c => decide (97 ≤ c ∧ c ≤ 122) := by
  rw [List.all_map]
  congr 1
  funext c
  exact decide_eq_decide.mpr alpha_iff
theorem all_inD {x : Str} : (x.cps.toList.map fun c => decide (c ∈ (Str.ofString "0123456789").cps.toList)).all id = x.cps.toList.all fun c => decide (48 ≤ c ∧ c ≤ 57) := by
  rw [List.all_map]
  congr 1
  funext c
  exact decide_eq_decide.mpr digit_iff
theorem filter_none {xs : List Nat} {p : Nat → Bool} {f : Nat → PyData} : (((xs.filter fun c => !p c).map f) = []) ↔ xs.all p = true := by
  rw [List.map_eq_nil_iff, List.filter_eq_nil_iff, List.all_eq_true]
  constructor
  · intro h c hc; simpa using h c hc
  · intro h c hc; simpa using h c hc
theorem tl_len (x : Str) : x.cps.toList.length = x.length := Array.length_toList
theorem first_sign {x : Str} (h : 1 ≤ x.length) : ∃ c r, x.cps.toList = c :: r ∧ atI x.cps.toList 0 = some c := by
  have := tl_len x
  cases e : x.cps.toList with
  | nil => rw [e, List.length_nil] at this; omega
  | cons c r => exact ⟨c, r, rfl, by simp [atI, ixN]⟩
theorem str_ext {x y : Str} (h : x.cps.toList = y.cps.toList) : x = y := by
  cases x; cases y; congr 1; exact Array.ext' h
theorem zero_iff {x : Str} : x = Str.ofString "0" ↔ x.cps.toList = [48] := by
  have e : (Str.ofString "0").cps.toList = [48] := by decide +kernel
  exact ⟨fun h => by rw [h]; exact e, fun h => str_ext (h.trans e.symm)⟩
theorem one_zero {c : Nat} : (⟨#[c]⟩ : Str) = Str.ofString "0" ↔ c = 48 := by
  rw [zero_iff]; simp
/-- the program's and the law's way to say it -/
theorem num_here {x : Str} {c : Nat} {r : List Nat} (hd : (x.cps.toList.all fun c => decide (48 ≤ c ∧ c ≤ 57)) = true) (h5 : 1 ≤ x.length) (h4 : x.length ≤ 60) (e : x.cps.toList = c :: r) :
    optI (numOf x) = if x.length = 1 ∨ c ≠ 48 then .int ((NumText.digitsVal x.cps.toList : Nat) : Int) else .none := by
  unfold numOf
  by_cases hc : x.length = 1 ∨ c ≠ 48
  · rw [if_pos hc, if_pos ⟨⟨h5, h4⟩, hd, by rw [e]; simpa using hc⟩]
    rfl
  · rw [if_neg hc, if_neg ?_]
    · rfl
    · rintro ⟨_, _, z⟩
      rw [e] at z
      exact hc (by simpa using z)
theorem num_not {x : Str} (hd : ¬ (x.cps.toList.all fun c => decide (48 ≤ c ∧ c ≤ 57)) = true) : optI (numOf x) = .none := by
  unfold numOf
  rw [if_neg fun z => hd z.2.1]
  rfl
theorem keepN {xs : List Nat} {p : Nat → Bool} {f : Nat → PyData} : (((xs.filter fun c => !p c).map f)).isEmpty = xs.all p := by
  rw [Bool.eq_iff_iff, List.isEmpty_iff]
  exact filter_none
end B
/-! BL28: sizes of texts and of lists of texts. -/
namespace B
open PySem L2
theorem Pl.err {st : Store} (h : Pl st) : errFree st = true := by
  unfold errFree
  rw [List.all_eq_true]
  intro o ho
  cases o with
  | ins C fs => exact absurd (h _ ho) (by simp [plO])
  | _ => rfl
theorem Sz.two {a b k : Nat} {p q : PyData} (h : Sz a k p) (h' : Sz b k q) : Sz (a + b + 7) (k + 1) (.tuple [p, q]) := by
  refine ⟨by simp only [PyData.showable, PyData.showableAll, h.sh, h'.sh, Bool.and_self], ?_, by have := h.dp; have := h'.dp; simp only [PyData.depth, PyData.depthAll]; omega⟩
  simp only [PyData.shown, PyData.shownAll]
  have h4 := PySem.tupleText_len_le (PyData.shownAll [p, q])
  rw [PyData.shownAll_length] at h4
  simp only [PyData.shownAll, List.map_cons, List.map_nil, List.sum_cons, List.sum_nil, List.length_cons, List.length_nil] at h4
  have := h.len
  have := h'.len
  omega
@[simp] theorem o_add2 {X : Ex → Store → Prop} {st : Store} {n : Nat} {ys : List PyData} {Q : D → Store → Prop} : wpx X (addF (.val (.list ys)) (.loc n) st) Q = (match st[n]? with | some (.lst xs) => ys.length + xs.length ≤ sizeLine ∧ Q (.val (.list (ys ++ xs))) st | _ => False) := by
  simp only [addF, dat]
  rcases st[n]? with _ | o
  · exact wp_D
  · cases o <;> simp
theorem mem_pick {α : Type} {xs : List α} {lo hi s : Option Int} {x : α} (h : x ∈ pickV xs lo hi s) : x ∈ xs := by
  unfold pickV at h
  obtain ⟨i, _, hi⟩ := List.mem_filterMap.mp h
  exact List.mem_of_getElem? hi
/-- the weight of a list of words -/
def Wt (ws : List Str) : Nat := (ws.map (·.length)).sum + ws.length
theorem Wt.app (a b : List Str) : Wt (a ++ b) = Wt a + Wt b := by simp [Wt]; omega
theorem Wt.drop (a : List Str) (n : Nat) : Wt (a.drop n) ≤ Wt a := by
  have := Wt.app (a.take n) (a.drop n)
  rw [List.take_append_drop] at this
  omega
theorem Wt.take (a : List Str) (n : Nat) : Wt (a.take n) ≤ Wt a := by
  have := Wt.app (a.take n) (a.drop n)
  rw [List.take_append_drop] at this
  omega
theorem Wt.cut (a : List Str) (lo hi : Option Int) : Wt (cutP a lo hi) ≤ Wt a := Nat.le_trans (Wt.take _ _) (Wt.drop _ _)
theorem Wt.set : ∀ (a : List Str) (n : Nat) (x : Str), Wt (a.set n x) ≤ Wt a + x.length
  | [], n, x => by simp [Wt]
  | y :: r, 0, x => by simp [Wt]; omega
  | y :: r, n + 1, x => by
    have := Wt.set r n x
    simp [Wt] at this ⊢
    omega
theorem Wt.split (x : Str) : Wt (Txt.split x " ") ≤ x.length + 1 := PyProof.Rows.split_weight x " " (by decide +kernel)
theorem Wt.join (ws : List Str) : (Txt.join " " ws).length ≤ Wt ws := by
  rw [TL.join_eq]
  cases ws with
  | nil => simp [Str.join, Wt]
  | cons a r =>
    rw [PyProof.Rows.len_join_cons]
    have : (Str.ofString " ").length = 1 := by decide +kernel
    simp only [Wt, List.length_cons]
    rw [this]
    omega
theorem Wt.all {ws : List Str} {n : Nat} (h : ∀ w ∈ ws, w.length ≤ n) : Wt ws ≤ ws.length * (n + 1) := by
  induction ws with
  | nil => simp [Wt]
  | cons a r ih =>
    have h1 := ih fun w hw => h w (List.mem_cons_of_mem _ hw)
    have h2 := h a (List.mem_cons_self ..)
    simp [Wt, Nat.succ_mul, Nat.add_mul] at h1 ⊢
    omega
theorem Wt.fits {ws : List Str} (h : Wt ws ≤ 16777216) : (ws.map (·.length)).sum + ws.length * (Str.ofString " ").length ≤ 16777216 := by
  have : (Str.ofString " ").length = 1 := by decide +kernel
  rw [this]
  unfold Wt at h
  omega
theorem cutP_map {α β : Type} (f : α → β) (xs : List α) (lo hi : Option Int) : cutP (xs.map f) lo hi = (cutP xs lo hi).map f := by
  simp [cutP, List.map_take, List.map_drop]
def TxtOk (n : Nat) (p : PyData) : Prop := ∃ x, p = .str x ∧ x.length ≤ n
theorem txts {n : Nat} : ∀ {xs : List PyData}, (∀ p ∈ xs, TxtOk n p) → ∃ ws : List Str, xs = ws.map PyData.str ∧ ∀ w ∈ ws, w.length ≤ n
  | [], _ => ⟨[], rfl, by simp⟩
  | a :: r, h => by
    obtain ⟨ws, e, hw⟩ := txts fun p hp => h p (List.mem_cons_of_mem _ hp)
    obtain ⟨x, e1, hx⟩ := h a (List.mem_cons_self ..)
    refine ⟨x :: ws, by rw [e, e1]; rfl, fun w hw' => ?_⟩
    rcases List.mem_cons.mp hw' with rfl | z
    · exact hx
    · exact hw w z
theorem repS_len (x : Str) (n : Int) : (repS x n).length = n.toNat * x.length := by
  rw [← tl_len]
  unfold repS
  simp [← tl_len]
theorem cutS_len (x : Str) (lo hi : Option Int) : (cutS x lo hi).length ≤ x.length := cutS_length x lo hi
theorem len_pick {α : Type} {xs : List α} {i s : Int} (hs : 0 < s) : (pickV xs (some i) none (some s)).length ≤ xs.length := by
  unfold pickV
  refine Nat.le_trans (List.length_filterMap_le _ _) ?_
  refine sliceRange_length_le _ _ _ _ (fun _ => ?_) (fun h => ?_)
  · simp [sliceBounds, hs]
    omega
  · exact absurd hs (by simpa [sliceBounds] using h)
theorem cut_two {x m : Str} {p b : Int} (h0 : 0 ≤ p) (h1 : p ≤ x.length) (hb : 0 ≤ b) (hm : m.length ≤ 1) : (cutS x none (some p) ++ m ++ cutS x (some (p + b)) none).length ≤ x.length + 1 := by
  rw [len_cat, len_cat]
  have e1 : (cutS x none (some p)).length ≤ p.toNat := by
    rw [← tl_len]
    have z : ¬ p < 0 := by omega
    simp [cutS, HT.sIx, z]
    omega
  have e2 : (cutS x (some (p + b)) none).length ≤ x.length - p.toNat := by
    rw [← tl_len]
    have z : ¬ p + b < 0 := by omega
    have z2 : x.cps.size = x.length := rfl
    simp [cutS, HT.sIx, z, z2]
    omega
  omega
end B
/-! BL29: comprehensions with two clauses; startswith, upper. -/
namespace B
open PySem L2
variable [Nm] [Gd]
def tIn2 (tt : TT) (wi1 : TI) (g1 : TG) (tt1 : TT) (te : TE) (vs1 : List Nat) : TN := fun p σ H Nx => tt σ H fun b H3 => if b = true then wi1 σ H3 fun J1 H4 => LcLoop J1 g1 (tIn tt1 te) p vs1 σ H4 Nx else Nx H3
def lcIn2 (m : Nat) (vs1 : List Nat) (ft : B.Env → M Bool) (fi1 : B.Env → M Src) (g1 : D → B.Env → M B.Env) (ft1 : B.Env → M Bool) (fe : B.Env → M D) (env : B.Env) (acc : List PyData) : M (List PyData) :=
  bd (noX (ft env)) fun b => if b = true then bd (noX (fi1 env)) fun s => lcL m g1 (lcIn ft1 fe) (kill vs1 env) s acc else rt acc
theorem rfn_in2 {K : W.Frag} {m : Nat} {vs1 is1 : List Nat} {tt tt1 : TT} {wi1 : TI} {tg1 : TG} {te : TE} {ft ft1 : B.Env → M Bool} {fi1 : B.Env → M Src} {g1 : D → B.Env → M B.Env} {fe : B.Env → M D}
    (ht : Rf K E0 RB tt ft) (hi : Rf K E0 (RI K) wi1 fi1) (hg : RfG K E0 is1 tg1 g1) (his : ∀ i ∈ is1, i ∈ vs1) (ht1 : Rf K E0 RB tt1 ft1) (he : Rf K E0 (RE K) te fe) : RfN K (tIn2 tt wi1 tg1 tt1 te vs1) (lcIn2 m vs1 ft fi1 g1 ft1 fe) := by
  intro p w σ H env st acc vs Nx s0 e0 n0 q0 hp
  refine ht.stepN s0 e0 n0 hp fun w1 H1 w2 st1 b b' s1 r1 mo er s2 g2 hD hp => ?_
  cases r1
  have hh : upd (hide H1 p) p (.lst vs) = H1 := by rw [upd_hide, upd_self hD]
  cases b with
  | false =>
    rw [if_neg Bool.false_ne_true] at hp ⊢
    have := hp w2 _ vs (Ge.refl _ _) s2 hide_same (q0.mono g2)
    rw [hh] at this
    exact this
  | true =>
    rw [if_pos rfl] at hp ⊢
    rw [← hh]
    refine hi.stepN s2 (e0.mono g2) hide_same hp fun w3 H3 w4 st3 s J s3 r3 mo3 er3 s4 g4 hD3 hp => ?_
    have h3 : upd (hide H3 p) p (.lst vs) = H3 := by rw [upd_hide, upd_self hD3]
    have rJ : RI K w4 (hide H3 p) s J := by
      cases s with
      | fix xs => exact ItOk.mono mo3 r3
      | obj n =>
        obtain ⟨a, ha, e⟩ := r3
        exact ⟨a, by rw [er3]; exact ha, e⟩
    have := lc_loop (m0 := m) (vs0 := vs1) hg (rfn_in ht1 he) his s4 ((e0.mono g2).mono g4) hide_same ((q0.mono g2).mono g4) rJ hp
    rw [h3] at this
    exact this
def lcS2 (m : Nat) (own vs1 : List Nat) (fi : B.Env → M Src) (g : D → B.Env → M B.Env) (ft : B.Env → M Bool) (fi1 : B.Env → M Src) (g1 : D → B.Env → M B.Env) (ft1 : B.Env → M Bool) (fe : B.Env → M D) : B.Env → M (List PyData) :=
  fun env => bd (fi env) fun s => noX (lcL m g (lcIn2 m vs1 ft fi1 g1 ft1 fe) (kill own env) s [])
theorem rf_lc2 {K : W.Frag} {E : XK} {m : Nat} {own vs1 is is1 : List Nat} {ti ti1 : TI} {tg tg1 : TG} {tt tt1 : TT} {te : TE} {fi fi1 : B.Env → M Src} {g g1 : D → B.Env → M B.Env} {ft ft1 : B.Env → M Bool} {fe : B.Env → M D} (hi : Rf K E (RI K) ti fi) (hg : RfG K E0 is tg g) (his : ∀ i ∈ is, i ∈ own)
    (ht : Rf K E0 RB tt ft) (hi1 : Rf K E0 (RI K) ti1 fi1) (hg1 : RfG K E0 is1 tg1 g1) (his1 : ∀ i ∈ is1, i ∈ vs1) (ht1 : Rf K E0 RB tt1 ft1) (he : Rf K E0 (RE K) te fe) : RfF K E (tLc2 ti tg tt ti1 tg1 tt1 te own vs1) (lcS2 m own vs1 fi g ft fi1 g1 ft1 fe) := by
  intro w σ H env st Q s0 e0 hp
  unfold lcS2 at hp
  refine hi w σ H env st _ s0 e0 ?_
  cases hf : fi env st with
  | ok s st' =>
    rw [bd_ok hf] at hp
    intro w1 H1 J g1' s1 q1 p np
    refine lc_loop (m0 := m) hg (rfn_in2 (m := m) ht hi1 hg1 his1 ht1 he) his s1 (e0.mono g1') np .nil q1 (Fin := fun H' => Q (.ref p) H') ?_
    have hp := hp.mono g1'
    cases hr : lcL m g (lcIn2 m vs1 ft fi1 g1 ft1 fe) (kill own env) s [] st' with
    | ok acc st2 =>
      rw [noX_ok hr] at hp
      exact fun w2 H2 vs g2 s2 n2 q2 => hp w2 H2 p vs g2 s2 n2 q2
    | exc e st2 => rw [noX_exc hr] at hp; exact hp.elim
    | bad => rw [noX_bad hr] at hp; exact hp.elim
  | exc e st' => rw [bd_exc hf] at hp; exact hp
  | bad => rw [bd_bad hf] at hp; exact hp
section
variable {X : Cx} {E : XK} {elt tg iter tg1 iter1 : Expr} {ifs ifs1 : List Expr} {scope : Scope} {own : List (Str × Nat)} {is is1 : List Nat} {pos : Pos} {ti ti1 : TI} {g g1 : TG} {tt tt1 : TT} {te : TE} {fi fi1 : B.Env → M Src} {fg fg1 : D → B.Env → M B.Env} {ft ft1 : B.Env → M Bool} {fe : B.Env → M D}
theorem sf_lc2 (m : Nat) (vs1 : List Nat) (hN : X.N.Nodup) (hi : SI X E tg iter ti fi) (ok : BlkOk X.N X.env.scope scope own)
    (hg : ∀ (s : Shared) (H : Hp) (C : Addr) (cl : List (Str × Addr)) (fp : List Addr), SG (X.blk s H scope (PySem.compEnvC scope cl C X.env) fp) E0 is tg g fg) (ht : ∀ (s : Shared) (H : Hp) (C : Addr) (cl : List (Str × Addr)) (fp : List Addr), STs (X.blk s H scope (PySem.compEnvC scope cl C X.env) fp) E0 ifs tt ft)
    (hi1 : ∀ (s : Shared) (H : Hp) (C : Addr) (cl : List (Str × Addr)) (fp : List Addr), SI (X.blk s H scope (PySem.compEnvC scope cl C X.env) fp) E0 tg1 iter1 ti1 fi1)
    (hg1 : ∀ (s : Shared) (H : Hp) (C : Addr) (cl : List (Str × Addr)) (fp : List Addr), SG (X.blk s H scope (PySem.compEnvC scope cl C X.env) fp) E0 is1 tg1 g1 fg1) (ht1 : ∀ (s : Shared) (H : Hp) (C : Addr) (cl : List (Str × Addr)) (fp : List Addr), STs (X.blk s H scope (PySem.compEnvC scope cl C X.env) fp) E0 ifs1 tt1 ft1)
    (he : ∀ (s : Shared) (H : Hp) (C : Addr) (cl : List (Str × Addr)) (fp : List Addr), SE (X.blk s H scope (PySem.compEnvC scope cl C X.env) fp) E0 elt te fe) {os : List Nat} (hos : own.map (·.2) = os := by rfl) (his : ∀ i ∈ is, i ∈ os := by decide) (his1 : ∀ i ∈ is1, i ∈ vs1 := by decide) (hv : ∀ i ∈ vs1, i ∈ os := by decide) (hc : X.calm = true := by rfl) (hs : ∀ x, foldedSetIterable iter X.env x = pure x := by intro _; rfl) (hs1 : ∀ env x, foldedSetIterable iter1 env x = pure x := by intro _ _; rfl) :
    SF X E (.ListComp elt [⟨tg, iter, ifs, 0⟩, ⟨tg1, iter1, ifs1, 0⟩] scope pos) (tLc2 ti g tt ti1 g1 tt1 te os vs1) (lcS2 m os vs1 fi fg ft fi1 fg1 ft1 fe) := by
  subst hos
  exact ⟨pe_lc2 hc hN hi.pi ok hv (fun s H C cl fp => (hg s H C cl fp).pg) (fun s H C cl fp => (ht s H C cl fp).pt) (fun s H C cl fp => (hi1 s H C cl fp).pi) (fun s H C cl fp => (hg1 s H C cl fp).pg) (fun s H C cl fp => (ht1 s H C cl fp).pt) (fun s H C cl fp => (he s H C cl fp).pe) hs hs1,
    rf_lc2 hi.rf (hg {} (fun _ => none) 0 [] []).rf his (ht {} (fun _ => none) 0 [] []).rf (hi1 {} (fun _ => none) 0 [] []).rf (hg1 {} (fun _ => none) 0 [] []).rf his1 (ht1 {} (fun _ => none) 0 [] []).rf (he {} (fun _ => none) 0 [] []).rf⟩
theorem ss_setLc2 {i : Nat} {y : Str} {py spos : Pos} (ob : Bool) (m : Nat) (vs1 : List Nat) (hN : X.N.Nodup) (hi : SI X E tg iter ti fi) (ok : BlkOk X.N X.env.scope scope own)
    (hg : ∀ (s : Shared) (H : Hp) (C : Addr) (cl : List (Str × Addr)) (fp : List Addr), SG (X.blk s H scope (PySem.compEnvC scope cl C X.env) fp) E0 is tg g fg) (ht : ∀ (s : Shared) (H : Hp) (C : Addr) (cl : List (Str × Addr)) (fp : List Addr), STs (X.blk s H scope (PySem.compEnvC scope cl C X.env) fp) E0 ifs tt ft)
    (hi1 : ∀ (s : Shared) (H : Hp) (C : Addr) (cl : List (Str × Addr)) (fp : List Addr), SI (X.blk s H scope (PySem.compEnvC scope cl C X.env) fp) E0 tg1 iter1 ti1 fi1)
    (hg1 : ∀ (s : Shared) (H : Hp) (C : Addr) (cl : List (Str × Addr)) (fp : List Addr), SG (X.blk s H scope (PySem.compEnvC scope cl C X.env) fp) E0 is1 tg1 g1 fg1) (ht1 : ∀ (s : Shared) (H : Hp) (C : Addr) (cl : List (Str × Addr)) (fp : List Addr), STs (X.blk s H scope (PySem.compEnvC scope cl C X.env) fp) E0 ifs1 tt1 ft1)
    (he : ∀ (s : Shared) (H : Hp) (C : Addr) (cl : List (Str × Addr)) (fp : List Addr), SE (X.blk s H scope (PySem.compEnvC scope cl C X.env) fp) E0 elt te fe)
    (hsw : swapsWith (.ListComp elt [⟨tg, iter, ifs, 0⟩, ⟨tg1, iter1, ifs1, 0⟩] scope pos) (some (.Name y py)) spos.line X.env = pure true) {os : List Nat} (hos : own.map (·.2) = os := by rfl) (his : ∀ i ∈ is, i ∈ os := by decide) (his1 : ∀ i ∈ is1, i ∈ vs1 := by decide) (hv : ∀ i ∈ vs1, i ∈ os := by decide) (hc : X.calm = true := by rfl) (hy : X.N[i]? = some y := by rfl) (hyl : X.env.scope.names.lookup y = some .local := by rfl) (hs : ∀ x, foldedSetIterable iter X.env x = pure x := by intro _; rfl) (hs1 : ∀ env x, foldedSetIterable iter1 env x = pure x := by intro _ _; rfl) :
    SS X E (.Assign [.Name y py] (.ListComp elt [⟨tg, iter, ifs, 0⟩, ⟨tg1, iter1, ifs1, 0⟩] scope pos) spos) (tAsg (tLc2 ti g tt ti1 g1 tt1 te os vs1) (gName i)) (asgS (obV ob (lcS2 m os vs1 fi fg ft fi1 fg1 ft1 fe)) (setV i)) := by
  subst hos
  have rf := rf_lc2 (m := m) hi.rf (hg {} (fun _ => none) 0 [] []).rf his (ht {} (fun _ => none) 0 [] []).rf (hi1 {} (fun _ => none) 0 [] []).rf (hg1 {} (fun _ => none) 0 [] []).rf his1 (ht1 {} (fun _ => none) 0 [] []).rf (he {} (fun _ => none) 0 [] []).rf
  refine ⟨ps_setLc2 hc hN hy hyl hsw hi.pi ok hv (fun s H C cl fp => (hg s H C cl fp).pg) (fun s H C cl fp => (ht s H C cl fp).pt) (fun s H C cl fp => (hi1 s H C cl fp).pi) (fun s H C cl fp => (hg1 s H C cl fp).pg) (fun s H C cl fp => (ht1 s H C cl fp).pt) (fun s H C cl fp => (he s H C cl fp).pe) hs hs1, ?_⟩
  have rs : RfG X.K E [i] (gName i) (setV i) := fun w σ H env st d v Q s0 e0 r hp => hp w H _ (Ge.refl _ _) s0 (e0.set i r) fun vs h => wipe_set (h i (by simp))
  cases ob with
  | true => exact rf_asg (is := [i]) (rf_obj rf) rs
  | false => exact rf_asg (is := [i]) (rf_val rf) rs
end
section
variable {X : Cx} {E : XK} {o e : Expr} {to te : TE} {fo fe : B.Env → M D} {apos cpos : Pos}
theorem isS1_ok {d : D} {st : Store} {u : Unit} {st' : Store} (h : isS1 d st = .ok u st') : ∃ a, d = .val (.str a) ∧ st' = st := by
  unfold isS1 at h
  split at h
  · cases h; exact ⟨_, rfl, rfl⟩
  · cases h
def upE (fo : B.Env → M D) : B.Env → M D := fun env => bd (fo env) fun x => fun st => match x with
  | .val (.str a) => if a.length ≤ 5592405 then .ok (.val (.str (Txt.upper a))) st else .bad
  | _ => .bad
theorem se_upper (ho : SE X E o to fo) (h2 : attributeBase o "upper" X.env (eval o X.env) = eval o X.env := by rfl) (h3 : (apos.endLine == cpos.line) = true := by rfl) :
    SE X E (.Call (.Attribute o "upper" apos) [] [] cpos) (tM0 (fun x xs H Q => ∃ a, x = .str a ∧ xs = [] ∧ a.length ≤ 5592405 ∧ Q (.str (Txt.upper a)) H) to) (upE fo) := by
  refine ⟨pe_upper ho.pe h2 h3, fun w σ H env st Q s0 e0 hp => ?_⟩
  refine ho.rf.step s0 e0 hp fun w1 H1 st1 x v g1 s1 e1 q1 hp => ?_
  split at hp
  · split at hp
    · rename_i a hl
      obtain ⟨⟩ : v = .str a := by cases q1; rfl
      exact ⟨⟨a, rfl⟩, a, rfl, rfl, hl, Post.now hp s1 (.str _)⟩
    · exact hp.elim
  · exact hp.elim
def swF (x y : D) : M D := fun st => match x, y with
  | .val (.str a), .val (.str b) => .ok (.val (.bool (Txt.startswith a b))) st
  | _, _ => .bad
def swE (fo fe : B.Env → M D) : B.Env → M D := fun env => bd (fo env) fun x => bd (isS1 x) fun _ => bd (fe env) fun y => swF x y
theorem se_starts (ho : SE X E o to fo) (he : SE X E e te fe) (h1 : starEach [e] X.env = [(false, eval e X.env)] := by rfl) (h2 : attributeBase o "startswith" X.env (eval o X.env) = eval o X.env := by rfl) (h3 : (apos.endLine == cpos.line) = true := by rfl) :
    SE X E (.Call (.Attribute o "startswith" apos) [e] [] cpos) (tM1 (fun x xs H Q => ∃ a b, x = .str a ∧ xs = [.str b] ∧ Q (.bl (Txt.startswith a b)) H) to te) (swE fo fe) := by
  refine ⟨pe_m1 PySem.F.slot_str_startswith PySem.F.type_str_startswith mt_startswith ho.pe he.pe h1 h2 h3, fun w σ H env st Q s0 e0 hp => ?_⟩
  refine ho.rf.step s0 e0 hp fun w1 H1 st1 x v g1 s1 e1 q1 hp => ?_
  cases hx : isS1 x st1 with
  | bad => rw [bd_bad hx] at hp; exact hp.elim
  | exc ex st2 =>
    unfold isS1 at hx
    split at hx <;> cases hx
  | ok uu st2 =>
    rw [bd_ok hx] at hp
    obtain ⟨a, rfl, rfl⟩ := isS1_ok hx
    obtain ⟨⟩ : v = .str a := by cases q1; rfl
    refine ⟨⟨a, rfl⟩, ?_⟩
    refine he.rf.step s1 e1 hp fun w2 H2 st2 y u g2 s2 e2 q2 hp => ?_
    unfold swF at hp
    split at hp
    · rename_i b' b ea
      cases ea
      cases q2
      exact ⟨a, b, rfl, rfl, Post.now hp s2 (.bl _)⟩
    · exact hp.elim
/-- the place of the first item that is equal -/
def idxP (d : PyData) : Nat → List PyData → Option Nat
  | _, [] => none
  | n, z :: r => if PyData.eqv z d = true then some n else idxP d (n + 1) r
theorem idxP_at {d : PyData} : ∀ {xs : List PyData} {n k : Nat}, idxP d n xs = some k → ∃ j z, k = n + j ∧ xs[j]? = some z ∧ PyData.eqv z d = true ∧ ∀ (m : Nat) (z' : PyData), m < j → xs[m]? = some z' → PyData.eqv z' d = false
  | [], n, k, h => by cases h
  | z :: r, n, k, h => by
    unfold idxP at h
    split at h
    · rename_i hz
      cases h
      exact ⟨0, z, rfl, rfl, hz, fun m z' hm => by omega⟩
    · rename_i hz
      obtain ⟨j, z', e, hj, he, hno⟩ := idxP_at h
      refine ⟨j + 1, z', by omega, by simpa using hj, he, fun m y hm hy => ?_⟩
      cases m with
      | zero => simp at hy; subst hy; exact Bool.eq_false_iff.mpr hz
      | succ m => exact hno m y (by omega) (by simpa using hy)
def idxF (x : D) (ds : List D) : M D := fun st => match dat st x, ds with
  | some (.list xs), [d] => (match dat st d with
    | some p => if SeqAt.shaped (.list xs) = true ∧ SeqAt.shaped p = true then (match idxP p 0 xs with
      | some k => .ok (.val (.int (k : Nat))) st
      | none => .bad) else .bad
    | none => .bad)
  | _, _ => .bad
theorem bm_idx {K : W.Frag} : BMt K E (rIndexD K) idxF := by
  intro w H st dx ds x vs Q hs rx rd hp
  unfold idxF at hp
  split at hp
  · rename_i xs d hx
    split at hp
    · rename_i p hd
      split at hp
      · rename_i hsh
        split at hp
        · rename_i k hk
          obtain ⟨a, us, ev, ha, ra⟩ := dat_lst hs rx hx
          subst ev
          obtain ⟨v, evs, rv⟩ := rd.one
          obtain ⟨j, z, ek, hj, he, hno⟩ := idxP_at hk
          rw [Nat.zero_add] at ek
          subst ek
          exact ⟨a, v, p, xs, k, z, rfl, evs, dat_dp hs rx hx, dat_dp hs rv hd, hsh.1, hsh.2, hj, he, hno, Post.now hp hs (.int _)⟩
        · exact hp.elim
      · exact hp.elim
    · exact hp.elim
  · exact hp.elim
variable {tr : TA} {fr : B.Env → M (List D)}
theorem se_index {K : W.Frag} (hu : X.A.units + 65 < cLine) (ho : SE X E o to fo) (ha : SA X E [e] tr fr) (hK : X.K = K := by rfl) (hbase : attributeBase o "index" X.env (eval o X.env) = eval o X.env := by rfl)
    (hfew : ((backTo cpos (starEach [e] X.env)).all (fun x => !x.1) && (backToKw cpos (keywordEach [] X.env)).all (fun x => x.1.isSome) && decide ([e].length + ([] : List Keyword).length + (if ([] : List Keyword).isEmpty then 0 else 1) < 30)) = true := by rfl)
    (hline : (apos.endLine == cpos.line) = true := by rfl) (hs : starEach [e] X.env = (false, eval e X.env) :: starEach [] X.env := by rfl) (hplain : (backTo cpos (starEach [] X.env)).any (·.1) = false := by rfl) :
    SE X E (.Call (.Attribute o "index" apos) [e] [] cpos) (tBM K "list" (rIndexD K) to tr) (methL idxF fo fr) := by
  subst hK
  exact ⟨pe_bm PySem.F.plainAttrs_list PySem.F.slot_list_index PySem.F.type_list_index (mt_indexD hu) ho.pe ha.pa hbase hfew hline hs hplain, rf_methL bm_idx ho.rf ha.rf⟩
end
end B
/-! BL30: a call of a def that a parameter holds; simp rules for BL29 and BL30. -/
namespace B
open PySem L2
section
variable [Nm] [Gd]
variable {X : Cx} {E : XK} {k i nn : Nat} {x : Str} {p pos : Pos} {e : Expr} {es : List Expr} {tr : TA} {fr : B.Env → M (List D)}
def callP (i : Nat) (cs : List (Str × (List D → M D))) (fr : B.Env → M (List D)) : B.Env → M D := fun env => match env[i]? with
  | some (some (.fn n)) => (match cs.lookup n with
    | some m => bd (fr env) m
    | none => bad)
  | _ => bad
def tCallP (i : Nat) (K : W.Frag) (nn : Nat) (cs : List (Str × (List D → M D))) (E : XK) (t : TA) : TE := fun σ H Q => ∃ n m, σ[i]? = some (some (.ref (Nm.cl n))) ∧ cs.lookup n = some m ∧ t σ H fun vs H1 => spOf K nn m vs H1 Q E
def HeldP (X : Cx) (nn : Nat) (n : Str) (m : List D → M D) : Prop := ∃ (k : Nat) (fd : FuncData) (ps : List Str), FnG X.prog X.w X.K X.mg X.base k (Nm.cl n) fd ps (spOf X.K nn m) ∧ Room k X.A ∧ PySem.W.keepIn X.K (.ref (Nm.cl n)) = true ∧ Binds X.K fd ps []
theorem heldP_nil : ∀ n m, ([] : List (Str × (List D → M D))).lookup n = some m → HeldP X nn n m := fun _ _ h => by cases h
theorem heldP_cons {n : Str} {m : List D → M D} {cs : List (Str × (List D → M D))} (h : HeldP X nn n m) (hs : ∀ n m, cs.lookup n = some m → HeldP X nn n m) : ∀ n' m', ((n, m) :: cs).lookup n' = some m' → HeldP X nn n' m' := by
  intro n' m' e
  rw [List.lookup_cons] at e
  split at e
  · rename_i q
    cases e
    rw [eq_of_beq q]
    exact h
  · exact hs n' m' e
theorem HeldP.of {n : Str} {m : List D → M D} {f : Addr} {fd : FuncData} {ps : List Str} (hf : Nm.cl n = f) (F : FnG X.prog X.w X.K X.mg X.base k f fd ps (spOf X.K nn m)) (hr : Room k X.A) (hk : PySem.W.keepIn X.K (.ref f) = true) (hb : Binds X.K fd ps []) : HeldP X nn n m := by
  subst hf
  exact ⟨k, fd, ps, F, hr, hk, hb⟩
theorem se_callP {K : W.Frag} {cs : List (Str × (List D → M D))} (A : ∀ n m, cs.lookup n = some m → HeldP X nn n m) (hG : X.A.guards = some []) (hx : Passes (L2.CX X.prog X.w) X E)
    (ha : SA X E (e :: es) tr fr) (hn : lenIs nn fr) (hK : X.K = K := by rfl) (hN : X.N[i]? = some x := by rfl) (hv : Vis X.env.scope x := by first | exact Or.inl rfl | exact Or.inr rfl | decide +kernel)
    (hdb : (x == ("__debug__" : Str)) = false := by decide) (hcd : (x == ("__classdict__" : Str)) = false := by decide)
    (he : starEach (e :: es) X.env = (false, eval e X.env) :: starEach es X.env := by rfl) (hpl : (backTo pos (starEach es X.env)).any (·.1) = false := by rfl) :
    SE X E (.Call (.Name x p) (e :: es) [] pos) (tCallP i K nn cs E tr) (callP i cs fr) := by
  subst hK
  refine ⟨⟨fun pins s σ H Q I h => ?_⟩, fun w σ H env st Q s0 e0 hp => ?_⟩
  · obtain ⟨n, m, hs, hm, ht⟩ := h
    obtain ⟨k, fd, ps, F, hr, hk, hb⟩ := A n m hm
    refine wpAny_Call_Name_kw (thn ((pe_var (pos := p) hN hv hdb hcd).run pins s σ H (fun v H1 => v = .ref (Nm.cl n) ∧ H1 = H) I ⟨.ref (Nm.cl n), hs, rfl, rfl⟩) fun u s1 ⟨v, H1, I1, r1, q1⟩ => ?_)
    obtain ⟨rfl, rfl⟩ := q1
    cases r1
    exact PySem.W.callWith_K (h₀ := X.base) I.ok.mod.kin hk (thn (ha.pa.run pos pins s1 σ _ _ I1 ht) fun us s2 ⟨vs, H2, I2, r, q⟩ => ⟨I2.kIn, goFn F hr hG hb hx I2 r q⟩) he hpl
  · rcases hi : env[i]? with _ | _ | d
    · simp only [callP, hi] at hp; exact hp.elim
    · simp only [callP, hi] at hp; exact hp.elim
    · cases d with
      | fn n =>
        cases hm : cs.lookup n with
        | none => simp only [callP, hi, hm] at hp; exact hp.elim
        | some m =>
          simp only [callP, hi, hm] at hp
          obtain ⟨v, ev, rv⟩ := e0.get i _ hi
          have rv : v = .ref (Nm.cl n) := rv
          subst rv
          exact ⟨n, m, ev, hm, rf_call hn ha.rf w σ H env st Q s0 e0 hp⟩
      | _ => simp only [callP, hi] at hp; exact hp.elim
end
section
variable {env : B.Env} {st : Store} {X : Ex → Store → Prop}
@[simp] theorem e_callP {i : Nat} {cs : List (Str × (List D → M D))} {fr : B.Env → M (List D)} {Q : D → Store → Prop} : wpx X (callP i cs fr env st) Q = (match env[i]? with | some (some (.fn n)) => (match cs.lookup n with | some m => wpx X (bd (fr env) m st) Q | none => False) | _ => False) := by
  unfold callP
  split
  · rename_i n hi
    simp only [hi]
    cases cs.lookup n <;> first | rfl | exact wp_D
  · rename_i hi
    rcases h : env[i]? with _ | _ | d
    · simp
    · simp
    · cases d <;> first | (simp; done) | exact absurd h (hi _)
@[simp] theorem e_upE {fo : B.Env → M D} {Q : D → Store → Prop} : wpx X (upE fo env st) Q = wpx X (bd (fo env) (fun x => fun st => match x with | .val (.str a) => if a.length ≤ 5592405 then .ok (.val (.str (Txt.upper a))) st else .bad | _ => .bad) st) Q := by first | exact propext Iff.rfl | exact wp_D | exact wp_D.trans wp_D.symm
@[simp] theorem e_swE {fo fe : B.Env → M D} {Q : D → Store → Prop} : wpx X (swE fo fe env st) Q = wpx X (bd (fo env) (fun x => bd (isS1 x) fun _ => bd (fe env) fun y => swF x y) st) Q := by first | exact propext Iff.rfl | exact wp_D | exact wp_D.trans wp_D.symm
@[simp] theorem f_swF {a b : Str} {Q : D → Store → Prop} : wpx X (swF (.val (.str a)) (.val (.str b)) st) Q = Q (.val (.bool (Txt.startswith a b))) st := by simp only [swF, wp_ok]
@[simp] theorem f_idxF {xs : List PyData} {p : PyData} {Q : D → Store → Prop} : wpx X (idxF (.val (.list xs)) [.val p] st) Q = ((SeqAt.shaped (.list xs) = true ∧ SeqAt.shaped p = true) ∧ match idxP p 0 xs with | some k => Q (.val (.int (k : Nat))) st | none => False) := by
  simp only [idxF, dat, wp_iteBad]
  cases idxP p 0 xs <;> simp
@[simp] theorem e_lcS2 {m : Nat} {own vs1 : List Nat} {fi fi1 : B.Env → M Src} {g g1 : D → B.Env → M B.Env} {ft ft1 : B.Env → M Bool} {fe : B.Env → M D} {Q : List PyData → Store → Prop} : wpx X (lcS2 m own vs1 fi g ft fi1 g1 ft1 fe env st) Q = wpx X (bd (fi env) (fun src => match src with
    | .fix xs => noX (lcF g (lcIn2 m vs1 ft fi1 g1 ft1 fe) (kill own env) xs [])
    | .obj n => noX (lcO g (lcIn2 m vs1 ft fi1 g1 ft1 fe) n (kill own env) m 0 [])) st) Q := by
  simp only [lcS2, wp_bd, lcL]
  refine congrArg (wpx X _) (funext fun r => funext fun s => ?_)
  cases r <;> simp only [kM, wp_noX]
theorem e_lcIn2 {m : Nat} {vs1 : List Nat} {fi1 : B.Env → M Src} {g1 : D → B.Env → M B.Env} {ft ft1 : B.Env → M Bool} {fe : B.Env → M D} {acc : List PyData} {Q : List PyData → Store → Prop} : wpx X (lcIn2 m vs1 ft fi1 g1 ft1 fe env acc st) Q = wpx X (bd (noX (ft env)) (fun b => if b = true then bd (noX (fi1 env)) fun s => (match s with
    | .fix xs => lcF g1 (lcIn ft1 fe) (kill vs1 env) xs acc
    | .obj n => lcO g1 (lcIn ft1 fe) n (kill vs1 env) m 0 acc) else rt acc) st) Q := by
  have : lcIn2 m vs1 ft fi1 g1 ft1 fe env acc = bd (noX (ft env)) (fun b => if b = true then bd (noX (fi1 env)) fun s => (match s with
    | .fix xs => lcF g1 (lcIn ft1 fe) (kill vs1 env) xs acc
    | .obj n => lcO g1 (lcIn ft1 fe) n (kill vs1 env) m 0 acc) else rt acc) := by
    unfold lcIn2
    refine congrArg (bd _) (funext fun b => ?_)
    split
    · refine congrArg (bd _) (funext fun s => ?_)
      cases s <;> rfl
    · rfl
  rw [this]
end
end B
/-! BL31: enumerate over lists and tuples. -/
namespace B
open PySem L2 PySem.Spec PyProof.Rows
theorem meets_enum1B {v : Value} {o : Obj} {H : Heap → Prop} (B : Begins v o H) :
    Meets (Builtin.«enumerate.__new__» ⟨[.type "enumerate", v], []⟩) (fun _ R s => H s.heap ∧
      R (.ok (.ret (.ref (s.heap.push o).objs.size))) { s with heap := (s.heap.push o).push { cls := .type "enumerate", data := .fields #[.none, .bool false, .ref s.heap.objs.size, rawInt 0, .none, .none] } }) :=
  .of_wp fun prog w A R s h => by
    obtain ⟨hp, g, d, tk, os⟩ := s; obtain ⟨h1, h⟩ := h
    have hsub := sub_enumerate
    have q1 : ∀ {A' : Around} {E : Value → Shared → Prop} {Q : Value → Shared → Prop}, Q (.ref hp.objs.size) ⟨hp.push o, g, d, tk, os⟩ → wpAny (model prog w) A' (pyIter v) Q E ⟨hp, g, d, tk, os⟩ :=
      fun q => B.iter prog w _ _ ⟨hp, g, d, tk, os⟩ _ h1 q
    wp_walk using q1
    refine wpAny_stack_any fun st => wpAny_pure ?_
    split
    · rename_i c _ _ _ _ _
      cases (c == Value.type "enumerate")
      · wp_walk using q1
        exact ⟨_, rfl, h⟩
      · wp_walk using q1
        exact ⟨_, rfl, h⟩
    · wp_walk using q1
      exact ⟨_, rfl, h⟩
theorem enum1_begins {prog : Program} {w : World} {A : Around} {E : Value → Shared → Prop} {s : Shared} {v : Value} {o : Obj} {H : Heap → Prop} {Q : Value → Shared → Prop} (B : Begins v o H) (h1 : H s.heap)
    (h : ∀ h', IsEnum h' (s.heap.objs.size + 1) s.heap.objs.size 0 .none → h'.get? s.heap.objs.size = some o → h'.objs.size = s.heap.objs.size + 2 →
      (∀ b o, s.heap.get? b = some o → h'.get? b = some o) → Q (.ref (s.heap.objs.size + 1)) { s with heap := h' }) :
    wpAny (model prog w) A (call (.type "enumerate") [v]) Q E s := by
  refine callType_new F.called_enumerate (by decide) (F.typeCall_enumerate_1 _) (F.newCall_enumerate_1 _) (fun obj => F.args_object_init_2 obj _) F.entry_enumerate_new
    (meets_enum1B B) ⟨h1, ?_⟩
  have hz : (s.heap.push o).objs.size = s.heap.objs.size + 1 := Heap.size_push ..
  show _ ∧ _
  rw [hz]
  have he : IsEnum ((s.heap.push o).push { cls := .type "enumerate", data := .fields #[.none, .bool false, .ref s.heap.objs.size, rawInt 0, .none, .none] }) (s.heap.objs.size + 1) s.heap.objs.size 0 .none := by
    have := Heap.get?_push_size (s.heap.push o) (o := { cls := .type "enumerate", data := .fields #[.none, .bool false, .ref s.heap.objs.size, rawInt 0, .none, .none] }) rfl
    rw [hz] at this; exact this
  refine ⟨⟨_, he, rfl⟩, h _ he (Heap.get?_push_of_some _ (Heap.get?_push_size _ B.free)) (by rw [Heap.size_push, hz]) fun b o x => Heap.get?_push_of_some _ (Heap.get?_push_of_some _ x)⟩
def IteT (K : PySem.W.Frag) (a : Addr) : It :=
  ⟨fun i H => ∃ (xs : List V) (x : V), SqT K H a xs ∧ xs[i]? = some x, fun i H v H' => ∃ T x, v = .ref T ∧ H T = none ∧ H' = upd H T (.tup [.int (i : Nat), x]) ∧ ∀ xs, SqT K H a xs → xs[i]? = some x, fun i H => ∃ xs : List V, SqT K H a xs ∧ xs.length ≤ i⟩
theorem iter_ne {h : Heap} {it a : Addr} {i : Nat} {items : Array Value} (hi : h.IsTupleIter it a i) (ht : h.IsTuple a items) : a ≠ it := by
  rintro rfl
  obtain ⟨o, e, c, _⟩ := hi
  obtain ⟨o', e', c', _⟩ := ht
  rw [e] at e'
  cases e'
  rw [c] at c'
  injection c' with q
  exact absurd q (by decide)
theorem enum_ne {h : Heap} {e it a : Addr} {i : Int} {old : Value} {items : Array Value} (hi : IsEnum h e it i old) (ht : h.IsTuple a items) : e ≠ a := by
  rintro rfl
  obtain ⟨o', e', c', _⟩ := ht
  have hi : h.get? e = some _ := hi
  rw [hi] at e'
  cases e'
  injection c' with q
  exact absurd q (by decide)
theorem enum_endT {prog : Program} {w : World} {A : Around} {E : Value → Shared → Prop} {s : Shared} {e it a : Addr} {i : Nat} {c : Int} {items : Array Value} {old : Value} {Q : Option Value → Shared → Prop} (hh : A.in1.handled = none)
    (he : IsEnum s.heap e it c old) (hit : s.heap.IsTupleIter it a i) (ht : s.heap.IsTuple a items) (hge : items.size ≤ i)
    (hQ : ∀ h', Heap.ExtBut it s.heap h' → Q none { s with heap := h' }) : wpAny (model prog w) A (pyNext (.ref e)) Q E s := by
  have hT : s.TypeIs (.ref e) "enumerate" := ⟨_, he, rfl⟩
  unfold pyNext
  refine wpAny_bind (wpAny_attempt (wpAny_callSpecial?_slot (name := Str.ofString "__next__") hT F.slot_enumerate_next
    (wpAny_call_entry F.slot_enumerate_next hT F.entry_enumerate_next ?_ (F.args_enumerate_next_1 _))))
  show wpAny _ _ (field (.ref e) 2 >>= _) _ _ _
  refine wpAny_bind (wpAny_field he rfl (x := .ref it) rfl ?_)
  refine wpAny_bind (wpAny_nextOf_tuple_end hh hit ht (by simpa using hge) fun h' x he' hx' => ?_)
  obtain ⟨o, ho, hc⟩ := hx'
  refine wpAny_bind (wpAny_isInstance (T := "StopIteration") (b := true) ⟨o, ho, hc⟩ isSubtype_stop ?_)
  exact wpAny_pure (hQ _ he')
theorem turn_enumT {P : Program} {w : World} {K : PySem.W.Frag} {elts : List Expr} {kk : Nat} {tpos : Pos} (a e it : Addr) :
    Turn P w K (.Tuple elts kk tpos) (IteT K a) [e, it] e (fun i h => (∃ old, IsEnum h e it ((i : Nat) : Int) old) ∧ h.IsTupleIter it a i ∧ e ≠ it) where
  mem := by simp
  obj := fun i h st b hb => by
    obtain ⟨⟨old, he⟩, ⟨o, ho, hc, hd⟩, _⟩ := st
    have e' : b = e ∨ b = it := by simpa using hb
    rcases e' with z | z
    · rw [z]; exact ⟨_, he, fun v q => nomatch q⟩
    · rw [z]; exact ⟨o, ho, fun v q => by rw [hd] at q; cases q⟩
  keep := fun i h h' st k => let ⟨⟨old, he⟩, hi, hne⟩ := st; ⟨⟨old, k e (by simp) _ he⟩, hi.at fun o q => k it (by simp) o q, hne⟩
  item := by
    intro X hP hw hK hc i pins s σ H E I hf st hg
    subst hP hw hK
    obtain ⟨⟨old, he⟩, hit, hne⟩ := st
    obtain ⟨xs, x, hq, hx⟩ := hg
    obtain ⟨its, rv, p, hz⟩ := I.tuple hq
    obtain ⟨u, hu, ru⟩ := rv.get hx
    have hel : e < s.heap.objs.size := Heap.lt_size he
    have hil : it < s.heap.objs.size := by obtain ⟨_, q, _⟩ := hit; exact Heap.lt_size q
    have pt : s.heap.IsTuple a its.toArray := p
    have hlt : i < its.toArray.size := by
      have := (List.getElem?_eq_some_iff.mp hu).1
      simpa using this
    refine wpAny_pyNext_enum_itemD (Draws.tuple (A := X.A.in1) (I.ok.hd hc) it a (iter_ne hit pt) its.toArray) he ⟨hit, pt⟩ hlt hne (by simp [hne, enum_ne he pt]) fun x' h' tk hP ho hst' hT hsz hk => ?_
    have ex : x' = u := by
      have hP : its.toArray[i]? = some x' := hP
      simp only [List.getElem?_toArray] at hP
      rw [hu] at hP
      exact (Option.some.inj hP).symm
    subst ex
    refine ⟨_, rfl, wpAny_letOwnedTupleGo_enum (s := { s with heap := h', toks := tk + 1 }) ho fun h'' he' sb => ?_⟩
    have hT2 : h''.get? s.heap.objs.size = some { cls := .type "tuple", data := .seq #[.int i tk, x'] } := (sb.2 _ (Nat.ne_of_gt hel)).trans hT
    have new : ObjOk X.prog X.w (upd H s.heap.objs.size (.tup [.int (i : Nat), x])) h'' s.heap.objs.size (.tup [.int (i : Nat), x]) :=
      ⟨by show 2 ≤ sizeLine; decide, [.int i tk, x'], .cons ⟨_, rfl⟩ (.cons ru .nil), ⟨_, hT2, rfl, _, rfl⟩⟩
    have I1 : Inv X pins σ (upd H s.heap.objs.size (.tup [.int (i : Nat), x])) { s with heap := h'', toks := tk + 1 } :=
      I.turnedNew (ch := [e, it]) (fun b ob hb q => (sb.2 b (fun z => hb (by simp [z]))).trans (hk b ob (fun z => hb (by simp [z])) (fun z => hb (by simp [z])) q)) hf (Nat.le_refl _) new
    refine ⟨.ref s.heap.objs.size, _, I1, rfl, ⟨_, x, rfl, I.hok.fresh (Nat.le_refl _), rfl, fun ys hy => by rw [I.tuple_inj hy hq]; exact hx⟩, ⟨⟨x', ?_⟩, hst'.1.at fun o q => (sb.2 it (Ne.symm hne)).trans q, hne⟩, fun b hb => ?_⟩
    · have e1 : ((i + 1 : Nat) : Int) = (i : Int) + 1 := by omega
      rw [e1]; exact he'
    · have hb' : b < s.heap.objs.size := by
        have e' : b = e ∨ b = it := by simpa using hb
        rcases e' with z | z
        · rw [z]; exact hel
        · rw [z]; exact hil
      rw [upd_ne (Nat.ne_of_lt hb')]
      exact (hf b hb).1
  done := by
    intro X hP hw hK hc i pins s σ H E I hf st hg
    subst hP hw hK
    obtain ⟨⟨old, he⟩, hit, hne⟩ := st
    obtain ⟨xs, hq, hx⟩ := hg
    obtain ⟨its, rv, p, hz⟩ := I.tuple hq
    obtain ⟨f0, f1, f2, f3, f4, f5⟩ := hf it (by simp)
    have hl := rv.length
    have pt : s.heap.IsTuple a its.toArray := p
    exact enum_endT (I.ok.hd hc) he hit pt (by simp; omega) fun h' eb => ⟨rfl, I.turned (t' := s.toks) (fun b o hb q => eb b o hb q) f0 f1 f3 f4 f5⟩
  self := fun A i s Q E st h => let ⟨⟨_, he⟩, _⟩ := st; wpAny_pyIter_enum he h
def iEnumA (K : PySem.W.Frag) (ta : TA) : TI := fun σ H R => ta σ H fun vs H1 => (∃ a xs, vs = [.ref a] ∧ SqL K H1 a xs ∧ R (Ite K a) H1) ∨ ∃ a xs, vs = [.ref a] ∧ SqT K H1 a xs ∧ R (IteT K a) H1
theorem pi_enumA {X : Cx} {e : Expr} {ta : TA} {p pos tpos : Pos} {elts : List Expr} {kk : Nat} (hg : Gl X "enumerate") (hm : X.mg "enumerate" = none) (ha : PA X [e] ta) (hs : starEach [e] X.env = [(false, eval e X.env)] := by rfl) :
    PI X (.Tuple elts kk tpos) (.Call (.Name "enumerate" p) [e] [] pos) (iEnumA X.K ta) := by
  refine ⟨fun pins s σ H R I h => ?_⟩
  refine Call_ (ld_blt I hg hm boot_enumerate (PyProof.Rows.callWith_type1 (thn (ha.run pos pins s σ H _ I h) fun us s1 ⟨vs, H1, I1, r1, q1⟩ => ?_) hs rfl))
  have fin : ∀ b, b ∈ [s1.heap.objs.size + 1, s1.heap.objs.size] → s1.heap.objs.size ≤ b := fun b hb => by
    have e' : b = s1.heap.objs.size + 1 ∨ b = s1.heap.objs.size := by simpa using hb
    rcases e' with z | z
    · rw [z]; exact Nat.le_add_right _ _
    · rw [z]; exact Nat.le_refl _
  rcases q1 with ⟨a, xs, ex, hq, q⟩ | ⟨a, xs, ex, hq, q⟩
  · subst ex
    cases r1 with
    | cons r rr =>
      cases rr
      cases r
      obtain ⟨its, rv, p', hz⟩ := I1.list hq
      refine call_enumerate_list p'.isList fun h' he hit hsz hk => wpAny_pyIter_enum he ?_
      have I2 : Inv X pins σ H1 { s1 with heap := h' } := I1.kept (t' := s1.toks) hk
      exact ⟨s1.heap.objs.size + 1, [s1.heap.objs.size + 1, s1.heap.objs.size], _, _, H1, rfl, I2, turn_enum a (s1.heap.objs.size + 1) s1.heap.objs.size, ⟨⟨.none, he⟩, hit, Nat.succ_ne_self _⟩, fun b hb => I1.fpOk (fin b hb) (I1.hok.fresh (fin b hb)), q⟩
  · subst ex
    cases r1 with
    | cons r rr =>
      cases rr
      cases r
      obtain ⟨its, rv, p', hz⟩ := I1.tuple hq
      have pt : s1.heap.IsTuple a its.toArray := p'
      refine enum1_begins (begins_tuple a its.toArray) pt fun h' he hit hsz hk => wpAny_pyIter_enum he ?_
      have I2 : Inv X pins σ H1 { s1 with heap := h' } := I1.kept (t' := s1.toks) hk
      exact ⟨s1.heap.objs.size + 1, [s1.heap.objs.size + 1, s1.heap.objs.size], _, _, H1, rfl, I2, turn_enumT a (s1.heap.objs.size + 1) s1.heap.objs.size, ⟨⟨.none, he⟩, ⟨_, hit, rfl, rfl⟩, Nat.succ_ne_self _⟩, fun b hb => I1.fpOk (fin b hb) (I1.hok.fresh (fin b hb)), q⟩
def enumFA (ds : List D) : M Src := fun st => match ds with
  | [.val (.list xs)] => .ok (.fix (enumP xs)) st
  | [.val (.tuple xs)] => .ok (.fix (enumP xs)) st
  | _ => .bad
def enumA (fr : B.Env → M (List D)) : B.Env → M Src := fun env => bd (fr env) enumFA
theorem si_enumA [Nm] [Gd] {X : Cx} {E : XK} {K : W.Frag} {e : Expr} {tr : TA} {fr : B.Env → M (List D)} {elts : List Expr} {kk : Nat} {tpos p pos : Pos} (hm : X.mg "enumerate" = none) (ha : SA X E [e] tr fr) (hK : X.K = K := by rfl) (hg : Gl X "enumerate" := by rfl) (hs : starEach [e] X.env = [(false, eval e X.env)] := by rfl) :
    SI X E (.Tuple elts kk tpos) (.Call (.Name "enumerate" p) [e] [] pos) (iEnumA K tr) (enumA fr) := by
  subst hK
  refine ⟨pi_enumA hg hm ha.pa hs, fun w σ H env st Q s0 e0 hp => ?_⟩
  refine ha.rf.step s0 e0 hp fun w1 H1 st1 ds vs g1 s1 e1 q1 hp => ?_
  unfold enumFA at hp
  split at hp
  · rename_i xs
    obtain ⟨v, rfl, r1⟩ := q1.one
    cases r1 with
    | @ls a us _ hl rr =>
      refine .inl ⟨a, us, rfl, hl.sq, Post.now hp s1 fun w2 H2 st2 mo s2 => ⟨fun i x hx => ?_, ?_⟩⟩
      · obtain ⟨d, hd, rfl⟩ := enumP_get hx
        obtain ⟨u, hu, ru⟩ := (Rps.mo mo rr).get hd
        refine ⟨⟨us, u, (hl.mo mo).sq, hu⟩, ?_⟩
        rintro v H3 ⟨T, y, rfl, hT, rfl, hy⟩
        have ey : y = u := by
          have := hy us (hl.mo mo).sq
          rw [hu] at this
          exact (Option.some.inj this).symm
        subst ey
        exact ⟨Same.new hT, Rp.newTup (s2.notin hT) (.cons (.int _) (.cons ru .nil)) hT⟩
      · refine ⟨us, (hl.mo mo).sq, ?_⟩
        simp only [enumP, List.length_map, List.length_range]
        rw [rr.length]
        exact Nat.le_refl _
  · rename_i xs
    obtain ⟨v, rfl, r1⟩ := q1.one
    cases r1 with
    | @tup a us _ hl rr =>
      refine .inr ⟨a, us, rfl, hl.sq, Post.now hp s1 fun w2 H2 st2 mo s2 => ⟨fun i x hx => ?_, ?_⟩⟩
      · obtain ⟨d, hd, rfl⟩ := enumP_get hx
        obtain ⟨u, hu, ru⟩ := (Rps.mo mo rr).get hd
        refine ⟨⟨us, u, (hl.mo mo).sq, hu⟩, ?_⟩
        rintro v H3 ⟨T, y, rfl, hT, rfl, hy⟩
        have ey : y = u := by
          have := hy us (hl.mo mo).sq
          rw [hu] at this
          exact (Option.some.inj this).symm
        subst ey
        exact ⟨Same.new hT, Rp.newTup (s2.notin hT) (.cons (.int _) (.cons ru .nil)) hT⟩
      · refine ⟨us, (hl.mo mo).sq, ?_⟩
        simp only [enumP, List.length_map, List.length_range]
        rw [rr.length]
        exact Nat.le_refl _
  · exact hp.elim
section
variable {env : B.Env} {st : Store} {X : Ex → Store → Prop}
@[simp] theorem e_enumA {fr : B.Env → M (List D)} {Q : Src → Store → Prop} : wpx X (enumA fr env st) Q = wpx X (bd (fr env) enumFA st) Q := by first | exact propext Iff.rfl | exact wp_D | exact wp_D.trans wp_D.symm
@[simp] theorem f_enumAL {xs : List PyData} {Q : Src → Store → Prop} : wpx X (enumFA [.val (.list xs)] st) Q = Q (.fix (enumP xs)) st := by first | exact propext Iff.rfl | exact wp_D | exact wp_D.trans wp_D.symm
@[simp] theorem f_enumAT {xs : List PyData} {Q : Src → Store → Prop} : wpx X (enumFA [.val (.tuple xs)] st) Q = Q (.fix (enumP xs)) st := by first | exact propext Iff.rfl | exact wp_D | exact wp_D.trans wp_D.symm
end
end B
/-! BL32: how great a value is when written, by adding up. -/
namespace B
open PySem L2
mutual
def wt : PyData → Nat
  | .none => 4
  | .bool _ => 5
  | .int _ => 211
  | .str x => 10 * x.length + 2
  | .list xs => wtAll xs + 3
  | .tuple xs => wtAll xs + 3
  | .dict _ => 0
def wtAll : List PyData → Nat
  | [] => 0
  | x :: r => wt x + 2 + wtAll r
end
mutual
def okD : PyData → Bool
  | .none => true
  | .bool _ => true
  | .int i => decide (i.natAbs < 2 ^ 210)
  | .str x => x.cps.toList.all fun c => decide (c < 1114112)
  | .list xs => okAll xs
  | .tuple xs => okAll xs
  | .dict _ => false
def okAll : List PyData → Bool
  | [] => true
  | x :: r => okD x && okAll r
end
mutual
theorem sz_of : ∀ {p : PyData}, okD p = true → Sz (wt p) p.depth p
  | .none, _ => ⟨by decide +kernel, by decide +kernel, Nat.le_refl _⟩
  | .bool true, _ => ⟨by decide +kernel, by decide +kernel, Nat.le_refl _⟩
  | .bool false, _ => ⟨by decide +kernel, by decide +kernel, Nat.le_refl _⟩
  | .int i, h => by
    simp only [okD, decide_eq_true_eq] at h
    exact (Sz.int (k := 210) (by decide) (by decide) h).mono (by simp [wt]) (Nat.zero_le _)
  | .str x, h => by
    simp only [okD, List.all_eq_true, decide_eq_true_eq] at h
    exact (Sz.str (m := x.length) ⟨Nat.le_refl _, h⟩).mono (by simp [wt]) (Nat.zero_le _)
  | .list xs, h => by
    simp only [okD] at h
    obtain ⟨h1, h2, h3⟩ := szAll_of h
    refine ⟨by simp only [PyData.showable, h1], ?_, Nat.le_refl _⟩
    simp only [PyData.shown, wt]
    have h4 := PySem.listText_len_le (PyData.shownAll xs)
    rw [PyData.shownAll_length] at h4
    omega
  | .tuple xs, h => by
    simp only [okD] at h
    obtain ⟨h1, h2, h3⟩ := szAll_of h
    refine ⟨by simp only [PyData.showable, h1], ?_, Nat.le_refl _⟩
    simp only [PyData.shown, wt]
    have h4 := PySem.tupleText_len_le (PyData.shownAll xs)
    rw [PyData.shownAll_length] at h4
    omega
  | .dict _, h => by simp [okD] at h
theorem szAll_of : ∀ {xs : List PyData}, okAll xs = true → PyData.showableAll xs = true ∧ ((PyData.shownAll xs).map (·.length)).sum + 2 * xs.length ≤ wtAll xs ∧ True
  | [], _ => ⟨rfl, by simp [PyData.shownAll, wtAll], trivial⟩
  | x :: r, h => by
    simp only [okAll, Bool.and_eq_true] at h
    obtain ⟨h1, h2, h3⟩ := szAll_of h.2
    have hx := sz_of h.1
    refine ⟨by simp only [PyData.showableAll, hx.sh, h1, Bool.and_self], ?_, trivial⟩
    simp only [PyData.shownAll, List.map_cons, List.sum_cons, List.length_cons, wtAll]
    have := hx.len
    omega
end
theorem okAll_iff : ∀ {xs : List PyData}, okAll xs = true ↔ ∀ x ∈ xs, okD x = true
  | [] => by simp [okAll]
  | x :: r => by simp [okAll, okAll_iff (xs := r)]
theorem wtAll_app : ∀ (xs ys : List PyData), wtAll (xs ++ ys) = wtAll xs + wtAll ys
  | [], ys => by simp [wtAll]
  | x :: r, ys => by simp only [List.cons_append, wtAll, wtAll_app r ys]; omega
theorem wt_mem : ∀ {xs : List PyData} {x : PyData}, x ∈ xs → wt x + 2 ≤ wtAll xs
  | y :: r, x, h => by
    simp only [wtAll]
    rcases List.mem_cons.mp h with rfl | h
    · omega
    · have := wt_mem h; omega
theorem wtAll_len : ∀ (xs : List PyData), 2 * xs.length ≤ wtAll xs
  | [] => by simp
  | x :: r => by have := wtAll_len r; simp only [List.length_cons, wtAll]; omega
theorem wtAll_take (xs : List PyData) (n : Nat) : wtAll (xs.take n) ≤ wtAll xs := by
  have := wtAll_app (xs.take n) (xs.drop n); rw [List.take_append_drop] at this; omega
theorem wtAll_drop (xs : List PyData) (n : Nat) : wtAll (xs.drop n) ≤ wtAll xs := by
  have := wtAll_app (xs.take n) (xs.drop n); rw [List.take_append_drop] at this; omega
theorem wtAll_cut (xs : List PyData) (lo hi : Option Int) : wtAll (cutP xs lo hi) ≤ wtAll xs := Nat.le_trans (wtAll_take _ _) (wtAll_drop _ _)
theorem wtAll_rev : ∀ (xs : List PyData), wtAll xs.reverse = wtAll xs
  | [] => rfl
  | x :: r => by rw [List.reverse_cons, wtAll_app, wtAll_rev r]; simp only [wtAll]; omega
theorem wtAll_le {n : Nat} : ∀ {xs : List PyData}, (∀ x ∈ xs, wt x ≤ n) → wtAll xs ≤ xs.length * (n + 2)
  | [], _ => by simp [wtAll]
  | x :: r, h => by
    have h1 := wtAll_le (xs := r) fun y hy => h y (List.mem_cons_of_mem _ hy)
    have h2 := h x (List.mem_cons_self ..)
    simp only [wtAll, List.length_cons, Nat.succ_mul]
    omega
theorem okAll_app {xs ys : List PyData} : okAll (xs ++ ys) = (okAll xs && okAll ys) := by
  rw [Bool.eq_iff_iff]; simp only [Bool.and_eq_true, okAll_iff, List.mem_append]
  exact ⟨fun h => ⟨fun x hx => h x (.inl hx), fun x hx => h x (.inr hx)⟩, fun h x hx => hx.elim (h.1 x) (h.2 x)⟩
theorem okAll_sub {xs ys : List PyData} (h : okAll xs = true) (hs : ∀ y ∈ ys, y ∈ xs) : okAll ys = true := okAll_iff.mpr fun y hy => okAll_iff.mp h y (hs y hy)
/-- a value that is small: at most n signs when written, at most k deep -/
def Lit (n k : Nat) (p : PyData) : Prop := okD p = true ∧ wt p ≤ n ∧ p.depth ≤ k
def litB (n k : Nat) (p : PyData) : Bool := okD p && decide (wt p ≤ n ∧ p.depth ≤ k)
theorem Lit.of {n k : Nat} {p : PyData} (h : litB n k p = true) : Lit n k p := by
  simp only [litB, Bool.and_eq_true, decide_eq_true_eq] at h; exact h
theorem Lit.sz {n k : Nat} {p : PyData} (h : Lit n k p) : Sz n k p := (sz_of h.1).mono h.2.1 h.2.2
theorem okD_str {m : Nat} {x : Str} (h : Sm m x) : okD (.str x) = true := by
  simp only [okD, List.all_eq_true, decide_eq_true_eq]; exact h.2
theorem okD_int {i : Int} (h : i.natAbs < 2 ^ 210) : okD (.int i) = true := by
  simp only [okD, decide_eq_true_eq]; exact h
theorem okD_t {xs : List PyData} : okD (.tuple xs) = okAll xs := by simp only [okD]
theorem okD_l {xs : List PyData} : okD (.list xs) = okAll xs := by simp only [okD]
theorem okAll_n : okAll [] = true := by simp only [okAll]
theorem okAll_c {x : PyData} {r : List PyData} : okAll (x :: r) = (okD x && okAll r) := by simp only [okAll]
theorem okD_n : okD .none = true := by simp only [okD]
theorem okD_b {b : Bool} : okD (.bool b) = true := by simp only [okD]
theorem Lit.mono {n k n' k' : Nat} {p : PyData} (h : Lit n k p) (hn : n ≤ n') (hk : k ≤ k') : Lit n' k' p := ⟨h.1, Nat.le_trans h.2.1 hn, Nat.le_trans h.2.2 hk⟩
theorem Lit.nil {k : Nat} : okAll [] = true ∧ wtAll [] ≤ 0 ∧ PyData.depthAll [] ≤ k := ⟨rfl, by simp [wtAll], Nat.zero_le _⟩
theorem Lit.none {k : Nat} : Lit 4 k .none := ⟨okD_n, by simp [wt], Nat.zero_le _⟩
theorem Lit.bool {k : Nat} {b : Bool} : Lit 5 k (.bool b) := ⟨okD_b, by simp [wt], Nat.zero_le _⟩
theorem Lit.int {k : Nat} {i : Int} (h : i.natAbs < 2 ^ 210) : Lit 211 k (.int i) := ⟨okD_int h, by simp [wt], Nat.zero_le _⟩
theorem Lit.str {m k : Nat} {x : Str} (h : Sm m x) : Lit (10 * m + 2) k (.str x) := ⟨okD_str h, by have := h.1; simp only [wt]; omega, Nat.zero_le _⟩
theorem Lit.tuple {n k : Nat} {xs : List PyData} (h : okAll xs = true) (hw : wtAll xs ≤ n) (hd : PyData.depthAll xs ≤ k) : Lit (n + 3) (k + 1) (.tuple xs) := ⟨by rw [okD_t]; exact h, by simp only [wt]; omega, by simp only [PyData.depth]; omega⟩
theorem Lit.list {n k : Nat} {xs : List PyData} (h : okAll xs = true) (hw : wtAll xs ≤ n) (hd : PyData.depthAll xs ≤ k) : Lit (n + 3) (k + 1) (.list xs) := ⟨by rw [okD_l]; exact h, by simp only [wt]; omega, by simp only [PyData.depth]; omega⟩
theorem depthAll_le {k : Nat} : ∀ {xs : List PyData}, PyData.depthAll xs ≤ k ↔ ∀ x ∈ xs, x.depth ≤ k
  | [] => by simp [PyData.depthAll]
  | x :: r => by simp [PyData.depthAll, Nat.max_le, depthAll_le (xs := r)]
theorem Lit.tup {n k m : Nat} {xs : List PyData} (h : ∀ x ∈ xs, Lit n k x) (hm : xs.length ≤ m) : Lit (m * (n + 2) + 3) (k + 1) (.tuple xs) :=
  Lit.tuple (okAll_iff.mpr fun x hx => (h x hx).1) (Nat.le_trans (wtAll_le fun x hx => (h x hx).2.1) (Nat.mul_le_mul_right _ hm)) (depthAll_le.mpr fun x hx => (h x hx).2.2)
theorem Lit.lst {n k m : Nat} {xs : List PyData} (h : ∀ x ∈ xs, Lit n k x) (hm : xs.length ≤ m) : Lit (m * (n + 2) + 3) (k + 1) (.list xs) :=
  Lit.list (okAll_iff.mpr fun x hx => (h x hx).1) (Nat.le_trans (wtAll_le fun x hx => (h x hx).2.1) (Nat.mul_le_mul_right _ hm)) (depthAll_le.mpr fun x hx => (h x hx).2.2)
/-- texts and tuples in a small value are small -/
theorem Lit.txt {n k : Nat} {x : Str} (h : Lit n k (.str x)) : x.length ≤ n := by have := h.2.1; simp only [wt] at this; omega
theorem Lit.mem {n k : Nat} {xs : List PyData} {x : PyData} (h : Lit n k (.tuple xs)) (hx : x ∈ xs) : Lit n (k - 1) x := by
  refine ⟨okAll_iff.mp (by rw [← okD_t]; exact h.1) x hx, ?_, ?_⟩
  · have h1 := h.2.1; have h2 := wt_mem hx; simp only [wt] at h1; omega
  · have h1 := h.2.2; simp only [PyData.depth] at h1; have := depthAll_le.mp (Nat.le_refl (PyData.depthAll xs)) x hx; omega
theorem Lit.len {n k : Nat} {xs : List PyData} (h : Lit n k (.tuple xs)) : xs.length ≤ n := by have h1 := h.2.1; have := wtAll_len xs; simp only [wt] at h1; omega
theorem Sm.cutS {m : Nat} {x : Str} (h : Sm m x) (lo hi : Option Int) : Sm m (cutS x lo hi) := by
  refine ⟨Nat.le_trans (cutS_length x lo hi) h.1, fun c hc => h.2 c ?_⟩
  unfold L2.cutS at hc
  rw [List.toList_toArray] at hc
  exact List.mem_of_mem_drop (List.mem_of_mem_take hc)
theorem Lit.sm {n k : Nat} {x : Str} (h : Lit n k (.str x)) : Sm x.length x := by
  have := h.1
  simp only [okD, List.all_eq_true, decide_eq_true_eq] at this
  exact ⟨Nat.le_refl _, this⟩
end B
/-! BL33: name += int; defs that call themselves. -/
namespace B
open PySem L2
section
variable [Nm] [Gd]
variable {X : Cx} {E : XK} {e : Expr} {ta : TE} {fa : Env → M D} {pos : Pos}
def augI (g : Int → Int → Int) (i : Nat) (fa : Env → M D) : Env → M Fl := fun env => match env[i]? with
  | some (some (.val (.int a))) => bd (fa env) fun y => fun st => match y with
    | .val (.int b) => .ok (.nx (env.set i (some (.val (.int (g a b)))))) st
    | _ => .bad
  | _ => bad
theorem ss_aug {i : Nat} {x : Str} {pos' : Pos} {op : Operator} {g : Int → Int → Int} (hN : X.N.Nodup) (he : SE X E e ta fa) (ho : PIp X op (ipI g)) (hi : X.N[i]? = some x := by rfl) (hx : Loc X.env.scope x := by first | exact Or.inl rfl | exact Or.inr rfl) (hf : X.fn x = true ∨ X.env.scope.names.lookup x = some .local := by first | exact .inl rfl | exact .inr rfl) :
    SS X E (.AugAssign (.Name x pos') op e pos) (tAug i ta (ipI g)) (augI g i fa) := by
  refine ⟨ps_aug hN hi hx he.pe ho hf, fun w σ H env st Z s0 e0 hp => ?_⟩
  cases hq : env[i]? with
  | none => simp only [augI, hq] at hp; exact hp.elim
  | some o =>
    cases o with
    | none => simp only [augI, hq] at hp; exact hp.elim
    | some d0 =>
      cases d0 with
      | val p0 =>
        cases p0 with
        | int a =>
          simp only [augI, hq] at hp
          obtain ⟨v, ev, r⟩ := e0.get i _ hq
          refine ⟨v, ev, ?_⟩
          refine he.rf.stepS s0 e0 hp fun r1 H1 st1 d u g1 s1 e1 q1 hp => ?_
          cases r with
          | int _ =>
            cases d with
            | val p =>
              cases p with
              | int b =>
                cases q1 with
                | int _ => exact ⟨a, b, rfl, rfl, hp.nxc s1 (e1.set i (d := .val (.int (g a b))) (.int _))⟩
              | _ => exact hp.elim
            | _ => exact hp.elim
        | _ => simp only [augI, hq] at hp; exact hp.elim
      | _ => simp only [augI, hq] at hp; exact hp.elim
theorem fnG_bad {P : Program} {w : World} {K : W.Frag} {mg : Str → Option Value} {base : Heap} {k : Nat} {f : Addr} {fd : FuncData} {ps : List Str} {n : Nat} (hn : n = ps.length) : FnG P w K mg base k f fd ps (spOf K n fun _ _ => .bad) :=
  ⟨fun vs H Q E h => by rw [← hn]; exact h.1, fun A out s H args us vs Q E _ _ _ _ _ h => by obtain ⟨_, w, st, ds, _, _, hp⟩ := h; exact hp.elim⟩
end
variable {X : Ex → Store → Prop} {env : Env} {st : Store}
@[simp] theorem e_augI {g : Int → Int → Int} {i : Nat} {fa : Env → M D} {Q : Fl → Store → Prop} : wpx X (augI g i fa env st) Q = wpx X ((match env[i]? with
  | some (some (.val (.int a))) => bd (fa env) fun y => fun st => match y with
    | .val (.int b) => .ok (.nx (env.set i (some (.val (.int (g a b)))))) st
    | _ => .bad
  | _ => bad : M Fl) st) Q := propext Iff.rfl
end B
/-! BL34: + and - where a bool may stand for an int, str(bool). -/
namespace B
open PySem L2
def bI (b : Bool) : Int := if b = true then 1 else 0
section
variable [Nm] [Gd]
variable {X : Cx} {K : W.Frag} {E : XK}
def rBI (g : Int → Int → Int) : R2 := fun x y H Q => ∃ b i, x = .bl b ∧ y = .int i ∧ Q (.int (g (bI b) i)) H
def rIB (g : Int → Int → Int) : R2 := fun x y H Q => ∃ i b, x = .int i ∧ y = .bl b ∧ Q (.int (g i (bI b))) H
theorem op_addBI : OpR X (binaryOp .Add) (rBI fun i j => i + j) := by
  intro pins s σ H x y v u Q I rx ry h
  obtain ⟨b, i, rfl, rfl, q⟩ := h
  cases rx
  obtain ⟨t, rfl⟩ := ry
  exact PySem.IntBool.add_bool_int ⟨.int _, H, I.tok _, ⟨_, rfl⟩, q⟩
theorem op_subBI : OpR X (binaryOp .Sub) (rBI fun i j => i - j) := by
  intro pins s σ H x y v u Q I rx ry h
  obtain ⟨b, i, rfl, rfl, q⟩ := h
  cases rx
  obtain ⟨t, rfl⟩ := ry
  exact PySem.IntBool.sub_bool_int ⟨.int _, H, I.tok _, ⟨_, rfl⟩, q⟩
theorem op_subIB : OpR X (binaryOp .Sub) (rIB fun i j => i - j) := by
  intro pins s σ H x y v u Q I rx ry h
  obtain ⟨i, b, rfl, rfl, q⟩ := h
  cases ry
  obtain ⟨t, rfl⟩ := rx
  exact PySem.IntBool.sub_int_bool ⟨.int _, H, I.tok _, ⟨_, rfl⟩, q⟩
theorem call_str_bool : CallR X (.type "str") (fun xs H Q => ∃ b, xs = [.bl b] ∧ Q (.str (if b then "True" else "False")) H) := by
  intro pins s σ H xs us Q I r h
  obtain ⟨b, rfl, q⟩ := h
  obtain ⟨u, rfl, r1⟩ := vals1 r
  cases r1
  exact PySem.P.str_of_bool ⟨.str _, H, I.tok _, ⟨_, rfl⟩, q⟩
def addG (x y : D) : M D := fun st => match dat st x, dat st y with
  | some (.bool b), some (.int i) => okV (.int (bI b + i)) st
  | _, _ => addF x y st
def subG (x y : D) : M D := fun st => match dat st x, dat st y with
  | some (.bool b), some (.int i) => okV (.int (bI b - i)) st
  | some (.int i), some (.bool b) => okV (.int (i - bI b)) st
  | _, _ => subF x y st
def strG (ds : List D) : M D := fun st => match ds with
  | [d] => (match dat st d with
    | some (.bool b) => okV (.str (if b then "True" else "False")) st
    | _ => strF ds st)
  | _ => .bad
theorem dat_bl {w : Wd} {H : Hp} {st : Store} {d : D} {v : V} {b : Bool} (r : RpD K w H d v) (e : dat st d = some (.bool b)) : v = .bl b := by
  unfold dat at e
  split at e
  · cases e
    cases r
    rfl
  · split at e
    · cases e
    · cases e
  all_goals cases e
theorem bop_addG : BOp K E (fun x y H Q => rBI (fun i j => i + j) x y H Q ∨ rAddA K x y H Q) addG := by
  intro w H st dx dy x y Q hs rx ry hp
  unfold addG at hp
  split at hp
  · rename_i e1 e2
    exact .inl ⟨_, _, dat_bl rx e1, dat_int ry e2, Post.now hp hs (.int _)⟩
  · exact .inr (bop_add w H st dx dy x y Q hs rx ry hp)
theorem bop_subG : BOp K E (fun x y H Q => rBI (fun i j => i - j) x y H Q ∨ rIB (fun i j => i - j) x y H Q ∨ rI0 (fun i j => .int (i - j)) x y H Q) subG := by
  intro w H st dx dy x y Q hs rx ry hp
  unfold subG at hp
  split at hp
  · rename_i e1 e2
    exact .inl ⟨_, _, dat_bl rx e1, dat_int ry e2, Post.now hp hs (.int _)⟩
  · rename_i e1 e2
    exact .inr (.inl ⟨_, _, dat_int rx e1, dat_bl ry e2, Post.now hp hs (.int _)⟩)
  · exact .inr (.inr (bop_sub w H st dx dy x y Q hs rx ry hp))
theorem op_addG {X : Cx} {K : W.Frag} (hK : X.K = K := by rfl) : OpR X (binaryOp .Add) (fun x y H Q => rBI (fun i j => i + j) x y H Q ∨ rAddA K x y H Q) := OpR.or op_addBI (op_addA hK)
theorem op_subG {X : Cx} : OpR X (binaryOp .Sub) (fun x y H Q => rBI (fun i j => i - j) x y H Q ∨ rIB (fun i j => i - j) x y H Q ∨ rI0 (fun i j => .int (i - j)) x y H Q) := OpR.or op_subBI (OpR.or op_subIB op_sub)
theorem call_strG {X : Cx} : CallR X (.type "str") (fun xs H Q => (∃ b, xs = [.bl b] ∧ Q (.str (if b then "True" else "False")) H) ∨ ∃ i, xs = [.int i] ∧ i.natAbs.log2 < 1920 ∧ Q (.str (toString i)) H) := CallR.or call_str_bool call_str_int
theorem bc_strG : BCall K E (fun xs H Q => (∃ b, xs = [.bl b] ∧ Q (.str (if b then "True" else "False")) H) ∨ ∃ i, xs = [.int i] ∧ i.natAbs.log2 < 1920 ∧ Q (.str (toString i)) H) strG := by
  intro w H st ds vs Q hs r hp
  unfold strG at hp
  split at hp
  · rename_i d
    split at hp
    · rename_i e1
      obtain ⟨v, e, r1⟩ := r.one
      have e3 := dat_bl r1 e1
      subst e3
      exact .inl ⟨_, e, Post.now hp hs (.str _)⟩
    · exact .inr (bc_str w H st _ vs Q hs r hp)
  · exact hp.elim
end
variable {X : Ex → Store → Prop} {st : Store} {Q : D → Store → Prop}
@[simp] theorem o_addGb {b : Bool} {i : Int} : wpx X (addG (.val (.bool b)) (.val (.int i)) st) Q = Q (.val (.int (bI b + i))) st := by simp only [addG, dat, wp_ok]
@[simp] theorem o_addGi {i : Int} {y : D} : wpx X (addG (.val (.int i)) y st) Q = wpx X (addF (.val (.int i)) y st) Q := by simp only [addG, dat]
@[simp] theorem o_addGs {i : Str} {y : D} : wpx X (addG (.val (.str i)) y st) Q = wpx X (addF (.val (.str i)) y st) Q := by simp only [addG, dat]
@[simp] theorem o_addGt {i : List PyData} {y : D} : wpx X (addG (.val (.tuple i)) y st) Q = wpx X (addF (.val (.tuple i)) y st) Q := by simp only [addG, dat]
@[simp] theorem o_addGl {i : List PyData} {y : D} : wpx X (addG (.val (.list i)) y st) Q = wpx X (addF (.val (.list i)) y st) Q := by simp only [addG, dat]
@[simp] theorem o_subGb {b : Bool} {i : Int} : wpx X (subG (.val (.bool b)) (.val (.int i)) st) Q = Q (.val (.int (bI b - i))) st := by simp only [subG, dat, wp_ok]
@[simp] theorem o_subGc {b : Bool} {i : Int} : wpx X (subG (.val (.int i)) (.val (.bool b)) st) Q = Q (.val (.int (i - bI b))) st := by simp only [subG, dat, wp_ok]
@[simp] theorem o_subGi {i j : Int} : wpx X (subG (.val (.int i)) (.val (.int j)) st) Q = wpx X (subF (.val (.int i)) (.val (.int j)) st) Q := by simp only [subG, dat]
@[simp] theorem o_strGb {b : Bool} : wpx X (strG [.val (.bool b)] st) Q = Q (.val (.str (if b then "True" else "False"))) st := by simp only [strG, dat, wp_ok]
@[simp] theorem o_strGi {i : Int} : wpx X (strG [.val (.int i)] st) Q = wpx X (strF [.val (.int i)] st) Q := by simp only [strG, dat]
end B
/-! BL35: t[::-1] of a tuple. -/
namespace B
open PySem PySem.Spec PyProof.Rows L2 HT
section
variable {prog : Program} {w : World} {A : Around} {E : Value → Shared → Prop} {s : Shared}
theorem adjust_rev (n : Nat) : Builtin.Slice.sliceAdjust none none (-1) (n : Int) = ((n : Int) - 1, -1) := by
  unfold Builtin.Slice.sliceAdjust
  simp
theorem places_rev (n : Nat) : Builtin.Slice.slicePlaces ((n : Int) - 1) (-1) (-1) = n := by
  unfold Builtin.Slice.slicePlaces
  simp
  omega
theorem sliceApplied_rev {sl : Addr} {vs : Value} {n : Nat} {Q : Int × Int × Nat → Shared → Prop} (hs : s.heap.IsSliceOf sl .none .none vs) (ps : IsPart vs (some (-1)))
    (h : Q ((n : Int) - 1, -1, n) s) : wpAny (model prog w) A (Builtin.Slice.sliceApplied (.ref sl) (pure (n : Int))) Q E s := by
  obtain ⟨os, hos, hcs, hds⟩ := id hs
  unfold Builtin.Slice.sliceApplied Builtin.Slice.sliceFields
  refine wpAny_bind (wpAny_bind (wpAny_field hos hds (x := .none) rfl (wpAny_bind (wpAny_field hos hds (x := .none) rfl (wpAny_bind (wpAny_field hos hds (x := vs) rfl (wpAny_pure ?_)))))))
  refine wpAny_bind (slicePart_ ps ?_)
  show wpAny _ _ (if ((-1 : Int) == 0) = true then _ else _) _ _ s
  rw [if_neg (by decide)]
  refine wpAny_bind (slicePart_none (wpAny_bind (slicePart_none (wpAny_bind (wpAny_pure ?_)))))
  show wpAny _ _ (match Builtin.Slice.sliceAdjust none none (-1) (n : Int) with | (lo, hi) => pure (lo, (-1 : Int), Builtin.Slice.slicePlaces lo hi (-1))) _ _ s
  rw [adjust_rev n]
  show wpAny _ _ (pure ((n : Int) - 1, (-1 : Int), Builtin.Slice.slicePlaces ((n : Int) - 1) (-1) (-1))) _ _ s
  rw [places_rev]
  exact wpAny_pure h
theorem filt_congr {α β : Type} {f g : α → Option β} : ∀ {xs : List α}, (∀ x ∈ xs, f x = g x) → xs.filterMap f = xs.filterMap g
  | [], _ => rfl
  | x :: r, h => by rw [List.filterMap_cons, List.filterMap_cons, h x (List.mem_cons_self ..), filt_congr fun y hy => h y (List.mem_cons_of_mem _ hy)]
theorem pick_rev (xs : Array Value) : ((List.range xs.size).filterMap fun (m : Nat) => xs[(((xs.size : Int) - 1) + (m : Int) * (-1)).toNat]?).toArray = xs.toList.reverse.toArray := by
  congr 1
  have e : ((List.range xs.size).filterMap fun (m : Nat) => xs[(((xs.size : Int) - 1) + (m : Int) * (-1)).toNat]?) = (List.range xs.size).filterMap fun (m : Nat) => xs.toList[xs.size - 1 - m]? := by
    apply filt_congr
    intro m hm
    have := List.mem_range.mp hm
    rw [show (((xs.size : Int) - 1) + (m : Int) * (-1)).toNat = xs.size - 1 - m by omega]
    simp
  rw [e]
  have : ∀ n, n ≤ xs.toList.length → ((List.range n).filterMap fun (m : Nat) => xs.toList.reverse[m]?) = xs.toList.reverse.take n := by
    intro n
    induction n with
    | zero => simp
    | succ n ih =>
      intro hn
      rw [List.range_succ, List.filterMap_append, ih (by omega), List.take_add_one]
      simp only [List.filterMap_cons, List.filterMap_nil]
      rw [List.getElem?_eq_getElem (by rw [List.length_reverse]; omega)]
      simp
  have h2 : ((List.range xs.size).filterMap fun (m : Nat) => xs.toList[xs.size - 1 - m]?) = (List.range xs.size).filterMap fun (m : Nat) => xs.toList.reverse[m]? := by
    apply filt_congr
    intro m hm
    have := List.mem_range.mp hm
    rw [List.getElem?_reverse (by simpa using this)]
    simp
  rw [h2, this xs.size (by simp), List.take_of_length_le (by simp)]
theorem getItem_tuple_rev {t sl : Addr} {items : Array Value} {vs : Value} {Q : Value → Shared → Prop} (ht : IsTup s.heap t items) (hs : s.heap.IsSliceOf sl .none .none vs) (ps : IsPart vs (some (-1)))
    (h : Q (.ref s.heap.objs.size) { s with heap := s.heap.push { cls := .type "tuple", data := .seq items.toList.reverse.toArray } })
    (hsz : items.size ≤ sizeLine) : wpAny (model prog w) A (getItem (.ref t) (.ref sl)) Q E s := by
  have htake : sizeOk (.seq items.toList.reverse.toArray) := by
    show items.toList.reverse.toArray.size ≤ sizeLine
    rw [List.size_toArray, List.length_reverse, Array.length_toList]
    omega
  obtain ⟨os, hos, hcs, hds⟩ := id hs
  have hTs : s.TypeIs (.ref sl) "slice" := ⟨os, hos, hcs⟩
  unfold getItem
  try with_reducible refine wpAny_holding ?_
  first | refine wpAny_bind (wpAny_pure ?_) | skip
  refine wpAny_bind (wpAny_sequenceKey ht.typeIs (by decide) ?_)
  refine wpAny_bind (wpAny_callSpecial?_slot (name := Str.ofString "__getitem__") ht.typeIs PyProof.Rows.slot_tuple_getitem
    (wpAny_call_entry PyProof.Rows.slot_tuple_getitem ht.typeIs entry_tuple_getitem ?_ (args_tuple_getitem _ _)))
  show wpAny _ _ (Builtin.Tuple.tupleItemsOf (.ref t) >>= _) _ _ s
  refine wpAny_bind (tupleItemsOf_ ht ?_)
  refine wpAny_bind (wpAny_typeOf hTs ?_)
  rw [if_pos (by decide)]
  refine wpAny_bind (sliceApplied_rev hs ps ?_)
  have hno : ¬ (((((items.size : Int) - 1)) == 0 && (-1 : Int) == 1 && items.size == items.size) = true) := by
    intro q
    rw [Bool.and_eq_true, Bool.and_eq_true] at q
    have q1 : (-1 : Int) = 1 := eq_of_beq q.1.2
    omega
  show wpAny _ _ (if (((items.size : Int) - 1) == 0 && (-1 : Int) == 1 && items.size == items.size) = true then _ else _) _ _ s
  rw [if_neg hno, pick_rev]
  first
    | exact wpAny_bind (m := Builtin.Tuple.tupleExact _) (wpAny_newObj_type (wpAny_pure ⟨_, rfl, wpAny_pure h⟩) htake)
    | exact wpAny_bind (m := Builtin.Tuple.tupleExact _) (wpAny_newObj_type (wpAny_bind (wpAny_pure (wpAny_pure ⟨_, rfl, wpAny_pure h⟩))) htake)
    | exact wpAny_bind (wpAny_bind (m := Builtin.Tuple.tupleExact _) (wpAny_newObj_type (wpAny_pure (wpAny_pure ⟨_, rfl, wpAny_pure h⟩)) htake))
    | exact wpAny_bind (wpAny_bind (m := Builtin.Tuple.tupleExact _) (wpAny_newObj_type (wpAny_pure ⟨_, rfl, wpAny_pure h⟩) htake))
end
section
variable [Nm] [Gd]
variable {X : Cx} {K : W.Frag} {E : XK} {e : Expr} {te : TE} {fe : Env → M D}
def tRevT (K : PySem.W.Frag) (te : TE) : TE := fun σ H Q => te σ H fun x H1 => ∃ a xs, x = .ref a ∧ SqT K H1 a xs ∧ ∀ p, H1 p = none → Q (.ref p) (upd H1 p (.tup xs.reverse))
theorem pe_revT {k : Nat} {p1 p2 p3 pos : Pos} (he : PE X e te) : PE X (.Subscript e (.Slice none none (some (.UnaryOp .USub (.Constant (.int 1) k p1) p2)) p3) pos) (tRevT X.K te) := by
  refine ⟨fun pins s σ H Q I h => ?_⟩
  refine Subscript_ (thn (he.run pins s σ H _ I h) fun v s1 ⟨x, H1, I1, r1, q1⟩ => ?_)
  obtain ⟨a, xs, ex, hx, q⟩ := q1
  subst ex
  cases r1
  have hst : PO X (some (.UnaryOp .USub (.Constant (.int 1) k p1) p2)) (tPart (tUn (rU fun i => .int (-i)) (tC (.int 1)))) := po_some (pe_un un_neg pe_int)
  refine wpAny_Slice (thn (po_none.run pins s1 σ H1 (fun o H2 => o = none ∧ H2 = H1) I1 ⟨rfl, rfl⟩) fun vl s2 ⟨l, H2, I2, pl, el, e2⟩ => ?_)
  subst el e2
  refine thn (po_none.run pins s2 σ H2 (fun o H3 => o = none ∧ H3 = H2) I2 ⟨rfl, rfl⟩) fun vu s3 ⟨u, H3, I3, pu, eu, e3⟩ => ?_
  subst eu e3
  refine thn (hst.run pins s3 σ H3 (fun o H4 => o = some (-1) ∧ H4 = H3) I3 ⟨1, rfl, -1, rfl, rfl, rfl⟩) fun vs s4 ⟨o, H4, I4, ps, eo, e4⟩ => ?_
  subst eo e4
  cases pl
  cases pu
  have I5 : Inv X pins σ H4 { s4 with heap := s4.heap.push { cls := .type "slice", data := .fields #[.none, .none, vs] } } := I4.kept (t' := s4.toks) fun b ob q => Heap.get?_push_of_some _ q
  obtain ⟨its, r, ht, hz⟩ := I5.tuple hx
  have hlen := r.length
  show wpAny (model X.prog X.w) X.A (subscriptTail e (.Slice none none (some (.UnaryOp .USub (.Constant (.int 1) k p1) p2)) p3) (.ref a) (.ref s4.heap.objs.size)) (EP X pins σ Q) X.xe { s4 with heap := s4.heap.push { cls := .type "slice", data := .fields #[.none, .none, vs] } }
  refine tail_any (ops := [.ref a, .ref s4.heap.objs.size]) ht.typeIs (PyProof.Rows.slot_tuple_getitem.lookup) ?_ (by with_unfolding_all rfl)
  refine getItem_tuple_rev ht (Heap.IsSliceOf.new _ .none .none vs) ps ?_ (by rw [List.size_toArray]; omega)
  refine ⟨.ref _, _, I5.laid (t' := s4.toks) (o := .tup xs.reverse) (fun b ob q => Heap.get?_push_of_some _ q) (Nat.le_refl _) ?_, rfl, q _ (I5.hok.fresh (Nat.le_refl _))⟩
  exact ⟨by rw [List.length_reverse]; exact hz, _, r.reverse, IsTup.new _ _⟩
def revTF (d : D) : M D := fun st => match dat st d with
  | some (.tuple xs) => .ok (.val (.tuple xs.reverse)) st
  | _ => .bad
def revT (fe : Env → M D) : Env → M D := fun env => bd (fe env) revTF
theorem se_revT {k : Nat} {p1 p2 p3 pos : Pos} (he : SE X E e te fe) (hK : X.K = K := by rfl) : SE X E (.Subscript e (.Slice none none (some (.UnaryOp .USub (.Constant (.int 1) k p1) p2)) p3) pos) (tRevT K te) (revT fe) := by
  subst hK
  refine ⟨pe_revT he.pe, fun w σ H env st Q s0 e0 hp => ?_⟩
  refine he.rf.step s0 e0 hp fun r1 H1 st1 x v g1 s1 e1 q1 hp => ?_
  unfold revTF at hp
  split at hp
  · rename_i xs hx
    obtain ⟨a, us, e3, ha, ra⟩ := dat_tup q1 hx
    refine ⟨a, us, e3, ha.sq, fun p np => ?_⟩
    exact hp r1 _ _ (.new np) (s1.new np) (Rp.newTup (s1.notin np) ra.rev np)
  · exact hp.elim
end
variable {X : Ex → Store → Prop} {st : Store} {env : Env} {Q : D → Store → Prop}
@[simp] theorem e_revT {fe : Env → M D} : wpx X (revT fe env st) Q = wpx X (bd (fe env) revTF st) Q := propext Iff.rfl
@[simp] theorem o_revTF {xs : List PyData} : wpx X (revTF (.val (.tuple xs)) st) Q = Q (.val (.tuple xs.reverse)) st := by simp only [revTF, dat, wp_ok]
end B
/-! BL36: values of plain signs and small numbers. -/
namespace B
open PySem L2
def Asc (x : Str) : Prop := ∀ c ∈ x.cps.toList, c < 128
def ascB (x : Str) : Bool := x.cps.toList.all fun c => decide (c < 128)
theorem asc_iff {x : Str} : ascB x = true ↔ Asc x := by
  unfold ascB Asc
  rw [List.all_eq_true]
  exact ⟨fun h c hc => of_decide_eq_true (h c hc), fun h c hc => decide_eq_true (h c hc)⟩
theorem str_eta (x : Str) : (⟨x.cps.toList.toArray⟩ : Str) = x := by cases x; simp
theorem upper_cons (c : Nat) (l : List Nat) : (⟨(c :: l).toArray⟩ : Str) = ⟨#[c]⟩ ++ ⟨l.toArray⟩ := by
  apply PySem.Str.ext'
  rw [PySem.Str.cps_append]
  simp
theorem upper_list : ∀ (l : List Nat), (∀ c ∈ l, c < 128) → ∃ l' : List Nat, l'.length = l.length ∧ (∀ c ∈ l', c < 128) ∧ Txt.upper ⟨l.toArray⟩ = ⟨l'.toArray⟩
  | [], _ => ⟨[], rfl, by simp, by decide +kernel⟩
  | c :: l, h => by
    obtain ⟨l', h1, h2, h3⟩ := upper_list l fun d hd => h d (List.mem_cons_of_mem _ hd)
    have hc := h c (List.mem_cons_self ..)
    refine ⟨(if 97 ≤ c ∧ c ≤ 122 then c - 32 else c) :: l', by simp [h1], fun d hd => ?_, ?_⟩
    · rcases List.mem_cons.mp hd with rfl | hd
      · split <;> omega
      · exact h2 d hd
    · rw [upper_cons c l, PySem.W.KOpn.upper_app, PySem.W.KOpn.upper_one hc, h3, ← upper_cons]
theorem upper_asc {x : Str} (h : Asc x) : (Txt.upper x).length = x.length ∧ Asc (Txt.upper x) := by
  obtain ⟨l', h1, h2, h3⟩ := upper_list x.cps.toList h
  rw [str_eta] at h3
  rw [h3]
  refine ⟨?_, fun c hc => h2 c (by simpa using hc)⟩
  show l'.toArray.size = x.cps.size
  rw [List.size_toArray, h1]; simp
theorem Asc.cat {x y : Str} (h : Asc x) (k : Asc y) : Asc (x ++ y) := by
  intro c hc
  rw [PySem.Str.cps_append, Array.toList_append, List.mem_append] at hc
  exact hc.elim (h c) (k c)
theorem Asc.cut {x : Str} (h : Asc x) (lo hi : Option Int) : Asc (cutS x lo hi) := by
  intro c hc
  unfold L2.cutS at hc
  rw [List.toList_toArray] at hc
  exact h c (List.mem_of_mem_drop (List.mem_of_mem_take hc))
mutual
def okA (L : Nat) : PyData → Bool
  | .none => true
  | .bool _ => true
  | .int i => decide (i.natAbs ≤ L)
  | .str x => ascB x
  | .list xs => okAs L xs
  | .tuple xs => okAs L xs
  | .dict _ => false
def okAs (L : Nat) : List PyData → Bool
  | [] => true
  | x :: r => okA L x && okAs L r
end
mutual
theorem okA_D {L : Nat} (hL : L < 2 ^ 210) : ∀ {p : PyData}, okA L p = true → okD p = true
  | .none, _ => okD_n
  | .bool _, _ => okD_b
  | .int i, h => by
    simp only [okA, decide_eq_true_eq] at h
    exact okD_int (Nat.lt_of_le_of_lt h hL)
  | .str x, h => by
    simp only [okA] at h
    simp only [okD, List.all_eq_true, decide_eq_true_eq]
    exact fun c hc => Nat.lt_trans (asc_iff.mp h c hc) (by decide)
  | .list xs, h => by rw [okD_l]; simp only [okA] at h; exact okAs_D hL h
  | .tuple xs, h => by rw [okD_t]; simp only [okA] at h; exact okAs_D hL h
  | .dict _, h => by simp [okA] at h
theorem okAs_D {L : Nat} (hL : L < 2 ^ 210) : ∀ {xs : List PyData}, okAs L xs = true → okAll xs = true
  | [], _ => okAll_n
  | x :: r, h => by
    simp only [okAs, Bool.and_eq_true] at h
    rw [okAll_c, okA_D hL h.1, okAs_D hL h.2]; rfl
end
mutual
theorem okA_mono {L L' : Nat} (hL : L ≤ L') : ∀ {p : PyData}, okA L p = true → okA L' p = true
  | .none, _ => by simp only [okA]
  | .bool _, _ => by simp only [okA]
  | .int i, h => by simp only [okA, decide_eq_true_eq] at h ⊢; omega
  | .str x, h => by simp only [okA] at h ⊢; exact h
  | .list xs, h => by simp only [okA] at h ⊢; exact okAs_mono hL h
  | .tuple xs, h => by simp only [okA] at h ⊢; exact okAs_mono hL h
  | .dict _, h => by simp [okA] at h
theorem okAs_mono {L L' : Nat} (hL : L ≤ L') : ∀ {xs : List PyData}, okAs L xs = true → okAs L' xs = true
  | [], _ => by simp only [okAs]
  | x :: r, h => by
    simp only [okAs, Bool.and_eq_true] at h ⊢
    exact ⟨okA_mono hL h.1, okAs_mono hL h.2⟩
end
theorem okAs_iff {L : Nat} : ∀ {xs : List PyData}, okAs L xs = true ↔ ∀ x ∈ xs, okA L x = true
  | [] => by simp [okAs]
  | x :: r => by simp [okAs, okAs_iff (xs := r)]
theorem okA_t {L : Nat} {xs : List PyData} : okA L (.tuple xs) = okAs L xs := by simp only [okA]
theorem okA_l {L : Nat} {xs : List PyData} : okA L (.list xs) = okAs L xs := by simp only [okA]
theorem okA_s {L : Nat} {x : Str} (h : Asc x) : okA L (.str x) = true := by simp only [okA]; exact asc_iff.mpr h
theorem okA_i {L : Nat} {i : Int} (h : i.natAbs ≤ L) : okA L (.int i) = true := by simp only [okA, decide_eq_true_eq]; exact h
theorem okA_b {L : Nat} {b : Bool} : okA L (.bool b) = true := by simp only [okA]
theorem okAs_app {L : Nat} {xs ys : List PyData} (h : okAs L xs = true) (k : okAs L ys = true) : okAs L (xs ++ ys) = true :=
  okAs_iff.mpr fun x hx => (List.mem_append.mp hx).elim (okAs_iff.mp h x) (okAs_iff.mp k x)
theorem okAs_sub {L : Nat} {xs ys : List PyData} (h : okAs L xs = true) (hs : ∀ y ∈ ys, y ∈ xs) : okAs L ys = true := okAs_iff.mpr fun y hy => okAs_iff.mp h y (hs y hy)
theorem depthAll_app (xs ys : List PyData) : PyData.depthAll (xs ++ ys) = max (PyData.depthAll xs) (PyData.depthAll ys) := by
  apply Nat.le_antisymm
  · refine depthAll_le.mpr fun x hx => ?_
    rcases List.mem_append.mp hx with h | h
    · exact Nat.le_trans (depthAll_le.mp (Nat.le_refl _) x h) (Nat.le_max_left _ _)
    · exact Nat.le_trans (depthAll_le.mp (Nat.le_refl _) x h) (Nat.le_max_right _ _)
  · exact Nat.max_le.mpr ⟨depthAll_le.mpr fun x hx => depthAll_le.mp (Nat.le_refl _) x (List.mem_append_left _ hx), depthAll_le.mpr fun x hx => depthAll_le.mp (Nat.le_refl _) x (List.mem_append_right _ hx)⟩
theorem depthAll_sub {xs ys : List PyData} (hs : ∀ y ∈ ys, y ∈ xs) : PyData.depthAll ys ≤ PyData.depthAll xs := depthAll_le.mpr fun y hy => depthAll_le.mp (Nat.le_refl _) y (hs y hy)
/-- small and plain -/
structure Sa (L W k : Nat) (p : PyData) : Prop where
  ok : okA L p = true
  w : wt p ≤ W
  d : p.depth ≤ k
theorem Sa.mono {L W k L' W' k' : Nat} {p : PyData} (h : Sa L W k p) (hL : L ≤ L') (hW : W ≤ W') (hk : k ≤ k') : Sa L' W' k' p := ⟨okA_mono hL h.ok, Nat.le_trans h.w hW, Nat.le_trans h.d hk⟩
def saB (L W k : Nat) (p : PyData) : Bool := okA L p && decide (wt p ≤ W ∧ p.depth ≤ k)
theorem Sa.of {L W k : Nat} {p : PyData} (h : saB L W k p = true) : Sa L W k p := by
  simp only [saB, Bool.and_eq_true, decide_eq_true_eq] at h; exact ⟨h.1, h.2.1, h.2.2⟩
theorem Sa.lit {L W k : Nat} {p : PyData} (h : Sa L W k p) (hL : L < 2 ^ 210) : Lit W k p := ⟨okA_D hL h.ok, h.w, h.d⟩
theorem small_text {i : Int} (h : i.natAbs ≤ 200) : Asc ((toString i : String) : Str) ∧ (((toString i : String) : Str)).length ≤ 5 := by
  have h1 : (List.range 401).all (fun k => ascB ((toString ((k : Int) - 200) : String) : Str) && decide ((((toString ((k : Int) - 200) : String) : Str)).length ≤ 5)) = true := by decide +kernel
  have := List.all_eq_true.mp h1 (i + 200).toNat (List.mem_range.mpr (by omega))
  simp only [Bool.and_eq_true, decide_eq_true_eq] at this
  rw [show (((i + 200).toNat : Nat) : Int) - 200 = i by omega] at this
  exact ⟨asc_iff.mp this.1, this.2⟩
end B
/-! BL37: how great programs are. -/
namespace B
open PySem L2
theorem num210 {i : Int} (h : Num i) : i.natAbs < 2 ^ 210 := Nat.lt_trans h (by decide)
theorem name_lit {p : PyData} (h : NameOk p) : Lit 82 0 p := by obtain ⟨x, rfl, hx⟩ := h; exact Lit.str hx
theorem Lit.two {a b k : Nat} {p q : PyData} (h : Lit a k p) (h' : Lit b k q) : Lit (a + b + 7) (k + 1) (.tuple [p, q]) :=
  ⟨by simp only [okD_t, okAll_c, okAll_n, h.1, h'.1, Bool.and_self], by have h1 := h.2.1; have h2 := h'.2.1; simp only [wt, wtAll]; omega, by have h1 := h.2.2; have h2 := h'.2.2; simp only [PyData.depth, PyData.depthAll]; omega⟩
theorem Lit.three {a b c k : Nat} {p q r : PyData} (h : Lit a k p) (h' : Lit b k q) (h'' : Lit c k r) : Lit (a + b + c + 9) (k + 1) (.tuple [p, q, r]) :=
  ⟨by simp only [okD_t, okAll_c, okAll_n, h.1, h'.1, h''.1, Bool.and_self], by have h1 := h.2.1; have h2 := h'.2.1; have h3 := h''.2.1; simp only [wt, wtAll]; omega, by have h1 := h.2.2; have h2 := h'.2.2; have h3 := h''.2.2; simp only [PyData.depth, PyData.depthAll]; omega⟩
theorem way_lit {p : PyData} (h : WayOk p) : Lit 211 1 p := by
  rcases h with ⟨i, rfl, hi⟩ | rfl | ⟨x, rfl, hx⟩
  · exact (Lit.int (k := 0) (num210 hi)).mono (by decide) (by decide)
  · exact Lit.of (by decide +kernel)
  · exact (Lit.two (a := 42) (k := 0) (Lit.of (by decide +kernel)) (Lit.str hx)).mono (by decide) (by decide)
theorem hand_lit {p : PyData} (h : HandOk p) : Lit 300 1 p := by
  obtain ⟨x, i, rfl, hx, hi⟩ := h
  exact (Lit.two (k := 0) (Lit.str hx) (Lit.int (num210 hi))).mono (by decide) (by decide)
theorem row_lit {p : PyData} (h : RowOk p) : Lit 5100 3 p := by
  obtain ⟨cs, ws, hs, rfl, hc, hw, hh, lc, lw, lh⟩ := h
  exact (Lit.three ((Lit.tup (fun c h => (name_lit (hc c h)).mono (Nat.le_refl _) (Nat.zero_le 1)) lc)) (Lit.tup (fun c h => way_lit (hw c h)) lw) (Lit.tup (fun c h => hand_lit (hh c h)) lh)).mono (by decide) (by decide)
theorem fun_lit {x : Str} {rs : List PyData} {m : Nat} (hx : Sm 8 x) (hr : ∀ r ∈ rs, RowOk r) (lr : rs.length ≤ m) : Lit (82 + (m * 5102 + 3) + 7) 5 (.tuple [.str x, .tuple rs]) :=
  Lit.two (Lit.str hx) (Lit.tup (fun r h => row_lit (hr r h)) lr)
theorem pick_sub {α : Type} : ∀ (xs : List α) (l : List Nat), l.Pairwise (· < ·) → (l.filterMap (xs[·]?)).Sublist xs
  | [], l, _ => by
    have : l.filterMap (([] : List α)[·]?) = [] := by simp
    rw [this]; exact List.Sublist.slnil
  | x :: r, [], _ => by simp
  | x :: r, i :: l, h => by
    have hl : ∀ (m : List Nat), (∀ j ∈ m, 0 < j) → m.filterMap ((x :: r)[·]?) = (m.map (· - 1)).filterMap (r[·]?) := by
      intro m
      induction m with
      | nil => intro _; rfl
      | cons j m ih =>
        intro hm
        have hj := hm j (List.mem_cons_self ..)
        obtain ⟨k, rfl⟩ : ∃ k, j = k + 1 := ⟨j - 1, by omega⟩
        have := ih fun z hz => hm z (List.mem_cons_of_mem _ hz)
        simp only [List.filterMap_cons, List.map_cons, List.getElem?_cons_succ, Nat.add_sub_cancel, this]
    have hp : ∀ (m : List Nat), m.Pairwise (· < ·) → (∀ j ∈ m, 0 < j) → (m.map (· - 1)).Pairwise (· < ·) := by
      intro m hm h0
      rw [List.pairwise_map]
      exact hm.imp_of_mem fun ha hb hab => by have := h0 _ ha; have := h0 _ hb; omega
    rw [List.pairwise_cons] at h
    cases i with
    | zero =>
      have h0 : ∀ j ∈ l, 0 < j := fun j hj => h.1 j hj
      rw [List.filterMap_cons]
      simp only [List.getElem?_cons_zero]
      rw [hl l h0]
      exact (pick_sub r _ (hp l h.2 h0)).cons₂ x
    | succ i =>
      have h0 : ∀ j ∈ (i + 1) :: l, 0 < j := fun j hj => by
        rcases List.mem_cons.mp hj with rfl | hj
        · omega
        · have := h.1 j hj; omega
      rw [hl _ h0]
      exact (pick_sub r _ (hp _ (List.pairwise_cons.mpr h) h0)).cons x
theorem wtAll_sublist {xs ys : List PyData} (h : xs.Sublist ys) : wtAll xs ≤ wtAll ys := by
  induction h with
  | slnil => exact Nat.le_refl _
  | cons a _ ih => simp only [wtAll]; omega
  | cons_cons a _ ih => simp only [wtAll]; omega
theorem pickV_sub {α : Type} {xs : List α} {i s : Int} (hs : 0 < s) : (pickV xs (some i) none (some s)).Sublist xs := by
  unfold pickV
  refine pick_sub _ _ ?_
  unfold sliceRange
  rw [List.pairwise_map]
  have hb : 0 ≤ (sliceBounds (some i) none (some s) xs.length).1 := by
    simp [sliceBounds, hs]
    omega
  have hs2 : (sliceBounds (some i) none (some s) xs.length).2.2 = s := by simp [sliceBounds]
  rw [hs2]
  refine List.pairwise_lt_range.imp fun {a b} hab => ?_
  have h1 : s * (a : Int) < s * (b : Int) := Int.mul_lt_mul_of_pos_left (by omega) hs
  have h2 : 0 ≤ s * (a : Int) := Int.mul_nonneg (by omega) (by omega)
  omega
end B
/-! BL38: what the checks tell. -/
namespace B
open PySem L2
def namP : PyData → Bool
  | .str x => nmB x
  | _ => false
def numP : PyData → Bool
  | .int n => decide (0 ≤ n)
  | _ => false
def Tx (p : PyData) : Prop := ∀ x, p = .str x → x.length ≤ 16777216
def pairP : PyData → Bool
  | .tuple [_, _] => true
  | _ => false
def spotP : PyData → Bool
  | .tuple [a, b] => namP a && numP b
  | _ => false
def Fine (p : PyData) : Prop := ∀ xs, p = .tuple xs → xs.length ≤ 16777216 ∧ ∀ x ∈ xs, Tx x
theorem at0 (a b : PyData) : atI [a, b] 0 = some a := by simp [atI, ixN]
theorem at1 (a b : PyData) : atI [a, b] 1 = some b := by simp [atI, ixN]
def calP : PyData → Bool
  | .str x => decide (x = "") || nmB x
  | _ => false
def failP : PyData → Bool
  | .tuple [a, b] => PyData.eqv a (.str "fail") && namP b
  | _ => false
def wayP (p : PyData) : Bool := numP p || PyData.eqv p (.tuple [.str "back"]) || failP p
def handP : PyData → Bool
  | .tuple [a, b] => calP a && numP b
  | _ => false
def allT (f : PyData → Bool) : PyData → Bool
  | .tuple xs => xs.all f
  | _ => false
def lineP : PyData → Bool
  | .tuple [a, b, c] => allT calP a && allT wayP b && allT handP c
  | _ => false
def linesP : PyData → Bool
  | .tuple xs => !xs.isEmpty && xs.all lineP
  | _ => false
def funP : PyData → Bool
  | .tuple [a, b] => namP a && linesP b
  | _ => false
def progP : PyData → Bool
  | .tuple xs => !xs.isEmpty && xs.all funP
  | _ => false
theorem lcF_not {i : Nat} {ask : Env → M D} {P : PyData → Bool} {xs : List PyData} {env : Env} {st : Store} (hi : i < env.length) (hl : xs.length ≤ sizeLine)
    (h : ∀ x ∈ xs, wpx noE (ask (env.set i (some (.val x))) st) fun d s => d = .val (.bool (P x)) ∧ s = st) :
    lcF (setV i) (lcIn (notT (truT ask)) (gv i)) env xs [] st = .ok (xs.filter fun x => !P x) st := by
  have : wpx noE (lcF (setV i) (lcIn (notT (truT ask)) (gv i)) env xs [] st) fun a s => a = xs.filter (fun x => !P x) ∧ s = st := by
    refine lc_filter (fun x => !P x) id (fun x hx => ?_) hl ⟨by simp, rfl⟩
    simp
    refine wp_mono (h x hx) ?_
    rintro d s ⟨rfl, rfl⟩
    cases P x <;> simp [hi]
  obtain ⟨a, s, e, rfl, rfl⟩ := wp_iff.mp this
  exact e
theorem lcF_ask {i : Nat} {m : List D → M D} {P : PyData → Bool} {xs : List PyData} {env : Env} {st : Store} (hi : i < env.length) (hl : xs.length ≤ sizeLine) (h : ∀ x ∈ xs, m [.val x] st = .ok (.val (.bool (P x))) st) :
    lcF (setV i) (lcIn yesT (callF m (aCons (gv i) aNil))) env xs [] st = .ok (xs.map fun x => .bool (P x)) st := lcF_call hi hl h
theorem filt_nil {xs : List PyData} {P : PyData → Bool} : (xs.filter fun x => !P x).isEmpty = xs.all P := by
  induction xs with
  | nil => rfl
  | cons x r ih => cases h : P x <;> simp [h, ih]
theorem all_map_id {xs : List PyData} {P : PyData → Bool} : (xs.map P).all id = xs.all P := by simp [List.all_map]
/-- values that the checks can look at -/
def Sml (p : PyData) : Prop := Lit 4000000 60 p
theorem Sml.mem {xs : List PyData} {x : PyData} (h : Sml (.tuple xs)) (hx : x ∈ xs) : Sml x := (Lit.mem h hx).mono (Nat.le_refl _) (by decide)
theorem Sml.len {xs : List PyData} (h : Sml (.tuple xs)) : xs.length ≤ 16777216 := Nat.le_trans (Lit.len h) (by decide)
theorem Sml.tx {p : PyData} (h : Sml p) : Tx p := by rintro x rfl; exact Nat.le_trans (Lit.txt h) (by decide)
theorem Sml.fine {p : PyData} (h : Sml p) : Fine p := by
  rintro xs rfl
  exact ⟨h.len, fun x hx => (h.mem hx).tx⟩
theorem Sml.dep {p : PyData} (h : Sml p) : p.depth ≤ 64 := Nat.le_trans h.2.2 (by decide)
theorem min_dep {p q : PyData} (h : Sml p) : min p.depth q.depth ≤ 64 := Nat.le_trans (Nat.min_le_left _ _) h.dep
end B
/-! BL39: own objects: fields, methods, making. -/
namespace B
open PySem L2
section
variable [Nm] [Gd]
variable {X : Cx} {K : W.Frag} {E : XK} {e o v : Expr} {es : List Expr} {te to tv : TE} {tr : TA} {fe fo fv : Env → M D} {fr : Env → M (List D)} {pos apos pos' : Pos}
/-- e.f -/
def fldF (C f : Str) (d : D) : M D := fun st => match d with
  | .loc n => (match st[n]? with
    | some (.ins C' fs) => if C' = C then (match fs.lookup f with
      | some x => .ok x st
      | none => .bad) else .bad
    | _ => .bad)
  | _ => .bad
def fldE (C f : Str) (fe : Env → M D) : Env → M D := fun env => bd (fe env) (fldF C f)
theorem se_fld {C f : Str} (he : SE X E e te fe) (c : Cls X.K (Nm.cl C)) (n : NoAttr X.K (Nm.cl C) f) (hb : attributeBase e f X.env (eval e X.env) = eval e X.env := by rfl) :
    SE X E (.Attribute e f pos) (tFld X.K te f) (fldE C f fe) := by
  refine ⟨pe_fld he.pe hb, fun w σ H env st Q s0 e0 hp => ?_⟩
  refine he.rf.step s0 e0 hp fun r1 H1 st1 x u g1 s1 e1 q1 hq => ?_
  clear hp
  cases x with
  | loc m =>
    simp only [fldF] at hq
    cases hm : st1[m]? with
    | none => simp only [hm] at hq; exact hq.elim
    | some ob =>
      cases ob with
      | ins C' fs =>
        simp only [hm] at hq
        by_cases eC : C' = C
        · simp only [eC, if_true] at hq
          subst eC
          obtain ⟨a, rfl, ha, dx, gs, hx, rf⟩ := s1.at hm q1
          cases hl : fs.lookup f with
          | none => rw [hl] at hq; exact hq.elim
          | some d =>
            rw [hl] at hq
            obtain ⟨y, hy, ry⟩ := (rf.2 f).1 d hl
            exact ⟨a, _, dx, gs, y, rfl, hx, c, n, hy, Post.now hq s1 ry⟩
        · simp only [eC, if_false] at hq
          exact hq.elim
      | _ => simp only [hm] at hq; exact hq.elim
  | _ => exact hq.elim
/-- the fields behind o.f = x -/
def putD (f : Str) (x : D) : List (Str × D) → List (Str × D)
  | [] => [(f, x)]
  | (g, y) :: r => if g = f then (g, x) :: r else (g, y) :: putD f x r
theorem look_cons (g k : Str) (y : D) (r : List (Str × D)) : List.lookup g ((k, y) :: r) = if g = k then some y else List.lookup g r := by
  rw [List.lookup_cons]
  by_cases h : g = k
  · have hb : (g == k) = true := beq_iff_eq.mpr h
    rw [hb, if_pos h]
  · have hb : (g == k) = false := beq_eq_false_iff_ne.mpr h
    rw [hb, if_neg h]
theorem lookup_putD (f g : Str) (x : D) : ∀ fs : List (Str × D), (putD f x fs).lookup g = if g = f then some x else fs.lookup g
  | [] => by simp only [putD, look_cons]
  | (k, y) :: r => by
    simp only [putD]
    by_cases hk : k = f
    · subst hk
      rw [if_pos rfl, look_cons, look_cons]
      by_cases h : g = k <;> simp [h]
    · rw [if_neg hk, look_cons, look_cons, lookup_putD f g x r]
      by_cases h : g = k
      · subst h; simp [hk]
      · simp [h]
theorem keys_put {K : W.Frag} (f : Str) (x : D) (u : V) : ∀ {fs : List (Str × D)} {gs : List (Str × V)}, fs.map (·.1) = gs.map (·.1) → (putD f x fs).map (·.1) = (putF f u gs).map (·.1)
  | [], [], _ => rfl
  | (k, y) :: r, (k', y') :: r', h => by
    simp only [List.map_cons, List.cons.injEq] at h
    obtain ⟨rfl, h⟩ := h
    simp only [putD, putF]
    by_cases hk : k = f
    · subst hk; simp [h]
    · simp [hk, keys_put (K := K) f x u h]
  | [], _ :: _, h => by simp at h
  | _ :: _, [], h => by simp at h
theorem RpF.put {w : Wd} {H : Hp} {fs : List (Str × D)} {gs : List (Str × V)} (h : RpF K w H fs gs) (f : Str) {x : D} {u : V} (r : RpD K w H x u) : RpF K w H (putD f x fs) (putF f u gs) := by
  refine ⟨keys_put (K := K) f x u h.1, fun g => ?_⟩
  rw [lookup_putD, lookup_putF]
  by_cases e : g = f
  · simp only [e, if_true]
    exact ⟨fun d hd => by cases hd; exact ⟨u, rfl, r⟩, fun z => by cases z⟩
  · simp only [e, if_false]
    exact h.2 g
/-- o.f = v -/
def fputS (C f : Str) (fo fv : Env → M D) : Env → M Fl := fun env => bd (fv env) fun y => bd (fo env) fun x => fun st => match x with
  | .loc n => (match st[n]? with
    | some (.ins C' fs) => if C' = C ∧ fs.length < 1000 then .ok (.nx env) (st.set n (.ins C (putD f y fs))) else .bad
    | _ => .bad)
  | _ => .bad
theorem ss_fput {C f : Str} (ho : SE X E o to fo) (hv : SE X E v tv fv) (c : Cls X.K (Nm.cl C)) (n : NoAttr X.K (Nm.cl C) f) (hs : swapsWith v (some (.Attribute o f pos')) pos.line X.env = pure false := by rfl) :
    SS X E (.Assign [.Attribute o f pos'] v pos) (sFld X.K to tv f) (fputS C f fo fv) := by
  refine ⟨ps_fld ho.pe hv.pe hs, fun w σ H env st Z s0 e0 hp => ?_⟩
  refine hv.rf.stepS s0 e0 hp fun r1 H1 st1 y u g1 s1 e1 q1 hp => ?_
  refine ho.rf.stepS s1 e1 hp fun r2 H2 st2 x t g2 s2 e2 q2 hp => ?_
  cases x with
  | loc m =>
    cases hm : st2[m]? with
    | none => simp only [hm] at hp; exact hp.elim
    | some ob =>
      cases ob with
      | ins C' fs =>
        simp only [hm] at hp
        split at hp
        · rename_i eC
          obtain ⟨rfl, hl⟩ := eC
          obtain ⟨a, rfl, ha, dx, gs, hx, rf⟩ := s2.at hm q2
          have hlen : gs.length = fs.length := by have := congrArg List.length rf.1; simpa using this.symm
          refine ⟨a, _, dx, gs, rfl, hx, c, n, by omega, ?_⟩
          obtain ⟨s3, g3⟩ := s2.write (o := .ins C' (putD f y fs)) (u := .ins (Nm.cl C') dx (putF f u gs)) ha ⟨dx, _, upd_same, ((rf.put f (q1.mono g2)).mono (.write ha))⟩
          exact hp r2 _ _ g3 s3 (e2.mono g3)
        · exact hp.elim
      | _ => simp only [hm] at hp; exact hp.elim
  | _ => exact hp.elim
/-- o.m(..): the method md of the class C -/
def isInsF (C m : Str) (d : D) : M Unit := fun st => match d with
  | .loc n => (match st[n]? with
    | some (.ins C' fs) => if C' = C ∧ fs.lookup m = none then .ok () st else .bad
    | _ => .bad)
  | _ => .bad
def methF (C m : Str) (md : List D → M D) (fo : Env → M D) (fr : Env → M (List D)) : Env → M D := fun env => bd (fo env) fun x => bd (isInsF C m x) fun _ => bd (fr env) fun ds => md (x :: ds)
theorem isIns_ok {C m : Str} {x : D} {st : Store} {w : Wd} {H : Hp} {u : V} {r : Res Unit} (e : isInsF C m x st = r) (hs : RelSt K w H st) (q : RpD K w H x u) :
    r = .bad ∨ (r = .ok () st ∧ ∃ a dx gs, u = .ref a ∧ H a = some (.ins (Nm.cl C) dx gs) ∧ gs.lookup m = none) := by
  subst e
  cases x with
  | loc n =>
    simp only [isInsF]
    cases hm : st[n]? with
    | none => exact .inl rfl
    | some ob =>
      cases ob with
      | ins C' fs =>
        by_cases eC : C' = C ∧ fs.lookup m = none
        · simp only [eC, and_self, if_true]
          obtain ⟨rfl, hl⟩ := eC
          obtain ⟨a, rfl, ha, dx, gs, hx, rf⟩ := hs.at hm q
          exact .inr ⟨trivial, a, dx, gs, rfl, hx, (rf.2 m).2 hl⟩
        · simp only [eC, if_false]
          exact .inl trivial
      | _ => exact .inl rfl
  | _ => exact .inl rfl
theorem pg_meth {C f : Addr} {m : Str} {k : Nat} {fd : FuncData} {ps : List Str} {sp : Sp} {pl : Sem Bool} (he : PE X o to) (c : Cls X.K C) (hm : Meth X.K C m f) (F : FnG X.prog X.w X.K X.mg X.base k f fd ps sp) (hr : Room k X.A) (hG : X.A.guards = some []) (hb : Binds X.K fd ps []) (hx : Passes (L2.CX X.prog X.w) X E) (ha : PA X (e :: es) tr)
    (hst : starEach (e :: es) X.env = (false, eval e X.env) :: starEach es X.env) (hpl : (backTo pos (starEach es X.env)).any (·.1) = false)
    (ht : eval (.Call (.Attribute o m apos) (e :: es) [] pos) X.env = (eval o X.env >>= fun ov => standAt apos.atName >>= fun _ => holding [ov] (getMethod ov m pl) >>= fun p => callWith pos p.1 p.2 (backTo pos (starEach (e :: es) X.env)) (backToKw pos (keywordEach [] X.env)))) :
    PE X (.Call (.Attribute o m apos) (e :: es) [] pos) (tMeth C m sp [] E to tr) := by
  refine ⟨fun pins s σ H Q I h => PySem.W.methodCall_KW (pl := pl) (thn (he.run pins s σ H _ I h) fun u s1 ⟨x, H1, I1, rx, a, dx, fs, ex, ea, l, q⟩ => ?_) ht⟩
  cases ex
  cases rx
  refine getmeth_ok I1 ea c hm l (PySem.W.callWith_K (first := [.ref a]) (h₀ := X.base) I.ok.mod.kin hm.kp (thn (ha.run pos pins s1 σ H1 _ I1 q) fun us s2 ⟨vs, H2, I2, r, q2⟩ => ⟨I2.kIn, ?_⟩) hst hpl)
  replace q2 : sp (V.ref a :: (vs ++ [])) H2 Q E := q2
  rw [List.append_nil] at q2
  exact goFn (vs := V.ref a :: vs) F hr hG hb hx I2 (.cons rfl r) q2
theorem pg_meth0 {C f : Addr} {m : Str} {k : Nat} {fd : FuncData} {ps : List Str} {sp : Sp} {pl : Sem Bool} (he : PE X o to) (c : Cls X.K C) (hm : Meth X.K C m f) (F : FnG X.prog X.w X.K X.mg X.base k f fd ps sp) (hr : Room k X.A) (hG : X.A.guards = some []) (hb : Binds X.K fd ps []) (hx : Passes (L2.CX X.prog X.w) X E)
    (ht : eval (.Call (.Attribute o m apos) [] [] pos) X.env = (eval o X.env >>= fun ov => standAt apos.atName >>= fun _ => holding [ov] (getMethod ov m pl) >>= fun p => callWith pos p.1 p.2 (backTo pos (starEach [] X.env)) (backToKw pos (keywordEach [] X.env)))) :
    PE X (.Call (.Attribute o m apos) [] [] pos) (tMeth C m sp [] E to tNil) := by
  refine ⟨fun pins s σ H Q I h => PySem.W.methodCall_KW (pl := pl) (thn (he.run pins s σ H _ I h) fun u s1 ⟨x, H1, I1, rx, a, dx, fs, ex, ea, l, q⟩ => ?_) ht⟩
  cases ex
  cases rx
  exact getmeth_ok I1 ea c hm l (PySem.W.callWith_K0 (first := [.ref a]) I1.kIn hm.kp (goFn (vs := [V.ref a]) F hr hG hb hx I1 (.cons rfl .nil) q))
theorem rf_meth {C m : Str} {md : List D → M D} {n : Nat} (hn : lenIs n fr) (ho : Rf K E (RE K) to fo) (ha : Rf K E (RA K) tr fr) : Rf K E (RE K) (tMeth (Nm.cl C) m (spOf K (n + 1) md) [] E to tr) (methF C m md fo fr) := by
  intro w σ H env st Q s0 e0 hp
  refine ho.step s0 e0 hp fun r1 H1 st1 x u g1 s1 e1 q1 hq => ?_
  clear hp
  rcases isIns_ok (C := C) (m := m) rfl s1 q1 with e | ⟨e, a, dx, gs, rfl, hx, hl⟩
  · rw [bd_bad e] at hq; exact hq.elim
  · rw [bd_ok e] at hq
    refine ⟨a, dx, gs, rfl, hx, hl, ?_⟩
    have hlen := hn env st1
    cases hf : fr env st1 with
    | ok ds st2 =>
      rw [bd_ok hf] at hq
      refine ha r1 σ H1 env st1 _ s1 e1 ?_
      rw [hf]
      intro r2 H2 vs g2 s2 q2
      rw [List.append_nil]
      refine ⟨by have := RpDs.length q2; rw [List.length_cons, ← this, hlen ds st2 hf], r2, st2, x :: ds, s2, .cons (q1.mono g2) q2, hq.mono g2⟩
    | exc e st2 => rw [bd_exc hf] at hq; exact ha r1 σ H1 env st1 _ s1 e1 (by rw [hf]; exact hq)
    | bad => rw [bd_bad hf] at hq; exact hq.elim
theorem se_meth {C m : Str} {f : Addr} {k n : Nat} {fd : FuncData} {ps : List Str} {md : List D → M D} {pl : Sem Bool} (F : FnG X.prog X.w X.K X.mg X.base k f fd ps (spOf X.K (n + 1) md)) (hr : Room k X.A) (hG : X.A.guards = some []) (hm : Meth X.K (Nm.cl C) m f) (c : Cls X.K (Nm.cl C)) (hb : Binds X.K fd ps []) (hx : Passes (L2.CX X.prog X.w) X E)
    (ho : SE X E o to fo) (ha : SA X E (e :: es) tr fr) (hn : lenIs n fr) (hst : starEach (e :: es) X.env = (false, eval e X.env) :: starEach es X.env := by rfl) (hpl : (backTo pos (starEach es X.env)).any (·.1) = false := by rfl)
    (ht : eval (.Call (.Attribute o m apos) (e :: es) [] pos) X.env = (eval o X.env >>= fun ov => standAt apos.atName >>= fun _ => holding [ov] (getMethod ov m pl) >>= fun p => callWith pos p.1 p.2 (backTo pos (starEach (e :: es) X.env)) (backToKw pos (keywordEach [] X.env))) := by rfl) :
    SE X E (.Call (.Attribute o m apos) (e :: es) [] pos) (tMeth (Nm.cl C) m (spOf X.K (n + 1) md) [] E to tr) (methF C m md fo fr) :=
  ⟨pg_meth ho.pe c hm F hr hG hb hx ha.pa hst hpl ht, rf_meth hn ho.rf ha.rf⟩
theorem se_meth0 {C m : Str} {f : Addr} {k : Nat} {fd : FuncData} {ps : List Str} {md : List D → M D} {pl : Sem Bool} (F : FnG X.prog X.w X.K X.mg X.base k f fd ps (spOf X.K 1 md)) (hr : Room k X.A) (hG : X.A.guards = some []) (hm : Meth X.K (Nm.cl C) m f) (c : Cls X.K (Nm.cl C)) (hb : Binds X.K fd ps []) (hx : Passes (L2.CX X.prog X.w) X E)
    (ho : SE X E o to fo) (ht : eval (.Call (.Attribute o m apos) [] [] pos) X.env = (eval o X.env >>= fun ov => standAt apos.atName >>= fun _ => holding [ov] (getMethod ov m pl) >>= fun p => callWith pos p.1 p.2 (backTo pos (starEach [] X.env)) (backToKw pos (keywordEach [] X.env))) := by rfl) :
    SE X E (.Call (.Attribute o m apos) [] [] pos) (tMeth (Nm.cl C) m (spOf X.K 1 md) [] E to tNil) (methF C m md fo aNil) :=
  ⟨pg_meth0 ho.pe c hm F hr hG hb hx ht, rf_meth lenIs_nil ho.rf (sa_nil (X := X)).rf⟩
/-- C(..): __init__ is mi; dd its defaults that fill up -/
def mkF (C : Str) (dd : List D) (mi : List D → M D) (fr : Env → M (List D)) : Env → M D := fun env => bd (fr env) fun ds => fun st => match mi (.loc st.length :: (ds ++ dd)) (st ++ [.ins C []]) with
  | .ok (.val .none) st' => .ok (.loc st.length) st'
  | .exc e st' => .exc e st'
  | _ => .bad
theorem goMake {C f : Addr} {k : Nat} {fd : FuncData} {ps : List Str} {sp : Sp} {dvs : List V} {dus : List Value} {pins : List (Addr × Obj)} {σ : St} {H : Hp} {s : Shared} {Q : VK} {us : List Value} {vs : List V} (M : Mk X.K C f) (F : FnG X.prog X.w X.K X.mg X.base k f fd ps sp) (hr : Room (k + 1) X.A) (hG : X.A.guards = some []) (hb : Binds X.K fd ps dus) (hd : Vals dvs dus)
    (hx : Passes (L2.CX X.prog X.w) X E) (I : Inv X pins σ H s) (r : Vals vs us)
    (h : ∀ x dx, H x = none → H dx = none → dx ≠ x → sp (.ref x :: (vs ++ dvs)) (upd (upd H dx (.own x)) x (.ins C dx [])) (fun y H2 => y = .non ∧ Q (.ref x) H2) E) :
    wpAny (model X.prog X.w) X.A (call (.ref C) us) (EP X pins σ Q) X.xe s := by
  have q0 := h (s.heap.objs.size + 1) s.heap.objs.size (I.hok.fresh (Nat.le_succ _)) (I.hok.fresh (Nat.le_refl _)) (Nat.ne_of_lt (Nat.lt_succ_self _))
  have J := Inv.made (C := C) I
  have rr : Vals (V.ref (s.heap.objs.size + 1) :: (vs ++ dvs)) (Value.ref (s.heap.objs.size + 1) :: (us ++ dus)) := .cons rfl (r.append hd)
  have lz : (Value.ref (s.heap.objs.size + 1) :: us ++ dus).length = ps.length := (rr.length.symm.trans (F.size _ _ _ _ q0))
  refine wpAny_call (make_map (f := f) I.kIn M.makes M.init (beq_iff_eq.mp M.fn) (codeAny_mono (F.goes _ X.stack _ _ ⟨Value.ref (s.heap.objs.size + 1) :: us, []⟩ (Value.ref (s.heap.objs.size + 1) :: (us ++ dus)) _ _ E (hr.make C us []) ?g
    (J.env0.make C us []) (hb _ (Value.ref (s.heap.objs.size + 1) :: us) J.kIn lz) rr q0) fun r s' hq => ?_))
  case g => first | exact hG | (simp [Around.under, hG]) | (unfold Around.under; simp [hG])
  have z := CR.after hx J hq
  cases r with
  | error e => exact z
  | ok fl =>
    cases fl with
    | ret u =>
      obtain ⟨v, H', I3, rv, ev, q3⟩ := z
      subst ev
      exact ⟨rv, ⟨V.ref _, H', I3, rfl, q3⟩⟩
    | next => exact z.elim
    | brk => exact z.elim
    | cont => exact z.elim
theorem RpDs.app {w : Wd} {H : Hp} : ∀ {ds es : List D} {vs us : List V}, RpDs K w H ds vs → RpDs K w H es us → RpDs K w H (ds ++ es) (vs ++ us)
  | _, _, _, _, .nil, s => s
  | _, _, _, _, .cons r t, s => .cons r (RpDs.app t s)
theorem rf_make {C : Str} {mi : List D → M D} {n : Nat} {dd : List D} {dvs : List V} (hn : lenIs n fr) (hd : ∀ w H, RpDs K w H dd dvs) (ha : Rf K E (RA K) tr fr) : Rf K E (RE K) (tMake (Nm.cl C) (spOf K (n + dd.length + 1) mi) dvs E tr) (mkF C dd mi fr) := by
  intro w σ H env st Q s0 e0 hp
  have hlen := hn env st
  unfold mkF at hp
  cases hf : fr env st with
  | ok ds st1 =>
    rw [bd_ok hf] at hp
    refine ha w σ H env st _ s0 e0 ?_
    rw [hf]
    intro r1 H1 vs g1 s1 q1 x dx hx hdx hne
    replace hp := hp.mono g1
    have hl := hlen ds st1 hf
    have s2 := s1.new (o := HO.own x) hdx
    have g2 : Ge r1 H1 r1 (upd H1 dx (.own x)) := .new hdx
    have hx2 : upd H1 dx (HO.own x) x = none := by rw [upd_ne (Ne.symm hne)]; exact hx
    obtain ⟨s3, g3⟩ := s2.push (p := x) (o := .ins C []) (u := .ins (Nm.cl C) dx []) hx2 ⟨dx, [], upd_same, rfl, fun y => ⟨fun d e => (by cases e), fun _ => rfl⟩⟩
    have hat : (r1.add x).rho[st1.length]? = some x := by
      rw [s1.len]; simp
    have g13 := g2.trans g3
    refine ⟨?_, r1.add x, st1 ++ [.ins C []], .loc st1.length :: (ds ++ dd), s3, .cons ⟨x, rfl, hat⟩ (RpDs.app (q1.mono g13) (hd _ _)), ?_⟩
    · have h1 := RpDs.length q1
      have h2 := RpDs.length (hd w H)
      simp only [List.length_cons, List.length_append]; omega
    · cases hm : mi (.loc st1.length :: (ds ++ dd)) (st1 ++ [.ins C []]) with
      | ok d st' =>
        rw [hm] at hp
        cases d with
        | val p =>
          cases p with
          | none =>
            intro w' H' b g' s' rb
            cases rb
            exact ⟨rfl, hp w' H' (.ref x) (g13.trans g') s' ⟨x, rfl, g'.get hat⟩⟩
          | _ => exact hp.elim
        | _ => exact hp.elim
      | exc e st' =>
        rw [hm] at hp
        exact fun w' H' c dx' g' s' rx => hp w' H' c dx' (g13.trans g') s' rx
      | bad => rw [hm] at hp; exact hp.elim
  | exc e st1 => rw [bd_exc hf] at hp; exact ha w σ H env st _ s0 e0 (by rw [hf]; exact hp)
  | bad => rw [bd_bad hf] at hp; exact hp.elim
theorem se_make {C x : Str} {f : Addr} {k n : Nat} {fd : FuncData} {ps : List Str} {mi : List D → M D} {dd : List D} {dvs : List V} {dus : List Value} {p : Pos} (M : Mk X.K (Nm.cl C) f) (F : FnG X.prog X.w X.K X.mg X.base k f fd ps (spOf X.K (n + dd.length + 1) mi)) (hr : Room (k + 1) X.A) (hG : X.A.guards = some []) (hm : X.mg x = some (.ref (Nm.cl C))) (hb : Binds X.K fd ps dus) (hd : Vals dvs dus) (hdd : ∀ w H, RpDs X.K w H dd dvs)
    (hx : Passes (L2.CX X.prog X.w) X E) (ha : SA X E (e :: es) tr fr) (hn : lenIs n fr) (hg : Gl X x := by rfl) (hdb : (x == ("__debug__" : Str)) = false := by decide) (he : starEach (e :: es) X.env = (false, eval e X.env) :: starEach es X.env := by rfl) (hpl : (backTo pos (starEach es X.env)).any (·.1) = false := by rfl) :
    SE X E (.Call (.Name x p) (e :: es) [] pos) (tMake (Nm.cl C) (spOf X.K (n + dd.length + 1) mi) dvs E tr) (mkF C dd mi fr) := by
  refine ⟨⟨fun pins s σ H Q I h => wpAny_Call_Name_kw (ld_glob I hg hm ?_ hdb)⟩, rf_make hn hdd ha.rf⟩
  exact PySem.W.callWith_K (h₀ := X.base) I.ok.mod.kin M.kp (thn (ha.pa.run pos pins s σ H _ I h) fun us s1 ⟨vs, H1, I1, r, q⟩ => ⟨I1.kIn, goMake M F hr hG hb hd hx I1 r q⟩) he hpl
end
end B
/-! BL40: dict comprehensions. -/
namespace B
open PySem L2
variable [Nm] [Gd]
/-- what is wanted behind a turn -/
def PostK (K : W.Frag) (p : Addr) (w : Wd) (H : Hp) (r : Res (List (Key × PyData))) (Nx : Hp → Prop) : Prop :=
  match r with
  | .ok acc st' => ∀ w' H' vs, Ge w H w' H' → RelSt K w' H' st' → H' p = none → RpK K w' H' acc vs → Nx (upd H' p (.dK vs))
  | _ => False
theorem PostK.mono {K : W.Frag} {p : Addr} {w w' : Wd} {H H' : Hp} {r : Res (List (Key × PyData))} {Nx : Hp → Prop} (g : Ge w H w' H') (h : PostK K p w H r Nx) : PostK K p w' H' r Nx := by
  cases r with
  | ok acc st => exact fun w2 H2 vs g2 => h w2 H2 vs (g.trans g2)
  | exc e st => exact h
  | bad => exact h
def RfNK (K : W.Frag) (t : TN) (f : Env → List (Key × PyData) → M (List (Key × PyData))) : Prop :=
  ∀ p w σ H env st acc vs Nx, RelSt K w H st → RelEnv K w H env σ → H p = none → RpK K w H acc vs → PostK K p w H (f env acc st) Nx → t p σ (upd H p (.dK vs)) Nx
/-- a step within the protected state -/
theorem Rf.stepK {α β : Type} {K : W.Frag} {R : Wd → Hp → α → β → Prop} {t : St → Hp → (β → Hp → Prop) → Prop} {f : Env → M α} (h : Rf K E0 R t f)
    {p : Addr} {w : Wd} {σ : St} {H : Hp} {env : Env} {st : Store} {vs : List (Key × V)} {g : α → M (List (Key × PyData))} {Nx : Hp → Prop} {U : β → Hp → Prop} (hs : RelSt K w H st) (he : RelEnv K w H env σ) (hn : H p = none) (hp : PostK K p w H (bd (noX (f env)) g st) Nx)
    (k : ∀ w1 H1 w2 st' a b, RelSt K w1 H1 st' → R w1 H1 a b → Mo w1 H1 w2 (hide H1 p) → w2.rho = w1.rho → RelSt K w2 (hide H1 p) st' → Ge w H w2 (hide H1 p) → H1 p = some (.dK vs) → PostK K p w2 (hide H1 p) (g a st') Nx → U b H1) : t σ (upd H p (.dK vs)) U := by
  refine h (w.prot p) σ _ env st _ (hs.prot hn) (he.mo (Mo.prot hs hn)) ?_
  cases hf : f env st with
  | ok a st' =>
    rw [bd_ok (noX_ok hf)] at hp
    intro w1 H1 b g1 s1 q1
    obtain ⟨w2, mo, s2, g2, hD, er⟩ := unprot hs hn g1 s1
    exact k w1 H1 w2 st' a b s1 q1 mo er s2 g2 hD (hp.mono g2)
  | exc e st' => rw [bd_bad (noX_exc hf)] at hp; exact hp.elim
  | bad => rw [bd_bad (noX_bad hf)] at hp; exact hp.elim
/-- the innermost: test, key, value -/
def tInK (tt : TT) (tk tv : TE) : TN := fun p σ2 H2 Nx => tt σ2 H2 fun b H3 => if b = true then tk σ2 H3 fun y H4 => tv σ2 H4 fun z H5 => ∃ kvs k, y = kV k ∧ H5 p = some (.dK kvs) ∧ kvs.length < sizeLine ∧ Nx (upd H5 p (.dK (putK kvs k z))) else Nx H3
def dcIn (ft : Env → M Bool) (fk fv : Env → M D) (env : Env) (acc : List (Key × PyData)) : M (List (Key × PyData)) :=
  bd (noX (ft env)) fun b => if b = true then bd (noX (fk env)) fun d => bd (noX (fv env)) fun y => (match d, y with
    | .val (.str x), .val y => if acc.length < sizeLine then rt (putP acc (.inr x) y) else bad
    | .val (.int x), .val y => if acc.length < sizeLine then rt (putP acc (.inl x) y) else bad
    | _, _ => bad) else rt acc
theorem rfn_inK {K : W.Frag} {tt : TT} {tk tv : TE} {ft : Env → M Bool} {fk fv : Env → M D} (ht : Rf K E0 RB tt ft) (hk : Rf K E0 (RE K) tk fk) (hv : Rf K E0 (RE K) tv fv) : RfNK K (tInK tt tk tv) (dcIn ft fk fv) := by
  intro p w σ H env st acc vs Nx s0 e0 n0 q0 hp
  refine ht.stepK s0 e0 n0 hp fun w1 H1 w2 st1 b b' s1 r1 mo er s2 g2 hD hp => ?_
  cases r1
  have hh : upd (hide H1 p) p (.dK vs) = H1 := by rw [upd_hide, upd_self hD]
  cases b with
  | false =>
    rw [if_neg Bool.false_ne_true] at hp ⊢
    have := hp w2 _ vs (Ge.refl _ _) s2 hide_same (q0.mono g2)
    rw [hh] at this
    exact this
  | true =>
    rw [if_pos rfl] at hp ⊢
    rw [← hh]
    refine hk.stepK s2 (e0.mono g2) hide_same hp fun w3 H3 w4 st3 d v s3 r3 mo3 er3 s4 g4 hD3 hp => ?_
    have hh3 : upd (hide H3 p) p (.dK vs) = H3 := by rw [upd_hide, upd_self hD3]
    rw [← hh3]
    refine hv.stepK s4 ((e0.mono g2).mono g4) hide_same hp fun w5 H5 w6 st5 y z s5 r5 mo5 er5 s6 g6 hD5 hp => ?_
    have go : ∀ (k : Key) (y : PyData), v = kV k → Rp K w5 H5 y z → PostK K p w6 (hide H5 p) (if acc.length < sizeLine then Res.ok (putP acc k y) st5 else Res.bad) Nx → ∃ kvs k, v = kV k ∧ H5 p = some (.dK kvs) ∧ kvs.length < sizeLine ∧ Nx (upd H5 p (.dK (putK kvs k z))) := by
      intro k y ek ry hp
      split at hp
      · rename_i hl
        refine ⟨vs, k, ek, hD5, by rw [← q0.length]; exact hl, ?_⟩
        have := hp w6 _ _ (Ge.refl _ _) s6 hide_same ((((q0.mono g2).mono g4).mono g6).put (k := k) (Rp.mo mo5 ry))
        rw [upd_hide] at this
        exact this
      · exact hp.elim
    cases d with
    | val q =>
      cases q with
      | str x =>
        cases r3
        cases y with
        | val y =>
          refine go (.inr x) y rfl r5 ?_
          simp only at hp
          split at hp
          · rename_i hl; rw [if_pos hl]; exact hp
          · exact hp.elim
        | _ => exact hp.elim
      | int x =>
        cases r3
        cases y with
        | val y =>
          refine go (.inl x) y rfl r5 ?_
          simp only at hp
          split at hp
          · rename_i hl; rw [if_pos hl]; exact hp
          · exact hp.elim
        | _ => exact hp.elim
      | _ => exact hp.elim
    | _ => exact hp.elim
/-! ### a loop of turns -/
def dcF (g : D → Env → M Env) (inner : Env → List (Key × PyData) → M (List (Key × PyData))) (env : Env) : List PyData → List (Key × PyData) → M (List (Key × PyData))
  | [], acc => rt acc
  | x :: r, acc => bd (noX (g (.val x) env)) fun env' => bd (inner env' acc) fun acc' => dcF g inner env r acc'
def dcO (g : D → Env → M Env) (inner : Env → List (Key × PyData) → M (List (Key × PyData))) (n : Nat) (env : Env) : Nat → Nat → List (Key × PyData) → M (List (Key × PyData))
  | 0, _, _ => bad
  | m + 1, i, acc => fun st => match st[n]? with
    | some (.lst xs) => match xs[i]? with
      | none => .ok acc st
      | some x => bd (noX (g (.val x) env)) (fun env' => bd (inner env' acc) fun acc' => dcO g inner n env m (i + 1) acc') st
    | _ => .bad
def dcL (m : Nat) (g : D → Env → M Env) (inner : Env → List (Key × PyData) → M (List (Key × PyData))) (env : Env) (s : Src) (acc : List (Key × PyData)) : M (List (Key × PyData)) := match s with
  | .fix xs => dcF g inner env xs acc
  | .obj n => dcO g inner n env m 0 acc
theorem dc_loop {K : W.Frag} {m0 : Nat} {J : It} {tg : TG} {t : TN} {is vs0 : List Nat} {g : D → Env → M Env} {inner : Env → List (Key × PyData) → M (List (Key × PyData))} (hg : RfG K E0 is tg g) (hi : RfNK K t inner) (his : ∀ i ∈ is, i ∈ vs0)
    {w : Wd} {σ : St} {H : Hp} {env : Env} {st : Store} {s : Src} {acc : List (Key × PyData)} {vs : List (Key × V)} {p : Addr} {Fin : Hp → Prop} (hs : RelSt K w H st) (he : RelEnv K w H env σ) (hn : H p = none) (hq : RpK K w H acc vs) (hJ : RI K w H s J)
    (hp : PostK K p w H (dcL m0 g inner (kill vs0 env) s acc st) Fin) : LcLoop J tg t p vs0 σ (upd H p (.dK vs)) Fin := by
  have turn : ∀ (w2 : Wd) (H2 : Hp) (st2 : Store) (acc2 : List (Key × PyData)) (vs2 : List (Key × V)) (x : PyData) (v : V) (H3 : Hp) (rest : List (Key × PyData) → M (List (Key × PyData))) (Nx : Hp → Prop), Ge w H w2 H2 → RelSt K w2 H2 st2 → H2 p = none → RpK K w2 H2 acc2 vs2 →
      Same (upd H2 p (.dK vs2)) H3 → Rp K (w2.prot p) H3 x v → PostK K p w2 H2 (bd (noX (g (.val x) (kill vs0 env))) (fun env' => bd (inner env' acc2) rest) st2) Fin →
      (∀ w4 H4 st4 acc4 vs4, Ge w H w4 H4 → RelSt K w4 H4 st4 → H4 p = none → RpK K w4 H4 acc4 vs4 → PostK K p w4 H4 (rest acc4 st4) Fin → Nx (upd H4 p (.dK vs4))) →
      tg v (wipe σ vs0) H3 fun σ2 H2 => wipe σ2 vs0 = wipe σ vs0 ∧ t p σ2 H2 Nx := by
    intro w2 H2 st2 acc2 vs2 x v H3 rest Nx g2 s2 n2 q2 sm rx hp2 hN
    have e2 : RelEnv K w2 H2 (kill vs0 env) (wipe σ vs0) := (he.mono g2).wiped
    have s2p := s2.prot (o := .dK vs2) n2
    have g3 : Ge (w2.prot p) (upd H2 p (.dK vs2)) (w2.prot p) H3 := .same sm
    refine hg (w2.prot p) (wipe σ vs0) H3 (kill vs0 env) st2 (.val x) v _ (s2p.same sm) ((e2.mo (Mo.prot s2 n2)).mono g3) rx ?_
    cases hf : g (.val x) (kill vs0 env) st2 with
    | ok env' st' =>
      rw [bd_ok (noX_ok hf)] at hp2
      intro w4 H4 σ4 g4 s4 e4 ww
      refine ⟨(ww vs0 his).trans ?_, ?_⟩
      · have : ∀ (l : List Nat) (τ : St), wipe (wipe τ l) l = wipe τ l := fun l τ => by
          apply List.ext_getElem?
          intro i
          by_cases hi : i ∈ l
          · have key : ∀ (l : List Nat) (τ : St), i ∈ l → (wipe τ l)[i]? = if i < τ.length then some none else none := by
              intro l
              induction l with
              | nil => intro τ h; simp at h
              | cons y l ih =>
                intro τ h
                unfold wipe
                by_cases hy : i = y
                · subst hy
                  by_cases hl : i < τ.length
                  · rw [List.getElem?_set_self (by rw [wipe_length]; exact hl), if_pos hl]
                  · rw [if_neg hl, List.getElem?_eq_none (by rw [List.length_set, wipe_length]; omega)]
                · rw [List.getElem?_set_ne (Ne.symm hy)]
                  exact ih τ (by
                    rcases List.mem_cons.mp h with e | e
                    · exact absurd e hy
                    · exact e)
            rw [key l _ hi, key l _ hi, wipe_length]
          · rw [wipe_out hi]
        exact this vs0 σ
      · obtain ⟨w5, mo5, s5, g5, hD5, er5⟩ := unprot s2 n2 (g3.trans g4) s4
        have hh : upd (hide H4 p) p (.dK vs2) = H4 := by rw [upd_hide, upd_self hD5]
        rw [← hh]
        refine hi p w5 σ4 (hide H4 p) env' st' acc2 vs2 Nx s5 (e4.mo mo5) hide_same (q2.mono g5) ?_
        have hp5 := hp2.mono g5
        cases hr : inner env' acc2 st' with
        | ok acc6 st6 =>
          rw [bd_ok hr] at hp5
          exact fun w6 H6 vs6 g6 s6 n6 q6 => hN w6 H6 st6 acc6 vs6 (g2.trans (g5.trans g6)) s6 n6 q6 (hp5.mono g6)
        | exc e st6 => rw [bd_exc hr] at hp5; exact hp5.elim
        | bad => rw [bd_bad hr] at hp5; exact hp5.elim
    | exc e st' => rw [bd_bad (noX_exc hf)] at hp2; exact hp2.elim
    | bad => rw [bd_bad (noX_bad hf)] at hp2; exact hp2.elim
  cases s with
  | fix xs =>
    let W : Nat → Nat → Hp → Prop := fun i m H' => ∃ w2 H2 st2 acc2 vs2, H' = upd H2 p (.dK vs2) ∧ Ge w H w2 H2 ∧ RelSt K w2 H2 st2 ∧ H2 p = none ∧ RpK K w2 H2 acc2 vs2 ∧ i ≤ xs.length ∧ m = xs.length - i ∧ PostK K p w2 H2 (dcF g inner (kill vs0 env) (xs.drop i) acc2 st2) Fin
    refine ⟨W, ⟨xs.length, w, H, st, acc, vs, rfl, Ge.refl _ _, hs, hn, hq, Nat.zero_le _, rfl, hp⟩, ?_⟩
    rintro i m H' ⟨w2, H2, st2, acc2, vs2, rfl, g2, s2, n2, q2, hil, rfl, hp2⟩
    have J2 : ItOk K w2 H2 J xs := ItOk.mono g2.mo hJ
    by_cases hlt : i < xs.length
    · right
      have ex : xs[i]? = some xs[i] := by simp [hlt]
      have ed : xs.drop i = xs[i] :: xs.drop (i + 1) := List.drop_eq_getElem_cons hlt
      obtain ⟨go, yld⟩ := J2.prot (o := .dK vs2) s2 n2 ex
      refine ⟨go, fun H' => W (i + 1) (xs.length - (i + 1)) H', fun H' h => ⟨_, by omega, h⟩, fun v H3 hy => ?_⟩
      obtain ⟨sm, rx⟩ := yld v H3 hy
      rw [ed] at hp2
      unfold dcF at hp2
      exact turn w2 H2 st2 acc2 vs2 xs[i] v H3 _ _ g2 s2 n2 q2 sm rx hp2 fun w4 H4 st4 acc4 vs4 g4 s4 n4 q4 hp4 => ⟨w4, H4, st4, acc4, vs4, rfl, g4, s4, n4, q4, hlt, rfl, hp4⟩
    · left
      have e : i = xs.length := by omega
      subst e
      refine ⟨(J2 w2 _ st2 (Ge.new n2).mo (s2.new n2)).2, ?_⟩
      rw [List.drop_length] at hp2
      exact hp2 w2 H2 vs2 (Ge.refl _ _) s2 n2 q2
  | obj n =>
    obtain ⟨a, ha, rfl⟩ := hJ
    have npa : a ≠ p := fun z => hs.notin hn (by rw [← z]; exact List.mem_append_left _ (List.mem_of_getElem? ha))
    let W : Nat → Nat → Hp → Prop := fun i m H' => ∃ w2 H2 st2 acc2 vs2, H' = upd H2 p (.dK vs2) ∧ Ge w H w2 H2 ∧ RelSt K w2 H2 st2 ∧ H2 p = none ∧ RpK K w2 H2 acc2 vs2 ∧ PostK K p w2 H2 (dcO g inner n (kill vs0 env) m i acc2 st2) Fin
    refine ⟨W, ⟨m0, w, H, st, acc, vs, rfl, Ge.refl _ _, hs, hn, hq, hp⟩, ?_⟩
    rintro i m H' ⟨w2, H2, st2, acc2, vs2, rfl, g2, s2, n2, q2, hp2⟩
    cases m with
    | zero => exact (show False from hp2).elim
    | succ m =>
      unfold dcO at hp2
      cases ho : st2[n]? with
      | none => simp only [ho] at hp2; exact (show False from hp2).elim
      | some o =>
        cases o with
        | lst xs =>
          simp only [ho] at hp2
          obtain ⟨us, ev, rv⟩ := s2.obj n _ a ho (g2.get ha)
          have ev' : upd H2 p (.dK vs2) a = some (.lst us) := by rw [upd_ne npa]; exact ev
          cases hx : xs[i]? with
          | none =>
            left
            simp only [hx] at hp2
            refine ⟨⟨us, SqL.of ev', ?_⟩, hp2 w2 H2 vs2 (Ge.refl _ _) s2 n2 q2⟩
            rw [← rv.length]
            exact List.getElem?_eq_none_iff.mp hx
          | some x =>
            right
            simp only [hx] at hp2
            obtain ⟨v, hv, rx⟩ := rv.get hx
            refine ⟨⟨us, v, SqL.of ev', hv⟩, fun H' => W (i + 1) m H', fun H' h => ⟨m, Nat.lt_succ_self _, h⟩, fun v' H3 hy => ?_⟩
            obtain ⟨e3, hy⟩ := hy
            subst e3
            have e4 : v' = v := by
              have q := hy us (SqL.of ev')
              rw [hv] at q
              exact (Option.some.inj q).symm
            subst e4
            exact turn w2 H2 st2 acc2 vs2 x v' _ _ _ g2 s2 n2 q2 (Same.refl _) (rx.mo (Mo.prot s2 n2)) hp2 fun w4 H4 st4 acc4 vs4 g4 s4 n4 q4 hp4 => ⟨w4, H4, st4, acc4, vs4, rfl, g4, s4, n4, q4, hp4⟩
        | _ => simp only [ho] at hp2; exact (show False from hp2).elim
theorem Ge.grown {K : W.Frag} {w : Wd} {H : Hp} {st : Store} {p : Addr} {u : HO} (hs : RelSt K w H st) (hp : H p = none) : Ge w H (w.add p) (upd H p u) :=
  ⟨⟨[p], rfl, rfl, fun q hq => by rw [List.mem_singleton.mp hq]; exact ⟨hs.notin hp, hp⟩⟩, fun b v _ nb h => by rw [upd_ne (ne_of_none h hp)]; exact h, fun b v nb h => ⟨v, by rw [upd_ne (ne_of_none h hp)]; exact h⟩⟩
/-! ### the comprehension -/
def dcS (m : Nat) (own : List Nat) (fi : Env → M Src) (g : D → Env → M Env) (ft : Env → M Bool) (fk fv : Env → M D) : Env → M D := fun env => bd (fi env) fun s => bd (noX (dcL m g (dcIn ft fk fv) (kill own env) s [])) fun kvs => fun st => .ok (.loc st.length) (st ++ [.dk kvs])
theorem rf_dc {K : W.Frag} {E : XK} {m : Nat} {own is : List Nat} {ti : TI} {tg : TG} {tt : TT} {tk tv : TE} {fi : Env → M Src} {g : D → Env → M Env} {ft : Env → M Bool} {fk fv : Env → M D} (hi : Rf K E (RI K) ti fi) (hg : RfG K E0 is tg g) (his : ∀ i ∈ is, i ∈ own)
    (ht : Rf K E0 RB tt ft) (hk : Rf K E0 (RE K) tk fk) (hv : Rf K E0 (RE K) tv fv) : Rf K E (RE K) (tDc ti tg tt tk tv own) (dcS m own fi g ft fk fv) := by
  intro w σ H env st Q s0 e0 hp
  unfold dcS at hp
  refine hi w σ H env st _ s0 e0 ?_
  cases hf : fi env st with
  | ok s st' =>
    rw [bd_ok hf] at hp
    intro w1 H1 J g1 s1 q1 p np
    refine dc_loop (m0 := m) hg (rfn_inK ht hk hv) his s1 (e0.mono g1) np .nil q1 (Fin := fun H' => Q (.ref p) H') ?_
    have hp := hp.mono g1
    cases hr : dcL m g (dcIn ft fk fv) (kill own env) s [] st' with
    | ok acc st2 =>
      rw [bd_ok (noX_ok hr)] at hp
      intro w2 H2 vs g2 s2 n2 q2
      obtain ⟨s3, g3⟩ := s2.push (p := p) (o := .dk acc) (u := .dK vs) n2 ⟨vs, upd_same, q2.mono (Ge.grown s2 n2)⟩
      refine hp _ _ _ (g2.trans g3) s3 ⟨p, rfl, ?_⟩
      rw [s2.len]; simp
    | exc e st2 => rw [bd_bad (noX_exc hr)] at hp; exact hp.elim
    | bad => rw [bd_bad (noX_bad hr)] at hp; exact hp.elim
  | exc e st' => rw [bd_exc hf] at hp; exact hp
  | bad => rw [bd_bad hf] at hp; exact hp
end B
/-! BL41: dict comprehensions as expressions, pop, pairs of objects, is True / is False. -/
namespace B
open PySem L2
section
variable [Nm] [Gd]
variable {X : Cx} {K : W.Frag} {E : XK} {a b e o kx vx tg iter : Expr} {ifs : List Expr} {te to : TE} {tr : TA} {fe fo : Env → M D} {fr : Env → M (List D)} {pos apos cpos : Pos} {scope : Scope} {own : List (Str × Nat)} {is : List Nat} {ti : TI} {g : TG} {tt : TT} {tk tv : TE} {fi : Env → M Src} {fg : D → Env → M Env} {ft : Env → M Bool} {fk fv : Env → M D}
theorem se_dc (m : Nat) (hN : X.N.Nodup) (hi : SI X E tg iter ti fi) (ok : BlkOk X.N X.env.scope scope own)
    (hg : ∀ (s : Shared) (H : Hp) (C : Addr) (cl : List (Str × Addr)) (fp : List Addr), SG (X.blk s H scope (PySem.compEnvC scope cl C X.env) fp) E0 is tg g fg) (ht : ∀ (s : Shared) (H : Hp) (C : Addr) (cl : List (Str × Addr)) (fp : List Addr), STs (X.blk s H scope (PySem.compEnvC scope cl C X.env) fp) E0 ifs tt ft)
    (hk : ∀ (s : Shared) (H : Hp) (C : Addr) (cl : List (Str × Addr)) (fp : List Addr), SE (X.blk s H scope (PySem.compEnvC scope cl C X.env) fp) E0 kx tk fk) (hv : ∀ (s : Shared) (H : Hp) (C : Addr) (cl : List (Str × Addr)) (fp : List Addr), SE (X.blk s H scope (PySem.compEnvC scope cl C X.env) fp) E0 vx tv fv)
    {os : List Nat} (hos : own.map (·.2) = os := by rfl) (his : ∀ i ∈ is, i ∈ os := by decide) (hc : X.calm = true := by rfl) (hs : ∀ x, foldedSetIterable iter X.env x = pure x := by intro _; rfl) :
    SE X E (.DictComp kx vx [⟨tg, iter, ifs, 0⟩] scope pos) (tDc ti g tt tk tv os) (dcS m os fi fg ft fk fv) := by
  subst hos
  exact ⟨pe_dc hc hN hi.pi ok (fun s H C cl fp => (hg s H C cl fp).pg) (fun s H C cl fp => (ht s H C cl fp).pt) (fun s H C cl fp => (hk s H C cl fp).pe) (fun s H C cl fp => (hv s H C cl fp).pe) hs,
    rf_dc hi.rf (hg {} (fun _ => none) 0 [] []).rf his (ht {} (fun _ => none) 0 [] []).rf (hk {} (fun _ => none) 0 [] []).rf (hv {} (fun _ => none) 0 [] []).rf⟩
/-- xs.pop() -/
def popF (x : D) : M D := fun st => match x with
  | .loc n => (match st[n]? with
    | some (.lst xs) => (match xs[xs.length - 1]? with
      | some y => .ok (.val y) (st.set n (.lst xs.dropLast))
      | none => .bad)
    | _ => .bad)
  | _ => .bad
def popE (fo : Env → M D) : Env → M D := fun env => bd (fo env) popF
theorem Rps.dropLast {w : Wd} {H : Hp} {xs : List PyData} {us : List V} (r : Rps K w H xs us) : Rps K w H xs.dropLast us.dropLast := by
  have h := r.length
  rw [List.dropLast_eq_take, List.dropLast_eq_take, h]
  exact r.take _
theorem se_pop (ho : SE X E o to fo) (hbase : attributeBase o "pop" X.env (eval o X.env) = eval o X.env := by rfl) (hline : (apos.endLine == cpos.line) = true := by rfl) :
    SE X E (.Call (.Attribute o "pop" apos) [] [] cpos) (tBM0 X.K "list" rPop to) (popE fo) := by
  refine ⟨pe_bm0 PySem.F.plainAttrs_list PySem.F.slot_list_pop PySem.F.type_list_pop mt_pop ho.pe hbase hline, fun w σ H env st Q s0 e0 hp => ?_⟩
  refine ho.rf.step s0 e0 hp fun r1 H1 st1 x u g1 s1 e1 q1 hq => ?_
  clear hp
  cases x with
  | loc m =>
    simp only [popF] at hq
    cases hm : st1[m]? with
    | none => simp only [hm] at hq; exact hq.elim
    | some ob =>
      cases ob with
      | lst xs =>
        simp only [hm] at hq
        obtain ⟨c, rfl, ha, us, hu, ru⟩ := s1.at hm q1
        cases hl : xs[xs.length - 1]? with
        | none => rw [hl] at hq; exact hq.elim
        | some y =>
          rw [hl] at hq
          obtain ⟨z, hz, rz⟩ := ru.get hl
          refine ⟨.inl ⟨rfl, us, SqL.of hu⟩, c, us, z, rfl, rfl, hu, by rw [← ru.length]; exact hz, ?_⟩
          obtain ⟨s2, g2⟩ := s1.write (o := .lst xs.dropLast) (u := .lst us.dropLast) ha ⟨_, upd_same, ru.dropLast.mono (.write ha)⟩
          exact hq r1 _ _ g2 s2 (rz.mono g2)
      | _ => simp only [hm] at hq; exact hq.elim
  | _ => exact hq.elim
/-! (a, b) where a or b is an object -/
def sOf : D → Option S1
  | .val p => some (.v p)
  | .loc n => some (.l n)
  | _ => none
def S1.d : S1 → D
  | .v p => .val p
  | .l n => .loc n
theorem sOf_rel {w : Wd} {H : Hp} {d : D} {s : S1} {u : V} (e : sOf d = some s) (r : RpD K w H d u) : RpS K w H s u := by
  cases d with
  | val p => cases e; exact r
  | loc n => cases e; exact r
  | _ => cases e
theorem RpS.d {w : Wd} {H : Hp} {s : S1} {u : V} (r : RpS K w H s u) : RpD K w H s.d u := by
  cases s with
  | v p => exact r
  | l n => exact r
def prD (ds : List D) : M D := match ds with
  | [x, y] => (match sOf x, sOf y with
    | some a, some b => rt (.pr a b)
    | _, _ => bad)
  | _ => bad
def prE (fr : Env → M (List D)) : Env → M D := fun env => bd (fr env) prD
theorem se_pr {x1} (h : SA X E [a, b] tr fr) : SE X E (.Tuple [a, b] x1 pos) (tTup tr) (prE fr) := by
  refine ⟨pe_tup h.pa, fun w σ H env st Q s0 e0 hp => ?_⟩
  refine h.rf.step s0 e0 hp fun r1 H1 st1 ds vs g1 s1 e1 q1 hq => ?_
  clear hp
  cases q1 with
  | nil => exact hq.elim
  | @cons d1 ds u1 vs q1 q2 =>
    cases q2 with
    | nil => exact hq.elim
    | @cons d2 ds u2 vs q2 q3 =>
      cases q3 with
      | cons _ _ => exact hq.elim
      | nil =>
        simp only [prD] at hq
        cases h1 : sOf d1 with
        | none => simp only [h1] at hq; exact hq.elim
        | some z1 =>
          cases h2 : sOf d2 with
          | none => simp only [h1, h2] at hq; exact hq.elim
          | some z2 =>
            simp only [h1, h2] at hq
            refine ⟨by show 2 ≤ sizeLine; rw [sizeLine_eq]; decide, fun p np => ?_⟩
            have gg : Ge r1 H1 r1 (upd H1 p (.tup [u1, u2])) := .new np
            exact hq r1 _ _ gg (s1.new np) ⟨p, u1, u2, rfl, .inl ⟨.inl upd_same, s1.notin np⟩, (sOf_rel h1 q1).mono gg, (sOf_rel h2 q2).mono gg⟩
def setPr (i j : Nat) (d : D) (env : Env) : M Env := match d with
  | .pr x y => rt ((env.set i (some x.d)).set j (some y.d))
  | _ => bad
theorem sg_pr {i j : Nat} {x y : Str} {px py : Pos} {k : Nat} (hN : X.N.Nodup) (hi : X.N[i]? = some x := by rfl) (hj : X.N[j]? = some y := by rfl) (hx : Loc X.env.scope x := by first | exact Or.inl rfl | exact Or.inr rfl) (hy : Loc X.env.scope y := by first | exact Or.inl rfl | exact Or.inr rfl)
    (hf : X.fn x = true ∨ X.env.scope.names.lookup x = some .local := by first | exact .inl rfl | exact .inr rfl) (hf2 : X.fn y = true ∨ X.env.scope.names.lookup y = some .local := by first | exact .inl rfl | exact .inr rfl)
    (hc : X.calm = true := by rfl) (h1 : (assignEach [.Name x px, .Name y py] X.env).map (·.2) = assign (.Name x px) X.env :: (assignEach [.Name y py] X.env).map (·.2) := by rfl) (h2 : (assignEach [.Name y py] X.env).map (·.2) = assign (.Name y py) X.env :: (assignEach [] X.env).map (·.2) := by rfl)
    (hn : (assignEach [.Name x px, .Name y py] X.env).length = 2 := by rfl) (hst : (assignEach [.Name x px, .Name y py] X.env).findIdx? (·.1) = none := by rfl) :
    SG X E [i, j] (.Tuple [.Name x px, .Name y py] k pos) (gTup X.K 2 (gCons (gName i) (gCons (gName j) gNil))) (setPr i j) := by
  refine ⟨pg_tup hc (pgs_cons (pg_name hN hi hx hf) (pgs_cons (pg_name hN hj hy hf2) pgs_nil h2) h1) hn hst, fun w σ H env st d v Q s0 e0 r hp => ?_⟩
  cases d with
  | pr z1 z2 =>
    obtain ⟨c, u, t, rfl, ht, r1, r2⟩ := r
    refine ⟨c, [u, t], rfl, ht.sq, rfl, u, [t], rfl, t, [], rfl, rfl, ?_⟩
    refine hp w H _ (Ge.refl _ _) s0 ((e0.set i r1.d).set j r2.d) fun vs h => ?_
    rw [wipe_set (h j (by simp)), wipe_set (h i (by simp))]
  | _ => exact hp.elim
/-! is, is not of truth values -/
def isBF (neg : Bool) (x y : D) : M D := fun st => match x, y with
  | .val (.bool a), .val (.bool b) => okV (.bool (neg != decide (a = b))) st
  | _, _ => .bad
theorem bop_isB : BOp K E (fun x y H Q => ∃ a b, x = .bl a ∧ y = .bl b ∧ Q (.bl (decide (a = b))) H) (isBF false) := by
  intro w H st dx dy x y Q hs rx ry hp
  unfold isBF at hp
  split at hp
  · cases rx; cases ry
    exact ⟨_, _, rfl, rfl, Post.now hp hs (show Rp K w H _ _ from by simpa using Rp.bl _)⟩
  · exact hp.elim
theorem bop_isntB : BOp K E (fun x y H Q => ∃ a b, x = .bl a ∧ y = .bl b ∧ Q (.bl (!decide (a = b))) H) (isBF true) := by
  intro w H st dx dy x y Q hs rx ry hp
  unfold isBF at hp
  split at hp
  · cases rx; cases ry
    exact ⟨_, _, rfl, rfl, Post.now hp hs (show Rp K w H _ _ from by simpa using Rp.bl _)⟩
  · exact hp.elim
/-! dict(xs) of a list of pairs -/
def pairsOf : List PyData → Option (List (Key × PyData))
  | [] => some []
  | .tuple [.str k, y] :: r => (pairsOf r).map ((.inr k, y) :: ·)
  | .tuple [.int k, y] :: r => (pairsOf r).map ((.inl k, y) :: ·)
  | _ :: _ => none
theorem pairsOf_rel {w : Wd} {H : Hp} : ∀ {xs : List PyData} {kvs : List (Key × PyData)} {us : List V}, pairsOf xs = some kvs → Rps K w H xs us →
    ∃ (ps : List Addr) (zs : List (Key × V)), us = ps.map V.ref ∧ Paired (fun p kv => SqT K H p [kV kv.1, kv.2]) ps zs ∧ RpK K w H kvs zs
  | [], kvs, us, e, r => by
    cases r
    cases e
    exact ⟨[], [], rfl, .nil, .nil⟩
  | x :: xs, kvs, us, e, r => by
    cases r with
    | @cons d ds u us r1 r2 =>
      unfold pairsOf at e
      split at e
      · cases ‹_ :: _ = []›
      · rename_i k y r' hx
        cases hx
        obtain ⟨kr, hk, rfl⟩ := Option.map_eq_some_iff.mp e
        obtain ⟨ps, zs, rfl, hp, hz⟩ := pairsOf_rel hk r2
        cases r1 with
        | tup ht rr =>
          cases rr with
          | cons ra rb =>
            cases rb with
            | cons rb rc =>
              cases rc
              cases ra
              exact ⟨_ :: ps, (.inr k, _) :: zs, rfl, .cons ht.sq hp, .cons rb hz⟩
      · rename_i k y r' hx
        cases hx
        obtain ⟨kr, hk, rfl⟩ := Option.map_eq_some_iff.mp e
        obtain ⟨ps, zs, rfl, hp, hz⟩ := pairsOf_rel hk r2
        cases r1 with
        | tup ht rr =>
          cases rr with
          | cons ra rb =>
            cases rb with
            | cons rb rc =>
              cases rc
              cases ra
              exact ⟨_ :: ps, (.inl k, _) :: zs, rfl, .cons ht.sq hp, .cons rb hz⟩
      · cases e
def dictG (ds : List D) : M D := fun st => match ds with
  | [d] => (match dat st d with
    | some (.list xs) => (match pairsOf xs with
      | some kvs => .ok (.loc st.length) (st ++ [.dk (mergeP [] kvs)])
      | none => .bad)
    | _ => .bad)
  | _ => .bad
theorem bc_dict : BCall K E (fun xs H Q => ∃ (a : Addr) (ps : List Addr) (kvs : List (Key × V)), xs = [.ref a] ∧ SqL K H a (ps.map V.ref) ∧ Paired (fun p kv => SqT K H p [kV kv.1, kv.2]) ps kvs ∧ ∀ p, H p = none → Q (.ref p) (upd H p (.dK (mergeK [] kvs)))) dictG := by
  intro w H st ds vs Q hs r hp
  unfold dictG at hp
  split at hp
  · rename_i d
    cases hd : dat st d with
    | none => rw [hd] at hp; exact hp.elim
    | some q =>
      cases q with
      | list xs =>
        rw [hd] at hp
        simp only at hp
        cases hk : pairsOf xs with
        | none => rw [hk] at hp; exact hp.elim
        | some kvs =>
          rw [hk] at hp
          obtain ⟨v, ev, r1⟩ := r.one
          obtain ⟨c, us, e3, ha, ru⟩ := dat_lst hs r1 hd
          subst e3
          obtain ⟨ps, zs, rfl, hps, rz⟩ := pairsOf_rel hk ru
          refine ⟨c, ps, zs, ev, SqL.of ha, hps, fun p np => ?_⟩
          obtain ⟨s2, g2⟩ := hs.push (p := p) (o := .dk (mergeP [] kvs)) (u := .dK (mergeK [] zs)) np ⟨_, upd_same, (RpK.merge rz .nil).mono (Ge.grown hs np)⟩
          exact hp _ _ _ g2 s2 ⟨p, rfl, by rw [hs.len]; simp⟩
      | _ => rw [hd] at hp; exact hp.elim
  · exact hp.elim
end
variable {X : Ex → Store → Prop} {env : Env} {st : Store}
@[simp] theorem e_fldE {C f : Str} {fe : Env → M D} {Q : D → Store → Prop} : wpx X (fldE C f fe env st) Q = wpx X (bd (fe env) (fldF C f) st) Q := propext Iff.rfl
@[simp] theorem o_fldF {C f : Str} {n : Nat} {Q : D → Store → Prop} : wpx X (fldF C f (.loc n) st) Q = (match st[n]? with
    | some (.ins C' fs) => C' = C ∧ (match fs.lookup f with | some x => Q x st | none => False)
    | _ => False) := by
  simp only [fldF]
  cases st[n]? with
  | none => simp
  | some o =>
    cases o with
    | ins C' fs =>
      by_cases h : C' = C
      · simp only [h, if_true, true_and]
        cases fs.lookup f <;> simp
      · simp [h]
    | _ => simp
@[simp] theorem e_fputS {C f : Str} {fo fv : Env → M D} {Q : Fl → Store → Prop} : wpx X (fputS C f fo fv env st) Q = wpx X (bd (fv env) (fun y => bd (fo env) fun x => fun st => match x with
  | .loc n => (match st[n]? with
    | some (.ins C' fs) => if C' = C ∧ fs.length < 1000 then .ok (.nx env) (st.set n (.ins C (putD f y fs))) else .bad
    | _ => .bad)
  | _ => .bad) st) Q := propext Iff.rfl
@[simp] theorem e_methF {C m : Str} {md : List D → M D} {fo : Env → M D} {fr : Env → M (List D)} {Q : D → Store → Prop} : wpx X (methF C m md fo fr env st) Q = wpx X (bd (fo env) (fun x => bd (isInsF C m x) fun _ => bd (fr env) fun ds => md (x :: ds)) st) Q := propext Iff.rfl
@[simp] theorem o_isInsF {C m : Str} {n : Nat} {Q : Unit → Store → Prop} : wpx X (isInsF C m (.loc n) st) Q = (match st[n]? with
    | some (.ins C' fs) => (C' = C ∧ fs.lookup m = none) ∧ Q () st
    | _ => False) := by
  simp only [isInsF]
  cases st[n]? with
  | none => simp
  | some o =>
    cases o with
    | ins C' fs =>
      by_cases h : C' = C ∧ fs.lookup m = none
      · simp only [h, and_self, if_true, true_and, wp_ok]
      · simp only [h, if_false, false_and, wp_bad]
    | _ => simp
@[simp] theorem e_mkF {C : Str} {dd : List D} {mi : List D → M D} {fr : Env → M (List D)} {Q : D → Store → Prop} : wpx X (mkF C dd mi fr env st) Q = wpx X (bd (fr env) (fun ds => fun st => match mi (.loc st.length :: (ds ++ dd)) (st ++ [.ins C []]) with
  | .ok (.val .none) st' => .ok (.loc st.length) st'
  | .exc e st' => .exc e st'
  | _ => .bad) st) Q := propext Iff.rfl
@[simp] theorem e_popE {fo : Env → M D} {Q : D → Store → Prop} : wpx X (popE fo env st) Q = wpx X (bd (fo env) popF st) Q := propext Iff.rfl
@[simp] theorem o_popF {n : Nat} {Q : D → Store → Prop} : wpx X (popF (.loc n) st) Q = (match st[n]? with
    | some (.lst xs) => (match xs[xs.length - 1]? with | some y => Q (.val y) (st.set n (.lst xs.dropLast)) | none => False)
    | _ => False) := by
  simp only [popF]
  cases st[n]? with
  | none => simp
  | some o =>
    cases o with
    | lst xs => simp only; cases xs[xs.length - 1]? <;> simp
    | _ => simp
@[simp] theorem e_prE {fr : Env → M (List D)} {Q : D → Store → Prop} : wpx X (prE fr env st) Q = wpx X (bd (fr env) prD st) Q := propext Iff.rfl
@[simp] theorem e_setPr {i j : Nat} {a b : S1} {Q : Env → Store → Prop} : wpx X (setPr i j (.pr a b) env st) Q = Q ((env.set i (some a.d)).set j (some b.d)) st := propext (by simp [setPr])
@[simp] theorem o_isBF {n a b : Bool} {Q : D → Store → Prop} : wpx X (isBF n (.val (.bool a)) (.val (.bool b)) st) Q = Q (.val (.bool (n != decide (a = b)))) st := by simp only [isBF, wp_ok]
end B
/-! BL42: defs with defaults. -/
namespace B
open PySem L2
def FunV (K : W.Frag) (x qual : Str) (st : Stmt) (f : Addr) (fd : FuncData) : Prop :=
  ∃ (oc : Value) (od : Option Addr) (dV kV doc pm : Value) (an : Option Addr) (cdv ct : Value) (osl : Array (Option Value)),
    fd = PySem.W.fnOf x qual (defArgs st) (defBody st) (defScope st) dV kV doc pm an cdv ct ∧ K.lookup f = some ⟨oc, od, .func fd, osl⟩ ∧ PySem.W.codeIn K cdv qual = true
abbrev FunW (K : W.Frag) (x qual : Str) (st : Stmt) (dvs : List V) (f : Addr) (fd : FuncData) : Prop := FunD K x qual (defArgs st) (defBody st) (defScope st) dvs [] f fd
theorem FunW.v {K : W.Frag} {x qual : Str} {st : Stmt} {dvs : List V} {f : Addr} {fd : FuncData} (F : FunW K x qual st dvs f fd) : FunV K x qual st f fd := by
  obtain ⟨oc, od, dV, kV, doc, pm, an, cdv, ct, osl, e, lk, hcd, _, _⟩ := F.ex
  exact ⟨oc, od, dV, kV, doc, pm, an, cdv, ct, osl, e, lk, hcd⟩
theorem funW_mk {K : W.Frag} {x qual : Str} {st : Stmt} {dvs : List V} {f T : Addr} {oc : Value} {od an : Option Addr} {osl : Array (Option Value)} {kV doc pm cdv ct tc : Value} {td : Option Addr} {its : List Value} {n : Nat} {ts : Array (Option Value)}
    (l : K.lookup f = some ⟨oc, od, .func (PySem.W.fnOf x qual (defArgs st) (defBody st) (defScope st) (.ref T) kV doc pm an cdv ct), osl⟩) (c : PySem.W.codeIn K cdv qual = true) (k : PySem.W.keepIn K (.ref f) = true)
    (lt : K.lookup T = some ⟨tc, td, .seq its.toArray n, ts⟩) (hv : Vals dvs its) (hd : dvs ≠ []) : FunW K x qual st dvs f (PySem.W.fnOf x qual (defArgs st) (defBody st) (defScope st) (.ref T) kV doc pm an cdv ct) :=
  ⟨⟨oc, od, .ref T, kV, doc, pm, an, cdv, ct, osl, rfl, l, c, .inr ⟨hd, T, _, its, n, rfl, lt, rfl, hv⟩, .inl rfl⟩, k⟩
section
variable [Nm] [Gd]
variable {P : Program} {w : World} {K : W.Frag} {mg : Str → Option Value} {base : Heap}
theorem doesV {x qual : Str} {st : Stmt} {f : Addr} {fd : FuncData} {N ps : List Str} {k : Nat} {body : Env → M Fl} (F : FunV K x qual st f fd) (S : FnScope N ps (defScope st))
    (h : ∀ (A : Around) (out : List PySem.Env) (s : Shared) (H : Hp) (E : XK), Room k (A.deeper (PyProof.Rows.envOfC qual (defScope st) s.heap.objs.size f fd.code)) → A.guards = some [] → ∃ t, SSs (cxOf (L2.CX P w) P w K mg base N qual (defScope st) f fd.code A out s H E) E (defBody st) t body) :
    FnG P w K mg base (k + 1) f fd ps (spOf K ps.length (fnOf N.length body)) := by
  obtain ⟨oc, od, dV, kV, doc, pm, an, cdv, ct, osl, rfl, lk, hcd⟩ := F
  refine fnG_of lk hcd S (fun vs H Q E h => h.1) fun A out s H vs Q E hr hG hsp => ?_
  obtain ⟨t, d⟩ := h A out s H E hr hG
  obtain ⟨_, w, st0, ds, hs, r, hp⟩ := hsp
  refine ⟨t, d.ps, d.rf w _ H _ st0 _ hs (RelEnv.start r) ?_⟩
  unfold fnOf at hp
  cases hf : body (ds.map some ++ List.replicate (N.length - ds.length) none) st0 with
  | ok r st' =>
    rw [bd_ok hf] at hp
    cases r with
    | nx env => exact fun w' H' σ' g s1 _ => hp w' H' _ g s1 .non
    | rt d => exact hp
    | bk env => exact hp.elim
    | ct env => exact hp.elim
  | exc e st' => rw [bd_exc hf] at hp; exact hp
  | bad => rw [bd_bad hf] at hp; exact hp
theorem doesTV {x qual : Str} {st : Stmt} {f : Addr} {fd : FuncData} {N ps : List Str} {k : Nat} {body : Env → M Fl} (F : FunV K x qual st f fd) (S : FnScope N ps (defScope st))
    (h : ∀ (A : Around) (out : List PySem.Env) (s : Shared) (H : Hp) (E : XK), Room k (A.deeper (PyProof.Rows.envOfC qual (defScope st) s.heap.objs.size f fd.code)) → A.guards = some [] → ∃ t, SSs (cxOf (L2.CX P w) P w K mg base N qual (defScope st) f fd.code A out s H E) E (defBody st) t body) :
    FnG P w K mg base (k + 1) f fd ps (spOf K ps.length (fnT N.length body)) := by
  obtain ⟨oc, od, dV, kV, doc, pm, an, cdv, ct, osl, rfl, lk, hcd⟩ := F
  refine fnG_of lk hcd S (fun vs H Q E h => h.1) fun A out s H vs Q E hr hG hsp => ?_
  obtain ⟨t, d⟩ := h A out s H E hr hG
  obtain ⟨_, w, st0, ds, hs, r, hp⟩ := hsp
  refine ⟨t, d.ps, d.rf w _ H _ st0 _ hs (RelEnv.start r) ?_⟩
  unfold fnT at hp
  cases hf : body (ds.map some ++ List.replicate (N.length - ds.length) none) st0 with
  | ok r st' =>
    rw [hf] at hp
    simp only at hp
    split at hp
    · rename_i ok
      cases r with
      | nx env =>
        intro w' H' σ' g s1 _
        obtain ⟨s2, g2, sb, more, em⟩ := hs.cut g s1 ok
        exact hp w H' _ g2 s2 .non
      | rt d =>
        intro w' H' v g s1 q
        obtain ⟨s2, g2, sb, more, em⟩ := hs.cut g s1 ok
        cases d with
        | val p => exact hp w H' _ g2 s2 (Rp.sb sb q)
        | cst u => exact hp w H' _ g2 s2 q
        | err => exact hp w H' _ g2 s2 q
        | fn _ => exact hp w H' _ g2 s2 q
        | pr _ _ => exact hp.elim
        | frz u => obtain ⟨a, vs, ev, fz, r⟩ := q; exact hp w H' _ g2 s2 ⟨a, vs, ev, fz.sb sb, Rps.sb sb r⟩
        | loc n =>
          simp only at hp
          split at hp
          · rename_i hn
            exact hp w H' _ g2 s2 (RpD.cut em hs.len.symm sb (by simp [dOk, hn]) q)
          · rename_i hn
            split at hp
            · rename_i xs hx
              obtain ⟨a, ev, ha, us, hu, ru⟩ := s1.at hx q
              subst ev
              refine hp w H' _ g2 s2 (.ls ⟨hu, fun z => ?_⟩ (ru.sb sb))
              rcases List.mem_append.mp z with z | z
              · have hd := s1.nd
                rw [em] at hd ha
                rw [List.getElem?_append_right (by rw [← hs.len]; omega)] at ha
                exact (List.nodup_append.mp hd).2.2 a z a (List.mem_of_getElem? ha) rfl
              · obtain ⟨_, _, e2, _⟩ := g.pre
                exact s1.nde a (List.mem_of_getElem? ha) (by rw [e2]; exact z)
            · exact hp.elim
      | bk env => exact hp.elim
      | ct env => exact hp.elim
    · exact hp.elim
  | exc e st' =>
    rw [hf] at hp
    simp only at hp
    split at hp
    · rename_i ok
      intro w' H' c dx g s1 q
      obtain ⟨s2, g2, sb, more, em⟩ := hs.cut g s1 ok.1
      refine hp w H' c dx g2 s2 ?_
      cases e with
      | own C fs =>
        obtain ⟨ec, d, gs, ed, hd, nd, rf⟩ := q
        exact ⟨ec, d, gs, ed, hd, (sb d _ (fun _ z => by cases z) nd hd).1, rf.cut em hs.len.symm sb ok.2⟩
    · exact hp.elim
  | bad => rw [hf] at hp; exact hp.elim
end
end B
/-! BL43: programs as tables; simp rules of dict comprehensions. -/
namespace B
open PySem L2
section
variable {X : Ex → Store → Prop} {env : Env} {st : Store}
@[simp] theorem e_dcS {m : Nat} {own : List Nat} {fi : Env → M Src} {g : D → Env → M Env} {ft : Env → M Bool} {fk fv : Env → M D} {Q : D → Store → Prop} : wpx X (dcS m own fi g ft fk fv env st) Q = wpx X (bd (fi env) (fun s => bd (noX (dcL m g (dcIn ft fk fv) (kill own env) s [])) fun kvs => fun st => .ok (.loc st.length) (st ++ [.dk kvs])) st) Q := propext Iff.rfl
end
def kvP (f : PyData) : Key × PyData := match f with
  | .tuple [.str n, l] => (.inr n, l)
  | _ => (.inl 0, .none)
def tabOf (fs : List PyData) : List (Key × PyData) := mergeP [] (fs.map kvP)
def isFn (f : PyData) : Prop := ∃ n rs, f = .tuple [.str n, .tuple rs]
theorem pairs_fs : ∀ {fs : List PyData}, (∀ f ∈ fs, isFn f) → pairsOf fs = some (fs.map kvP)
  | [], _ => rfl
  | f :: r, h => by
    obtain ⟨n, rs, rfl⟩ := h f (List.mem_cons_self ..)
    simp only [pairsOf, pairs_fs fun g hg => h g (List.mem_cons_of_mem _ hg), List.map_cons, kvP, Option.map_some]
theorem putP_len {kvs : List (Key × PyData)} {k : Key} {y : PyData} : (putP kvs k y).length ≤ kvs.length + 1 := by
  unfold putP
  split <;> simp
theorem dc_pairs {i j : Nat} {env : Env} {st : Store} (hi : i < env.length) (hj : j < env.length) (hij : i ≠ j) : ∀ {fs : List PyData} {acc : List (Key × PyData)}, (∀ f ∈ fs, isFn f) → acc.length + fs.length ≤ 1000 →
    dcF (setT 2 (setsCons (setV i) (setsCons (setV j) setsNil))) (dcIn yesT (gv i) (gv j)) env fs acc st = .ok (mergeP acc (fs.map kvP)) st
  | [], acc, _, _ => rfl
  | f :: r, acc, h, hl => by
    obtain ⟨n, rs, rfl⟩ := h f (List.mem_cons_self ..)
    have ih := dc_pairs (env := env) (st := st) hi hj hij (fs := r) (acc := putP acc (.inr n) (.tuple rs)) (fun g hg => h g (List.mem_cons_of_mem _ hg)) (by have := putP_len (kvs := acc) (k := .inr n) (y := .tuple rs); simp at hl; omega)
    have e1 : ((env.set i (some (.val (.str n)))).set j (some (.val (.tuple rs))))[i]? = some (some (.val (.str n))) := by
      rw [List.getElem?_set_ne (Ne.symm hij), List.getElem?_set_self hi]
    have e2 : ((env.set i (some (.val (.str n)))).set j (some (.val (.tuple rs))))[j]? = some (some (.val (.tuple rs))) := by
      rw [List.getElem?_set_self (by simpa using hj)]
    have hs : acc.length < sizeLine := by rw [sizeLine_eq]; simp at hl; omega
    simp only [dcF, setT, setsCons, setsNil, setV, dcIn, yesT, gv, bd, noX, rt, e1, e2, hs, if_true, List.length_cons, List.length_nil]
    exact ih
/-! lines of a program by their spots -/
def rowsOf (fs : List PyData) (n : Str) : Option (List PyData) := match getP (tabOf fs) (.inr n) with
  | some (.tuple rs) => some rs
  | _ => none
def lineOf (fs : List PyData) : PyData → Option PyData
  | .tuple [.str n, .int i] => (rowsOf fs n).bind fun rs => atI rs i
  | _ => none
structure RowP (fs : List PyData) (sz : Nat) (r : PyData) : Prop where
  ex : ∃ cs ws hs, r = .tuple [.tuple cs, .tuple ws, .tuple hs] ∧ (cs ≠ [] ∧ ws ≠ []) ∧ (∀ c ∈ cs, ∃ x, c = .str x ∧ (x = Str.ofString "" ∨ ∃ rs, rowsOf fs x = some rs ∧ rs ≠ [])) ∧
    (∀ w ∈ ws, (∃ i : Nat, i < sz ∧ w = .int i) ∨ w = .tuple [.str "back"] ∨ ∃ k, w = .tuple [.str "fail", .str k]) ∧ (∀ h ∈ hs, ∃ (k : Str) (i : Nat), i < sz ∧ h = .tuple [.str k, .int i]) ∧
    cs.length ≤ 100 ∧ ws.length ≤ 100 ∧ hs.length ≤ 100
structure PrgP (fs : List PyData) : Prop where
  fn : ∀ f ∈ fs, isFn f
  ne : fs ≠ []
  le : fs.length ≤ 8
  rows : ∀ n rs, rowsOf fs n = some rs → rs ≠ [] ∧ rs.length ≤ 40 ∧ ∀ r ∈ rs, RowP fs rs.length r
  first : ∀ n l r, fs = .tuple [.str n, l] :: r → ∃ rs, rowsOf fs n = some rs
def FrmP (fs : List PyData) (p : PyData) : Prop := ∃ (n : Str) (i : Nat) (rs : List PyData), p = .tuple [.str n, .int i] ∧ rowsOf fs n = some rs ∧ i < rs.length
theorem FrmP.line {fs : List PyData} {p : PyData} (h : PrgP fs) (hp : FrmP fs p) : ∃ (n : Str) (i : Nat) (rs : List PyData) (r : PyData), (p = .tuple [.str n, .int (i : Int)] ∧ rowsOf fs n = some rs ∧ i < rs.length) ∧ atI rs (i : Int) = some r ∧ r ∈ rs ∧ RowP fs rs.length r ∧ lineOf fs p = some r := by
  obtain ⟨n, i, rs, rfl, hr, hi⟩ := hp
  obtain ⟨r, hm, e⟩ := atI_some (xs := rs) (i := (i : Int)) (by omega) (by omega)
  exact ⟨n, i, rs, r, ⟨rfl, hr, hi⟩, e, hm, (h.rows n rs hr).2.2 r hm, by simp only [lineOf, hr, Option.bind_some, e]⟩
theorem rows_get {fs : List PyData} {n : Str} {rs : List PyData} (h : rowsOf fs n = some rs) : getP (tabOf fs) (.inr n) = some (.tuple rs) := by
  unfold rowsOf at h
  split at h
  · rename_i e; cases h; exact e
  · cases h
/-- the line of the handler of a kind -/
def hLine (kind : Str) : List PyData → Option Int
  | [] => none
  | .tuple [.str k, .int i] :: r => if k = kind ∨ k = Str.ofString "" then some i else hLine kind r
  | _ :: r => hLine kind r
/-- the stack, its top first, behind a fault -/
def failR (fs : List PyData) (kind : Str) : List PyData → List PyData
  | [] => []
  | .tuple [.str n, .int i] :: r => (match lineOf fs (.tuple [.str n, .int i]) with
    | some (.tuple [_, _, .tuple hs]) => (match hLine kind hs with
      | some j => .tuple [.str n, .int j] :: r
      | none => failR fs kind r)
    | _ => [])
  | _ :: _ => []
section
variable {α : Type} {st l : List α} {x : α}
@[simp] theorem gA0 : (st ++ l)[st.length]? = l[0]? := by rw [List.getElem?_append_right (Nat.le_refl _), Nat.sub_self]
@[simp] theorem gA1 : (st ++ l)[st.length + 1]? = l[1]? := by rw [List.getElem?_append_right (by omega), show st.length + 1 - st.length = 1 by omega]
@[simp] theorem gA2 : (st ++ l)[st.length + 1 + 1]? = l[2]? := by rw [List.getElem?_append_right (by omega), show st.length + 1 + 1 - st.length = 2 by omega]
@[simp] theorem gA3 : (st ++ l)[st.length + 1 + 1 + 1]? = l[3]? := by rw [List.getElem?_append_right (by omega), show st.length + 1 + 1 + 1 - st.length = 3 by omega]
@[simp] theorem sA0 : (st ++ l).set st.length x = st ++ l.set 0 x := by rw [List.set_append_right _ _ (Nat.le_refl _), Nat.sub_self]
@[simp] theorem sA1 : (st ++ l).set (st.length + 1) x = st ++ l.set 1 x := by rw [List.set_append_right _ _ (by omega), show st.length + 1 - st.length = 1 by omega]
@[simp] theorem sA2 : (st ++ l).set (st.length + 1 + 1) x = st ++ l.set 2 x := by rw [List.set_append_right _ _ (by omega), show st.length + 1 + 1 - st.length = 2 by omega]
@[simp] theorem sA3 : (st ++ l).set (st.length + 1 + 1 + 1) x = st ++ l.set 3 x := by rw [List.set_append_right _ _ (by omega), show st.length + 1 + 1 + 1 - st.length = 3 by omega]
end
end B
/-! BL44: further simp rules (max of two). -/
namespace B
open PySem L2
section
variable {X : Ex → Store → Prop} {env : Env} {st : Store}
@[simp] theorem f_max2 {i j : Int} {Q : D → Store → Prop} : wpx X (max2F [.val (.int i), .val (.int j)] st) Q = Q (.val (.int (if j > i then j else i))) st := by first | exact propext Iff.rfl | exact wp_D | exact wp_D.trans wp_D.symm
@[simp] theorem dep0_s {x : Str} : (PyData.str x).depth = 0 := rfl
@[simp] theorem dep0_i {x : Int} : (PyData.int x).depth = 0 := rfl
@[simp] theorem dep0_b {x : Bool} : (PyData.bool x).depth = 0 := rfl
@[simp] theorem dep0_n : PyData.none.depth = 0 := rfl
theorem max2_eq {i j : Int} : (if j > i then j else i) = max i j := by split <;> omega
theorem dep_minR {d e : PyData} {n : Nat} (h : e.depth ≤ n) : min d.depth e.depth ≤ n := Nat.le_trans (Nat.min_le_right _ _) h
theorem dep_minL {d e : PyData} {n : Nat} (h : d.depth ≤ n) : min d.depth e.depth ≤ n := Nat.le_trans (Nat.min_le_left _ _) h
end
end B
/-! BL45: a tuple times a number below 2. -/
namespace B
open PySem L2 PySem.Spec PyProof.Rows
theorem tuple_mul_same (l : Addr) (items : Array Value) (n : Nat) (dd : Option Addr) (sl : Array (Option Value)) (x : Int) (u : Tok) (c0 : (decide (x < -(2 ^ 63)) || decide (x ≥ 2 ^ 63)) = false) (c1 : (items.isEmpty || x == 1) = true) :
    Meets (Builtin.«tuple.__mul__» ⟨[.ref l, .int x u], []⟩) (fun _ R s => s.heap.get? l = some { cls := .type "tuple", dict := dd, data := .seq items n, slots := sl } ∧ R (.ok (.ret (Value.ref l))) s) :=
  .of_wp fun prog w A R s h => by
    obtain ⟨hp, g, d, tk, os⟩ := s
    obtain ⟨hl, h⟩ := h
    have f1 := AutoSeq1.idx_int
    wp_walk using wpAny_loadPart' hl
    repeat (first
      | (refine wpAny_ite_false (decide_eq_false (by rw [c0]; exact Bool.false_ne_true)) ?_; wp_walk using wpAny_loadPart' hl)
      | (refine wpAny_ite_true (decide_eq_true c1) ?_; wp_walk using wpAny_loadPart' hl))
    exact ⟨_, rfl, h⟩
theorem tuple_mul_none (l : Addr) (items : Array Value) (n : Nat) (dd : Option Addr) (sl : Array (Option Value)) (x : Int) (u : Tok) (c0 : (decide (x < -(2 ^ 63)) || decide (x ≥ 2 ^ 63)) = false) (c1 : (items.isEmpty || x == 1) = false) (c2 : (decide (x ≤ 0) || items.isEmpty) = true) :
    Meets (Builtin.«tuple.__mul__» ⟨[.ref l, .int x u], []⟩) (fun _ R s => s.heap.get? l = some { cls := .type "tuple", dict := dd, data := .seq items n, slots := sl } ∧
      R (.ok (.ret (Value.ref s.heap.objs.size))) { s with heap := s.heap.push { cls := Value.type "tuple", data := Data.seq #[] }, toks := s.toks }) :=
  .of_wp fun prog w A R s h => by
    obtain ⟨hp, g, d, tk, os⟩ := s
    obtain ⟨hl, h⟩ := h
    have f1 := AutoSeq1.idx_int
    wp_walk using wpAny_loadPart' hl
    repeat (first
      | (refine wpAny_ite_false (decide_eq_false (by rw [c0]; exact Bool.false_ne_true)) ?_; wp_walk using wpAny_loadPart' hl)
      | (refine wpAny_ite_false (decide_eq_false (by rw [c1]; exact Bool.false_ne_true)) ?_; wp_walk using wpAny_loadPart' hl)
      | (refine wpAny_ite_true (decide_eq_true c2) ?_; wp_walk using wpAny_loadPart' hl))
    exact ⟨_, rfl, h⟩
def rRepO (K : W.Frag) : R2 := fun x y H Q => ∃ l k xs, x = .ref l ∧ y = .int k ∧ SqT K H l xs ∧ -(2 ^ 62) ≤ k ∧ k ≤ 1 ∧ ((xs = [] ∨ k = 1) → Q (.ref l) H) ∧ (xs ≠ [] → k ≤ 0 → ∀ p, H p = none → Q (.ref p) (upd H p (.tup [])))
theorem op_repO {X : Cx} {K : W.Frag} (hK : X.K = K := by rfl) : OpR X (binaryOp .Mult) (rRepO K) := by
  subst hK
  intro pins s σ H x y v u Q I rx ry h
  obtain ⟨l, k, xs, rfl, rfl, hT, h1, h2, q1, q2⟩ := h
  cases rx
  obtain ⟨t, rfl⟩ := ry
  obtain ⟨its, r, ⟨⟨cls, dd, data, sl⟩, ho, hc, n, hd⟩, hs⟩ := I.tuple hT
  simp only at hc hd
  subst hc hd
  have c0 : (decide (k < -(2 ^ 63)) || decide (k ≥ 2 ^ 63)) = false := by
    rw [decide_eq_false (by omega), decide_eq_false (by omega)] <;> rfl
  have go : (its.toArray.isEmpty || k == 1) = true → xs = [] ∨ k = 1 := fun h => by
    rw [Bool.or_eq_true] at h
    rcases h with h | h
    · left
      cases its with
      | nil => exact List.eq_nil_of_length_eq_zero r.length
      | cons a b => cases h
    · exact .inr (by simpa using h)
  by_cases c1 : (its.toArray.isEmpty || k == 1) = true
  · refine wpAny_binaryOp_repeat_ref (T := "tuple") (U := "int") (by decide) ⟨_, ho, rfl⟩ (fun s' => typeIs_int s' k t) noFill_tuple_mul F.fills_int_mul F.slot_int_rmul repeat_tuple F.slot_int_index.lookup
      (call_meets F.slot_int_rmul (typeIs_int s k t) F.entry_int_rmul (F.args_int_rmul_2 _ _) (int_rmul_tuple k t l its.toArray n dd sl)
        ⟨ho, rfl, ⟨_, ho, rfl⟩, call_meets F.slot_tuple_mul ⟨_, ho, rfl⟩ F.entry_tuple_mul (F.args_tuple_mul_2 _ _) (tuple_mul_same l its.toArray n dd sl k t c0 c1) ⟨ho, ?_⟩⟩)
    exact ⟨.ref l, H, I, rfl, q1 (go c1)⟩
  · have c1' : (its.toArray.isEmpty || k == 1) = false := by simpa using c1
    have hne : xs ≠ [] := fun e => by
      have : its = [] := List.eq_nil_of_length_eq_zero (by rw [← r.length, e]; rfl)
      subst this
      simp at c1'
    have hk1 : k ≠ 1 := fun e => by subst e; simp at c1'
    have c2 : (decide (k ≤ 0) || its.toArray.isEmpty) = true := by rw [decide_eq_true (by omega)]; rfl
    refine wpAny_binaryOp_repeat_ref (T := "tuple") (U := "int") (by decide) ⟨_, ho, rfl⟩ (fun s' => typeIs_int s' k t) noFill_tuple_mul F.fills_int_mul F.slot_int_rmul repeat_tuple F.slot_int_index.lookup
      (call_meets F.slot_int_rmul (typeIs_int s k t) F.entry_int_rmul (F.args_int_rmul_2 _ _) (int_rmul_tuple k t l its.toArray n dd sl)
        ⟨ho, rfl, ⟨_, ho, rfl⟩, call_meets F.slot_tuple_mul ⟨_, ho, rfl⟩ F.entry_tuple_mul (F.args_tuple_mul_2 _ _) (tuple_mul_none l its.toArray n dd sl k t c0 c1' c2) ⟨ho, ?_⟩⟩)
    refine ⟨.ref s.heap.objs.size, _, I.laid (t' := s.toks) (o := .tup []) (fun b ob q => Heap.get?_push_of_some _ q) (Nat.le_refl _) ?_, rfl, q2 hne (by omega) _ (I.hok.fresh (Nat.le_refl _))⟩
    exact ⟨by simp, _, .nil, IsTup.new _ _⟩
section
variable [Nm] [Gd]
/-- products, also of a tuple by a number below 2 -/
def mulH (x y : D) : M D := fun st => match dat st x, dat st y with
  | some (.tuple a), some (.int j) => if -(2 ^ 62) ≤ j ∧ j ≤ 1 then okV (.tuple (List.replicate j.toNat a).flatten) st else mulG x y st
  | _, _ => mulG x y st
def rMulH (K : W.Frag) : R2 := fun x y H Q => rRepO K x y H Q ∨ rMulG K x y H Q
theorem op_mulH {X : Cx} {K : W.Frag} (hK : X.K = K := by rfl) : OpR X (binaryOp .Mult) (rMulH K) := OpR.or (op_repO hK) (op_mulG hK)
theorem bop_mulH {K : W.Frag} {E : XK} : BOp K E (rMulH K) mulH := by
  intro w H st dx dy x y Q hs rx ry hp
  unfold mulH at hp
  split at hp
  · rename_i e1 e2
    split at hp
    · rename_i hc
      obtain ⟨a, vs, e3, ha, ra⟩ := dat_tup rx e1
      refine .inl ⟨a, _, vs, e3, dat_int ry e2, ha.sq, hc.1, hc.2, fun h => ?_, fun hn h p np => ?_⟩
      · rename_i xs j
        have e : (List.replicate j.toNat xs).flatten = xs := by
          rcases h with h | h
          · subst h
            cases ra
            simp
          · subst h
            show [xs].flatten = xs
            simp
        rw [e] at hp
        exact Post.now hp hs (.tup ha ra)
      · rename_i xs j
        have e : (List.replicate j.toNat xs).flatten = [] := by
          have : j.toNat = 0 := by omega
          rw [this]; rfl
        rw [e] at hp
        exact hp w _ _ (.new np) (hs.new np) (Rp.newTup (hs.notin np) .nil np)
    · exact .inr (bop_mulG w H st dx dy x y Q hs rx ry hp)
  · exact .inr (bop_mulG w H st dx dy x y Q hs rx ry hp)
end
section
variable {X : Ex → Store → Prop} {st : Store} {Q : D → Store → Prop}
@[simp] theorem f_mulHI {i j : Int} : wpx X (mulH (.val (.int i)) (.val (.int j)) st) Q = wpx X (mulG (.val (.int i)) (.val (.int j)) st) Q := rfl
@[simp] theorem f_mulHS {i : Str} {j : Int} : wpx X (mulH (.val (.str i)) (.val (.int j)) st) Q = wpx X (mulG (.val (.str i)) (.val (.int j)) st) Q := rfl
@[simp] theorem f_mulHL {i : List PyData} {j : Int} : wpx X (mulH (.val (.list i)) (.val (.int j)) st) Q = wpx X (mulG (.val (.list i)) (.val (.int j)) st) Q := rfl
theorem f_mulHT {a : List PyData} {j : Int} (h1 : -1000 ≤ j) (h2 : j ≤ 1000) (h3 : a.length ≤ 1000) (h4 : a ≠ []) : wpx X (mulH (.val (.tuple a)) (.val (.int j)) st) Q = Q (.val (.tuple (List.replicate j.toNat a).flatten)) st := by
  by_cases h : -(2 ^ 62) ≤ j ∧ j ≤ 1
  · simp only [mulH, dat, datV, if_pos h]; exact wp_D
  · have h5 : 2 ≤ j := by
      have : ¬ j ≤ 1 := fun z => h ⟨Int.le_trans (by decide) h1, z⟩
      omega
    simp only [mulH, dat, datV, if_neg h]
    show wpx X (mulG (.val (.tuple a)) (.val (.int j)) st) Q = _
    rw [f_mulGT]
    simp [h2, h3, h4, h5]
theorem f_mulHT1 {x : PyData} {j : Int} (h1 : -1000 ≤ j) (h2 : j ≤ 1000) : wpx X (mulH (.val (.tuple [x])) (.val (.int j)) st) Q = Q (.val (.tuple (List.replicate j.toNat x))) st := by
  rw [f_mulHT h1 h2 (by simp) (by simp)]
  have : (List.replicate j.toNat [x]).flatten = List.replicate j.toNat x := by
    induction j.toNat with
    | zero => rfl
    | succ n ih => rw [List.replicate_succ, List.flatten_cons, ih, List.replicate_succ]; rfl
  rw [this]
end
end B
/-! BL46: sums of lists of ints. -/
namespace B
open PySem L2
theorem intsOf_map : ∀ xs : List Int, intsOf (xs.map .int) = some xs
  | [] => rfl
  | x :: r => by simp [intsOf, intsOf_map r]
theorem f_sumI {X : Ex → Store → Prop} {st : Store} {xs : List PyData} {ys : List Int} (h : xs = ys.map .int) {Q : D → Store → Prop} : wpx X (sumF [.val (.list xs)] st) Q = Q (.val (.int ys.sum)) st := by
  subst h
  simp only [sumF, dat, datV, intsOf_map]
  exact wp_D
end B
/-! BL47: sets of keys of any depth: all carried by value, or all tuples. -/
namespace GS
open PySem PySem.Spec PyProof.Rows L2
section
variable {P : Program} {w : World} {A : Around} {E : Value → Shared → Prop}
theorem eq_key {s : Shared} {x y : NestedKey} {u v : Value} {Q : Bool → Shared → Prop} (hx : NestedIs s.heap x u) (hy : NestedIs s.heap y v) (hd : x.depth ≤ 8) (hu : A.units + 9 < cLine) (h : Q (decide (x = y)) s) : wpAny (model P w) A (eqBool u v) Q E s :=
  eqAt_key x y A s u v hx hy (by omega) P w E Q (by rw [← NestedKey.decide_eq]; exact h)
theorem cls_val (n : Nat) {v : Value} (h : ∀ a, v ≠ .ref a) : ofAClassStatement n v = pure false := by
  cases v with
  | ref a => exact absurd rfl (h a)
  | _ => cases n <;> rfl
mutual
/-- no key is of a class statement -/
theorem cls_key {s : Shared} : ∀ (k : NestedKey) (v : Value) (n : Nat), NestedIs s.heap k v → k.depth ≤ n → ∀ {A : Around} {E : Value → Shared → Prop} {Q : Bool → Shared → Prop}, Q false s → wpAny (model P w) A (ofAClassStatement n v) Q E s
  | .none, _, n, x, _, _, _, _, h => by cases x; rw [cls_val n (fun a e => by cases e)]; exact wpAny_pure h
  | .num i, _, n, x, _, _, _, _, h => by cases x <;> (rw [cls_val n (fun a e => by cases e)]; exact wpAny_pure h)
  | .text y, _, n, x, _, _, _, _, h => by cases x; rw [cls_val n (fun a e => by cases e)]; exact wpAny_pure h
  | .tup ks, _, n, x, hn, A, E, Q, h => by
    cases x with
    | @tup a o vs m _ hg hc hd hk =>
      simp only [NestedKey.depth] at hn
      obtain ⟨n, rfl⟩ : ∃ m, n = m + 1 := ⟨n - 1, by omega⟩
      unfold ofAClassStatement
      refine wpAny_bind (wpAny_typeOf (T := "tuple") ⟨o, hg, hc⟩ ?_)
      have e : (("tuple" : String) == "tuple") = true := by decide
      dsimp only
      rw [if_pos e]
      refine wpAny_bind (wpAny_pure ?_)
      simp only [Bool.not_true, Bool.false_eq_true, if_false]
      refine wpAny_bind (wpAny_seqItems hg hd ?_)
      dsimp only
      rw [← Array.forIn_toList]
      refine wpAny_bind (wpAny_forIn_list _ (fun rest r s' => (r.1 = none ∧ s' = s) ∧ ∃ ks', NestedAll s.heap ks' rest ∧ NestedKey.depthAll ks' ≤ n ∧ sizeOf ks' ≤ sizeOf ks) _ ?_ ?_ _ _ ⟨⟨rfl, rfl⟩, ks, hk, by omega, Nat.le_refl _⟩)
      · rintro v rest r s' ⟨⟨hr, rfl⟩, ks', hk', hn', hz⟩
        cases hk' with
        | @cons k' _ ks'' _ x1 x2 =>
          simp only [NestedKey.depthAll] at hn'
          have hz2 : sizeOf (k' :: ks'') = 1 + sizeOf k' + sizeOf ks'' := by simp
          refine wpAny_bind (cls_key k' v n x1 (by omega) ?_)
          simp only [Bool.false_eq_true, if_false]
          exact wpAny_pure ⟨⟨rfl, rfl⟩, ks'', x2, by omega, by omega⟩
      · rintro ⟨r1, r2⟩ s' ⟨⟨hr, rfl⟩, _⟩
        simp only at hr
        subst hr
        exact wpAny_pure h
termination_by k => sizeOf k
end
/-- hash by value or not: either will do -/
theorem hb_key {s : Shared} : ∀ (n : Nat) (k : NestedKey) (v : Value), NestedIs s.heap k v → ∀ {A : Around} {E : Value → Shared → Prop} {Q : Bool → Shared → Prop}, (∀ b, Q b s) → wpAny (model P w) A (hashByValue n v) Q E s
  | n, .none, _, x, _, _, _, h => by cases x; cases n <;> exact wpAny_pure (h _)
  | n, .num i, _, x, _, _, _, h => by cases x <;> (cases n <;> exact wpAny_pure (h _))
  | n, .text y, _, x, _, _, _, h => by cases x; cases n <;> exact wpAny_pure (h _)
  | 0, .tup ks, _, x, _, _, _, h => by cases x; exact wpAny_pure (h _)
  | n + 1, .tup ks, _, x, A, E, Q, h => by
    cases x with
    | @tup a o vs m _ hg hc hd hk =>
      unfold hashByValue
      refine wpAny_bind (wpAny_specialOf (T := "tuple") ⟨o, hg, hc⟩ F.slot_tuple_hash.lookup ?_)
      dsimp only
      refine wpAny_bind (wpAny_seqItems hg hd ?_)
      show wpAny _ _ (forIn vs _ _ >>= _) _ _ s
      rw [← Array.forIn_toList]
      refine wpAny_bind (wpAny_forIn_list _ (fun rest r s' => s' = s ∧ ∃ ks', NestedAll s.heap ks' rest) _ ?_ ?_ _ _ ⟨rfl, ks, hk⟩)
      · rintro v rest r s' ⟨rfl, ks', hk'⟩
        cases hk' with
        | @cons k' _ ks'' _ x1 x2 =>
          refine wpAny_bind (hb_key n k' v x1 fun b => ?_)
          cases b
          · simp only [Bool.not_false, if_true]
            refine wpAny_pure ?_
            dsimp only
            exact wpAny_pure (h _)
          · simp only [Bool.not_true, Bool.false_eq_true, if_false]
            exact wpAny_pure ⟨rfl, ks'', x2⟩
      · rintro ⟨r1, r2⟩ s' ⟨rfl, _⟩
        cases r1 with
        | none => exact wpAny_pure (h _)
        | some b => exact wpAny_pure (h _)
end
abbrev Row := NestedKey × Value
def rws (w : World) (L : List Row) : List (Int × Value) := L.map fun p => (p.1.hash w, p.2)
def hss (w : World) (L : List Row) : List Int := L.map fun p => p.1.hash w
theorem rws_len {w : World} {L : List Row} : (rws w L).length = L.length := List.length_map ..
theorem hss_len {w : World} {L : List Row} : (hss w L).length = L.length := List.length_map ..
/-- the set at a holds just the rows L -/
structure SetG (w : World) (h : Heap) (a : Addr) (L : List Row) (es : Array (Int × Value)) (ep : Nat) (t : SetTable) : Prop where
  ob : ∃ o, h.get? a = some o ∧ o.ExactSet ∧ o.data = .set es ep t
  rows : es.toList = rws w L
  tab : TabOk t (hss w L)
  nd : (L.map (·.1)).Nodup
  key : ∀ p ∈ L, NestedIs h p.1 p.2 ∧ p.1.depth ≤ 8
  led : w.params.followText "set-order" = true ∨ t.led = true
  room : L.length * 5 < t.mask * 3
  few : L.length < 64
section
variable {P : Program} {w : World} {A : Around} {E : Value → Shared → Prop} {h : Heap} {a : Addr} {L : List Row} {es : Array (Int × Value)} {ep : Nat} {t : SetTable}
theorem SetG.size (R : SetG w h a L es ep t) : es.size = L.length := by rw [← Array.length_toList, R.rows, rws_len]
theorem SetG.fits (R : SetG w h a L es ep t) : t.fits es.size = true := by
  have h1 : t.place.size = es.size := by rw [R.tab.sz, hss_len, R.size]
  have h2 : es.size ≤ t.mask := by rw [R.size]; have := R.room; omega
  simp only [SetTable.fits, SetTable.fill, R.tab.dm, h1, beq_self_eq_true, Bool.true_and, decide_eq_true_eq]
  exact h2
theorem SetG.at (R : SetG w h a L es ep t) {i : Nat} {p : Row} (e : L[i]? = some p) : es[i]? = some (p.1.hash w, p.2) := by
  rw [← Array.getElem?_toList, R.rows, rws, List.getElem?_map, e, Option.map_some]
theorem SetG.odd (R : SetG w h a L es ep t) : t.gaveWay = false := by
  simp only [SetTable.gaveWay, mask_odd R.tab.mok]; rfl
def sameRef (v y : Value) : Bool := match v, y with
  | .ref a, .ref b => a == b
  | _, _ => false
theorem nth_dm (m : Nat) : ∀ (n : Nat) (p : SetTable.Probe), p.dummy = none → (nth m p n).dummy = none
  | 0, _, e => e
  | n + 1, p, e => nth_dm m n (adv m p) (by unfold adv; split <;> exact e)
/-- the search among tuples, from its c-th step on -/
theorem seek {s : Shared} (R : SetG w s.heap a L es ep t) (href : ∀ p ∈ L, ∃ c, p.2 = Value.ref c) {x : NestedKey} {v : Value} (hx : NestedIs s.heap x v) (hxd : x.depth ≤ 8) (hu : A.units + 9 < cLine) {K : Nat} (k1 : K < 10 * SetTable.turns t.mask)
    (k2 : way t.mask (x.hash w) K ∉ t.place.toList) (k3 : ∀ c, c < K → way t.mask (x.hash w) c ∈ t.place.toList) {Q : SetFound → Shared → Prop} (yes : x ∈ L.map (·.1) → Q (.there none) s) (no : x ∉ L.map (·.1) → Q (.free (way t.mask (x.hash w) K) false) s) :
    ∀ (f c : Nat) (stand : Option SetTable.Probe), stand.getD (t.probeStart (x.hash w)) = nth t.mask (t.probeStart (x.hash w)) c → c ≤ K → K < c + f →
      (∀ (i : Nat) (p : Row), L[i]? = some p → p.1 = x → ∃ c', c ≤ c' ∧ c' < K ∧ t.place.toList[i]? = some (way t.mask (x.hash w) c')) →
      wpAny (model P w) A (setSearchFrom a v (x.hash w) true f stand) Q E s := by
  obtain ⟨o, ho, hex, hd⟩ := R.ob
  intro f
  induction f with
  | zero => intro c stand _ h1 h2; omega
  | succ f ih =>
    intro c stand hst hc hf hre
    -- from the c-th step on the way is the same
    have hw : ∀ q, (nth t.mask (nth t.mask (t.probeStart (x.hash w)) c) q).j = way t.mask (x.hash w) (c + q) := fun q => by rw [← nth_add]; rfl
    have hb := go_spec t R.tab.ris R.tab.dm (fun i => (es[i]?.map (·.1)).getD 0) (x.hash w) (10 * SetTable.turns t.mask) (K - c) (nth t.mask (t.probeStart (x.hash w)) c) (nth_dm _ _ _ rfl) (by omega)
      (fun q hq => by rw [hw]; exact k3 _ (by omega)) (by rw [hw, Nat.add_sub_cancel' hc]; exact k2)
    rw [setSearchFrom_succ]
    refine wpAny_bind (wpAny_setState_of ho hd R.fits ?_)
    dsimp only
    rw [R.odd, hst]
    simp only [Bool.false_eq_true, if_false]
    have hash_at : ∀ (i : Nat) (p : Row), L[i]? = some p → (es[i]?.map (·.1)).getD 0 = p.1.hash w := fun i p e => by rw [R.at e]; rfl
    rcases hb with ⟨q, i, q1, q2, q3, q4, q5⟩ | ⟨q1, q2⟩
    · -- a candidate
      have hpr : t.probe (fun i => (es[i]?.map (·.1)).getD 0) (x.hash w) (nth t.mask (t.probeStart (x.hash w)) c) = some (.candidate (way t.mask (x.hash w) (c + q)) i (nth t.mask (t.probeStart (x.hash w)) (c + (q + 1)))) := by
        rw [← hw, nth_add]; exact q5
      rw [hw] at q2
      obtain ⟨p, hp⟩ : ∃ p, L[i]? = some p := by
        have h1 : i < t.place.toList.length := (List.getElem?_eq_some_iff.mp q2).1
        rw [Array.length_toList, R.tab.sz, hss_len] at h1
        exact ⟨L[i], List.getElem?_eq_getElem h1⟩
      have hpm := List.mem_of_getElem? hp
      have hpk := R.key p hpm
      obtain ⟨b, hb⟩ := href p hpm
      rw [hpr]
      dsimp only
      -- what comes behind the look at the search
      have go : wpAny (model P w) A (searchRest a v (x.hash w) true f es t (way t.mask (x.hash w) (c + q)) i (nth t.mask (t.probeStart (x.hash w)) (c + (q + 1)))) Q E s := by
        unfold searchRest
        rw [R.at hp]
        dsimp only
        refine wpAny_bind (wpAny_holding (eq_key hpk.1 hx hpk.2 hu ?_))
        refine wpAny_bind (wpAny_setState_of ho hd R.fits ?_)
        dsimp only
        by_cases e : p.1 = x
        · rw [decide_eq_true e]
          simp only [Bool.and_self, if_true]
          exact wpAny_pure (yes (List.mem_map.mpr ⟨p, hpm, e⟩))
        · have hsl := slot_live R.tab.ris q2
          rw [decide_eq_false e, sameMem]
          simp only [Bool.and_false, Bool.false_eq_true, if_false, if_true, hsl, R.at hp, hb]
          refine wpAny_bind (wpAny_isSame_ref_self (wpAny_bind (wpAny_pure ?_)))
          simp only [if_true, Bool.false_eq_true, if_false]
          refine ih (c + (q + 1)) _ rfl (by omega) (by omega) fun i0 p0 e0 e1 => ?_
          obtain ⟨c', z1, z2, z3⟩ := hre i0 p0 e0 e1
          refine ⟨c', ?_, z2, z3⟩
          rcases Nat.lt_trichotomy c' (c + q) with y | y | y
          · refine absurd ((hash_at i0 p0 e0).trans (by rw [e1])) (q4 (c' - c) i0 (by omega) ?_)
            rw [hw, Nat.add_sub_cancel' z1]; exact z3
          · rw [y] at z3
            have hsl2 := slot_live R.tab.ris z3
            rw [hsl] at hsl2
            cases hsl2
            rw [hp] at e0
            cases e0
            exact absurd e1 e
          · omega
      by_cases hl : t.led = true
      · rw [hl]
        simp only [Bool.not_true, Bool.false_eq_true, if_false]
        exact go
      · simp only [Bool.not_eq_true] at hl
        rw [hl]
        simp only [Bool.not_false, if_true]
        refine wpAny_bind ?_
        unfold searchCouldBeSeen
        refine wpAny_bind (wpAny_forIn_list _ (fun rest r s' => (r.1 = none ∧ s' = s) ∧ ∀ y ∈ rest, ∃ k, NestedIs s.heap k y ∧ k.depth ≤ 8) _ ?_ ?_ _ _ ⟨⟨rfl, rfl⟩, fun y hy => ?_⟩)
        · rintro y rest r s' ⟨⟨_, rfl⟩, hall⟩
          obtain ⟨k, hk, hkd⟩ := hall y (List.mem_cons_self ..)
          have hr2 := fun z hz => hall z (List.mem_cons_of_mem _ hz)
          dsimp only
          by_cases hv : (sameRef v y || (carriedByValue v && carriedByValue y)) = true
          · refine wp_if_pos hv ?_
            exact wpAny_pure ⟨⟨rfl, rfl⟩, hr2⟩
          · refine wp_if_neg hv ?_
            refine wpAny_bind (quiet_key x v 8 s' hx hxd _ _ _ ?_)
            simp only [Bool.not_true, Bool.false_eq_true, if_false]
            refine wpAny_bind (quiet_key k y 8 s' hk hkd _ _ _ ?_)
            simp only [Bool.not_true, Bool.false_eq_true, if_false]
            refine wpAny_bind (cls_key x v 8 hx hxd ?_)
            simp only [Bool.false_eq_true, if_false]
            refine wpAny_bind (cls_key k y 8 hk hkd ?_)
            simp only [Bool.false_eq_true, if_false]
            exact wpAny_pure ⟨⟨rfl, rfl⟩, hr2⟩
        · rintro ⟨r1, r2⟩ s' ⟨⟨e, rfl⟩, _⟩
          simp only at e
          subst e
          refine wpAny_pure ?_
          simp only [Bool.false_eq_true, if_false]
          exact go
        · obtain ⟨e, he, rfl⟩ := List.mem_map.mp hy
          have he2 : e ∈ es.toList := by
            have := Array.mem_filter.mp (Array.mem_toList_iff.mp he)
            exact Array.mem_toList_iff.mpr this.1
          rw [R.rows] at he2
          obtain ⟨p2, hp2, rfl⟩ := List.mem_map.mp he2
          exact ⟨p2.1, R.key p2 hp2⟩
    · -- the way's first empty place
      have hpr : t.probe (fun i => (es[i]?.map (·.1)).getD 0) (x.hash w) (nth t.mask (t.probeStart (x.hash w)) c) = some (.empty (way t.mask (x.hash w) K) none) := by
        rw [hw, Nat.add_sub_cancel' hc] at q2; exact q2
      rw [hpr]
      refine wpAny_pure (no fun hm => ?_)
      obtain ⟨p0, h0, e1⟩ := List.mem_map.mp hm
      obtain ⟨i0, e0⟩ := List.getElem?_of_mem h0
      obtain ⟨c', z1, z2, z3⟩ := hre i0 p0 e0 e1
      refine absurd ((hash_at i0 p0 e0).trans (by rw [e1])) (q1 (c' - c) i0 (by omega) ?_)
      rw [hw, Nat.add_sub_cancel' z1]; exact z3
theorem search {s : Shared} (R : SetG w s.heap a L es ep t) (href : ∀ p ∈ L, ∃ c, p.2 = Value.ref c) {x : NestedKey} {v : Value} (hx : NestedIs s.heap x v) (hxd : x.depth ≤ 8) (hu : A.units + 9 < cLine) {Q : SetFound → Shared → Prop} (yes : x ∈ L.map (·.1) → Q (.there none) s)
    (no : ∀ K, x ∉ L.map (·.1) → way t.mask (x.hash w) K ∉ t.place.toList → (∀ c, c < K → way t.mask (x.hash w) c ∈ t.place.toList) → Q (.free (way t.mask (x.hash w) K) false) s) :
    wpAny (model P w) A (setSearch a v (x.hash w) true) Q E s := by
  obtain ⟨K, k1, k2, k3⟩ := R.tab.first (by rw [hss_len]; have := R.room; omega) (x.hash w)
  have hK : K < 100000 := by
    have : SetTable.turns t.mask ≤ 1000 := by
      rcases R.tab.mok with e | e | e <;> rw [e] <;> decide
    omega
  refine seek R href hx hxd hu k1 k2 k3 yes (fun hn => no K hn k2 k3) 100000 0 none rfl (Nat.zero_le _) (by omega) fun i p e1 e2 => ?_
  have hi : i < t.place.toList.length := by
    rw [Array.length_toList, R.tab.sz, hss_len]
    exact (List.getElem?_eq_some_iff.mp e1).1
  have hj := List.getElem?_eq_getElem hi
  obtain ⟨c, z1, z2⟩ := R.tab.before (h := x.hash w) k2 (by rw [hss, List.getElem?_map, e1, Option.map_some, e2]) hj
  exact ⟨c, Nat.zero_le _, z1, by rw [hj, z2]⟩
/-- one look after another -/
theorem scan_from {s : Shared} (R : SetG w s.heap a L es ep t) {x : NestedKey} {v : Value} (hx : NestedIs s.heap x v) (hu : A.units + 9 < cLine) {Q : ScanMet → Shared → Prop} : ∀ (L' : List Row) (i : Nat), (∀ p ∈ L', NestedIs s.heap p.1 p.2 ∧ p.1.depth ≤ 8) →
    (x ∈ L'.map (·.1) → ∀ j, Q (.found j) s) → (x ∉ L'.map (·.1) → Q .absent s) → wpAny (model P w) A (setScanFrom a v (x.hash w) true (rws w L') i) Q E s
  | [], _, _, _, no => wpAny_pure (no (by simp))
  | p :: L', i, hk, yes, no => by
    obtain ⟨o, ho, hex, hd⟩ := R.ob
    have hp := hk p (List.mem_cons_self ..)
    have rest : p.1 ≠ x → wpAny (model P w) A (setScanFrom a v (x.hash w) true (rws w L') (i + 1)) Q E s := fun hne => scan_from R hx hu L' (i + 1) (fun q hq => hk q (List.mem_cons_of_mem _ hq)) (fun hm => yes (by simp [hm])) (fun hm => no (by simp only [List.map_cons, List.mem_cons, not_or]; exact ⟨fun e => hne e.symm, hm⟩))
    have hep : ∀ {Q' : Nat → Shared → Prop}, Q' ep s → wpAny (model P w) A (setEpoch a) Q' E s := fun h => wpAny_bind (wpAny_setState_of ho hd R.fits (wpAny_pure h))
    show wpAny _ _ (if (p.1.hash w == x.hash w) = true then _ else _) _ _ s
    by_cases hh : (p.1.hash w == x.hash w) = true
    · rw [if_pos hh]
      refine wpAny_bind (hep ?_)
      refine wpAny_bind (eq_key hp.1 hx hp.2 hu ?_)
      by_cases e : p.1 = x
      · rw [decide_eq_true e]
        simp only [Bool.and_self, if_true]
        exact wpAny_pure (yes (by simp [e]) i)
      · rw [decide_eq_false e]
        simp only [Bool.and_false, Bool.false_eq_true, if_false]
        refine wpAny_bind (hep ?_)
        simp only [bne_self_eq_false, Bool.false_eq_true, if_false]
        exact rest e
    · rw [if_neg hh]
      exact rest fun e => hh (by rw [e]; exact beq_self_eq_true _)
theorem scan_any {s : Shared} (R : SetG w s.heap a L es ep t) {x : NestedKey} {v : Value} (hx : NestedIs s.heap x v) (hu : A.units + 9 < cLine) {Q : ScanMet → Shared → Prop} (yes : x ∈ L.map (·.1) → ∀ j, Q (.found j) s) (no : x ∉ L.map (·.1) → Q .absent s) :
    wpAny (model P w) A (setScan a v (x.hash w) true es) Q E s := by
  obtain ⟨o, ho, hex, hd⟩ := R.ob
  have hep : ∀ {Q' : Nat → Shared → Prop}, Q' ep s → wpAny (model P w) A (setEpoch a) Q' E s := fun h => wpAny_bind (wpAny_setState_of ho hd R.fits (wpAny_pure h))
  have by_one := scan_from (Q := Q) (A := A) (E := E) (P := P) R hx hu L 0 R.key yes no
  rw [← R.rows] at by_one
  cases v with
  | str y tk =>
    show wpAny _ _ (if (es.all fun e => isExactStrKey e.2) = true then _ else _) _ _ s
    refine wpAny_ite ?_
    split
    · rename_i hall
      have ex : x = .text y := by cases hx; rfl
      unfold setScanStrs
      cases hf : es.findIdx? (fun e => e.2.isStr y) with
      | none =>
        refine wpAny_pure (no fun hm => ?_)
        obtain ⟨p, hp, e⟩ := List.mem_map.mp hm
        have h1 := (R.key p hp).1
        rw [e, ex] at h1
        have hmem : (p.1.hash w, p.2) ∈ es := by
          rw [← Array.mem_toList_iff, R.rows]; exact List.mem_map.mpr ⟨p, hp, rfl⟩
        have h2 := Array.findIdx?_eq_none_iff.mp hf _ hmem
        cases hpv : p.2 with
        | str z tz =>
          rw [hpv] at h1 h2
          cases h1
          simp [Value.isStr] at h2
        | _ => rw [hpv] at h1; cases h1
      | some j =>
        obtain ⟨hj, hp, _⟩ := Array.findIdx?_eq_some_iff_getElem.mp hf
        have hjl : j < L.length := by rw [← R.size]; exact hj
        have hg := R.at (List.getElem?_eq_getElem hjl)
        have he : es[j] = ((L[j]).1.hash w, (L[j]).2) := by
          rw [Array.getElem?_eq_getElem hj] at hg; exact Option.some.inj hg
        have hk := R.key L[j] (List.getElem_mem hjl)
        rw [he] at hp
        dsimp only
        rw [hg]
        dsimp only
        have hsame : (L[j]).1 = x := by
          rw [ex]
          have h1 := hk.1
          cases hv : (L[j]).2 with
          | str z tz =>
            rw [hv] at h1 hp
            have hz : z = y := by simpa [Value.isStr] using hp
            subst hz
            generalize (L[j]).1 = kk at h1
            cases h1
            rfl
          | _ => rw [hv] at hp; cases hp
        refine wpAny_bind (hep ?_)
        refine wpAny_bind (eq_key hk.1 hx hk.2 hu ?_)
        rw [decide_eq_true hsame]
        simp only [Bool.and_self, if_true]
        exact wpAny_pure (yes (List.mem_map.mpr ⟨_, List.getElem_mem hjl, hsame⟩) j)
    · exact by_one
  | _ => exact by_one
/-! ### laying -/
theorem free_at (R : SetG w h a L es ep t) {x : Int} {K : Nat} (k1 : K < 10 * SetTable.turns t.mask) (k2 : way t.mask x K ∉ t.place.toList) (k3 : ∀ c, c < K → way t.mask x c ∈ t.place.toList) : t.freeSlot x = some (way t.mask x K, false) := by
  have hb := go_spec t R.tab.ris R.tab.dm (fun _ => x + 1) x (10 * SetTable.turns t.mask) K (t.probeStart x) rfl k1 k3 k2
  rcases hb with ⟨_, _, _, _, e, _⟩ | ⟨_, e⟩
  · omega
  · have e2 : t.probe (fun _ => x + 1) x (t.probeStart x) = some (.empty (way t.mask x K) none) := e
    simp only [SetTable.freeSlot, e2, Option.getD_none, Option.isSome_none]
theorem range_get {α : Type} : ∀ (l : List α), (List.range l.length).filterMap (fun i => l[i]?) = l
  | [] => rfl
  | x :: r => by
    rw [List.length_cons, List.range_succ_eq_map, List.filterMap_cons_some (by rfl), List.filterMap_map]
    exact congrArg (x :: ·) (range_get r)
/-- a table laid anew holds the same rows -/
theorem relay_rows {M : Nat} {n : Nat} (hr : es.toList = rws w L) (hM : MaskOk M) (hn : SetTable.sizeAbove n - 1 = M) (hl : L.length ≤ M) :
    ∃ t' order L2, t.relaid (es.map (·.1)) n = some (t', order) ∧ order.toList.Perm (List.range L.length) ∧ (order.filterMap (es[·]?)).toList = rws w L2 ∧ L2.Perm L ∧ TabOk t' (hss w L2) ∧ t'.mask = M ∧ t'.led = t.led := by
  have hz : es.size = L.length := by rw [← Array.length_toList, hr, rws_len]
  obtain ⟨t', order, e, hp, T, e1, e2, _, _⟩ := relaid_ok t (hs := es.map (·.1)) hn hM (by rw [Array.size_map, hz]; exact hl)
  rw [Array.size_map, hz] at hp
  have he : ∀ i, es[i]? = (L[i]?).map fun (p : Row) => (p.1.hash w, p.2) := fun i => by rw [← Array.getElem?_toList, hr, rws, List.getElem?_map]
  have hlt : ∀ i ∈ order.toList, i < L.length := fun i hi => List.mem_range.mp (hp.mem_iff.mp hi)
  refine ⟨t', order, order.toList.filterMap fun i => L[i]?, e, hp, ?_, ?_, ?_, e1, e2⟩
  · rw [Array.toList_filterMap]
    rw [show (fun x => es[x]?) = fun i => (L[i]?).map fun (p : Row) => (p.1.hash w, p.2) from funext he, rws, List.map_filterMap]
  · have h1 := hp.filterMap fun i => L[i]?
    rw [range_get L] at h1
    exact h1
  · have e3 : hss w (order.toList.filterMap fun i => L[i]?) = order.toList.map fun i => (es.map (·.1)).getD i 0 := by
      generalize order.toList = l at hlt
      induction l with
      | nil => rfl
      | cons i l ih =>
        have hi := hlt i (List.mem_cons_self ..)
        rw [List.filterMap_cons_some (List.getElem?_eq_getElem hi), List.map_cons, ← ih fun j hj => hlt j (List.mem_cons_of_mem _ hj)]
        have e4 : (es.map (·.1)).getD i 0 = (L[i]).1.hash w := by
          have h5 : (es.map (·.1))[i]? = some ((L[i]).1.hash w) := by rw [Array.getElem?_map, he, List.getElem?_eq_getElem hi]; rfl
          rw [Array.getD_eq_getD_getElem?, h5]; rfl
        rw [e4]; rfl
    rw [e3]
    exact T
theorem key_keep {h h' : Heap} {k : NestedKey} {v : Value} {o : Obj} (x : NestedIs h k v) (ho : h.get? a = some o) (hd : o.data = .set es ep t) (sb : Heap.SameBut a h h') : NestedIs h' k v := by
  refine NestedIs.at (fun b u vs n e1 e2 => ?_) k v x
  refine (sb.2 b fun e => ?_).trans e1
  rw [e, ho] at e1
  cases e1
  rw [hd] at e2
  cases e2
/-- what a set becomes by one more row -/
structure More (w : World) (a : Addr) (h h' : Heap) (L : List Row) (p : Row) (L' : List Row) : Prop where
  sb : Heap.SameBut a h h'
  set : ∃ es ep t, SetG w h' a L' es ep t
  pm : L'.Perm (p :: L)
/-- the rows with one more at its place, when the table is not too full -/
theorem lay_one {h : Heap} (R : SetG w h a L es ep t) {x : NestedKey} {v : Value} (hx : NestedIs h x v) (hxd : x.depth ≤ 8) (hn : x ∉ L.map (·.1)) {K : Nat} (k2 : way t.mask (x.hash w) K ∉ t.place.toList) (k3 : ∀ c, c < K → way t.mask (x.hash w) c ∈ t.place.toList) :
    ∃ L1 es1 t1, (t.put (way t.mask (x.hash w) K)).1 = t1 ∧ SetTable.insertAt es (t.put (way t.mask (x.hash w) K)).2 (x.hash w, v) = es1 ∧ L1.Perm ((x, v) :: L) ∧ es1.toList = rws w L1 ∧ TabOk t1 (hss w L1) ∧ t1.mask = t.mask ∧ t1.led = t.led ∧ t1.fill = L1.length ∧ (L1.map (·.1)).Nodup := by
  obtain ⟨p1, p2, p3, p4, p5, _, _, _, p9⟩ := R.tab.put k2 k3
  generalize hq : SetTable.below t.place (way t.mask (x.hash w) K) = q at p1 p2 p3
  rw [p1]
  have hm : (L.take q ++ (x, v) :: L.drop q).Perm ((x, v) :: L) := by
    have := List.perm_middle (a := (x, v)) (l₁ := L.take q) (l₂ := L.drop q)
    rwa [List.take_append_drop] at this
  refine ⟨L.take q ++ (x, v) :: L.drop q, _, _, rfl, rfl, hm, ?_, ?_, p4, p5, ?_, ?_⟩
  · rw [SetTable.toList_insertAt, R.rows]
    simp only [rws, List.map_append, List.map_cons, List.map_take, List.map_drop]
  · have e : hss w (L.take q ++ (x, v) :: L.drop q) = (hss w L).take q ++ x.hash w :: (hss w L).drop q := by simp only [hss, List.map_append, List.map_cons, List.map_take, List.map_drop]
    rw [e]; exact p3
  · rw [p9, hss_len, hm.length_eq, List.length_cons]
  · refine (hm.map (·.1)).nodup_iff.mpr ?_
    rw [List.map_cons]
    exact List.nodup_cons.mpr ⟨hn, R.nd⟩
theorem full_two {n m : Nat} (hm : MaskOk m) (h1 : n * 5 < m * 3) (h2 : (n + 1) * 5 ≥ m * 3) (h3 : n + 1 < 64) : ∃ M, SetTable.sizeAbove (SetTable.grown (n + 1)) - 1 = M ∧ MaskOk M ∧ SetTable.sizeAbove (SetTable.grown (n + 1)) ≤ 128 ∧ (n + 1) * 5 < M * 3 := by
  rcases hm with e | e | e
  · obtain rfl : n = 4 := by omega
    exact ⟨31, by rw [size_20], .inr (.inl rfl), by rw [size_20]; decide, by decide⟩
  · obtain rfl : n = 18 := by omega
    exact ⟨127, by rw [size_76], .inr (.inr rfl), by rw [size_76]; decide, by decide⟩
  · omega
theorem lay_new (R : SetG w h a L es ep t) {x : NestedKey} {v : Value} {K : Nat} (k1 : K < 10 * SetTable.turns t.mask) (k2 : way t.mask (x.hash w) K ∉ t.place.toList) (k3 : ∀ c, c < K → way t.mask (x.hash w) c ∈ t.place.toList)
    {es1 : Array (Int × Value)} {t1 : SetTable} (e1 : (t.put (way t.mask (x.hash w) K)).1 = t1) (e2 : SetTable.insertAt es (t.put (way t.mask (x.hash w) K)).2 (x.hash w, v) = es1) (hf : t1.fits es1.size = true) : layNew t es (x.hash w) v = (es1, t1, false, false) := by
  subst e1 e2
  simp only [layNew, free_at R k1 k2 k3, SetTable.orStandIn, hf, if_true, Bool.not_true]
theorem relay_all {es1 : Array (Int × Value)} {t1 t' : SetTable} {order : Array Nat} {n : Nat} {L1 L2 : List Row} (e : t1.relaid (es1.map (·.1)) n = some (t', order)) (hz : es1.size = L1.length) (hp : order.toList.Perm (List.range L1.length)) (e2 : (order.filterMap (es1[·]?)).toList = rws w L2) (hm : L2.Perm L1)
    (T : TabOk t' (hss w L2)) (hM : L1.length ≤ t'.mask) : relayAll t1 es1 n = (order.filterMap (es1[·]?), t', false) := by
  have hz2 : (order.filterMap (es1[·]?)).size = L2.length := by rw [← Array.length_toList, e2, rws_len]
  have hc : coversAll order es1.size = true := by
    rw [hz]; exact List.isPerm_iff.mpr hp
  have hf : t'.fits (order.filterMap (es1[·]?)).size = true := by
    have h1 : t'.place.size = (order.filterMap (es1[·]?)).size := by rw [T.sz, hss_len, hz2]
    have h2 : (order.filterMap (es1[·]?)).size ≤ t'.mask := by rw [hz2, hm.length_eq]; exact hM
    simp only [SetTable.fits, SetTable.fill, T.dm, h1, beq_self_eq_true, Bool.true_and, decide_eq_true_eq]
    exact h2
  simp only [relayAll, e, hc, hf, Bool.and_self, if_true]
theorem TabOk.marked {t : SetTable} {hs : List Int} (T : TabOk t hs) (b : Bool) : TabOk (if b = true then t else { t with plain := false }) hs := by
  cases b
  · exact ⟨T.ris, T.dm, T.sz, T.mok, T.bd, T.reach⟩
  · exact T
theorem marked_mask {t : SetTable} (b : Bool) : (if b = true then t else { t with plain := false }).mask = t.mask ∧ (if b = true then t else { t with plain := false }).led = t.led ∧ (if b = true then t else { t with plain := false }).fill = t.fill := by
  cases b <;> exact ⟨rfl, rfl, rfl⟩
/-- the kinds of elements: carried by value, or tuples -/
def Fit (L : List Row) (v : Value) : Prop := (v.scannable = true ∧ ∀ p ∈ L, p.2.scannable = true) ∨ ((∃ c, v = Value.ref c) ∧ ∀ p ∈ L, ∃ c, p.2 = Value.ref c)
theorem add_row {s : Shared} (R : SetG w s.heap a L es ep t) {x : NestedKey} {v : Value} (hfit : Fit L v) (hx : NestedIs s.heap x v) (hxd : x.depth ≤ 8) (hu : A.units + 9 < cLine) (hfew : L.length + 1 < 64) {Q : Bool → Shared → Prop}
    (old : x ∈ L.map (·.1) → Q false s) (new : x ∉ L.map (·.1) → ∀ h' L', More w a s.heap h' L (x, v) L' → Q true { s with heap := h' }) :
    wpAny (model P w) A (setAddHashed a v (x.hash w)) Q E s := by
  obtain ⟨o, ho, hex, hd⟩ := R.ob
  unfold setAddHashed
  refine wpAny_holding ?_
  rw [show (100000 : Nat) = 99999 + 1 from rfl, setAddHashedIn_succ]
  refine wpAny_bind (wpAny_setState_of ho hd R.fits ?_)
  dsimp only
  -- what both roads come to
  have lay : ∀ K, x ∉ L.map (·.1) → way t.mask (x.hash w) K ∉ t.place.toList → (∀ c, c < K → way t.mask (x.hash w) c ∈ t.place.toList) →
      ∃ L1 es1 t1, (t.put (way t.mask (x.hash w) K)).1 = t1 ∧ SetTable.insertAt es (t.put (way t.mask (x.hash w) K)).2 (x.hash w, v) = es1 ∧ L1.Perm ((x, v) :: L) ∧ es1.toList = rws w L1 ∧ es1.size = L.length + 1 ∧ t1.fits es1.size = true ∧ ∀ b : Bool, ∃ t2, (if b = true then t1 else { t1 with plain := false }) = t2 ∧ ∃ h1, s.heap.update a (Obj.putSet es1 t2) = h1 ∧
        Heap.SameBut a s.heap h1 ∧ (∃ o1, h1.get? a = some o1 ∧ o1.ExactSet ∧ o1.data = .set es1 (ep + 1) t2) ∧ t2.fits es1.size = true ∧ (t2.tooFull = false → Q true { s with heap := h1 }) ∧
        (t2.tooFull = true → ∃ n t3 order, n = SetTable.grown (L.length + 1) ∧ SetTable.sizeAbove n ≤ 128 ∧ t2.relaid (es1.map (·.1)) n = some (t3, order) ∧ relayAll t2 es1 n = (order.filterMap (es1[·]?), t3, false) ∧ (order.filterMap (es1[·]?)).size = es1.size ∧ ∀ h2, h1.update a (Obj.putSet (order.filterMap (es1[·]?)) t3) = h2 → Q true { s with heap := h2 }) := fun K hn k2 k3 => by
    obtain ⟨L1, es1, t1, q1, q2, pm, rows1, T1, m1, l1, f1, nd1⟩ := lay_one R hx hxd hn k2 k3
    have hlen : L1.length = L.length + 1 := by rw [pm.length_eq, List.length_cons]
    have hz1 : es1.size = L1.length := by rw [← Array.length_toList, rows1, rws_len]
    have fit1 : ∀ t2 : SetTable, TabOk t2 (hss w L1) → t2.mask = t.mask → t2.fits es1.size = true := fun t2 T2 m2 => by
      have h1 : t2.place.size = es1.size := by rw [T2.sz, hss_len, hz1]
      have h2 : es1.size ≤ t2.mask := by
        rw [hz1, hlen, m2]
        have := R.room
        rcases R.tab.mok with e | e | e <;> omega
      simp only [SetTable.fits, SetTable.fill, T2.dm, h1, beq_self_eq_true, Bool.true_and, decide_eq_true_eq]
      exact h2
    refine ⟨L1, es1, t1, q1, q2, pm, rows1, by omega, fit1 t1 T1 m1, fun b => ⟨_, rfl, _, rfl, ?_⟩⟩
    have T2 := TabOk.marked T1 b
    obtain ⟨m2, l2, f2⟩ := marked_mask (t := t1) b
    generalize (if b = true then t1 else { t1 with plain := false }) = t2 at T2 m2 l2 f2
    have sb1 : Heap.SameBut a s.heap (s.heap.update a (Obj.putSet es1 t2)) := Heap.SameBut.update ..
    have ho1 := store_at (es' := es1) (t' := t2) ho hd
    generalize s.heap.update a (Obj.putSet es1 t2) = h1 at sb1 ho1
    have key1 : ∀ p ∈ L1, NestedIs h1 p.1 p.2 ∧ p.1.depth ≤ 8 := fun p hp => by
      rcases List.mem_cons.mp (pm.mem_iff.mp hp) with e | hp
      · rw [e]; exact ⟨key_keep hx ho hd sb1, hxd⟩
      · exact ⟨key_keep (R.key p hp).1 ho hd sb1, (R.key p hp).2⟩
    have led1 : w.params.followText "set-order" = true ∨ t2.led = true := by rw [l2, l1]; exact R.led
    refine ⟨sb1, ⟨_, ho1, ⟨hex.1, hex.2.1, hex.2.2⟩, rfl⟩, fit1 t2 T2 (m2.trans m1), fun hf => ?_, fun hf => ?_⟩
    · refine new hn h1 L1 ⟨sb1, ⟨es1, ep + 1, t2, ⟨⟨_, ho1, ⟨hex.1, hex.2.1, hex.2.2⟩, rfl⟩, rows1, T2, nd1, key1, led1, ?_, by omega⟩⟩, pm⟩
      simp only [SetTable.tooFull, decide_eq_false_iff_not, f2, f1] at hf
      omega
    · simp only [SetTable.tooFull, decide_eq_true_eq, f2, f1, m2, m1, hlen] at hf
      obtain ⟨M, z1, z2, z3, z4⟩ := full_two R.tab.mok R.room hf hfew
      obtain ⟨t3, order, L2, y1, y2, y3, y4, y5, y6, y7⟩ := relay_rows (t := t2) rows1 z2 z1 (by omega)
      have hz2 : (order.filterMap (es1[·]?)).size = es1.size := by rw [← Array.length_toList, y3, rws_len, y4.length_eq, hz1]
      refine ⟨_, t3, order, rfl, z3, y1, relay_all y1 hz1 y2 y3 y4 y5 (by omega), hz2, fun h2 eh => ?_⟩
      have sb2 : Heap.SameBut a h1 h2 := by rw [← eh]; exact Heap.SameBut.update ..
      have ho2 := store_at (es' := order.filterMap (es1[·]?)) (t' := t3) ho1 rfl
      rw [eh] at ho2
      refine new hn h2 L2 ⟨sb1.trans sb2, ⟨_, _, t3, ⟨⟨_, ho2, ⟨hex.1, hex.2.1, hex.2.2⟩, rfl⟩, y3, y5, (y4.map (·.1)).nodup_iff.mpr nd1, fun p hp => ?_, by rw [y7]; exact led1, ?_, ?_⟩⟩, y4.trans pm⟩
      · have hk := key1 p (y4.mem_iff.mp hp)
        exact ⟨key_keep hk.1 ho1 rfl sb2, hk.2⟩
      · rw [y4.length_eq, y6]; omega
      · rw [y4.length_eq]; omega
  obtain ⟨K, k1, k2, k3⟩ := R.tab.first (by rw [hss_len]; have := R.room; omega) (x.hash w)
  rcases hfit with ⟨hv, hL⟩ | ⟨⟨c, hv⟩, hL⟩
  · have hb : byScan v es = true := by
      have h1 : es.size < scanBound := by rw [R.size]; have := R.few; unfold scanBound; omega
      have h2 : es.all (fun e => e.2.scannable) = true := by
        rw [← Array.all_toList, R.rows, List.all_eq_true]
        intro e he
        obtain ⟨p, hp, rfl⟩ := List.mem_map.mp he
        exact hL p hp
      simp only [byScan, hv, h2, Bool.true_and, Bool.and_true, decide_eq_true_eq]
      exact h1
    refine wp_if_pos hb ?_
    by_cases hm : x ∈ L.map (·.1)
    · refine wpAny_bind ?_
      unfold setAddByScan
      refine wpAny_bind (wpAny_rule ?_)
      refine wpAny_bind (scan_any R hx hu (fun _ j => ?_) fun hn => absurd hm hn)
      exact wpAny_pure (wpAny_pure (old hm))
    · obtain ⟨L1, es1, t1, q1, q2, pm, rows1, hz, hf1, fin⟩ := lay K hm k2 k3
      refine wpAny_bind ?_
      unfold setAddByScan
      rw [lay_new R k1 k2 k3 q1 q2 hf1]
      refine wpAny_bind (wpAny_rule ?_)
      refine wpAny_bind (scan_any R hx hu (fun hn j => absurd hn hm) fun _ => ?_)
      refine wpAny_bind (wpAny_pure ?_)
      dsimp only
      refine wpAny_ite ?_
      split
      · refine wpAny_bind (hb_key 8 x v hx fun b => ?_)
        obtain ⟨t2, e2, h1, e3, sb1, ⟨o1, ho1, hex1, hd1⟩, f2, g1, g2⟩ := fin b
        rw [e2]
        refine wpAny_bind (wpAny_storeSet_of ho hd ?_ (by rw [hz, sizeLine_eq]; have := R.few; omega))
        rw [e3]
        cases hf : t2.tooFull with
        | false =>
          rw [if_neg (by simp)]
          exact wpAny_pure (wpAny_pure (g1 hf))
        | true =>
          obtain ⟨n, t3, order, rfl, _, _, er, hz2, g3⟩ := g2 hf
          rw [if_pos (by simp), hz, er]
          refine wpAny_bind (wpAny_pure ?_)
          refine wpAny_bind (wpAny_storeSet_of ho1 hd1 ?_ (by rw [hz2, hz, sizeLine_eq]; have := R.few; omega))
          exact wpAny_pure (wpAny_pure (g3 _ rfl))
      · refine wpAny_bind (wpAny_pure ?_)
        obtain ⟨t2, e2, h1, e3, sb1, ⟨o1, ho1, hex1, hd1⟩, f2, g1, g2⟩ := fin true
        rw [e2]
        refine wpAny_bind (wpAny_storeSet_of ho hd ?_ (by rw [hz, sizeLine_eq]; have := R.few; omega))
        rw [e3]
        cases hf : t2.tooFull with
        | false =>
          rw [if_neg (by simp)]
          exact wpAny_pure (wpAny_pure (g1 hf))
        | true =>
          obtain ⟨n, t3, order, rfl, _, _, er, hz2, g3⟩ := g2 hf
          rw [if_pos (by simp), hz, er]
          refine wpAny_bind (wpAny_pure ?_)
          refine wpAny_bind (wpAny_storeSet_of ho1 hd1 ?_ (by rw [hz2, hz, sizeLine_eq]; have := R.few; omega))
          exact wpAny_pure (wpAny_pure (g3 _ rfl))
  · have hb : ¬ byScan v es = true := by rw [hv]; simp [byScan, Value.scannable]
    refine wp_if_neg hb ?_
    by_cases hm : x ∈ L.map (·.1)
    · refine wpAny_bind (search R hL hx hxd hu (fun _ => ?_) fun K hn => absurd hm hn)
      exact wpAny_pure (old hm)
    · refine wpAny_bind (search R hL hx hxd hu (fun hn => absurd hn hm) fun K _ z2 z3 => ?_)
      obtain ⟨L1, es1, t1, q1, q2, pm, rows1, hz, hf1, fin⟩ := lay K hm z2 z3
      dsimp only
      refine wpAny_bind (wpAny_setState_of ho hd R.fits ?_)
      dsimp only
      rw [q1, q2]
      refine wpAny_ite ?_
      split
      · refine wpAny_bind (hb_key 8 x v hx fun b => ?_)
        obtain ⟨t2, e2, h1, e3, sb1, ⟨o1, ho1, hex1, hd1⟩, f2, g1, g2⟩ := fin b
        rw [e2]
        refine wpAny_bind (wpAny_storeSet_of ho hd ?_ (by rw [hz, sizeLine_eq]; have := R.few; omega))
        rw [e3]
        cases hf : t2.tooFull with
        | false =>
          rw [if_neg (by simp)]
          exact wpAny_pure (g1 hf)
        | true =>
          obtain ⟨n, t3, order, rfl, hn1, er, _, hz2, g3⟩ := g2 hf
          rw [if_pos (by simp), R.size, setRelay_eq]
          refine wpAny_bind (wpAny_bind (wpAny_setState_of ho1 hd1 f2 ?_))
          dsimp only
          refine wp_if_neg (by rw [sizeLine_eq]; omega) ?_
          rw [er]
          dsimp only
          refine wpAny_bind (wp_if_neg (by rw [hz2]; simp) (wpAny_pure ?_))
          refine wpAny_storeSet_of ho1 hd1 ?_ (by rw [hz2, hz, sizeLine_eq]; have := R.few; omega)
          exact wpAny_pure (g3 _ rfl)
      · refine wpAny_bind (wpAny_pure ?_)
        obtain ⟨t2, e2, h1, e3, sb1, ⟨o1, ho1, hex1, hd1⟩, f2, g1, g2⟩ := fin true
        rw [e2]
        refine wpAny_bind (wpAny_storeSet_of ho hd ?_ (by rw [hz, sizeLine_eq]; have := R.few; omega))
        rw [e3]
        cases hf : t2.tooFull with
        | false =>
          rw [if_neg (by simp)]
          exact wpAny_pure (g1 hf)
        | true =>
          obtain ⟨n, t3, order, rfl, hn1, er, _, hz2, g3⟩ := g2 hf
          rw [if_pos (by simp), R.size, setRelay_eq]
          refine wpAny_bind (wpAny_bind (wpAny_setState_of ho1 hd1 f2 ?_))
          dsimp only
          refine wp_if_neg (by rw [sizeLine_eq]; omega) ?_
          rw [er]
          dsimp only
          refine wpAny_bind (wp_if_neg (by rw [hz2]; simp) (wpAny_pure ?_))
          refine wpAny_storeSet_of ho1 hd1 ?_ (by rw [hz2, hz, sizeLine_eq]; have := R.few; omega)
          exact wpAny_pure (g3 _ rfl)
/-- all carried by value, or all tuples -/
def Alike (ks : List Row) : Prop := (∀ p ∈ ks, p.2.scannable = true) ∨ ∀ p ∈ ks, ∃ c, p.2 = Value.ref c
theorem Alike.fit {ks L : List Row} (h : Alike ks) (hL : ∀ p ∈ L, p ∈ ks) {p : Row} (hp : p ∈ ks) : Fit L p.2 := h.imp (fun h => ⟨h p hp, fun q hq => h q (hL q hq)⟩) fun h => ⟨h p hp, fun q hq => h q (hL q hq)⟩
/-- what a set has of the first rows -/
structure HasTo (ks : List Row) (i : Nat) (L : List Row) : Prop where
  sub : ∀ p ∈ L, p ∈ ks.take i
  all : ∀ p ∈ ks.take i, p.1 ∈ L.map (·.1)
  len : L.length ≤ i
structure Has (ks L : List Row) : Prop where
  sub : ∀ p ∈ L, p ∈ ks
  all : ∀ p ∈ ks, p.1 ∈ L.map (·.1)
theorem HasTo.has {ks L : List Row} (g : HasTo ks ks.length L) : Has ks L := ⟨fun p hp => by have := g.sub p hp; rwa [List.take_length] at this, fun p hp => g.all p (by rw [List.take_length]; exact hp)⟩
theorem SetG.keep {h h' : Heap} (R : SetG w h a L es ep t) (ha : ∀ o, h.get? a = some o → h'.get? a = some o) (hk : ∀ p ∈ L, NestedIs h' p.1 p.2 ∧ p.1.depth ≤ 8) : SetG w h' a L es ep t := by
  obtain ⟨o, ho, r⟩ := R.ob
  exact ⟨⟨o, ha o ho, r⟩, R.rows, R.tab, R.nd, hk, R.led, R.room, R.few⟩
theorem key_all {h h' : Heap} {k : NestedKey} {v : Value} (x : NestedIs h k v) (hk : ∀ b o, h.get? b = some o → h'.get? b = some o) : NestedIs h' k v := NestedIs.at (fun b o _ _ e _ => hk b o e) k v x
theorem fresh_set {h : Heap} {ob : Obj} (hob : ({ cls := .type "set", dict := none, data := .set #[] 0 (.fresh 0 0 (!w.params.followText "set-order")) } : Obj) = ob) (ho : h.get? a = some ob) : SetG w h a [] #[] 0 (.fresh 0 0 (!w.params.followText "set-order")) := by
  subst hob
  refine ⟨⟨_, ho, ⟨rfl, rfl, rfl⟩, rfl⟩, rfl, ⟨List.Pairwise.nil, rfl, rfl, .inl rfl, fun x hx => (by cases hx), fun i h j e => (by simp [hss] at e)⟩, List.nodup_nil, fun p hp => (by cases hp), ?_, (show 0 * 5 < 7 * 3 by decide), by decide⟩
  cases w.params.followText "set-order"
  · exact .inr rfl
  · exact .inl rfl
theorem upd_loop {I : Addr} {fp wr : List Addr} {G : Array GenState → Array GenState → Prop} {n : Nat} {Pv : Nat → Value → Prop} {St : Nat → Shared → Prop} {Fo : Result → Shared → Prop}
    (W : WalksS P w A.in1 I fp wr G n Pv St) (S : Addr) (hSf : S ∉ fp) (ks : List Row) (hn : n = ks.length) (hfew : ks.length < 64) (hval : ∀ i v, Pv i v → ∃ p, ks[i]? = some p ∧ p.2 = v)
    (h0 : Heap) (hk : ∀ p ∈ ks, NestedIs h0 p.1 p.2 ∧ p.1.depth ≤ 8) (hfit : Alike ks) (hS0 : h0.get? S = none) (hw0 : ∀ b ∈ wr, h0.get? b = none) (hu : A.in1.units + 9 < cLine) :
    ∀ (m i : Nat) (s : Shared), n - i = m → i ≤ n → St i s → (∀ b o, h0.get? b = some o → s.heap.get? b = some o) → (∃ L es ep t, SetG w s.heap S L es ep t ∧ HasTo ks i L) →
      (∀ s' L es ep t, Moved (S :: wr) G s s' → SetG w s'.heap S L es ep t → HasTo ks n L → (∀ b o, h0.get? b = some o → s'.heap.get? b = some o) → Fo (.ok (.ret .none)) s') →
      codeAny (model P w) A (.builtin "set.update.loop" ⟨[.ref S, .ref I], []⟩) Fo s := by
  have hSw : S ∉ wr := fun z => hSf (W.sub _ z)
  have wider : ∀ b ∈ wr, b ∈ S :: wr := fun b hb => List.mem_cons_of_mem _ hb
  have old : ∀ {s s' : Shared}, Moved wr G s s' → (∀ b o, h0.get? b = some o → s.heap.get? b = some o) → ∀ b o, h0.get? b = some o → s'.heap.get? b = some o := fun hm hkp b o e =>
    hm.heap b o (fun hb => by rw [hw0 b hb] at e; cases e) (hkp b o e)
  intro m
  induction m with
  | zero =>
    intro i s hm hi hst hkp ⟨L, es, ep, t, R, g⟩ hF
    obtain rfl : i = n := by omega
    refine codeAny_builtin F.entry_set_update_loop ?_
    rw [Around.under_plainId F.plain_set_update_loop _]
    show wpAny _ A.in1 (pyNext (.ref I) >>= _) _ _ s
    refine wpAny_bind (W.done s _ _ hst fun s' mv => ?_)
    have hkp' := old mv hkp
    refine wpAny_pure (hF s' L es ep t (mv.mono wider) (R.keep (fun o e => mv.heap S o hSw e) fun p hp => ?_) g hkp')
    have hpk := hk p (List.mem_of_mem_take (g.sub p hp))
    exact ⟨key_all hpk.1 hkp', hpk.2⟩
  | succ m ih =>
    intro i s hm hi hst hkp ⟨L, es, ep, t, R, g⟩ hF
    have hlt : i < n := by omega
    refine codeAny_builtin F.entry_set_update_loop ?_
    rw [Around.under_plainId F.plain_set_update_loop _]
    show wpAny _ A.in1 (pyNext (.ref I) >>= _) _ _ s
    refine wpAny_bind (W.item i s _ _ hlt hst fun v s' hP hst' mv => ?_)
    obtain ⟨p, hp, rfl⟩ := hval i v hP
    have hkp' := old mv hkp
    have hLk : ∀ q ∈ L, q ∈ ks := fun q hq => List.mem_of_mem_take (g.sub q hq)
    have R' : SetG w s'.heap S L es ep t := R.keep (fun o e => mv.heap S o hSw e) fun q hq => ⟨key_all (hk q (hLk q hq)).1 hkp', (hk q (hLk q hq)).2⟩
    have hpm := List.mem_of_getElem? hp
    have hx := key_all (hk p hpm).1 hkp'
    have htk : ks.take (i + 1) = ks.take i ++ [p] := by rw [List.take_succ, hp]; rfl
    show wpAny _ A.in1 (holding [p.2] (setAdd S p.2) >>= _) _ _ s'
    refine wpAny_bind (wpAny_holding ?_)
    unfold setAdd
    refine wpAny_holding ?_
    refine wpAny_bind (pyHash_key p.1 p.2 _ _ _ hx (by have := (hk p hpm).2; omega) ?_)
    -- what comes behind the adding
    have next : ∀ (b : Bool) (h' : Heap) L' es' ep' t', Heap.SameBut S s'.heap h' → SetG w h' S L' es' ep' t' → HasTo ks (i + 1) L' → wpAny (model P w) A.in1 (again (.builtin "set.update.loop" ⟨[.ref S, .ref I], []⟩)) (fun r s₂ => match r with | .done fl => Fo (.ok fl) s₂ | .again c => Code.quiet c ∧ codeAny (model P w) A c Fo s₂) (fun e s₂ => Fo (.error e) s₂) { s' with heap := h', toks := s'.toks + p.1.draws } := fun b h' L' es' ep' t' sb R2 g2 => by
      have hkp2 : ∀ b o, h0.get? b = some o → h'.get? b = some o := fun b o e => (sb.2 b (fun z => by rw [z, hS0] at e; cases e)).trans (hkp' b o e)
      refine wpAny_pure ⟨plainId_quiet F.plain_set_update_loop _, ih (i + 1) _ (by omega) hlt (W.frame _ s' _ _ hst' (Nat.le_add_right _ _) fun b hb o e => ?_) hkp2 ⟨L', es', ep', t', R2, g2⟩ fun s'' L2 es2 ep2 t2 mv2 R3 g3 hkp3 => ?_⟩
      · exact (sb.2 b fun z => hSf (z ▸ hb)).trans e
      · refine hF s'' L2 es2 ep2 t2 (Moved.trans W.gtrans ((mv.mono wider).then_heap (Nat.le_add_right _ _) fun b o hb e => ?_) mv2) R3 g3 hkp3
        exact (sb.2 b fun z => hb (by rw [z]; exact List.mem_cons_self ..)).trans e
    refine add_row (s := { s' with toks := s'.toks + p.1.draws }) R' (hfit.fit hLk hpm) hx (hk p hpm).2 hu (by have := g.len; omega) (fun hm2 => ?_) fun hm2 h' L' mo => ?_
    · refine next false s'.heap L es ep t (Heap.SameBut.refl ..) R' ⟨fun q hq => ?_, fun q hq => ?_, Nat.le_succ_of_le g.len⟩
      · rw [htk]; exact List.mem_append_left _ (g.sub q hq)
      · rw [htk] at hq
        rcases List.mem_append.mp hq with z | z
        · exact g.all q z
        · rw [List.mem_singleton.mp z]; exact hm2
    · obtain ⟨es', ep', t', R2⟩ := mo.set
      refine next true h' L' es' ep' t' mo.sb R2 ⟨fun q hq => ?_, fun q hq => ?_, by rw [mo.pm.length_eq, List.length_cons]; have := g.len; omega⟩
      · rw [htk]
        rcases List.mem_cons.mp (mo.pm.mem_iff.mp hq) with z | z
        · rw [z]; exact List.mem_append_right _ (List.mem_singleton.mpr rfl)
        · exact List.mem_append_left _ (g.sub q z)
      · rw [(mo.pm.map (·.1)).mem_iff, List.map_cons]
        rw [htk] at hq
        rcases List.mem_append.mp hq with z | z
        · exact List.mem_cons_of_mem _ (g.all q z)
        · rw [List.mem_singleton.mp z]; exact List.mem_cons_self ..
end
end GS
/-! BL48: set(xs) of a list, of a tuple. -/
namespace GS
open PySem PySem.Spec PyProof.Rows L2
section
variable {P : Program} {w : World} {A : Around} {E : Value → Shared → Prop}
set_option maxHeartbeats 8000000 in
/-- set(xs), xs a list -/
theorem call_set_list {s : Shared} {l : Addr} {items : Array Value} (ks : List Row) {Q : Value → Shared → Prop} (hh : A.handled = none) (hl : s.heap.IsList l items) (hit : items.toList = ks.map (·.2))
    (hk : ∀ p ∈ ks, NestedIs s.heap p.1 p.2 ∧ p.1.depth ≤ 8) (hfit : Alike ks) (hfew : ks.length < 64) (hu : A.units + 14 < cLine)
    (fin : ∀ (h' : Heap) (tk : Nat) L es ep t, SetG w h' s.heap.objs.size L es ep t → Has ks L → (∀ b o, s.heap.get? b = some o → h'.get? b = some o) → Q (.ref s.heap.objs.size) { s with heap := h', toks := tk }) :
    wpAny (model P w) A (call (.type "set") [.ref l]) Q E s := by
  have hz : items.size = ks.length := by rw [← Array.length_toList, hit, List.length_map]
  obtain ⟨c, tl, hmro⟩ := F.called_set.mro
  have m1 := F.called_set.made
  have m2 := F.called_set.sub
  have m3 := F.called_set.notType
  have m4 := F.called_set.canCreate
  have m5 := F.typeCall_set_1 (.ref l)
  refine wpAny_call (codeAny_of_tree ?_)
  show wpAny _ _ (callAny (.type "set") _) _ _ _
  refine wpAny_pure ⟨Code.quiet_builtin _ (by decide +kernel), codeAny_builtin F.entry_type_call ?_⟩
  rw [Around.under_plain (weight_type_call_type "set" [.ref l] []) rfl]
  repeat (any_goals (first | assumption | wp_step))
  generalize hob : ({ cls := .type "set", dict := none, data := .set #[] 0 (.fresh 0 0 (!w.params.followText "set-order")) } : Obj) = ob
  refine codeAny_mono (code_set_led1 (.ref l) (E := E) (Q₁ := fun r s₁ => r = .ref s.heap.objs.size ∧ s₁ = { s with heap := s.heap.push ob }) ⟨rfl, by rw [← hob]⟩) fun r s₁ hr => ?_
  cases r with
  | error e => exact hr
  | ok fl =>
    cases fl with
    | ret r =>
      obtain ⟨rfl, rfl⟩ := hr
      have hS : (s.heap.push ob).get? s.heap.objs.size = some ob := Heap.get?_push_size _ (by rw [← hob]; rfl)
      have hT : Shared.TypeIs { s with heap := s.heap.push ob } (.ref s.heap.objs.size) "set" := ⟨ob, hS, by rw [← hob]⟩
      have m6 := F.called_set.init.lookup
      have m7 := F.called_set.init.bind (.ref s.heap.objs.size)
      repeat (any_goals (first | assumption | wp_step))
      refine codeAny_mono (codeAny_call_builtin (R := wants (fun r s₂ => r = .none ∧ ∃ h' tk L es ep t, s₂ = { s with heap := h', toks := tk } ∧ SetG w h' s.heap.objs.size L es ep t ∧ Has ks L ∧ ∀ b o, s.heap.get? b = some o → h'.get? b = some o) E)
        F.called_set.init.plain F.entry_set_init (check_set_init_1 hT ?_)) fun r₂ s₂ hr₂ => ?_
      · have hl1 := hl.push ob
        have hlt : l < s.heap.objs.size := let ⟨_, e, _⟩ := hl; Heap.lt_size e
        obtain ⟨⟨ocls, odict, odata, oslots⟩, hol, hcl, nl, hdl⟩ := id hl1
        simp only at hcl hdl
        subst hcl hdl
        have m8 := F.sub_list_set
        have m9 := F.sub_list_frozenset
        have m10 : (Value.type "list" == Value.type "dict") = false := by decide
        have hz1 : (s.heap.push ob).objs.size = s.heap.objs.size + 1 := Heap.size_push ..
        have hne : l ≠ (s.heap.push ob).objs.size := by rw [hz1]; exact Nat.ne_of_lt (Nat.lt_succ_of_lt hlt)
        have hnS : s.heap.objs.size ≠ (s.heap.push ob).objs.size := by rw [hz1]; exact Nat.ne_of_lt (Nat.lt_succ_self _)
        have hSf : s.heap.objs.size ∉ [(s.heap.push ob).objs.size, l] := fun z => by
          rcases List.mem_cons.mp z with e | z
          · exact hnS e
          · rw [List.mem_singleton.mp z] at hlt; exact Nat.lt_irrefl _ hlt
        have hge : s.heap.objs.size ≤ (s.heap.push ob).objs.size := by rw [hz1]; exact Nat.le_succ _
        have hfr : ∀ {h : Heap}, h.get? s.heap.objs.size = some ob → SetG w h s.heap.objs.size [] #[] 0 (.fresh 0 0 (!w.params.followText "set-order")) := fun e => fresh_set hob e
        subst hob
        unfold Builtin.«set.__init__» noKeywords Builtin.Frozenset.updateFrom
        generalize hPI : pyIter = PI
        wp_walk
        subst hPI
        refine wpAny_pyIter_list (s := { s with heap := _ }) hl1 ?_
        refine wpAny_bind (wpAny_runValue ?_)
        have fresh : ∀ b, s.heap.objs.size ≤ b → s.heap.get? b = none := fun b hb => by
          cases q : s.heap.get? b with
          | none => rfl
          | some o => exact absurd (Nat.lt_of_lt_of_le (Heap.lt_size q) hb) (Nat.lt_irrefl _)
        refine upd_loop ((Walks.list (by simp [hh]) _ l hne items).toS) s.heap.objs.size hSf ks hz hfew
          (fun i v hv => ?_) s.heap hk hfit (fresh _ (Nat.le_refl _)) (fun b hb => fresh b (by rw [List.mem_singleton.mp hb]; exact hge)) (by simp only [Around.in1_units]; omega) (items.size - 0) 0 _ (by omega) (Nat.zero_le _)
          ⟨⟨_, Heap.get?_push_size _ rfl, rfl, rfl⟩, hl1.push _⟩ (fun b o e => Heap.get?_push_of_some _ (Heap.get?_push_of_some _ e)) ⟨[], #[], 0, .fresh 0 0 (!w.params.followText "set-order"), ?_, ⟨fun p hp => (by cases hp), fun p hp => (by simp at hp), Nat.zero_le _⟩⟩ fun s' L es ep t hm R g hkp => ?_
        · have q : (ks.map (·.2))[i]? = some v := by rw [← hit, Array.getElem?_toList]; exact hv
          rw [List.getElem?_map] at q
          cases e : ks[i]? with
          | none => rw [e] at q; cases q
          | some p => rw [e] at q; exact ⟨p, rfl, Option.some.inj q⟩
        · exact hfr (Heap.get?_push_of_some _ hS)
        · obtain ⟨h', g2, d2, tk, os2⟩ := s'
          obtain rfl : g2 = s.gens := hm.gens
          obtain rfl : d2 = s.drawn := hm.drawn
          obtain rfl : os2 = s.os := hm.os
          rw [hz] at g
          refine wpAny_pure (wpAny_pure ⟨rfl, h', tk, L, es, ep, t, rfl, R, g.has, hkp⟩)
      · cases r₂ with
        | error e => exact hr₂
        | ok fl₂ =>
          cases fl₂ with
          | ret r =>
            obtain ⟨rfl, h', tk, L, es, ep, t, rfl, R, g, hkp⟩ := hr₂
            repeat (any_goals (first | assumption | wp_step))
            exact fin _ _ _ _ _ _ R g hkp
          | _ => exact hr₂.elim
    | _ => exact hr.elim
set_option maxHeartbeats 8000000 in
/-- set(xs), xs a tuple -/
theorem call_set_tuple {s : Shared} {l : Addr} {items : Array Value} (ks : List Row) {Q : Value → Shared → Prop} (hh : A.handled = none) (hl : s.heap.IsTuple l items) (hit : items.toList = ks.map (·.2))
    (hk : ∀ p ∈ ks, NestedIs s.heap p.1 p.2 ∧ p.1.depth ≤ 8) (hfit : Alike ks) (hfew : ks.length < 64) (hu : A.units + 14 < cLine)
    (fin : ∀ (h' : Heap) (tk : Nat) L es ep t, SetG w h' s.heap.objs.size L es ep t → Has ks L → (∀ b o, s.heap.get? b = some o → h'.get? b = some o) → Q (.ref s.heap.objs.size) { s with heap := h', toks := tk }) :
    wpAny (model P w) A (call (.type "set") [.ref l]) Q E s := by
  have hz : items.size = ks.length := by rw [← Array.length_toList, hit, List.length_map]
  obtain ⟨c, tl, hmro⟩ := F.called_set.mro
  have m1 := F.called_set.made
  have m2 := F.called_set.sub
  have m3 := F.called_set.notType
  have m4 := F.called_set.canCreate
  have m5 := F.typeCall_set_1 (.ref l)
  refine wpAny_call (codeAny_of_tree ?_)
  show wpAny _ _ (callAny (.type "set") _) _ _ _
  refine wpAny_pure ⟨Code.quiet_builtin _ (by decide +kernel), codeAny_builtin F.entry_type_call ?_⟩
  rw [Around.under_plain (weight_type_call_type "set" [.ref l] []) rfl]
  repeat (any_goals (first | assumption | wp_step))
  generalize hob : ({ cls := .type "set", dict := none, data := .set #[] 0 (.fresh 0 0 (!w.params.followText "set-order")) } : Obj) = ob
  refine codeAny_mono (code_set_led1 (.ref l) (E := E) (Q₁ := fun r s₁ => r = .ref s.heap.objs.size ∧ s₁ = { s with heap := s.heap.push ob }) ⟨rfl, by rw [← hob]⟩) fun r s₁ hr => ?_
  cases r with
  | error e => exact hr
  | ok fl =>
    cases fl with
    | ret r =>
      obtain ⟨rfl, rfl⟩ := hr
      have hS : (s.heap.push ob).get? s.heap.objs.size = some ob := Heap.get?_push_size _ (by rw [← hob]; rfl)
      have hT : Shared.TypeIs { s with heap := s.heap.push ob } (.ref s.heap.objs.size) "set" := ⟨ob, hS, by rw [← hob]⟩
      have m6 := F.called_set.init.lookup
      have m7 := F.called_set.init.bind (.ref s.heap.objs.size)
      repeat (any_goals (first | assumption | wp_step))
      refine codeAny_mono (codeAny_call_builtin (R := wants (fun r s₂ => r = .none ∧ ∃ h' tk L es ep t, s₂ = { s with heap := h', toks := tk } ∧ SetG w h' s.heap.objs.size L es ep t ∧ Has ks L ∧ ∀ b o, s.heap.get? b = some o → h'.get? b = some o) E)
        F.called_set.init.plain F.entry_set_init (check_set_init_1 hT ?_)) fun r₂ s₂ hr₂ => ?_
      · have hl1 := hl.push ob
        have hlt : l < s.heap.objs.size := let ⟨_, e, _⟩ := hl; Heap.lt_size e
        obtain ⟨⟨ocls, odict, odata, oslots⟩, hol, hcl, nl, hdl⟩ := id hl1
        simp only at hcl hdl
        subst hcl hdl
        have m8 := F.sub_tuple_set
        have m9 := F.sub_tuple_frozenset
        have m10 : (Value.type "tuple" == Value.type "dict") = false := by decide
        have hz1 : (s.heap.push ob).objs.size = s.heap.objs.size + 1 := Heap.size_push ..
        have hne : l ≠ (s.heap.push ob).objs.size := by rw [hz1]; exact Nat.ne_of_lt (Nat.lt_succ_of_lt hlt)
        have hnS : s.heap.objs.size ≠ (s.heap.push ob).objs.size := by rw [hz1]; exact Nat.ne_of_lt (Nat.lt_succ_self _)
        have hSf : s.heap.objs.size ∉ [(s.heap.push ob).objs.size, l] := fun z => by
          rcases List.mem_cons.mp z with e | z
          · exact hnS e
          · rw [List.mem_singleton.mp z] at hlt; exact Nat.lt_irrefl _ hlt
        have hge : s.heap.objs.size ≤ (s.heap.push ob).objs.size := by rw [hz1]; exact Nat.le_succ _
        have hfr : ∀ {h : Heap}, h.get? s.heap.objs.size = some ob → SetG w h s.heap.objs.size [] #[] 0 (.fresh 0 0 (!w.params.followText "set-order")) := fun e => fresh_set hob e
        subst hob
        unfold Builtin.«set.__init__» noKeywords Builtin.Frozenset.updateFrom
        generalize hPI : pyIter = PI
        wp_walk
        subst hPI
        refine wpAny_pyIter_tuple (s := { s with heap := _ }) hl1 ?_
        refine wpAny_bind (wpAny_runValue ?_)
        have fresh : ∀ b, s.heap.objs.size ≤ b → s.heap.get? b = none := fun b hb => by
          cases q : s.heap.get? b with
          | none => rfl
          | some o => exact absurd (Nat.lt_of_lt_of_le (Heap.lt_size q) hb) (Nat.lt_irrefl _)
        refine upd_loop ((Walks.tuple (by simp [hh]) _ l hne items).toS) s.heap.objs.size hSf ks hz hfew
          (fun i v hv => ?_) s.heap hk hfit (fresh _ (Nat.le_refl _)) (fun b hb => fresh b (by rw [List.mem_singleton.mp hb]; exact hge)) (by simp only [Around.in1_units]; omega) (items.size - 0) 0 _ (by omega) (Nat.zero_le _)
          ⟨⟨_, Heap.get?_push_size _ rfl, rfl, rfl⟩, hl1.push _⟩ (fun b o e => Heap.get?_push_of_some _ (Heap.get?_push_of_some _ e)) ⟨[], #[], 0, .fresh 0 0 (!w.params.followText "set-order"), ?_, ⟨fun p hp => (by cases hp), fun p hp => (by simp at hp), Nat.zero_le _⟩⟩ fun s' L es ep t hm R g hkp => ?_
        · have q : (ks.map (·.2))[i]? = some v := by rw [← hit, Array.getElem?_toList]; exact hv
          rw [List.getElem?_map] at q
          cases e : ks[i]? with
          | none => rw [e] at q; cases q
          | some p => rw [e] at q; exact ⟨p, rfl, Option.some.inj q⟩
        · exact hfr (Heap.get?_push_of_some _ hS)
        · obtain ⟨h', g2, d2, tk, os2⟩ := s'
          obtain rfl : g2 = s.gens := hm.gens
          obtain rfl : d2 = s.drawn := hm.drawn
          obtain rfl : os2 = s.os := hm.os
          rw [hz] at g
          refine wpAny_pure (wpAny_pure ⟨rfl, h', tk, L, es, ep, t, rfl, R, g.has, hkp⟩)
      · cases r₂ with
        | error e => exact hr₂
        | ok fl₂ =>
          cases fl₂ with
          | ret r =>
            obtain ⟨rfl, h', tk, L, es, ep, t, rfl, R, g, hkp⟩ := hr₂
            repeat (any_goals (first | assumption | wp_step))
            exact fin _ _ _ _ _ _ R g hkp
          | _ => exact hr₂.elim
    | _ => exact hr.elim
end
end GS
/-! BL49: len(set(xs)), sorted(set(xs)). -/
namespace GS
open PySem PySem.Spec PyProof.Rows L2 PySem.W
mutual
/-- data as a key: no bools, no lists -/
def nk : PyData → Option NestedKey
  | .none => some .none
  | .int i => some (.num i)
  | .str x => some (.text x)
  | .tuple xs => (nks xs).map .tup
  | .bool _ => none
  | .list _ => none
  | .dict _ => none
def nks : List PyData → Option (List NestedKey)
  | [] => some []
  | x :: r => (nk x).bind fun k => (nks r).map (k :: ·)
end
theorem nks_cons {x : PyData} {r : List PyData} {ks : List NestedKey} (h : nks (x :: r) = some ks) : ∃ k l, nk x = some k ∧ nks r = some l ∧ ks = k :: l := by
  simp only [nks, Option.bind_eq_some_iff, Option.map_eq_some_iff] at h
  obtain ⟨k, h1, l, h2, rfl⟩ := h
  exact ⟨k, l, h1, h2, rfl⟩
mutual
theorem nk_data : ∀ {d : PyData} {k : NestedKey}, nk d = some k → k.data = d
  | .none, _, h => by cases h; rfl
  | .int i, _, h => by cases h; rfl
  | .str x, _, h => by cases h; rfl
  | .tuple xs, k, h => by
    simp only [nk, Option.map_eq_some_iff] at h
    obtain ⟨l, h1, rfl⟩ := h
    rw [NestedKey.data, nks_data h1]
  | .bool _, _, h => by simp [nk] at h
  | .list _, _, h => by simp [nk] at h
  | .dict _, _, h => by simp [nk] at h
theorem nks_data : ∀ {ds : List PyData} {ks : List NestedKey}, nks ds = some ks → NestedKey.datas ks = ds
  | [], _, h => by cases h; rfl
  | x :: r, _, h => by
    obtain ⟨k, l, h1, h2, rfl⟩ := nks_cons h
    rw [NestedKey.datas, nk_data h1, nks_data h2]
end
theorem nk_inj {d d' : PyData} {k : NestedKey} (h : nk d = some k) (h' : nk d' = some k) : d = d' := (nk_data h).symm.trans (nk_data h')
section
variable {X : Cx} {pins : List (Addr × Obj)} {σ : L2.St} {H : Hp} {s : Shared}
mutual
theorem nested_of (I : Inv X pins σ H s) : ∀ (d : PyData) (v : V) (u : Value) (k : NestedKey), Dp X.K H v d → RelV v u → nk d = some k → NestedIs s.heap k u ∧ Reads s.heap u d []
  | .none, _, _, _, .non, r, e => by cases e; cases r; exact ⟨.none, .none⟩
  | .int i, _, _, _, .int _, r, e => by cases e; obtain ⟨t, rfl⟩ := r; exact ⟨.int i t, .int i t⟩
  | .str x, _, _, _, .str _, r, e => by cases e; obtain ⟨t, rfl⟩ := r; exact ⟨.text x t, .str x t⟩
  | .tuple ds, _, _, k, .tup hS ha, r, e => by
    simp only [nk, Option.map_eq_some_iff] at e
    obtain ⟨ks, e, rfl⟩ := e
    cases r
    obtain ⟨its, rv, ⟨o, ho, hc, n, hd⟩, _⟩ := I.tuple hS
    obtain ⟨h1, h2⟩ := nested_all I ds _ its ks ha rv e
    exact ⟨.tup ho hc hd (by simpa using h1), .tuple ho hc hd (by simpa using h2)⟩
  | .bool _, _, _, _, _, _, e => by simp [nk] at e
  | .list _, _, _, _, _, _, e => by simp [nk] at e
  | .dict _, _, _, _, _, _, e => by simp [nk] at e
theorem nested_all (I : Inv X pins σ H s) : ∀ (ds : List PyData) (vs : List V) (us : List Value) (ks : List NestedKey), DpAll X.K H vs ds → Vals vs us → nks ds = some ks → NestedAll s.heap ks us ∧ ReadsAll s.heap us ds []
  | [], _, _, _, .nil, .nil, e => by cases e; exact ⟨.nil, .nil⟩
  | d :: ds, _, _, _, .cons h1 h2, .cons r1 r2, e => by
    obtain ⟨k, l, e1, e2, rfl⟩ := nks_cons e
    obtain ⟨a1, a2⟩ := nested_of I d _ _ k h1 r1 e1
    obtain ⟨b1, b2⟩ := nested_all I ds _ _ l h2 r2 e2
    exact ⟨.cons a1 b1, .cons (as := []) a2 b2⟩
end
end
/-! ### rows and data -/
/-- data with its value -/
abbrev Bit := PyData × V
inductive RowsOf (h : Heap) : List Bit → List Row → Prop
  | nil : RowsOf h [] []
  | cons {b : Bit} {r : Row} {L : List Bit} {R : List Row} : nk b.1 = some r.1 → RelV b.2 r.2 ∧ Reads h r.2 b.1 [] → RowsOf h L R → RowsOf h (b :: L) (r :: R)
theorem RowsOf.len {h : Heap} : ∀ {L : List Bit} {R : List Row}, RowsOf h L R → L.length = R.length
  | _, _, .nil => rfl
  | _, _, .cons _ _ t => by rw [List.length_cons, List.length_cons, RowsOf.len t]
theorem RowsOf.mem {h : Heap} : ∀ {L : List Bit} {R : List Row} {r : Row}, RowsOf h L R → r ∈ R → ∃ b ∈ L, nk b.1 = some r.1 ∧ RelV b.2 r.2 ∧ Reads h r.2 b.1 []
  | _, _, _, .nil, h => by cases h
  | _, _, _, .cons h1 h2 t, h => by
    rcases List.mem_cons.mp h with rfl | h
    · exact ⟨_, List.mem_cons_self .., h1, h2⟩
    · obtain ⟨b, hb, e⟩ := RowsOf.mem t h
      exact ⟨b, List.mem_cons_of_mem _ hb, e⟩
theorem RowsOf.mem' {h : Heap} : ∀ {L : List Bit} {R : List Row} {b : Bit}, RowsOf h L R → b ∈ L → ∃ r ∈ R, nk b.1 = some r.1 ∧ RelV b.2 r.2 ∧ Reads h r.2 b.1 []
  | _, _, _, .nil, h => by cases h
  | _, _, _, .cons h1 h2 t, h => by
    rcases List.mem_cons.mp h with rfl | h
    · exact ⟨_, List.mem_cons_self .., h1, h2⟩
    · obtain ⟨b, hb, e⟩ := RowsOf.mem' t h
      exact ⟨b, List.mem_cons_of_mem _ hb, e⟩
/-- rows picked out of others -/
theorem RowsOf.pick {h : Heap} {L : List Bit} {R : List Row} (g : RowsOf h L R) : ∀ (R' : List Row), (∀ r ∈ R', r ∈ R) → ∃ L', RowsOf h L' R' ∧ ∀ b ∈ L', b ∈ L
  | [], _ => ⟨[], .nil, fun _ hb => by cases hb⟩
  | r :: R', hs => by
    obtain ⟨b, hb, h1, h2⟩ := g.mem (hs r (List.mem_cons_self ..))
    obtain ⟨L', t, hL⟩ := RowsOf.pick g R' fun q hq => hs q (List.mem_cons_of_mem _ hq)
    exact ⟨b :: L', .cons h1 h2 t, fun c hc => by
      rcases List.mem_cons.mp hc with rfl | hc
      · exact hb
      · exact hL c hc⟩
theorem RowsOf.nodup {h : Heap} : ∀ {L : List Bit} {R : List Row}, RowsOf h L R → (R.map (·.1)).Nodup → (L.map (·.1)).Nodup
  | _, _, .nil, _ => List.nodup_nil
  | _, _, .cons (b := b) (r := r) (L := L) h1 h2 t, g => by
    rw [List.map_cons, List.nodup_cons] at g ⊢
    refine ⟨fun hm => g.1 ?_, RowsOf.nodup t g.2⟩
    obtain ⟨c, hc, e⟩ := List.mem_map.mp hm
    obtain ⟨q, hq, e1, _⟩ := RowsOf.mem' t hc
    rw [e, h1] at e1
    exact List.mem_map.mpr ⟨q, hq, (Option.some.inj e1).symm⟩
theorem RowsOf.each {h : Heap} : ∀ {L : List Bit} {R : List Row}, RowsOf h L R → EachIs (fun v b => RelV b.2 v) (R.map (·.2)) L
  | _, _, .nil => .nil
  | _, _, .cons _ h2 t => .cons h2.1 (RowsOf.each t)
theorem RowsOf.eachR {h : Heap} : ∀ {L : List Bit} {R : List Row}, RowsOf h L R → EachIs (fun v b => Reads h v b.1 []) (R.map (·.2)) L
  | _, _, .nil => .nil
  | _, _, .cons _ h2 t => .cons h2.2 (RowsOf.eachR t)
theorem RowsOf.keep {h h' : Heap} (hk : ∀ b o, h.get? b = some o → h'.get? b = some o) : ∀ {L : List Bit} {R : List Row}, RowsOf h L R → RowsOf h' L R
  | _, _, .nil => .nil
  | _, _, .cons h1 h2 t => .cons h1 ⟨h2.1, PyProof.Rows.Reads.keeps hk h2.2⟩ (RowsOf.keep hk t)
/-- a list whose second parts are another's, in some order -/
theorem perm_second {α β : Type} {l : List (α × β)} {vs : List β} (h : vs.Perm (l.map (·.2))) : ∃ l' : List (α × β), l'.Perm l ∧ l'.map (·.2) = vs := by
  generalize hm : l.map (·.2) = ms at h
  induction h generalizing l with
  | nil =>
    cases l with
    | nil => exact ⟨[], List.Perm.nil, rfl⟩
    | cons a b => cases hm
  | cons x h ih =>
    cases l with
    | nil => cases hm
    | cons a b =>
      simp only [List.map_cons, List.cons.injEq] at hm
      obtain ⟨l', p, e⟩ := ih hm.2
      exact ⟨a :: l', p.cons a, by rw [List.map_cons, e, hm.1]⟩
  | swap x y r =>
    cases l with
    | nil => cases hm
    | cons a b =>
      cases b with
      | nil => simp at hm
      | cons c d =>
        simp only [List.map_cons, List.cons.injEq] at hm
        exact ⟨c :: a :: d, .swap a c d, by rw [List.map_cons, List.map_cons, hm.1, hm.2.1, hm.2.2]⟩
  | trans h1 h2 ih1 ih2 =>
    obtain ⟨l1, p1, e1⟩ := ih2 hm
    obtain ⟨l2, p2, e2⟩ := ih1 e1
    exact ⟨l2, p2.trans p1, e2⟩
theorem RowsOf.perm {h : Heap} {R R' : List Row} (g : R'.Perm R) : ∀ {L : List Bit}, RowsOf h L R → ∃ L', L'.Perm L ∧ RowsOf h L' R' := by
  induction g with
  | nil => intro L t; cases t; exact ⟨[], .nil, .nil⟩
  | cons x h ih =>
    intro L t
    cases t with
    | cons h1 h2 t =>
      obtain ⟨L', p, q⟩ := ih t
      exact ⟨_ :: L', p.cons _, .cons h1 h2 q⟩
  | swap x y r =>
    intro L t
    cases t with
    | cons h1 h2 t =>
      cases t with
      | cons h3 h4 t => exact ⟨_ :: _ :: _, .swap .., .cons h3 h4 (.cons h1 h2 t)⟩
  | trans h1 h2 ih1 ih2 =>
    intro L t
    obtain ⟨L1, p1, q1⟩ := ih2 t
    obtain ⟨L2, p2, q2⟩ := ih1 q1
    exact ⟨L2, p2.trans p1, q2⟩
/-! ### the order of data -/
mutual
theorem eqv_nk : ∀ {d d' : PyData} {k k' : NestedKey}, PyData.eqv d d' = true → nk d = some k → nk d' = some k' → k = k'
  | .none, .none, _, _, _, h, h' => by cases h; cases h'; rfl
  | .int i, .int j, _, _, e, h, h' => by
    cases h; cases h'
    simp only [B.eqv_int, decide_eq_true_eq] at e
    rw [e]
  | .str i, .str j, _, _, e, h, h' => by
    cases h; cases h'
    simp only [B.eqv_str, decide_eq_true_eq] at e
    rw [e]
  | .tuple xs, .tuple ys, k, k', e, h, h' => by
    simp only [nk, Option.map_eq_some_iff] at h h'
    obtain ⟨l, h1, rfl⟩ := h
    obtain ⟨l', h2, rfl⟩ := h'
    simp only [PyData.eqv] at e
    rw [eqv_nks e h1 h2]
  | .none, .int _, _, _, e, _, _ | .none, .str _, _, _, e, _, _ | .none, .tuple _, _, _, e, _, _ => by simp [PyData.eqv] at e
  | .int _, .none, _, _, e, _, _ | .int _, .str _, _, _, e, _, _ | .int _, .tuple _, _, _, e, _, _ => by simp [PyData.eqv] at e
  | .str _, .none, _, _, e, _, _ | .str _, .int _, _, _, e, _, _ | .str _, .tuple _, _, _, e, _, _ => by simp [PyData.eqv] at e
  | .tuple _, .none, _, _, e, _, _ | .tuple _, .int _, _, _, e, _, _ | .tuple _, .str _, _, _, e, _, _ => by simp [PyData.eqv] at e
  | .bool _, _, _, _, _, h, _ | .list _, _, _, _, _, h, _ | .dict _, _, _, _, _, h, _ => by simp [nk] at h
  | .none, .bool _, _, _, _, _, h | .none, .list _, _, _, _, _, h | .none, .dict _, _, _, _, _, h => by simp [nk] at h
  | .int _, .bool _, _, _, _, _, h | .int _, .list _, _, _, _, _, h | .int _, .dict _, _, _, _, _, h => by simp [nk] at h
  | .str _, .bool _, _, _, _, _, h | .str _, .list _, _, _, _, _, h | .str _, .dict _, _, _, _, _, h => by simp [nk] at h
  | .tuple _, .bool _, _, _, _, _, h | .tuple _, .list _, _, _, _, _, h | .tuple _, .dict _, _, _, _, _, h => by simp [nk] at h
theorem eqv_nks : ∀ {xs ys : List PyData} {k k' : List NestedKey}, PyData.eqvAll xs ys = true → nks xs = some k → nks ys = some k' → k = k'
  | [], [], _, _, _, h, h' => by cases h; cases h'; rfl
  | x :: xs, y :: ys, _, _, e, h, h' => by
    obtain ⟨k1, l1, a1, a2, rfl⟩ := nks_cons h
    obtain ⟨k2, l2, b1, b2, rfl⟩ := nks_cons h'
    rw [eqv_all_cons, Bool.and_eq_true] at e
    rw [eqv_nk e.1 a1 b1, eqv_nks e.2 a2 b2]
  | [], _ :: _, _, _, e, _, _ => by simp [PyData.eqvAll] at e
  | _ :: _, [], _, _, e, _, _ => by simp [PyData.eqvAll] at e
end
/-- of two alike data, each not behind the other, both are one -/
theorem le_anti {x y : PyData} {k k' : NestedKey} (ha : alike x y = true) (h1 : dataLe false id x y = true) (h2 : dataLe false id y x = true) (hk : nk x = some k) (hk' : nk y = some k') : x = y := by
  have e1 : PyProof.Rows.lexLt itemOrd (keyToks y) (keyToks x) = false := by simpa [dataLe, sortLe] using h1
  have e2 : PyProof.Rows.lexLt itemOrd (keyToks x) (keyToks y) = false := by simpa [dataLe, sortLe] using h2
  have e3 : keyToks x = keyToks y := (listOrd itemOrd).total _ _ e2 e1
  cases he : PyData.eqv x y with
  | true =>
    have := eqv_nk he hk hk'
    rw [← this] at hk'
    exact nk_inj hk hk'
  | false =>
    have h3 := (toks_eqv x y ha).2 he [] [.inl 0]
    rw [e2, e3, lex_pre] at h3
    exact absurd h3 (by decide)
theorem sorted_unique {α : Type} {r : α → α → Prop} : ∀ {l l' : List α}, l.Perm l' → l.Pairwise r → l'.Pairwise r → (∀ a ∈ l, ∀ b ∈ l, r a b → r b a → a = b) → l = l'
  | [], l', p, _, _, _ => (List.Perm.nil_eq p)
  | a :: l, [], p, _, _, _ => absurd p.length_eq (by simp)
  | a :: l, b :: l', p, h, h', anti => by
    rw [List.pairwise_cons] at h h'
    have ha : a ∈ b :: l' := p.mem_iff.mp (List.mem_cons_self ..)
    have hb : b ∈ a :: l := p.mem_iff.mpr (List.mem_cons_self ..)
    have e : a = b := by
      rcases List.mem_cons.mp ha with e | ha
      · exact e
      · rcases List.mem_cons.mp hb with e | hb
        · exact e.symm
        · exact anti a (List.mem_cons_self ..) b (List.mem_cons_of_mem _ hb) (h.1 b hb) (h'.1 a ha)
    subst e
    rw [sorted_unique (List.Perm.cons_inv p) h.2 h'.2 fun x hx y hy => anti x (List.mem_cons_of_mem _ hx) y (List.mem_cons_of_mem _ hy)]
/-! ### sorted -/
section
variable [B.Nm] [B.Gd] {P : Program} {w : World} {A : Around} {E : Value → Shared → Prop} {a : Addr} {L : List Row} {es : Array (Int × Value)} {ep : Nat} {t : SetTable}
theorem sorted_setG {s : Shared} (R : SetG w s.heap a L es ep t) (hh : A.handled = none) {bs : List Bit} (hb : RowsOf s.heap bs L) (ok : B.sortOk (bs.map (·.1)) = true) (hu : A.units + 80 < cLine) {Q : Value → Shared → Prop}
    (fin : ∀ s' p (out : List Value) (c : Nat) (bs' : List Bit), bs'.Perm bs → bs'.Pairwise (fun x y => dataLe false id x.1 y.1 = true) → EachIs (fun v b => RelV b.2 v) out bs' → (∀ b o, s.heap.get? b = some o → s'.heap.get? b = some o) → s'.gens = s.gens → s'.os = s.os → s.heap.objs.size ≤ p →
      s'.heap.get? p = some (seqObj "list" out.toArray c) → Q (.ref p) s') :
    wpAny (model P w) A (call (.builtin "sorted") [.ref a]) Q E s := by
  obtain ⟨o, ho, hex, hd⟩ := R.ob
  have hfew := R.few
  have hlen := hb.len
  obtain ⟨al, so, dp⟩ := B.sortOk_alike ok
  refine Calls.call_function_entry kind_sorted plain_sorted entry_sorted (args_sorted1 _) ?_
  unfold Builtin.«sorted»
  refine wpAny_bind (m := checkCount "sorted" 1 1 _) (wpAny_pure ?_)
  refine wpAny_bind (collect_set (A := A.in1) hh ⟨o, ho, hex.1, hd⟩ R.fits (by rw [R.size]; unfold scanBound; omega) R.tab.ris R.led fun s1 vs k1 z1 g1 o1 pm => ?_)
  have hes : es.toList.map (·.2) = L.map (·.2) := by rw [R.rows, rws, List.map_map]; rfl
  rw [hes] at pm
  obtain ⟨L1, pL, eL⟩ := perm_second pm
  obtain ⟨bs1, pb, hb1⟩ := RowsOf.perm pL hb
  have hvl : vs.length = bs.length := by rw [← eL, List.length_map, pL.length_eq, hlen]
  have mem1 : ∀ d, d ∈ bs1.map (·.1) ↔ d ∈ bs.map (·.1) := fun d => (pb.map (·.1)).mem_iff
  refine wpAny_bind (wpAny_newList ?_ (by rw [hvl, hlen, sizeLine_eq]; omega))
  have hoL : (s1.heap.push (seqObj "list" vs.toArray 0)).get? s1.heap.objs.size = some (seqObj "list" vs.toArray 0) := Heap.get?_push_size _ rfl
  have hR := hb1.keep (h' := s1.heap.push (seqObj "list" vs.toArray 0)) fun b u e => Heap.get?_push_of_some _ (k1 b u e)
  have e1 : EachIs (fun v (b : Bit) => RelV b.2 v) vs bs1 := by rw [← eL]; exact hR.each
  have e2 : EachIs (fun v (b : Bit) => ∃ as, Reads (s1.heap.push (seqObj "list" vs.toArray 0)) v b.1 as ∧ s1.heap.objs.size ∉ as) vs bs1 := by rw [← eL] at hR ⊢; exact hR.eachR.mono fun v b h => ⟨[], h, by simp⟩
  refine wpAny_bind (wpAny_holding (list_sort_data (s := { s1 with heap := s1.heap.push (seqObj "list" vs.toArray 0) }) (R := fun v (b : Bit) => RelV b.2 v) (enc := fun b => b.1) (bs := bs1) hoL e1 e2
    (fun d hd e he => al d ((mem1 d).mp hd) e ((mem1 e).mp he)) ?_ ?_ (fun b hm => ?_) fun out hol he => ?_))
  · rcases so with so | so
    · exact .inl fun d hd => so d ((mem1 d).mp hd)
    · exact .inr fun d hd => so d ((mem1 d).mp hd)
  · rw [pb.length_eq, hlen, sizeLine_eq]; omega
  · have := dp b.1 ((mem1 _).mp (List.mem_map.mpr ⟨b, hm, rfl⟩))
    simp only [Around.in1_units]
    omega
  · obtain ⟨c, hc⟩ := sortedHeap_at (vs := vs) (out := out.toArray) hoL
    have TL : TotalLe (dataLe false fun (b : Bit) => b.1) := sortLe_total _ _ _
    refine wpAny_pure ⟨_, rfl, fin _ s1.heap.objs.size out c (bs1.mergeSort (dataLe false fun b => b.1)) ((List.mergeSort_perm ..).trans pb) ?_ he (fun b u e => ?_) g1 o1 z1 hc⟩
    · exact List.pairwise_mergeSort (fun a b c => TL.trans a b c) (fun a b => by have := TL.total a b; simpa using this) bs1
    · have q := k1 b u e
      have hlt := Heap.lt_size q
      show (sortedHeap (s1.heap.push (seqObj "list" vs.toArray 0)) s1.heap.objs.size vs out.toArray).get? b = some u
      rw [sortedHeap_old (Nat.ne_of_lt hlt) (by rw [size_push']; exact Nat.lt_succ_of_lt hlt)]
      exact Heap.get?_push_of_some _ q
end
/-! ### readings -/
mutual
theorem nk_dep : ∀ {d : PyData} {k : NestedKey}, nk d = some k → k.depth = d.depth
  | .none, _, h => by cases h; rfl
  | .int i, _, h => by cases h; rfl
  | .str x, _, h => by cases h; rfl
  | .tuple xs, k, h => by
    simp only [nk, Option.map_eq_some_iff] at h
    obtain ⟨l, h1, rfl⟩ := h
    rw [NestedKey.depth, PyData.depth, nks_dep h1]
  | .bool _, _, h => by simp [nk] at h
  | .list _, _, h => by simp [nk] at h
  | .dict _, _, h => by simp [nk] at h
theorem nks_dep : ∀ {ds : List PyData} {ks : List NestedKey}, nks ds = some ks → NestedKey.depthAll ks = PyData.depthAll ds
  | [], _, h => by cases h; rfl
  | x :: r, _, h => by
    obtain ⟨k, l, h1, h2, rfl⟩ := nks_cons h
    rw [NestedKey.depthAll, PyData.depthAll, nk_dep h1, nks_dep h2]
end
def isTup : PyData → Bool
  | .tuple _ => true
  | _ => false
/-- what goes into a set: keys, all carried by value or all tuples, few -/
def setOk (ds : List PyData) : Bool := decide (ds.length < 64) && ((ds.all fun d => (nk d).isSome && decide (d.depth ≤ 8)) && ((ds.all fun d => !isTup d) || ds.all isTup))
def sameK (a b : PyData) : Bool := decide (nk a = nk b)
/-- without what came before -/
def dedP : List PyData → List PyData
  | [] => []
  | d :: r => d :: (dedP r).filter fun e => !sameK e d
theorem mem_ded {x : PyData} : ∀ {ds : List PyData}, (∀ d ∈ ds, (nk d).isSome = true) → (x ∈ dedP ds ↔ x ∈ ds)
  | [], _ => by simp [dedP]
  | d :: r, h => by
    have ih := mem_ded (x := x) (ds := r) fun e he => h e (List.mem_cons_of_mem _ he)
    simp only [dedP, List.mem_cons, List.mem_filter, Bool.not_eq_true', sameK, decide_eq_false_iff_not, ih]
    constructor
    · rintro (h1 | h1)
      · exact .inl h1
      · exact .inr h1.1
    · rintro (h1 | h1)
      · exact .inl h1
      · by_cases e : nk x = nk d
        · left
          have hx := h x (List.mem_cons_of_mem _ h1)
          obtain ⟨k, hk⟩ := Option.isSome_iff_exists.mp hx
          exact nk_inj hk (by rw [← e, hk])
        · exact .inr ⟨h1, e⟩
theorem nodup_ded : ∀ {ds : List PyData}, (dedP ds).Nodup
  | [] => List.nodup_nil
  | d :: r => by
    rw [dedP, List.nodup_cons]
    refine ⟨fun h => ?_, (nodup_ded (ds := r)).filter _⟩
    have := (List.mem_filter.mp h).2
    simp [sameK] at this
theorem sc_of {d : PyData} {k : NestedKey} {b : V} {u : Value} {K : PySem.W.Frag} {H : Hp} (h : nk d = some k) (ht : isTup d = false) (hd : Dp K H b d) (r : RelV b u) : u.scannable = true := by
  cases hd with
  | non => cases r; rfl
  | bl _ => simp [nk] at h
  | int _ => obtain ⟨t, rfl⟩ := r; rfl
  | str _ => obtain ⟨t, rfl⟩ := r; rfl
  | lst _ _ => simp [nk] at h
  | tup _ _ => simp [isTup] at ht
theorem ref_of {d : PyData} {b : V} {u : Value} {K : PySem.W.Frag} {H : Hp} (ht : isTup d = true) (hd : Dp K H b d) (r : RelV b u) : ∃ c, u = .ref c := by
  cases hd with
  | tup _ _ => cases r; exact ⟨_, rfl⟩
  | _ => simp [isTup] at ht
section
variable {X : Cx} {pins : List (Addr × Obj)} {σ : L2.St} {H : Hp} {s : Shared}
/-- the rows of a list's items -/
theorem rows_of (I : Inv X pins σ H s) : ∀ {ds : List PyData} {xs : List V} {us : List Value}, DpAll X.K H xs ds → Vals xs us → (∀ d ∈ ds, (nk d).isSome = true) → ∃ R : List Row, RowsOf s.heap (ds.zip xs) R ∧ R.map (·.2) = us ∧ (∀ r ∈ R, NestedIs s.heap r.1 r.2 ∧ ∃ d ∈ ds, ∃ b, nk d = some r.1 ∧ Dp X.K H b d ∧ RelV b r.2)
  | [], _, _, .nil, .nil, _ => ⟨[], .nil, rfl, fun _ h => by cases h⟩
  | d :: ds, _, _, .cons h1 h2, .cons (b := u) r1 r2, hk => by
    obtain ⟨k, ek⟩ := Option.isSome_iff_exists.mp (hk d (List.mem_cons_self ..))
    obtain ⟨R, g1, g2, g3⟩ := rows_of I h2 r2 fun e he => hk e (List.mem_cons_of_mem _ he)
    obtain ⟨a1, a2⟩ := nested_of I d _ u k h1 r1 ek
    refine ⟨(k, u) :: R, .cons ek ⟨r1, a2⟩ g1, by rw [List.map_cons, g2], fun r hr => ?_⟩
    rcases List.mem_cons.mp hr with rfl | hr
    · exact ⟨a1, d, List.mem_cons_self .., _, ek, h1, r1⟩
    · obtain ⟨z1, e, he, z2⟩ := g3 r hr
      exact ⟨z1, e, List.mem_cons_of_mem _ he, z2⟩
end
theorem dpall_len {K : PySem.W.Frag} {H : Hp} : ∀ {vs : List V} {ds : List PyData}, DpAll K H vs ds → ds.length = vs.length
  | _, _, .nil => rfl
  | _, _, .cons _ h => congrArg (· + 1) (dpall_len h)
/-- set(xs) as it is asked within a call -/
theorem set_in {X : Cx} {pins : List (Addr × Obj)} {σ : L2.St} {H : Hp} {s : Shared} {l : Addr} {xs : List V} {ds : List PyData} {u : Value} (I : Inv X pins σ H s) (hc : X.calm = true) (hu : X.A.units + 80 < cLine) (hq : SqL X.K H l xs ∨ SqT X.K H l xs) (hd : DpAll X.K H xs ds) (ok : setOk ds = true) {Q : Value → Shared → Prop}
    (fin : ∀ (h' : Heap) (tk : Nat) L es ep t bs, SetG X.w h' s.heap.objs.size L es ep t → RowsOf h' bs L → (∀ b ∈ bs, b ∈ ds.zip xs) → (bs.map (·.1)).Perm (dedP ds) → (∀ b o, s.heap.get? b = some o → h'.get? b = some o) → Q (.ref s.heap.objs.size) { s with heap := h', toks := tk }) :
    wpAny (model X.prog X.w) X.A (call (.type "set") [.ref l]) Q X.xe s := by
  simp only [setOk, Bool.and_eq_true, Bool.or_eq_true, decide_eq_true_eq, List.all_eq_true, Bool.not_eq_true'] at ok
  obtain ⟨ok1, ok2, ok3⟩ := ok
  have hnk : ∀ d ∈ ds, (nk d).isSome = true := fun d h => (ok2 d h).1
  -- with the items at hand
  have go : ∀ (its : List Value), Vals xs its → ∃ ks : List Row, its = ks.map (·.2) ∧ (∀ p ∈ ks, NestedIs s.heap p.1 p.2 ∧ p.1.depth ≤ 8) ∧ Alike ks ∧ ks.length < 64 ∧ ∀ (h' : Heap) (tk : Nat) L es ep t, SetG X.w h' s.heap.objs.size L es ep t → Has ks L → (∀ b o, s.heap.get? b = some o → h'.get? b = some o) → Q (.ref s.heap.objs.size) { s with heap := h', toks := tk } := fun its rv => by
    obtain ⟨ks, g1, g2, g3⟩ := rows_of I hd rv hnk
    have hlen : ds.length = xs.length := dpall_len hd
    have hkl : ks.length = ds.length := by rw [← g1.len, List.length_zip, hlen, Nat.min_self]
    refine ⟨ks, g2.symm, fun p hp => ?_, ?_, by omega, fun h' tk L es ep t R has k => ?_⟩
    · obtain ⟨z1, d, hdm, b, z2, _⟩ := g3 p hp
      exact ⟨z1, by rw [nk_dep z2]; exact (ok2 d hdm).2⟩
    · refine ok3.imp (fun h p hp => ?_) fun h p hp => ?_
      · obtain ⟨_, d, hdm, b, z2, z3, z4⟩ := g3 p hp
        exact sc_of z2 (h d hdm) z3 z4
      · obtain ⟨_, d, hdm, b, z2, z3, z4⟩ := g3 p hp
        exact ref_of (h d hdm) z3 z4
    · obtain ⟨bs, q1, q2⟩ := g1.pick L has.sub
      refine fin h' tk L es ep t bs R (q1.keep k) q2 ?_ k
      have nd := q1.nodup R.nd
      refine (List.perm_ext_iff_of_nodup nd nodup_ded).mpr fun d => ?_
      rw [mem_ded hnk]
      constructor
      · intro hm
        obtain ⟨b, hb, rfl⟩ := List.mem_map.mp hm
        exact (List.of_mem_zip (q2 b hb)).1
      · intro hm
        have hz : ∃ x, (d, x) ∈ ds.zip xs := by
          obtain ⟨i, hi⟩ := List.getElem?_of_mem hm
          have hi2 : i < xs.length := by rw [← hlen]; exact (List.getElem?_eq_some_iff.mp hi).1
          exact ⟨xs[i], List.mem_of_getElem? (i := i) (by rw [List.getElem?_zip_eq_some]; exact ⟨hi, List.getElem?_eq_getElem hi2⟩)⟩
        obtain ⟨x, hx⟩ := hz
        obtain ⟨r, hr, e1, _⟩ := g1.mem' hx
        obtain ⟨r2, hr2, e2⟩ := List.mem_map.mp (has.all r hr)
        obtain ⟨b, hb, e3, _⟩ := q1.mem hr2
        rw [e2] at e3
        exact List.mem_map.mpr ⟨b, hb, nk_inj e3 e1⟩
  rcases hq with hq | hq
  · obtain ⟨its, rv, pl, hz⟩ := I.list hq
    obtain ⟨ks, e1, e2, e3, e4, e5⟩ := go its rv
    exact call_set_list ks (I.ok.hd hc) pl.isList (by simpa using e1) e2 e3 e4 (by omega) e5
  · obtain ⟨its, rv, pl, hz⟩ := I.tuple hq
    obtain ⟨ks, e1, e2, e3, e4, e5⟩ := go its rv
    exact call_set_tuple ks (I.ok.hd hc) pl (by simpa using e1) e2 e3 e4 (by omega) e5
end GS
/-! BL50: len(set(xs)), sorted(set(xs)) as readings. -/
namespace GS
open PySem PySem.Spec PyProof.Rows L2 PySem.W
theorem inv_same {X : Cx} {pins : List (Addr × Obj)} {σ : L2.St} {H : Hp} {s s' : Shared} (I : Inv X pins σ H s) (h1 : s'.heap = s.heap) (h2 : s'.gens = s.gens) (h3 : s'.os = s.os) : Inv X pins σ H s' := by
  obtain ⟨hp, g, d, tk, os⟩ := s
  obtain ⟨hp', g', d', tk', os'⟩ := s'
  simp only at h1 h2 h3
  subst h1; subst h2; subst h3
  exact ⟨I.ok, I.os, I.bare, I.base, I.loc, I.cell, I.free, I.freeC, I.pin, I.hok, I.len⟩
theorem vals_of : ∀ {out : List Value} {bs : List Bit}, EachIs (fun (v : Value) (b : Bit) => RelV b.2 v) out bs → Vals (bs.map (·.2)) out
  | _, _, .nil => .nil
  | _, _, .cons r t => .cons r (vals_of t)
theorem len_ded : ∀ {ds : List PyData}, (dedP ds).length ≤ ds.length
  | [] => Nat.le_refl _
  | d :: r => by
    simp only [dedP, List.length_cons]
    have h1 := List.length_filter_le (fun e => !sameK e d) (dedP r)
    have h2 := len_ded (ds := r)
    omega
theorem alike_perm {as bs : List PyData} (p : as.Perm bs) (h : B.sortOk bs = true) : B.sortOk as = true := by
  unfold B.sortOk at h ⊢
  simp only [Bool.and_eq_true, Bool.or_eq_true, List.all_eq_true, decide_eq_true_eq] at h ⊢
  obtain ⟨⟨h1, h2⟩, h3⟩ := h
  refine ⟨⟨fun d hd e he => h1 d (p.mem_iff.mp hd) e (p.mem_iff.mp he), ?_⟩, fun d hd => h3 d (p.mem_iff.mp hd)⟩
  exact h2.imp (fun z d hd => z d (p.mem_iff.mp hd)) fun z d hd => z d (p.mem_iff.mp hd)
def rSet1 (K : W.Frag) (x : V) (H : Hp) (xs : List V) (ds : List PyData) : Prop := ∃ l, x = .ref l ∧ (SqL K H l xs ∨ SqT K H l xs) ∧ DpAll K H xs ds ∧ setOk ds = true
def rLenSet (K : W.Frag) : V → Hp → VK → Prop := fun x H Q => ∃ xs ds, rSet1 K x H xs ds ∧ Q (.int (dedP ds).length) H
def rSortSet (K : W.Frag) : V → Hp → VK → Prop := fun x H Q => ∃ xs ds, rSet1 K x H xs ds ∧ B.sortOk (dedP ds) = true ∧ ∀ bs : List Bit, (∀ b ∈ bs, b ∈ ds.zip xs) → bs.map (·.1) = B.sortP (dedP ds) → ∀ p, H p = none → Q (.ref p) (upd H p (.lst (bs.map (·.2))))
theorem pe_lenSet {X : Cx} {a : Expr} {ta : TE} {p p2 q pos : Pos} (hu : X.A.units + 80 < cLine) (hm : X.mg "len" = none) (hm2 : X.mg "set" = none) (ha : PE X a ta) (hg : Gl X "len" := by rfl) (hg2 : Gl X "set" := by rfl) (hc : X.calm = true := by rfl)
    (na : starEach [a] X.env = (false, eval a X.env) :: starEach [] X.env := by rfl) : PE X (.Call (.Name "len" p) [.Call (.Name "set" p2) [a] [] q] [] pos) (tUn (rLenSet X.K) ta) := by
  refine ⟨fun pins s σ H Q I h => ?_⟩
  refine Call_ (ld_blt I hg hm boot_len ?_)
  refine PyProof.Rows.callWith_builtin1 (PyProof.Rows.args_cons ?_ rfl) rfl rfl
  refine Call_ (ld_blt I hg2 hm2 boot_set ?_)
  refine PyProof.Rows.callWith_type1 (PyProof.Rows.args_cons (thn (ha.run pins s σ H _ I h) fun v s1 ⟨x, H1, I1, r1, q1⟩ => PyProof.Rows.args_nil ?_) na) na rfl
  obtain ⟨xs, ds, ⟨l, rfl, hq, hd, ok⟩, q1⟩ := q1
  cases r1
  refine set_in (u := .ref l) I1 hc hu hq hd ok fun h' tk L es ep t bs R hb hm hp hk => ?_
  refine PyProof.Rows.args_nil ?_
  have I2 : Inv X pins σ H1 { s1 with heap := h', toks := tk } := I1.kept hk
  obtain ⟨o, ho, hex, hdt⟩ := R.ob
  have hn : es.size = (dedP ds).length := by rw [R.size, ← hb.len, ← hp.length_eq, List.length_map]
  have := R.few
  have := R.size
  exact call_len_set ho hex hdt R.fits (by omega) ⟨.int (dedP ds).length, H1, I2.tok _, ⟨_, by rw [hn]⟩, q1⟩
section
variable [B.Nm] [B.Gd]
theorem pe_sortSet {X : Cx} {a : Expr} {ta : TE} {p p2 q pos : Pos} (hu : X.A.units + 80 < cLine) (hm : X.mg "sorted" = none) (hm2 : X.mg "set" = none) (ha : PE X a ta) (hg : Gl X "sorted" := by rfl) (hg2 : Gl X "set" := by rfl) (hc : X.calm = true := by rfl)
    (na : starEach [a] X.env = (false, eval a X.env) :: starEach [] X.env := by rfl) : PE X (.Call (.Name "sorted" p) [.Call (.Name "set" p2) [a] [] q] [] pos) (tUn (rSortSet X.K) ta) := by
  refine ⟨fun pins s σ H Q I h => ?_⟩
  refine Call_ (ld_blt I hg hm (show bootBuiltins "sorted" = some (.builtin "sorted") by decide +kernel) ?_)
  refine PyProof.Rows.callWith_builtin1 (PyProof.Rows.args_cons ?_ rfl) rfl rfl
  refine Call_ (ld_blt I hg2 hm2 boot_set ?_)
  refine PyProof.Rows.callWith_type1 (PyProof.Rows.args_cons (thn (ha.run pins s σ H _ I h) fun v s1 ⟨x, H1, I1, r1, q1⟩ => PyProof.Rows.args_nil ?_) na) na rfl
  obtain ⟨xs, ds, ⟨l, rfl, hq, hd, ok⟩, so, q1⟩ := q1
  cases r1
  refine set_in (u := .ref l) I1 hc hu hq hd ok fun h' tk L es ep t bs R hb hm hp hk => ?_
  refine PyProof.Rows.args_nil ?_
  have I2 : Inv X pins σ H1 { s1 with heap := h', toks := tk } := I1.kept hk
  refine sorted_setG (s := { s1 with heap := h', toks := tk }) R (I1.ok.hd hc) hb (alike_perm hp so) hu fun s' pp out c bs' pb pw ee hk2 e1 e2 hpp e3 => ?_
  have hlen : bs'.length ≤ 64 := by
    rw [pb.length_eq, hb.len]; have := R.few; omega
  have rel := vals_of ee
  have I3 : Inv X pins σ (upd H1 pp (.lst (bs'.map (·.2)))) { heap := s'.heap, gens := s1.gens, drawn := s1.drawn, toks := s'.toks, os := s1.os } :=
    I2.laid (t' := s'.toks) hk2 hpp ⟨by rw [List.length_map, sizeLine_eq]; omega, out, c, rel, e3⟩
  refine ⟨.ref pp, _, inv_same I3 rfl (e1.trans rfl) (e2.trans rfl), rfl, q1 bs' (fun b hbm => hm b (pb.mem_iff.mp hbm)) ?_ pp (I2.hok.fresh hpp)⟩
  have p1 : (bs'.map (·.1)).Perm (dedP ds) := (pb.map (·.1)).trans hp
  have TL : TotalLe (dataLe false id) := sortLe_total _ _ _
  have mm : ∀ d ∈ bs'.map (·.1), d ∈ dedP ds := fun d hd => p1.mem_iff.mp hd
  simp only [setOk, Bool.and_eq_true, decide_eq_true_eq, List.all_eq_true] at ok
  have hnk : ∀ d ∈ ds, (nk d).isSome = true := fun d h => (ok.2.1 d h).1
  have al : AllAlike (dedP ds) := (B.sortOk_alike so).1
  refine sorted_unique (r := fun x y => dataLe false id x y = true) (p1.trans (List.mergeSort_perm ..).symm) (List.pairwise_map.mpr pw) ?_ fun d hd e he h1 h2 => ?_
  · exact List.pairwise_mergeSort (fun a b c => TL.trans a b c) (fun a b => by have := TL.total a b; simpa using this) _
  · obtain ⟨k, ek⟩ := Option.isSome_iff_exists.mp (hnk d ((mem_ded hnk).mp (mm d hd)))
    obtain ⟨k', ek'⟩ := Option.isSome_iff_exists.mp (hnk e ((mem_ded hnk).mp (mm e he)))
    exact le_anti (al d (mm d hd) e (mm e he)) h1 h2 ek ek'
end
end GS
/-! BL51: len(set(xs)), sorted(set(xs)): mirror, rules. -/
namespace B
open PySem L2
section
variable [Nm] [Gd]
def setXs (st : Store) (d : D) : Option (List PyData) := match dat st d with
  | some (.list xs) => some xs
  | some (.tuple xs) => some xs
  | _ => none
def lenSetD (d : D) : M D := fun st => match setXs st d with
  | some xs => if GS.setOk xs = true then okV (.int (GS.dedP xs).length) st else .bad
  | none => .bad
def sortSetD (d : D) : M (List PyData) := fun st => match setXs st d with
  | some xs => if GS.setOk xs = true ∧ sortOk (GS.dedP xs) = true then .ok (sortP (GS.dedP xs)) st else .bad
  | none => .bad
def lenSetE (f : Env → M D) : Env → M D := fun env => bd (f env) lenSetD
def sortSetE (f : Env → M D) : Env → M (List PyData) := fun env => bd (f env) sortSetD
theorem setXs_rel {K : W.Frag} {w : Wd} {H : Hp} {st : Store} {d : D} {v : V} {xs : List PyData} (hs : RelSt K w H st) (r : RpD K w H d v) (e : setXs st d = some xs) :
    ∃ l us, v = .ref l ∧ (SqL K H l us ∨ SqT K H l us) ∧ Rps K w H xs us := by
  unfold setXs at e
  split at e
  · rename_i e1
    cases e
    obtain ⟨a, us, e3, ha, ra⟩ := dat_lst hs r e1
    exact ⟨a, us, e3, .inl (SqL.of ha), ra⟩
  · rename_i e1
    cases e
    obtain ⟨a, us, e3, ha, ra⟩ := dat_tup r e1
    exact ⟨a, us, e3, .inr ha.sq, ra⟩
  · cases e
variable {X : Cx} {E : XK} {a : Expr} {ta : TE} {fa : Env → M D} {p p2 q pos : Pos}
theorem se_lenSet {K : W.Frag} (ha : SE X E a ta fa) (hu : X.A.units + 80 < cLine) (hm : X.mg "len" = none) (hm2 : X.mg "set" = none) (hg : Gl X "len" := by rfl) (hg2 : Gl X "set" := by rfl) (hc : X.calm = true := by rfl)
    (na : starEach [a] X.env = (false, eval a X.env) :: starEach [] X.env := by rfl) (hK : X.K = K := by rfl) : SE X E (.Call (.Name "len" p) [.Call (.Name "set" p2) [a] [] q] [] pos) (tUn (GS.rLenSet K) ta) (lenSetE fa) := by
  subst hK
  refine ⟨GS.pe_lenSet hu hm hm2 ha.pe hg hg2 hc na, fun w σ H env st Q s0 e0 hp => ?_⟩
  refine ha.rf.step s0 e0 hp fun w1 H1 st1 d v g1 s1 e1 q1 hp => ?_
  unfold lenSetD at hp
  split at hp
  · rename_i xs ex
    split at hp
    · rename_i ok
      obtain ⟨l, us, e3, hq, ra⟩ := setXs_rel s1 q1 ex
      exact ⟨us, xs, ⟨l, e3, hq, ra.dp, ok⟩, Post.now hp s1 (.int _)⟩
    · exact hp.elim
  · exact hp.elim
theorem sf_sortSet {K : W.Frag} (ha : SE X E a ta fa) (hu : X.A.units + 80 < cLine) (hm : X.mg "sorted" = none) (hm2 : X.mg "set" = none) (hg : Gl X "sorted" := by rfl) (hg2 : Gl X "set" := by rfl) (hc : X.calm = true := by rfl)
    (na : starEach [a] X.env = (false, eval a X.env) :: starEach [] X.env := by rfl) (hK : X.K = K := by rfl) : SF X E (.Call (.Name "sorted" p) [.Call (.Name "set" p2) [a] [] q] [] pos) (tUn (GS.rSortSet K) ta) (sortSetE fa) := by
  subst hK
  refine ⟨GS.pe_sortSet hu hm hm2 ha.pe hg hg2 hc na, fun w σ H env st Q s0 e0 hp => ?_⟩
  refine ha.rf.stepF s0 e0 hp fun w1 H1 st1 d v g1 s1 e1 q1 hp => ?_
  unfold sortSetD at hp
  split at hp
  · rename_i xs ex
    split at hp
    · rename_i ok
      obtain ⟨l, us, e3, hq, ra⟩ := setXs_rel s1 q1 ex
      refine ⟨us, xs, ⟨l, e3, hq, ra.dp, ok.1⟩, ok.2, fun bs hb e p np => ?_⟩
      refine hp w1 H1 p _ (Ge.refl _ _) s1 np ?_
      rw [← e]
      exact Rps.ofMem fun b hbm => ra.zipMem b (hb b hbm)
    · exact hp.elim
  · exact hp.elim
end
section
variable {X : Ex → Store → Prop} {env : Env} {st : Store}
@[simp] theorem e_lenSetE {f : Env → M D} {Q : D → Store → Prop} : wpx X (lenSetE f env st) Q = wpx X (bd (f env) lenSetD st) Q := propext Iff.rfl
@[simp] theorem e_sortSetE {f : Env → M D} {Q : List PyData → Store → Prop} : wpx X (sortSetE f env st) Q = wpx X (bd (f env) sortSetD st) Q := propext Iff.rfl
@[simp] theorem f_lenSetL {xs : List PyData} {Q : D → Store → Prop} : wpx X (lenSetD (.val (.list xs)) st) Q = (GS.setOk xs = true ∧ Q (.val (.int (GS.dedP xs).length)) st) := by
  simp only [lenSetD, setXs, dat, datV, wp_iteBad]; exact propext (and_congr Iff.rfl (Iff.of_eq wp_D))
@[simp] theorem f_lenSetT {xs : List PyData} {Q : D → Store → Prop} : wpx X (lenSetD (.val (.tuple xs)) st) Q = (GS.setOk xs = true ∧ Q (.val (.int (GS.dedP xs).length)) st) := by
  simp only [lenSetD, setXs, dat, datV, wp_iteBad]; exact propext (and_congr Iff.rfl (Iff.of_eq wp_D))
@[simp] theorem f_sortSetL {xs : List PyData} {Q : List PyData → Store → Prop} : wpx X (sortSetD (.val (.list xs)) st) Q = ((GS.setOk xs = true ∧ sortOk (GS.dedP xs) = true) ∧ Q (sortP (GS.dedP xs)) st) := by
  simp only [sortSetD, setXs, dat, datV, wp_iteBad, wp_ok]
@[simp] theorem f_sortSetT {xs : List PyData} {Q : List PyData → Store → Prop} : wpx X (sortSetD (.val (.tuple xs)) st) Q = ((GS.setOk xs = true ∧ sortOk (GS.dedP xs) = true) ∧ Q (sortP (GS.dedP xs)) st) := by
  simp only [sortSetD, setXs, dat, datV, wp_iteBad, wp_ok]
@[simp] theorem o_sortSet {n : Nat} {Q : List PyData → Store → Prop} : wpx X (sortSetD (.loc n) st) Q = (match st[n]? with | some (.lst xs) => (GS.setOk xs = true ∧ sortOk (GS.dedP xs) = true) ∧ Q (sortP (GS.dedP xs)) st | _ => False) := by
  simp only [sortSetD, setXs, dat]
  cases st[n]? with
  | none => first | rfl | exact wp_D
  | some o => cases o <;> first | rfl | simp
@[simp] theorem o_lenSet {n : Nat} {Q : D → Store → Prop} : wpx X (lenSetD (.loc n) st) Q = (match st[n]? with | some (.lst xs) => GS.setOk xs = true ∧ Q (.val (.int (GS.dedP xs).length)) st | _ => False) := by
  simp only [lenSetD, setXs, dat]
  cases st[n]? with
  | none => first | rfl | exact wp_D
  | some o => cases o <;> first | rfl | (simp only [wp_iteBad]; exact propext (and_congr Iff.rfl (Iff.of_eq wp_D))) | exact wp_D | simp
end
end B
/-! BL52: max(xs, default=d) of a list of ints. -/
namespace MaxD
open PySem PySem.Spec PyProof.Rows L2
section
variable {prog : Program} {w : World} {A : Around} {R : Result → Shared → Prop} {I S : Addr} {fp wr : List Addr} {n : Nat} {P : Nat → Value → Prop} {St : Nat → Heap → Prop} {kw : List (Str × Value)}
theorem call_tree_kw {E : Value → Shared → Prop} {s : Shared} {id : String} {b : Builtin} {args : List Value} {Q : Value → Shared → Prop} (hk : builtinKind id = none) (hp : plainId id = true)
    (hb : entryFor table id = some b) (ha : argsOk id ⟨args, kw⟩)
    (hc : wpAny (model prog w) A.in1 (b ⟨args, kw⟩) (fun fin s' => match fin with
      | .done f => (match (Except.ok f : Result) with | .ok (.ret v) => Q v s' | .ok _ => False | .error e => E e s')
      | .again c' => c'.quiet = true ∧ codeAny (model prog w) A c' (fun r s' => match r with | .ok (.ret v) => Q v s' | .ok _ => False | .error e => E e s') s') E s) :
    wpAny (model prog w) A (call (.builtin id) args kw) Q E s := by
  refine wpAny_call (codeAny_call_builtin hp hb ?_)
  simp only [checkBuiltinCall, hk]
  cases hsig : Manifest.signature? id with
  | none => exact wpAny_pure hc
  | some sig =>
    have ha' : Bind.checkArgs id sig ⟨args, kw⟩ = pure () := by simpa only [argsOk, hsig] using ha
    simp only [ha']
    exact wpAny_pure hc
/-- how the walk goes on from item j, the best so far in hand; what is left is told by the end -/
def Told (R : Result → Shared → Prop) (wr : List Addr) (S : Addr) (V : Value → Prop) (s : Shared) : Prop :=
  ∀ v h' tk, V v → (∀ b o, b ∉ wr → b ≠ S → s.heap.get? b = some o → h'.get? b = some o) → R (.ok (.ret v)) { s with heap := h', toks := tk }
theorem Told.on {V : Value → Prop} {s : Shared} {h1 : Heap} {t1 : Nat} (g : Told R wr S V s) (k : ∀ b o, b ∉ wr → b ≠ S → s.heap.get? b = some o → h1.get? b = some o) : Told R wr S V { s with heap := h1, toks := t1 } :=
  fun v h' tk hv hk => g v h' tk hv fun b o hw hs e => hk b o hw hs (k b o hw hs e)
theorem loop_kw (W : Walks prog w A.in1 I fp wr n P St) (bt : Nat → Nat → Bool) (hcmp : CmpOf prog w A.in1 .Gt P bt) (hSf : S ∉ fp) :
    ∀ (k j : Nat) (s : Shared) (vb : Value) (c : Nat), n = j + 1 + k → St (j + 1) s.heap → P (argBest bt j) vb →
    s.heap.get? S = some { cls := .type "list", dict := none, data := .seq #[vb, vb] c, slots := #[] } → Told R wr S (P (argBest bt (n - 1))) s →
    codeAny (model prog w) A (.builtin "max.loop" ⟨[.ref I, .none, .ref S], kw⟩) R s := by
  have hSw : S ∉ wr := fun h => hSf (W.sub _ h)
  have hname : (toString "max" ++ toString ".loop" : String) = "max.loop" := by decide
  intro k
  induction k with
  | zero =>
    intro j s vb c hk hst hPb hS hR
    refine codeAny_builtin F.entry_max_loop ?_
    rw [Around.under_plainId F.plain_max_loop _]
    show wpAny _ A.in1 (seqItems? (.ref S) >>= _) _ _ s
    refine wpAny_bind (wpAny_seqItems hS rfl ?_)
    show wpAny _ A.in1 (tryCatch (pyNext (.ref I)) _ >>= _) _ _ s
    have e : j + 1 = n := by omega
    refine wpAny_bind (wpAny_tryCatch (W.done s _ _ (e ▸ hst) fun h' tk hk' => ?_))
    have hS' := hk' S _ hSw hS
    show wpAny _ A.in1 (updateSeq S (fun _ => #[]) >>= _) _ _ _
    refine wpAny_bind (wpAny_updateSeq hS' rfl (wpAny_bind (wpAny_letGo (wpAny_pure ?_))))
    have e2 : n - 1 = j := by omega
    exact hR vb _ tk (by rw [e2]; exact hPb) fun b o hbw hbS e => (Heap.get?_update_other _ _ (Ne.symm hbS)).trans (hk' b o hbw e)
  | succ k ih =>
    intro j s vb c hk hst hPb hS hR
    refine codeAny_builtin F.entry_max_loop ?_
    rw [Around.under_plainId F.plain_max_loop _]
    show wpAny _ A.in1 (seqItems? (.ref S) >>= _) _ _ s
    refine wpAny_bind (wpAny_seqItems hS rfl ?_)
    show wpAny _ A.in1 (tryCatch (pyNext (.ref I)) _ >>= _) _ _ s
    refine wpAny_bind (wpAny_tryCatch (W.item (j + 1) s _ _ (by omega) hst fun v h' tk hP hst' hk' => ?_))
    have hS' := hk' S _ hSw hS
    show wpAny _ A.in1 (tryCatch (holding [v, v] (richCompare .Gt v vb >>= _)) _ >>= _) _ _ _
    refine wpAny_bind (wpAny_tryCatch (wpAny_holding (wpAny_bind (hcmp (j + 1) (argBest bt j) v vb _ _ _ hP hPb ?_))))
    refine wpAny_bind (wpAny_holding (wpAny_truthy_bool ?_))
    refine wpAny_bind (wpAny_letGo (wpAny_pure ?_))
    have hR' : Told R wr S (P (argBest bt (n - 1))) { s with heap := h', toks := tk } := hR.on fun b o hw _ e => hk' b o hw e
    cases hb : bt (j + 1) (argBest bt j) with
    | true =>
      simp only [if_true]
      refine wpAny_bind (wpAny_updateSeq hS' rfl (wpAny_bind (wpAny_letGo ?_)))
      rw [hname]
      refine wpAny_pure ⟨plainId_quiet F.plain_max_loop _, ih (j + 1) _ v _ (by omega) (W.frame _ _ _ hst' fun b hbf o e => ?_) (by simp only [argBest, hb, if_true]; exact hP) (Heap.get?_update_self _ hS' rfl) (hR'.on (t1 := tk) fun b o _ hs e => (Heap.get?_update_other _ _ (Ne.symm hs)).trans e)⟩
      exact (Heap.get?_update_other _ _ (fun h : S = b => hSf (by rw [h]; exact hbf))).trans e
    | false =>
      simp only [Bool.false_eq_true, if_false]
      refine wpAny_bind (wpAny_letGo ?_)
      rw [hname]
      exact wpAny_pure ⟨plainId_quiet F.plain_max_loop _, ih (j + 1) _ vb c (by omega) hst' (by simp only [argBest, hb, Bool.false_eq_true, if_false]; exact hPb) hS' hR'⟩
theorem first_kw (W : Walks prog w A.in1 I fp wr n P St) (bt : Nat → Nat → Bool) (hcmp : CmpOf prog w A.in1 .Gt P bt) (hSf : S ∉ fp) (hn : 0 < n) {s : Shared} {c : Nat} (hst : St 0 s.heap)
    (hS : s.heap.get? S = some { cls := .type "list", dict := none, data := .seq #[] c, slots := #[] }) (hR : Told R wr S (P (argBest bt (n - 1))) s) :
    codeAny (model prog w) A (.builtin "max.loop" ⟨[.ref I, .none, .ref S], kw⟩) R s := by
  have hSw : S ∉ wr := fun h => hSf (W.sub _ h)
  have hname : (toString "max" ++ toString ".loop" : String) = "max.loop" := by decide
  refine codeAny_builtin F.entry_max_loop ?_
  rw [Around.under_plainId F.plain_max_loop _]
  show wpAny _ A.in1 (seqItems? (.ref S) >>= _) _ _ s
  refine wpAny_bind (wpAny_seqItems hS rfl ?_)
  show wpAny _ A.in1 (tryCatch (pyNext (.ref I)) _ >>= _) _ _ s
  refine wpAny_bind (wpAny_tryCatch (W.item 0 s _ _ hn hst fun v h' tk hP hst' hk' => ?_))
  have hS' := hk' S _ hSw hS
  show wpAny _ A.in1 (updateSeq S (fun _ => #[v, v]) >>= _) _ _ _
  refine wpAny_bind (wpAny_updateSeq hS' rfl ?_)
  rw [hname]
  have hR' : Told R wr S (P (argBest bt (n - 1))) { s with heap := h', toks := tk } := hR.on fun b o hw _ e => hk' b o hw e
  refine wpAny_pure ⟨plainId_quiet F.plain_max_loop _, loop_kw W bt hcmp hSf (n - 1) 0 _ v _ (by omega) (W.frame _ _ _ hst' fun b hbf o e => ?_) hP (Heap.get?_update_self _ hS' rfl) (hR'.on (t1 := tk) fun b o _ hs e => (Heap.get?_update_other _ _ (Ne.symm hs)).trans e)⟩
  exact (Heap.get?_update_other _ _ (fun h : S = b => hSf (by rw [h]; exact hbf))).trans e
theorem none_kw {d : Value} {x : Str} (W : Walks prog w A.in1 I fp wr 0 P St) (hSf : S ∉ fp) {s : Shared} {c : Nat} (hst : St 0 s.heap)
    (hS : s.heap.get? S = some { cls := .type "list", dict := none, data := .seq #[] c, slots := #[] }) (hR : Told R wr S (· = d) s) :
    codeAny (model prog w) A (.builtin "max.loop" ⟨[.ref I, .none, .ref S], [(x, d)]⟩) R s := by
  refine codeAny_builtin F.entry_max_loop ?_
  rw [Around.under_plainId F.plain_max_loop _]
  show wpAny _ A.in1 (seqItems? (.ref S) >>= _) _ _ s
  refine wpAny_bind (wpAny_seqItems hS rfl ?_)
  show wpAny _ A.in1 (tryCatch (pyNext (.ref I)) _ >>= _) _ _ s
  refine wpAny_bind (wpAny_tryCatch (W.done s _ _ hst fun h' tk hk' => ?_))
  show wpAny _ A.in1 (rule _ >>= _) _ _ _
  refine wpAny_bind (wpAny_rule (wpAny_pure ?_))
  exact hR d h' tk rfl fun b o hw _ e => hk' b o hw e
theorem args_maxD (a d : Value) : argsOk "max" ⟨[a], [(Str.ofString "default", d)]⟩ := by unfold argsOk; kernel_rfl
theorem max_ints {E : Value → Shared → Prop} {s : Shared} {l : Addr} {xs : Array (Int × Tok)} {d : Value} {Q : Value → Shared → Prop} (hh : A.handled = none) (hl : s.heap.IsList l (intItems xs))
    (h : ∀ v h' tk, (if xs.size = 0 then v = d else (intItems xs)[argBest (fun i j => decide (numAt xs i > numAt xs j)) (xs.size - 1)]? = some v) → (∀ b o, s.heap.get? b = some o → h'.get? b = some o) → Q v { s with heap := h', toks := tk }) :
    wpAny (model prog w) A (call (.builtin "max") [.ref l] [(Str.ofString "default", d)]) Q E s := by
  have hname : (toString "max" ++ toString ".loop" : String) = "max.loop" := by decide
  refine call_tree_kw F.kind_max F.plain_max F.entry_max (args_maxD _ _) ?_
  show wpAny _ A.in1 (Builtin.Builtins.bindParams "max" ["key", "default"] 0 ⟨[], [(Str.ofString "default", d)]⟩ >>= _) _ _ s
  refine wpAny_bind (wpAny_of_eq (show Builtin.Builtins.bindParams "max" ["key", "default"] 0 ⟨[], [(Str.ofString "default", d)]⟩ = pure [none, some d] from rfl) ?_)
  refine wpAny_bind (wpAny_pure ?_)
  refine wpAny_bind (iter_intList hl fun s₂ e st hfp hlI => ?_)
  subst e
  refine wpAny_bind (wpAny_newObj_type ?_)
  have W := Walks.list (prog := prog) (w := w) (A := A.in1) hh s.heap.objs.size l hlI (intItems xs)
  have hSf : (s.heap.push { cls := .type "list_iterator", data := .fields #[.ref l, .int 0 0] }).objs.size ∉ [s.heap.objs.size, l] := fun hm => Nat.lt_irrefl _ (hfp _ hm)
  rw [hname]
  have kk : ∀ h' : Heap, (∀ b o, b ∉ [s.heap.objs.size] → b ≠ (s.heap.push { cls := .type "list_iterator", data := .fields #[.ref l, .int 0 0] }).objs.size → ((s.heap.push { cls := .type "list_iterator", data := .fields #[.ref l, .int 0 0] }).push { cls := .type "list", data := .seq #[] }).get? b = some o → h'.get? b = some o) →
      ∀ b o, s.heap.get? b = some o → h'.get? b = some o := fun h' hk => old_kept fun b o hb e => hk b o hb (Nat.ne_of_lt (Heap.lt_size e)) (Heap.get?_push_of_some _ e)
  by_cases hz : xs.size = 0
  · have hz2 : (intItems xs).size = 0 := by simpa [intItems] using hz
    rw [hz2] at W
    refine wpAny_pure ⟨plainId_quiet F.plain_max_loop _, none_kw W hSf (W.frame _ _ _ st fun b _ o e => Heap.get?_push_of_some _ e) (Heap.get?_push_size _ rfl) fun v h' tk hv hk => ?_⟩
    exact h v h' tk (by rw [if_pos hz]; exact hv) (kk h' hk)
  · have hz2 : (intItems xs).size = xs.size := by simp [intItems]
    rw [hz2] at W
    refine wpAny_pure ⟨plainId_quiet F.plain_max_loop _, first_kw W (fun i j => decide (numAt xs i > numAt xs j)) (CmpOf.ints_gt (numAt xs) fun _ _ => intItems_at) hSf (by omega) (W.frame _ _ _ st fun b _ o e => Heap.get?_push_of_some _ e) (Heap.get?_push_size _ rfl) fun v h' tk hv hk => ?_⟩
    exact h v h' tk (by rw [if_neg hz]; exact hv) (kk h' hk)
end
def topD (d : Int) : List Int → Int
  | [] => d
  | x :: r => r.foldl max x
theorem top_mem : ∀ (r : List Int) (x : Int), r.foldl max x ∈ x :: r ∧ ∀ a ∈ x :: r, a ≤ r.foldl max x
  | [], x => ⟨List.mem_cons_self .., fun a h => by rcases List.mem_cons.mp h with rfl | h; exact Int.le_refl _; cases h⟩
  | y :: r, x => by
    obtain ⟨h1, h2⟩ := top_mem r (max x y)
    rw [List.foldl_cons]
    have e : max x y = x ∨ max x y = y := by omega
    refine ⟨?_, fun a ha => ?_⟩
    · rcases List.mem_cons.mp h1 with h | h
      · rcases e with e | e
        · rw [h, e]; exact List.mem_cons_self ..
        · rw [h, e]; exact List.mem_cons_of_mem _ (List.mem_cons_self ..)
      · exact List.mem_cons_of_mem _ (List.mem_cons_of_mem _ h)
    · have h3 := h2 (max x y) (List.mem_cons_self ..)
      rcases List.mem_cons.mp ha with rfl | ha
      · omega
      · rcases List.mem_cons.mp ha with rfl | ha
        · omega
        · exact h2 a (List.mem_cons_of_mem _ ha)
theorem top_eq {ns : List Int} {d M : Int} (h1 : M ∈ ns) (h2 : ∀ a ∈ ns, a ≤ M) : topD d ns = M := by
  cases ns with
  | nil => cases h1
  | cons x r =>
    obtain ⟨h3, h4⟩ := top_mem r x
    have := h2 _ h3
    have := h4 _ h1
    show r.foldl max x = M
    omega
def rMaxD (K : PySem.W.Frag) : List V → List V → Hp → VK → Prop := fun vs zs H Q => ∃ a ns d, vs = [V.ref a] ∧ zs = [V.int d] ∧ SqL K H a (ns.map V.int) ∧ Q (.int (topD d ns)) H
theorem cr_maxD {X : Cx} {K : PySem.W.Frag} (hc : X.calm = true := by rfl) (hK : X.K = K := by rfl) : CallRK X (.builtin "max") [Str.ofString "default"] (rMaxD K) := by
  subst hK
  intro pins s σ H vs zs us ws Q I r rz h
  obtain ⟨a, ns, d, rfl, rfl, hs, q⟩ := h
  obtain rfl := Vals.ref1 r
  obtain ⟨w1, rfl, t1, rfl⟩ := vals1 rz
  obtain ⟨its, rv, hl, hz⟩ := I.list hs
  have hi := rv.ints
  have hal := hi.allInts
  obtain ⟨xs, ex⟩ := hal.items
  have en : numsOf its.toArray.toList = xs.toList.map (·.1) := by rw [ex]; exact nums_intItems _
  have e2 : numsOf its.toArray.toList = ns := by rw [show its.toArray.toList = its from rfl, hi.numsOf]
  rw [e2] at en
  have hl2 : s.heap.IsList a (intItems xs) := by rw [← ex]; exact hl.isList
  show wpAny _ _ (call (.builtin "max") [.ref a] [(Str.ofString "default", .int d t1)]) _ _ _
  refine max_ints (I.ok.hd hc) hl2 fun v h' tk hv hk => ?_
  by_cases hz0 : xs.size = 0
  · rw [if_pos hz0] at hv
    subst hv
    have : ns = [] := by
      rw [en]
      have : xs.toList = [] := List.eq_nil_of_length_eq_zero (by rw [Array.length_toList]; exact hz0)
      rw [this]; rfl
    subst this
    exact ⟨.int d, H, I.kept hk, ⟨t1, rfl⟩, q⟩
  · rw [if_neg hz0] at hv
    obtain ⟨t, rfl⟩ := intItems_at hv
    obtain ⟨h1, h2⟩ := argBest_gt (numAt xs) (xs.size - 1)
    refine ⟨.int _, H, I.kept hk, ⟨t, rfl⟩, ?_⟩
    have : topD d ns = numAt xs (argBest (fun i j => decide (numAt xs i > numAt xs j)) (xs.size - 1)) := by
      refine top_eq ?_ fun a ha => ?_
      · rw [numAt_eq, en]; exact getD_mem (by rw [List.length_map, Array.length_toList]; omega)
      · rw [en] at ha
        obtain ⟨j, hj, rfl⟩ := mem_getD ha
        rw [List.length_map, Array.length_toList] at hj
        rw [← numAt_eq]; exact h2 j (by omega)
    rw [← this]
    exact q
end MaxD
namespace B
open PySem L2
section
variable [Nm] [Gd] {X : Cx} {E : XK} {e : Expr} {es : List Expr} {tr tk : TA} {fr fk : Env → M (List D)} {kws : List Keyword} {p pos : Pos}
def maxDF (ds ks : List D) : M D := fun st => match ds, ks with
  | [d], [k] => (match dat st d, dat st k with
    | some (.list xs), some (.int z) => (match intsOf xs with
      | some ns => okV (.int (MaxD.topD z ns)) st
      | none => .bad)
    | _, _ => .bad)
  | _, _ => .bad
def maxDE (fr fk : Env → M (List D)) : Env → M D := fun env => bd (fr env) fun ds => bd (fk env) fun ks => maxDF ds ks
theorem se_maxD {K : W.Frag} (hm : X.mg "max" = none) (ha : SA X E (e :: es) tr fr) (hk : SK X E kws tk fk) (hc : X.calm = true := by rfl) (hK : X.K = K := by rfl) (hg : Gl X "max" := by rfl)
    (he : backTo pos (starEach (e :: es) X.env) = (false, eval e X.env) :: backTo pos (starEach es X.env) := by rfl) (hpl : (backTo pos (starEach (e :: es) X.env)).any (·.1) = false := by rfl)
    (hall : (backToKw pos (keywordEach kws X.env)).all (·.1.isSome) = true := by rfl) (hnone : (backToKw pos (keywordEach kws X.env)).any (·.1.isNone) = false := by rfl) (hks : (backToKw pos (keywordEach kws X.env)).filterMap (·.1) = [Str.ofString "default"] := by rfl) :
    SE X E (.Call (.Name "max" p) (e :: es) kws pos) (tCKw (MaxD.rMaxD K) tr tk) (maxDE fr fk) := by
  refine ⟨pe_callBK (MaxD.cr_maxD hc hK) hg hm (show bootBuiltins "max" = some (.builtin "max") by decide +kernel) ha.pa hk.pk (by decide) (by decide) he hpl hall hnone hks, fun w σ H env st Q s0 e0 hp => ?_⟩
  refine ha.rf.step s0 e0 hp fun r1 H1 st1 ds vs g1 s1 e1 q1 hp => ?_
  refine hk.rf.step s1 e1 hp fun r2 H2 st2 ks zs g2 s2 e2 q2 hp => ?_
  have q1 := RpDs.mono g2 q1
  unfold maxDF at hp
  split at hp
  · obtain ⟨v, rfl, r1⟩ := q1.one
    obtain ⟨z, rfl, r2⟩ := q2.one
    split at hp
    · rename_i e3 e4
      split at hp
      · rename_i ns en
        obtain ⟨a, us, rfl, ha, ra⟩ := dat_lst s2 r1 e3
        have := dat_int r2 e4
        subst this
        have : us = ns.map V.int := Rps.ints ra en
        subst this
        exact ⟨a, ns, _, rfl, rfl, hK ▸ SqL.of ha, Post.now hp s2 (.int _)⟩
      · exact hp.elim
    · exact hp.elim
  · exact hp.elim
end
section
variable {X : Ex → Store → Prop} {env : Env} {st : Store}
@[simp] theorem e_maxDE {fr fk : Env → M (List D)} {Q : D → Store → Prop} : wpx X (maxDE fr fk env st) Q = wpx X (bd (fr env) (fun ds => bd (fk env) fun ks => maxDF ds ks) st) Q := propext Iff.rfl
theorem f_maxD {xs : List PyData} {ns : List Int} {z : Int} (h : xs = ns.map .int) {Q : D → Store → Prop} : wpx X (maxDF [.val (.list xs)] [.val (.int z)] st) Q = Q (.val (.int (MaxD.topD z ns))) st := by
  subst h
  simp only [maxDF, dat, datV, intsOf_map]
  exact wp_D
end
end B
/-! BL53: *xs in a display. -/
namespace B
open PySem L2
section
variable [Nm] [Gd] {X : Cx} {E : XK} {e : Expr} {es : List Expr} {te : TE} {tr : TA} {fe : Env → M D} {fr : Env → M (List D)} {p : Pos}
def starD (fr : Env → M (List D)) (env : Env) (d : D) : M (List D) := fun st => match setXs st d with
  | some xs => bd (fr env) (fun ds => rt (xs.map D.val ++ ds)) st
  | none => .bad
def aStar (fe : Env → M D) (fr : Env → M (List D)) : Env → M (List D) := fun env => bd (fe env) (starD fr env)
theorem RpDs.vals_app {K : W.Frag} {w : Wd} {H : Hp} {ds : List D} {vs : List V} (r : RpDs K w H ds vs) : ∀ {xs : List PyData} {us : List V}, Rps K w H xs us → RpDs K w H (xs.map D.val ++ ds) (us ++ vs)
  | _, _, .nil => r
  | _, _, .cons a b => .cons a (RpDs.vals_app r b)
theorem sa_star (he : SE X E e te fe) (hr : SA X E es tr fr) (hs : starEach (.Starred e p :: es) X.env = (true, eval e X.env) :: starEach es X.env := by rfl) :
    SA X E (.Starred e p :: es) (StX.tStar X.K te tr) (aStar fe fr) := by
  refine ⟨StX.pa_star he.pe hr.pa hs, fun w σ H env st Q s0 e0 hp => ?_⟩
  refine he.rf.step s0 e0 hp fun r1 H1 st1 d v g1 s1 e1 q1 hp => ?_
  unfold starD at hp
  split at hp
  · rename_i xs ex
    obtain ⟨l, us, rfl, hq, ra⟩ := setXs_rel s1 q1 ex
    refine ⟨l, us, rfl, hq.symm, ?_⟩
    refine hr.rf.step s1 e1 hp fun r2 H2 st2 ds vs g2 s2 e2 q2 hp => ?_
    exact Post.now hp s2 (RpDs.vals_app q2 (ra.mono g2))
  · exact hp.elim
end
section
variable {X : Ex → Store → Prop} {env : Env} {st : Store}
@[simp] theorem e_aStar {fe : Env → M D} {fr : Env → M (List D)} {Q : List D → Store → Prop} : wpx X (aStar fe fr env st) Q = wpx X (bd (fe env) (starD fr env) st) Q := propext Iff.rfl
@[simp] theorem f_starL {xs : List PyData} {fr : Env → M (List D)} {Q : List D → Store → Prop} : wpx X (starD fr env (.val (.list xs)) st) Q = wpx X (bd (fr env) (fun ds => rt (xs.map D.val ++ ds)) st) Q := propext Iff.rfl
@[simp] theorem f_starT {xs : List PyData} {fr : Env → M (List D)} {Q : List D → Store → Prop} : wpx X (starD fr env (.val (.tuple xs)) st) Q = wpx X (bd (fr env) (fun ds => rt (xs.map D.val ++ ds)) st) Q := propext Iff.rfl
end
end B
/-! BL54: list.extend by a tuple. -/
namespace B
open PySem L2 PySem.Spec PyProof.Rows
theorem extend_tup (l : Addr) (items : Array Value) (n : Nat) (b : Addr) (items2 : Array Value) (n2 : Nat) (dd : Option Addr) (sl : Array (Option Value)) (hs0 : ¬(!items.isEmpty && Builtin.List.listTooLong (items.size + items2.size)) = true) (hs1 : items.size ≤ sizeLine) (hs2 : items.size + items2.size ≤ sizeLine + 1) :
    Meets (Builtin.«list.extend» ⟨[.ref l, .ref b], []⟩) (fun _ R s => s.heap.get? l = some { cls := .type "list", dict := none, data := .seq items n, slots := #[] } ∧ s.heap.get? b = some { cls := .type "tuple", dict := dd, data := .seq items2 n2, slots := sl } ∧ R (.ok (.ret Value.none)) { s with heap := s.heap.update l (Obj.mapSeq fun x => x ++ items2), toks := s.toks }) :=
  .of_wp fun prog w A R s h => by
    obtain ⟨hp, g, d, tk, os⟩ := s; obtain ⟨hl, hb, h⟩ := h; have f1 := AutoSeq1.idx_int; have f2 := AutoSeq1.sub_tuple_tuple; have f3 := AutoSeq1.sub_list_list; have f4 := AutoSeq1.sub_tuple_list; have f5 := AutoSeq1.sub_list_tuple;
    have hz' : (items ++ items2).size ≤ sizeLine + 1 := by rw [Array.size_append]; exact hs2
    wp_walk using (wpAny_updateSeq hl rfl (hz := hs1) (_hz' := hz')), wpAny_loadPart' hl, wpAny_loadPart' hb; exact ⟨_, rfl, h⟩
def rExtH (K : W.Frag) : V → List V → Hp → VK → Prop := fun x vs H Q => ∃ l b xs zs, x = .ref l ∧ vs = [.ref b] ∧ H l = some (.lst xs) ∧ (H b = some (.lst zs) ∨ SqT K H b zs) ∧ xs.length + zs.length ≤ sizeLine ∧ Q .non (upd H l (.lst (xs ++ zs)))
theorem mt_extH {X : Cx} {K : W.Frag} (hK : X.K = K := by rfl) : MtM X "list.extend" (rExtH K) := by
  subst hK
  intro pins s σ H x vs v us Q I rx rv h
  obtain ⟨l, b, xs, zs, rfl, rfl, hH, hB | hB, hz, q⟩ := h
  · exact mt_extend pins s σ H _ _ v us Q I rx rv ⟨l, b, xs, zs, rfl, rfl, hH, hB, hz, q⟩
  cases rx
  obtain ⟨u, rfl, ru⟩ := rv.one
  cases ru
  obtain ⟨z, its, n, r, hl, e⟩ := I.lstM hH
  obtain ⟨its2, r2, ⟨⟨cls, dd, data, sl⟩, ho, hc, n2, hd⟩, hs2⟩ := I.tuple hB
  simp only at hc hd
  subst hc hd
  have hl2 := r2.length
  have hsz : its.toArray.size + its2.toArray.size ≤ sizeLine := by rw [List.size_toArray, List.size_toArray]; omega
  have hlong : ¬ (!its.toArray.isEmpty && Builtin.List.listTooLong (its.toArray.size + its2.toArray.size)) = true := by
    rw [notLongL hsz, Bool.and_false]
    exact Bool.false_ne_true
  refine call_meets F.slot_list_extend ⟨_, e, rfl⟩ F.entry_list_extend (F.args_list_extend_2 _ _)
    (extend_tup l its.toArray n b its2.toArray n2 dd sl hlong (by rw [List.size_toArray]; omega) (by omega)) ⟨e, ho, ?_⟩
  refine ⟨.non, _, I.lset (its' := its ++ its2) hH e (by simp) (r.append r2) ?_, rfl, q⟩
  rw [List.length_append]
  omega
section
variable [Nm] [Gd] {X : Cx} {E : XK} {o e : Expr} {to : TE} {tr : TA} {fo : Env → M D} {fr : Env → M (List D)} {apos cpos : Pos}
/-- extend by a list or a tuple -/
def extH (x : D) (ds : List D) : M D := fun st => match x, ds with
  | .loc n, [d] => (match st[n]?, setXs st d with
    | some (.lst xs), some ys => if xs.length + ys.length ≤ sizeLine then .ok (.val .none) (st.set n (.lst (xs ++ ys))) else .bad
    | _, _ => .bad)
  | _, _ => .bad
theorem bm_extH {K : W.Frag} {E : XK} : BMt K E (rExtH K) extH := by
  intro w H st dx ds x vs Q hs rx rd hp
  unfold extH at hp
  split at hp
  · split at hp
    · rename_i d ys0 xs ys e e2
      split at hp
      · rename_i hl
        obtain ⟨a, ev, ha, us, hu, ru⟩ := hs.at e rx
        obtain ⟨v, evs, rv⟩ := rd.one
        obtain ⟨s2', g2'⟩ : True ∧ True := ⟨trivial, trivial⟩
        have key : ∃ b zs, v = .ref b ∧ (H b = some (.lst zs) ∨ SqT K H b zs) ∧ Rps K w H ys zs := by
          unfold setXs at e2
          split at e2
          · rename_i e3
            cases e2
            obtain ⟨b, zs, eb, hb, rb⟩ := dat_lst hs rv e3
            exact ⟨b, zs, eb, .inl hb, rb⟩
          · rename_i e3
            cases e2
            obtain ⟨b, zs, eb, hb, rb⟩ := dat_tup rv e3
            exact ⟨b, zs, eb, .inr hb.sq, rb⟩
          · cases e2
        obtain ⟨b, zs, eb, hb, rb⟩ := key
        subst eb
        refine ⟨a, b, us, zs, ev, evs, hu, hb, by rw [← ru.length, ← rb.length]; exact hl, ?_⟩
        obtain ⟨s2, g2⟩ := hs.write (o := .lst _) (u := .lst (us ++ zs)) ha ⟨_, upd_same, (ru.append rb).mono (.write ha)⟩
        exact hp w _ _ g2 s2 .non
      · exact hp.elim
    · exact hp.elim
  · exact hp.elim
theorem se_extH {K : W.Frag} (ho : SE X E o to fo) (ha : SA X E [e] tr fr) (hK : X.K = K := by rfl) (hbase : attributeBase o "extend" X.env (eval o X.env) = eval o X.env := by rfl)
    (hfew : ((backTo cpos (starEach [e] X.env)).all (fun x => !x.1) && (backToKw cpos (keywordEach [] X.env)).all (fun x => x.1.isSome) && decide ([e].length + ([] : List Keyword).length + (if ([] : List Keyword).isEmpty then 0 else 1) < 30)) = true := by rfl)
    (hline : (apos.endLine == cpos.line) = true := by rfl) (hs : starEach [e] X.env = (false, eval e X.env) :: starEach [] X.env := by rfl) (hplain : (backTo cpos (starEach [] X.env)).any (·.1) = false := by rfl) :
    SE X E (.Call (.Attribute o "extend" apos) [e] [] cpos) (tBM K "list" (rExtH K) to tr) (methL extH fo fr) := by
  subst hK
  exact ⟨pe_bm PySem.F.plainAttrs_list PySem.F.slot_list_extend PySem.F.type_list_extend mt_extH ho.pe ha.pa hbase hfew hline hs hplain, rf_methL bm_extH ho.rf ha.rf⟩
end
section
variable {X : Ex → Store → Prop} {st : Store} {Q : D → Store → Prop}
@[simp] theorem f_extHL {n : Nat} {ys : List PyData} : wpx X (extH (.loc n) [.val (.list ys)] st) Q = wpx X (extF (.loc n) [.val (.list ys)] st) Q := by
  simp only [extH, extF, setXs, dat, datV]
  cases st[n]? with
  | none => rfl
  | some o => cases o <;> rfl
@[simp] theorem f_extHO {n k : Nat} : wpx X (extH (.loc n) [.loc k] st) Q = wpx X (extF (.loc n) [.loc k] st) Q := by
  simp only [extH, extF, setXs, dat]
  cases st[n]? with
  | none => rfl
  | some o => cases o <;> first | rfl | (cases st[k]? with | none => rfl | some o2 => cases o2 <;> rfl)
@[simp] theorem f_extHT {n : Nat} {ys : List PyData} : wpx X (extH (.loc n) [.val (.tuple ys)] st) Q = (match st[n]? with | some (.lst xs) => xs.length + ys.length ≤ sizeLine ∧ Q (.val .none) (st.set n (.lst (xs ++ ys))) | _ => False) := by
  simp only [extH, setXs, dat, datV]
  cases st[n]? with
  | none => exact wp_D
  | some o => cases o with
    | lst xs => simp only [wp_iteBad, wp_ok]
    | _ => exact wp_D
end
end B
/-! BL55: x < y of data that are alike. -/
namespace B
open PySem L2 PySem.Spec PyProof.Rows
def rLtP (K : W.Frag) : R2 := fun x y H Q => ∃ d e, Dp K H x d ∧ Dp K H y e ∧ PySem.W.alike d e = true ∧ d ≠ .none ∧ min d.depth e.depth ≤ 64 ∧ Q (.bl (PySem.W.dataLt d e)) H
theorem op_ltP {X : Cx} {K : W.Frag} (hu : X.A.units + 64 < cLine) (hK : X.K = K := by rfl) : OpR X (compareOp .Lt) (rLtP K) := by
  subst hK
  intro pins s σ H x y v u Q I rx ry h
  obtain ⟨d, e, hd, he, al, hn, hl, q⟩ := h
  obtain ⟨as, r1⟩ := L2.Dp.reads I d x v hd rx
  obtain ⟨bs, r2⟩ := L2.Dp.reads I e y u he ry
  have := PySem.W.rcLt_alike d e X.A s v u as bs r1 r2 al hn (by omega)
  exact this X.prog X.w X.xe _ ⟨.bl _, H, I, rfl, q⟩
section
variable [Nm] [Gd]
/-- less: numbers, and tuples that are alike -/
def ltH (x y : D) : M D := fun st => match dat st x, dat st y with
  | some (.tuple a), some (.tuple b) => if PySem.W.alike (.tuple a) (.tuple b) = true ∧ min (PyData.tuple a).depth (PyData.tuple b).depth ≤ 64 then okV (.bool (PySem.W.dataLt (.tuple a) (.tuple b))) st else .bad
  | _, _ => ltF x y st
def rLtH (K : W.Frag) : R2 := fun x y H Q => rLtP K x y H Q ∨ rI0 (fun i j => .bl (decide (i < j))) x y H Q
theorem op_ltH {X : Cx} {K : W.Frag} (hu : X.A.units + 64 < cLine) (hK : X.K = K := by rfl) : OpR X (compareOp .Lt) (rLtH K) := OpR.or (op_ltP hu hK) op_lt
theorem bop_ltH {K : W.Frag} {E : XK} : BOp K E (rLtH K) ltH := by
  intro w H st dx dy x y Q hs rx ry hp
  unfold ltH at hp
  split at hp
  · rename_i e1 e2
    split at hp
    · rename_i hc
      exact .inl ⟨_, _, dat_dp hs rx e1, dat_dp hs ry e2, hc.1, by simp, hc.2, Post.now hp hs (.bl _)⟩
    · exact hp.elim
  · exact .inr (bop_cmp w H st dx dy x y Q hs rx ry hp)
end
section
variable {X : Ex → Store → Prop} {st : Store} {Q : D → Store → Prop}
@[simp] theorem f_ltHI {i j : Int} : wpx X (ltH (.val (.int i)) (.val (.int j)) st) Q = Q (.val (.bool (decide (i < j)))) st := by
  show wpx X (ltF (.val (.int i)) (.val (.int j)) st) Q = _
  exact f_cmp
@[simp] theorem f_ltHT {a b : List PyData} : wpx X (ltH (.val (.tuple a)) (.val (.tuple b)) st) Q = ((PySem.W.alike (.tuple a) (.tuple b) = true ∧ min (PyData.tuple a).depth (PyData.tuple b).depth ≤ 64) ∧ Q (.val (.bool (PySem.W.dataLt (.tuple a) (.tuple b)))) st) := by
  simp only [ltH, dat, datV, wp_iteBad]
  exact propext (and_congr Iff.rfl (Iff.of_eq wp_D))
end
end B
/-! BL56: cutting a body behind a statement that may return. -/
namespace B
open PySem L2
def kQ (R : Env → Store → Prop) (Q : Fl → Store → Prop) : Fl → Store → Prop := fun f s => match f with
  | .nx e => R e s
  | f => Q f s
section
variable {R : Env → Store → Prop} {Q : Fl → Store → Prop} {e : Env} {s : Store} {d : D}
@[simp] theorem kQ_nx : kQ R Q (.nx e) s = R e s := propext Iff.rfl
@[simp] theorem kQ_rt : kQ R Q (.rt d) s = Q (.rt d) s := propext Iff.rfl
@[simp] theorem kQ_bk : kQ R Q (.bk e) s = Q (.bk e) s := propext Iff.rfl
@[simp] theorem kQ_ct : kQ R Q (.ct e) s = Q (.ct e) s := propext Iff.rfl
theorem seq_cutQ {X : Ex → Store → Prop} {f g : Env → M Fl} {env : Env} {st : Store} (R : Env → Store → Prop) (h1 : wpx X (f env st) (kQ R Q)) (h2 : ∀ e s, R e s → wpx X (g e s) Q) : wpx X (seqS f g env st) Q := by
  rw [e_seqS, wp_bd]
  refine wp_mono h1 fun r s h => ?_
  cases r with
  | nx e => exact h2 e s h
  | bk e => exact ⟨h⟩
  | ct e => exact ⟨h⟩
  | rt d => exact ⟨h⟩
end
end B
/-! BL57: text.find(text), range with a step. -/
namespace B
open PySem L2
section
variable [Nm] [Gd]
section
variable {X : Cx} {E : XK} {o e : Expr} {to te : TE} {fo fe : B.Env → M D} {apos cpos : Pos}
def findF (x y : D) : M D := fun st => match x, y with
  | .val (.str a), .val (.str b) => .ok (.val (.int (Txt.find a b))) st
  | _, _ => .bad
def findE (fo fe : B.Env → M D) : B.Env → M D := fun env => bd (fo env) fun x => bd (isS1 x) fun _ => bd (fe env) fun y => findF x y
theorem se_find (ho : SE X E o to fo) (he : SE X E e te fe) (h1 : starEach [e] X.env = [(false, eval e X.env)] := by rfl) (h2 : attributeBase o "find" X.env (eval o X.env) = eval o X.env := by rfl) (h3 : (apos.endLine == cpos.line) = true := by rfl) :
    SE X E (.Call (.Attribute o "find" apos) [e] [] cpos) (tM1 (fun x xs H Q => ∃ a b, x = .str a ∧ xs = [.str b] ∧ Q (.int (Txt.find a b)) H) to te) (findE fo fe) := by
  refine ⟨pe_m1 PySem.F.slot_str_find PySem.F.type_str_find mt_find ho.pe he.pe h1 h2 h3, fun w σ H env st Q s0 e0 hp => ?_⟩
  refine ho.rf.step s0 e0 hp fun w1 H1 st1 x v g1 s1 e1 q1 hp => ?_
  cases hx : isS1 x st1 with
  | bad => rw [bd_bad hx] at hp; exact hp.elim
  | exc ex st2 =>
    unfold isS1 at hx
    split at hx <;> cases hx
  | ok uu st2 =>
    rw [bd_ok hx] at hp
    obtain ⟨a, rfl, rfl⟩ := isS1_ok hx
    obtain ⟨⟩ : v = .str a := by cases q1; rfl
    refine ⟨⟨a, rfl⟩, ?_⟩
    refine he.rf.step s1 e1 hp fun w2 H2 st2 y u g2 s2 e2 q2 hp => ?_
    unfold findF at hp
    split at hp
    · rename_i b' b ea
      cases ea
      cases q2
      exact ⟨a, b, rfl, rfl, Post.now hp s2 (.int _)⟩
    · exact hp.elim
end
theorem itok_rangeC {K : W.Frag} {w : Wd} {H : Hp} {lo c : Int} {n : Nat} : ItOk K w H (Itc lo c n) ((List.range n).map fun (i : Nat) => PyData.int (lo + i * c)) := by
  intro w' H' st' g s'
  refine ⟨fun i x hx => ?_, by simp [Itc]⟩
  have hi : i < n := by
    have := (List.getElem?_eq_some_iff.mp hx).1
    simpa using this
  refine ⟨hi, fun u H2 hy => ?_⟩
  obtain ⟨e, eu⟩ := hy
  subst e; subst eu
  refine ⟨Same.refl _, ?_⟩
  simp only [List.getElem?_map, List.getElem?_range hi, Option.map_some, Option.some.injEq] at hx
  rw [← hx]
  exact .int _
/-- how many items range(i, j, c) has -/
def rgN (i j c : Int) : Nat := (Builtin.Range.rangeSize i j c).toNat
def range3Src (ds : List D) : M Src := fun st => match ds with
  | [.val (.int i), .val (.int j), .val (.int c)] => if c ≠ 0 ∧ c.natAbs < 1073741824 ∧ Builtin.Range.small i j c = true ∧ 0 ≤ Builtin.Range.rangeSize i j c then .ok (.fix ((List.range (rgN i j c)).map fun (k : Nat) => PyData.int (i + k * c))) st else .bad
  | _ => .bad
section
variable {X : Cx} {E : XK} {a b c tg : Expr} {tr : TA} {fr : B.Env → M (List D)} {p pos : Pos}
def rng3I (fr : B.Env → M (List D)) : B.Env → M Src := fun env => bd (fr env) range3Src
theorem RpDs.three {K : W.Frag} {w : Wd} {H : Hp} {x y z : D} {vs : List V} (h : RpDs K w H [x, y, z] vs) : ∃ u v t, vs = [u, v, t] ∧ RpD K w H x u ∧ RpD K w H y v ∧ RpD K w H z t := by
  cases h with
  | cons h1 h =>
    cases h with
    | cons h2 h =>
      cases h with
      | cons h3 h => cases h; exact ⟨_, _, _, rfl, h1, h2, h3⟩
theorem si_range3 (hm : X.mg "range" = none) (ha : SA X E [a, b, c] tr fr) (hg : Gl X "range" := by rfl) (hs : starEach [a, b, c] X.env = (false, eval a X.env) :: starEach [b, c] X.env := by rfl) (hpl : (backTo pos (starEach [b, c] X.env)).any (·.1) = false := by rfl) :
    SI X E tg (.Call (.Name "range" p) [a, b, c] [] pos) (iRng3 tr) (rng3I fr) := by
  refine ⟨pi_range3 hg hm ha.pa hs hpl, fun w σ H env st Q s0 e0 hp => ?_⟩
  refine ha.rf.step s0 e0 hp fun r1 H1 st1 ds vs g1 s1 e1 q1 hp => ?_
  unfold range3Src at hp
  split at hp
  · split at hp
    · rename_i hl
      obtain ⟨u, v, t, ev, r, r', r''⟩ := q1.three
      cases r; cases r'; cases r''
      exact ⟨_, _, _, _, ev, ⟨hl.1, hl.2.1, hl.2.2.1, by unfold rgN; omega⟩, Post.now hp s1 itok_rangeC⟩
    · exact hp.elim
  · exact hp.elim
end
end
/-! ### the simp rules -/
variable {X : Ex → Store → Prop} {st : Store}
@[simp] theorem e_findE {fo fe : B.Env → M D} {env : B.Env} {Q : D → Store → Prop} : wpx X (findE fo fe env st) Q = wpx X (bd (fo env) (fun x => bd (isS1 x) fun _ => bd (fe env) fun y => findF x y) st) Q := by first | exact propext Iff.rfl | exact wp_D | exact wp_D.trans wp_D.symm
@[simp] theorem f_findF {a b : Str} {Q : D → Store → Prop} : wpx X (findF (.val (.str a)) (.val (.str b)) st) Q = Q (.val (.int (Txt.find a b))) st := by first | exact propext Iff.rfl | exact wp_ok
@[simp] theorem e_rng3I {f : B.Env → M (List D)} {env : B.Env} {Q : Src → Store → Prop} : wpx X (rng3I f env st) Q = wpx X (bd (f env) range3Src st) Q := by first | exact propext Iff.rfl | exact wp_D | exact wp_D.trans wp_D.symm
@[simp] theorem e_range3Src {i j c : Int} {Q : Src → Store → Prop} : wpx X (range3Src [.val (.int i), .val (.int j), .val (.int c)] st) Q = ((c ≠ 0 ∧ c.natAbs < 1073741824 ∧ Builtin.Range.small i j c = true ∧ 0 ≤ Builtin.Range.rangeSize i j c) ∧ Q (.fix ((List.range (rgN i j c)).map fun (k : Nat) => PyData.int (i + k * c))) st) := by
  simp only [range3Src, wp_iteBad, wp_ok]
end B
/-! BL58: lists and dicts that hold objects. -/
namespace B
open PySem L2
section
variable [Nm] [Gd]
def s1Of : D → Option S1
  | .val p => some (.v p)
  | .loc n => some (.l n)
  | _ => none
def dOf : S1 → D
  | .v p => .val p
  | .l n => .loc n
theorem s1Of_rel {K : W.Frag} {w : Wd} {H : Hp} {d : D} {s : S1} {v : V} (r : RpD K w H d v) (h : s1Of d = some s) : RpS K w H s v := by
  cases d with
  | val p => cases h; exact r
  | loc n => cases h; exact r
  | _ => cases h
theorem dOf_rel {K : W.Frag} {w : Wd} {H : Hp} {s : S1} {v : V} (r : RpS K w H s v) : RpD K w H (dOf s) v := by
  cases s <;> exact r
def getA {κ α : Type} [DecidableEq κ] (kvs : List (κ × α)) (k : κ) : Option α := (kvs.find? fun kv => decide (kv.1 = k)).map (·.2)
def putA {κ α : Type} [DecidableEq κ] (kvs : List (κ × α)) (k : κ) (v : α) : List (κ × α) :=
  if (kvs.any fun kv => decide (kv.1 = k)) = true then kvs.map (fun kv => if kv.1 = k then (kv.1, v) else kv) else kvs ++ [(k, v)]
section
variable {K : W.Frag} {w : Wd} {H : Hp} {st : Store} {κ : Type} [DecidableEq κ]
theorem RpKS.find {kvs : List (κ × S1)} {vs : List (κ × V)} (r : RpKS K w H kvs vs) (k : κ) : (∀ d, getA kvs k = some d → ∃ v, valV vs k = some v ∧ RpS K w H d v) ∧ (getA kvs k = none → valV vs k = none) := by
  induction r with
  | nil => exact ⟨fun d h => by simp [getA] at h, fun _ => rfl⟩
  | @cons j d ds v vs r s ih =>
    by_cases e : j = k
    · subst e
      refine ⟨fun c h => ?_, fun h => ?_⟩
      · simp [getA] at h; subst h; exact ⟨v, by simp [valV], r⟩
      · simp [getA] at h
    · have e1 : getA ((j, d) :: ds) k = getA ds k := by simp [getA, List.find?_cons, e]
      have e2 : valV ((j, v) :: vs) k = valV vs k := by simp [valV, List.find?_cons, e]
      rw [e1, e2]; exact ih
theorem RpKS.any {kvs : List (κ × S1)} {vs : List (κ × V)} (r : RpKS K w H kvs vs) (k : κ) : (kvs.any fun kv => decide (kv.1 = k)) = vs.any fun kv => decide (kv.1 = k) := by
  induction r with
  | nil => rfl
  | cons r s ih => simp only [List.any_cons, ih]
theorem RpKS.app {kvs : List (κ × S1)} {vs : List (κ × V)} (r : RpKS K w H kvs vs) {k : κ} {d : S1} {v : V} (q : RpS K w H d v) : RpKS K w H (kvs ++ [(k, d)]) (vs ++ [(k, v)]) := by
  induction r with
  | nil => exact .cons q .nil
  | cons r s ih => exact .cons r ih
theorem RpKS.put {kvs : List (κ × S1)} {vs : List (κ × V)} (r : RpKS K w H kvs vs) {k : κ} {d : S1} {v : V} (q : RpS K w H d v) : RpKS K w H (putA kvs k d) (putK vs k v) := by
  unfold putA putK
  rw [r.any k]
  split
  · rename_i hany
    clear hany
    induction r with
    | nil => exact .nil
    | @cons j c cs u us r s ih =>
      simp only [List.map_cons]
      by_cases e : j = k
      · rw [if_pos e, if_pos e]; exact .cons q ih
      · rw [if_neg e, if_neg e]; exact .cons r ih
  · exact r.app q
theorem RpKS.length {kvs : List (κ × S1)} {vs : List (κ × V)} (r : RpKS K w H kvs vs) : kvs.length = vs.length := by
  induction r with
  | nil => rfl
  | cons _ _ ih => simp [ih]
end
/-! ### dicts -/
section
variable {X : Cx} {E : XK} {o i e value : Expr} {td ty tv : TE} {fd fi fv : B.Env → M D} {pos pos' : Pos}
def dgetR (x y : D) : M D := fun st => match x with
  | .loc n => (match st[n]?, keyOf st y with
    | some (.dr kvs), some k => (match getA kvs k with
      | some d => .ok (dOf d) st
      | none => .bad)
    | _, _ => .bad)
  | _ => .bad
theorem se_dgetR (hu : X.A.units + 1 < cLine) (ho : SE X E o td fd) (hi : SE X E i ty fi) (hs : NoSl i := by exact fun _ _ => rfl) : SE X E (.Subscript o i pos) (tDGet td ty) (op2 dgetR fd fi) := by
  refine ⟨pe_dget hu ho.pe hi.pe hs, fun w σ H env st Q s0 e0 hp => ?_⟩
  refine ho.rf.step s0 e0 hp fun r1 H1 st1 x v g1 s1 e1 q1 hp => ?_
  refine hi.rf.step s1 e1 hp fun r2 H2 st2 y u g2 s2 e2 q2 hp => ?_
  unfold dgetR at hp
  split at hp
  · split at hp
    · rename_i eo ek
      split at hp
      · rename_i d hd
        obtain ⟨a, ev, ha, vs, hv, rv⟩ := s2.at eo (q1.mono g2)
        obtain ⟨z, hz, rz⟩ := (rv.find _).1 d hd
        refine ⟨a, z, ev, ?_, Post.now hp s2 (dOf_rel rz)⟩
        rw [keyOf_rel q2 ek, ← hz]
        exact DGet.k hv
      · exact hp.elim
    · exact hp.elim
  · exact hp.elim
def dputR (fd fi fv : B.Env → M D) : B.Env → M Fl := fun env => bd (fv env) fun v => bd (fd env) fun x => bd (fi env) fun y => fun st => match x, s1Of v with
  | .loc n, some d => (match st[n]?, keyOf st y with
    | some (.dr kvs), some k => if kvs.length < sizeLine then .ok (.nx env) (st.set n (.dr (putA kvs k d))) else .bad
    | _, _ => .bad)
  | _, _ => .bad
theorem ss_dputR (hu : X.A.units + 1 < cLine) (ho : SE X E o td fd) (hi : SE X E i ty fi) (hv : SE X E value tv fv) (hs : swapsWith value (some (.Subscript o i pos')) pos.line X.env = pure false := by rfl) :
    SS X E (.Assign [.Subscript o i pos'] value pos) (sDPut td ty tv) (dputR fd fi fv) := by
  refine ⟨ps_dput hu ho.pe hi.pe hv.pe hs, fun w σ H env st Z s0 e0 hp => ?_⟩
  refine hv.rf.stepS s0 e0 hp fun r1 H1 st1 v vv g1 s1 e1 q1 hp => ?_
  refine ho.rf.stepS s1 e1 hp fun r2 H2 st2 x xv g2 s2 e2 q2 hp => ?_
  refine hi.rf.stepS s2 e2 hp fun r3 H3 st3 y yv g3 s3 e3 q3 hp => ?_
  split at hp
  · rename_i d hd _
    split at hp
    · rename_i eo ek
      split at hp
      · rename_i hl
        obtain ⟨a, ev, ha, vs, hv', rv⟩ := s3.at eo (q2.mono g3)
        refine ⟨a, _, ev, by rw [keyOf_rel q3 ek]; exact DPut.k hv' (by rw [← rv.length]; exact hl), ?_⟩
        have q1' : RpS _ r3 H3 d vv := s1Of_rel ((q1.mono g2).mono g3) hd
        obtain ⟨s4, g4⟩ := s3.write (o := .dr _) (u := .dK (putK vs _ vv)) ha ⟨_, upd_same, (rv.put q1').mono (.write ha)⟩
        exact hp r3 _ _ g4 s4 (e3.mono g4)
      · exact hp.elim
    · exact hp.elim
  · exact hp.elim
/-- the entries of a display with text keys -/
def kvsR : List (D × D) → Option (List (Key × S1))
  | [] => some []
  | (.val (.str i), d) :: r => match s1Of d, kvsR r with
    | some s, some l => some ((.inr i, s) :: l)
    | _, _ => none
  | _ :: _ => none
theorem RPs.kvsR {K : W.Frag} {w : Wd} {H : Hp} : ∀ {ps : List (D × D)} {kvs : List (Key × S1)} {us : List (V × V)}, RPs K w H ps us → B.kvsR ps = some kvs → ∃ zs : List (Key × V), us = zs.map (fun kv => (kV kv.1, kv.2)) ∧ RpKS K w H kvs zs
  | [], kvs, _, .nil, e => by cases e; exact ⟨[], rfl, .nil⟩
  | (a, d) :: r, kvs, _, .cons ha hb t, e => by
    cases a with
    | val p =>
      cases p with
      | str i =>
        simp only [B.kvsR] at e
        cases e1 : s1Of d with
        | none => rw [e1] at e; cases e
        | some s =>
          cases e2 : B.kvsR r with
          | none => rw [e1, e2] at e; cases e
          | some l =>
            rw [e1, e2] at e
            cases e
            obtain ⟨us, e3, r1⟩ := RPs.kvsR t e2
            cases ha
            exact ⟨(Sum.inr i, _) :: us, by rw [e3]; rfl, .cons (s1Of_rel hb e1) r1⟩
      | _ => simp [B.kvsR] at e
    | _ => simp [B.kvsR] at e
theorem RpKS.merge {K : W.Frag} {w : Wd} {H : Hp} : ∀ {more : List (Key × S1)} {us : List (Key × V)} {kvs : List (Key × S1)} {vs : List (Key × V)}, RpKS K w H more us → RpKS K w H kvs vs → RpKS K w H (more.foldl (fun l p => putA l p.1 p.2) kvs) (mergeK vs us) := by
  intro more us kvs vs r
  induction r generalizing kvs vs with
  | nil => intro q; exact q
  | cons r s ih => intro q; exact ih (q.put r)
def newDr (ps : List (D × D)) : M D := fun st => match kvsR ps with
  | some kvs => if kvs.length ≤ 15 then .ok (.loc st.length) (st ++ [.dr (kvs.foldl (fun l p => putA l p.1 p.2) [])]) else .bad
  | none => .bad
def dispR (f : B.Env → M (List (D × D))) : B.Env → M D := fun env => bd (noX (f env)) newDr
theorem se_dispR {ks : List (Option Expr)} {vs : List Expr} {t : List (TE × TE)} {f : B.Env → M (List (D × D))} (h : SPs X E0 pos ks vs t f) (hall : ks.all (·.isSome) = true := by rfl) (hl : ks.length = vs.length := by rfl) (h0 : ks ≠ [] := by intro z; cases z) (h15 : ks.length ≤ 15 := by decide) :
    SE X E (.Dict ks vs pos) (tDisp t) (dispR f) := by
  refine ⟨pe_disp h.pp hall hl h0 h15, fun w σ H env st Q s0 e0 hp => ?_⟩
  intro p np
  replace hp : Post X.K E (RE X.K) w H (bd (noX (f env)) newDr st) Q := hp
  refine h.rf (w.prot p) σ _ env st _ (s0.prot np) (e0.mo (Mo.prot s0 np)) ?_
  cases hf : f env st with
  | ok ps st' =>
    rw [bd_ok (noX_ok hf)] at hp
    intro w1 H1 us g1 s1 q1
    obtain ⟨w2, mo, s2, g2, hD, er⟩ := unprot s0 np g1 s1
    unfold newDr at hp
    cases hk : kvsR ps with
    | none => simp only [hk] at hp; exact hp.elim
    | some kvs =>
      simp only [hk] at hp
      split at hp
      · rename_i hlen
        obtain ⟨zs, ez, rz⟩ := q1.kvsR hk
        refine ⟨hD, zs, ez, by rw [← rz.length]; exact hlen, ?_⟩
        have nn : (hide H1 p) p = none := hide_same
        obtain ⟨s3, g3⟩ := s2.push (o := .dr (kvs.foldl (fun l p => putA l p.1 p.2) [])) (u := .dK (mergeK [] zs)) nn ⟨_, upd_same, ((RpKS.merge (rz.mo mo) .nil)).mono (Ge.grown s2 nn)⟩
        have := hp _ _ (.ref p) (g2.trans g3) s3 ⟨p, rfl, by rw [s2.len]; simp⟩
        rw [upd_hide] at this
        exact this
      · exact hp.elim
  | exc e st' => rw [bd_bad (noX_exc hf)] at hp; exact hp.elim
  | bad => rw [bd_bad (noX_bad hf)] at hp; exact hp.elim
/-- an empty dict -/
def dNew : B.Env → M D := fun _ => fun st => .ok (.loc st.length) (st ++ [.dk []])
theorem se_dNew : SE X E (.Dict [] [] pos) tDNewK dNew := by
  refine ⟨pe_dnewK, fun w σ H env st Q s0 e0 hp p np => ?_⟩
  obtain ⟨s3, g3⟩ := s0.push (o := .dk []) (u := .dK []) np ⟨_, upd_same, .nil⟩
  exact hp _ _ (.ref p) g3 s3 ⟨p, rfl, by rw [s0.len]; simp⟩
/-- a part of a pair -/
def pixF (x y : D) : M D := match x, y with
  | .pr a _, .val (.int 0) => rt a.d
  | .pr _ b, .val (.int 1) => rt b.d
  | _, _ => bad
theorem bop_pix {K : W.Frag} : BOp K E (rIx K) pixF := by
  intro w H st dx dy x y Q hs rx ry hp
  unfold pixF at hp
  split at hp
  · obtain ⟨c, u, t, rfl, ha, r1, r2⟩ := rx
    cases ry
    exact .inr (.inl ⟨c, [u, t], 0, u, rfl, rfl, ha.sq, rfl, Post.now hp hs r1.d⟩)
  · obtain ⟨c, u, t, rfl, ha, r1, r2⟩ := rx
    cases ry
    exact .inr (.inl ⟨c, [u, t], 1, t, rfl, rfl, ha.sq, rfl, Post.now hp hs r2.d⟩)
  · exact hp.elim
theorem se_pix {K : W.Frag} {a b : Expr} {ta tb : TE} {fa fb : B.Env → M D} (ha : SE X E a ta fa) (hb : SE X E b tb fb) (hK : X.K = K := by rfl) (hs : PlainIx b := by exact fun _ _ => rfl) : SE X E (.Subscript a b pos) (tOp (rIx K) ta tb) (op2 pixF fa fb) := by
  subst hK
  exact ⟨pe_ix ix_seq ha.pe hb.pe hs, rf_op bop_pix ha.rf hb.rf⟩
end
/-- names set from a list of that length -/
def setL (n : Nat) (g : List PyData → B.Env → M B.Env) (d : D) (env : B.Env) : M B.Env := match d with
  | .val (.list ps) => if ps.length = n then g ps env else bad
  | _ => bad
theorem sg_lst {X : Cx} {E : XK} {pos : Pos} {es : List Expr} {K : W.Frag} {is : List Nat} {k n : Nat} {t : TGs} {g : List PyData → B.Env → M B.Env} (h : SGs X E is es t g) (hK : X.K = K := by rfl) (hc : X.calm = true := by rfl)
    (hn : (assignEach es X.env).length = n := by rfl) (hst : (assignEach es X.env).findIdx? (·.1) = none := by rfl) : SG X E is (.Tuple es k pos) (gUnl K n t) (setL n g) := by
  subst hK
  refine ⟨pg_unl hc h.pg hn hst, fun w σ H env st d v Q s0 e0 r hp => ?_⟩
  unfold setL at hp
  split at hp
  · split at hp
    · rename_i hl
      cases r with
      | ls ht rr => exact ⟨_, _, rfl, ht.sq, by rw [← rr.length]; exact hl, h.rf w σ H env st _ _ Q s0 e0 rr hp⟩
    · exact hp.elim
  · exact hp.elim
end
/-! ### the simp rules -/
section
variable {X : Ex → Store → Prop} {st : Store} {env : B.Env}
@[simp] theorem o_dgetR {n : Nat} {k : Str} {Q : D → Store → Prop} : wpx X (dgetR (.loc n) (.val (.str k)) st) Q = (match st[n]? with | some (.dr kvs) => (match getA kvs (.inr k) with | some d => Q (dOf d) st | none => False) | _ => False) := by
  simp only [dgetR, keyOf, dat, datV]
  cases st[n]? with
  | none => first | rfl | exact wp_D
  | some o => cases o with
    | dr kvs => simp only []; cases getA kvs (.inr k) <;> first | rfl | exact wp_D
    | _ => first | rfl | exact wp_D
@[simp] theorem getA_nil {κ α : Type} [DecidableEq κ] {k : κ} : getA ([] : List (κ × α)) k = none := rfl
@[simp] theorem getA_cons {κ α : Type} [DecidableEq κ] {k k' : κ} {d : α} {r : List (κ × α)} : getA ((k', d) :: r) k = if k' = k then some d else getA r k := by
  simp only [getA, List.find?_cons]
  by_cases h : k' = k <;> simp [h]
@[simp] theorem dOf_v {p : PyData} : dOf (.v p) = .val p := rfl
@[simp] theorem dOf_l {n : Nat} : dOf (.l n) = .loc n := rfl
@[simp] theorem s1Of_v {p : PyData} : s1Of (.val p) = some (.v p) := rfl
@[simp] theorem s1Of_l {n : Nat} : s1Of (.loc n) = some (.l n) := rfl
@[simp] theorem e_dispR {f : B.Env → M (List (D × D))} {Q : D → Store → Prop} : wpx X (dispR f env st) Q = wpx X (bd (noX (f env)) newDr st) Q := by first | exact propext Iff.rfl | exact wp_D | exact wp_D.trans wp_D.symm
@[simp] theorem f_newDr {ps : List (D × D)} {Q : D → Store → Prop} : wpx X (newDr ps st) Q = (match kvsR ps with | some kvs => kvs.length ≤ 15 ∧ Q (.loc st.length) (st ++ [.dr (kvs.foldl (fun l p => putA l p.1 p.2) [])]) | none => False) := by
  simp only [newDr]
  cases kvsR ps with
  | none => first | rfl | exact wp_D
  | some kvs => simp only [wp_iteBad, wp_ok]
@[simp] theorem kvsR_nil : kvsR [] = some [] := rfl
@[simp] theorem kvsR_v {i : Str} {p : PyData} {r : List (D × D)} : kvsR ((.val (.str i), .val p) :: r) = (kvsR r).map ((.inr i, .v p) :: ·) := by
  simp only [kvsR, s1Of]; cases kvsR r <;> rfl
@[simp] theorem kvsR_l {i : Str} {n : Nat} {r : List (D × D)} : kvsR ((.val (.str i), .loc n) :: r) = (kvsR r).map ((.inr i, .l n) :: ·) := by
  simp only [kvsR, s1Of]; cases kvsR r <;> rfl
@[simp] theorem e_dputR {fd fi fv : B.Env → M D} {Q : Fl → Store → Prop} : wpx X (dputR fd fi fv env st) Q = wpx X (bd (fv env) (fun v => bd (fd env) fun x => bd (fi env) fun y => fun st => match x, s1Of v with
    | .loc n, some d => (match st[n]?, keyOf st y with
      | some (.dr kvs), some k => if kvs.length < sizeLine then .ok (.nx env) (st.set n (.dr (putA kvs k d))) else .bad
      | _, _ => .bad)
    | _, _ => .bad) st) Q := by first | exact propext Iff.rfl | exact wp_D | exact wp_D.trans wp_D.symm
@[simp] theorem e_setL {n : Nat} {g : List PyData → B.Env → M B.Env} {ps : List PyData} {Q : B.Env → Store → Prop} : wpx X (setL n g (.val (.list ps)) env st) Q = (ps.length = n ∧ wpx X (g ps env st) Q) := by
  simp only [setL, wp_iteBadM]
@[simp] theorem e_dNew {Q : D → Store → Prop} : wpx X (dNew env st) Q = Q (.loc st.length) (st ++ [.dk []]) := by first | exact propext Iff.rfl | exact wp_ok
@[simp] theorem f_pix0 {a b : S1} {Q : D → Store → Prop} : wpx X (pixF (.pr a b) (.val (.int 0)) st) Q = Q a.d st := by first | exact propext Iff.rfl | exact wp_ok | simp [pixF]
@[simp] theorem f_pix1 {a b : S1} {Q : D → Store → Prop} : wpx X (pixF (.pr a b) (.val (.int 1)) st) Q = Q b.d st := by first | exact propext Iff.rfl | exact wp_ok | simp [pixF]
@[simp] theorem putA_nil {κ α : Type} [DecidableEq κ] {k : κ} {v : α} : putA ([] : List (κ × α)) k v = [(k, v)] := rfl
@[simp] theorem putA_same {κ α : Type} [DecidableEq κ] {k : κ} {v d : α} {r : List (κ × α)} (h : k ∉ r.map (·.1)) : putA ((k, d) :: r) k v = (k, v) :: r := by
  simp only [putA, List.any_cons, decide_true, Bool.true_or, if_true, List.map_cons]
  congr 1
  refine (List.map_congr_left (g := id) fun p hp => ?_).trans (List.map_id _)
  have hne : p.1 ≠ k := fun e => h (List.mem_map.mpr ⟨p, hp, e⟩)
  simp [hne]
end
theorem putA_ne {κ α : Type} [DecidableEq κ] {k k' : κ} {v d : α} {r : List (κ × α)} (h : k' ≠ k) : putA ((k', d) :: r) k v = (k', d) :: putA r k v := by
  simp only [putA, List.any_cons, h, decide_false, Bool.false_or, List.map_cons, if_false]
  split <;> simp
end B
/-! BL59: repr of a displayed list that holds objects. -/
namespace B
open PySem L2
section
variable [Nm] [Gd]
def datAll (st : Store) : List D → Option (List PyData)
  | [] => some []
  | d :: r => match dat st d, datAll st r with
    | some p, some l => some (p :: l)
    | _, _ => none
theorem datAll_dp {K : W.Frag} {w : Wd} {H : Hp} {st : Store} (hs : RelSt K w H st) : ∀ {ds : List D} {vs : List V} {ps : List PyData}, RpDs K w H ds vs → datAll st ds = some ps → DpAll K H vs ps
  | [], _, _, .nil, e => by cases e; exact .nil
  | d :: r, _, _, .cons h t, e => by
    simp only [datAll] at e
    cases e1 : dat st d with
    | none => rw [e1] at e; cases e
    | some p =>
      cases e2 : datAll st r with
      | none => rw [e1, e2] at e; cases e
      | some l =>
        rw [e1, e2] at e
        cases e
        exact .cons (dat_dp hs h e1) (datAll_dp hs t e2)
def reprLD (ds : List D) : M D := fun st => match datAll st ds with
  | some ps => if ps.length ≤ sizeLine ∧ (PyData.list ps).showable = true ∧ (PyData.list ps).shown.length ≤ sizeLine ∧ (PyData.list ps).depth ≤ 64 then okV (.str (PyData.list ps).shown) st else .bad
  | none => .bad
def reprL (fr : B.Env → M (List D)) : B.Env → M D := fun env => bd (fr env) reprLD
variable {X : Cx} {E : XK} {es : List Expr} {tr : TA} {fr : B.Env → M (List D)} {p pos pos2 : Pos}
theorem dpAll_len {K : W.Frag} {H : Hp} : ∀ {vs : List V} {ds : List PyData}, DpAll K H vs ds → ds.length = vs.length
  | _, _, .nil => rfl
  | _, _, .cons _ h => congrArg (· + 1) (dpAll_len h)
theorem se_reprL {K : W.Frag} (hu : X.A.units + 70 < cLine) (hG : X.A.guards = some []) (h : SA X E es tr fr) (hm : X.mg "repr" = none) (hK : X.K = K := by rfl) (hg : Gl X "repr" := by rfl)
    (he : starEach [.List es pos2] X.env = (false, eval (.List es pos2) X.env) :: starEach [] X.env := by rfl) (hpl : (backTo pos (starEach [] X.env)).any (·.1) = false := by rfl) : SE X E (.Call (.Name "repr" p) [.List es pos2] [] pos) (tCB (rReprP K) (tCons (tLst tr) tNil)) (reprL fr) := by
  subst hK
  refine ⟨pe_callB (cr_reprP hu hG) hg hm (by decide +kernel) (pa_cons (pe_lst h.pa) pa_nil he) (by decide) (by decide) he hpl, fun w σ H env st Q s0 e0 hp => ?_⟩
  refine h.rf.step s0 e0 hp fun w1 H1 st1 ds vs g1 s1 e1 q1 hp => ?_
  unfold reprLD at hp
  split at hp
  · rename_i ps hps
    split at hp
    · rename_i hc
      have hl := dpAll_len (datAll_dp s1 q1 hps)
      refine ⟨by rw [← hl]; exact hc.1, fun a ha => ?_⟩
      have gn : Ge w1 H1 w1 (upd H1 a (.lst vs)) := .new ha
      have s2 := s1.new (o := .lst vs) ha
      have dp := datAll_dp s2 (q1.mono gn) hps
      exact ⟨.ref a, .list ps, rfl, .lst (SqL.of upd_same) dp, hc.2.1, hc.2.2.1, hc.2.2.2, hp w1 _ _ gn s2 (.str _)⟩
    · exact hp.elim
  · exact hp.elim
end
section
variable {X : Ex → Store → Prop} {st : Store} {env : B.Env}
@[simp] theorem e_reprL {fr : B.Env → M (List D)} {Q : D → Store → Prop} : wpx X (reprL fr env st) Q = wpx X (bd (fr env) reprLD st) Q := by first | exact propext Iff.rfl | exact wp_D | exact wp_D.trans wp_D.symm
theorem f_reprL {ds : List D} {ps : List PyData} {Q : D → Store → Prop} (h : datAll st ds = some ps) : wpx X (reprLD ds st) Q = ((ps.length ≤ sizeLine ∧ (PyData.list ps).showable = true ∧ (PyData.list ps).shown.length ≤ sizeLine ∧ (PyData.list ps).depth ≤ 64) ∧ Q (.val (.str (PyData.list ps).shown)) st) := by
  simp only [reprLD, h, wp_iteBad]; exact propext (and_congr Iff.rfl (Iff.of_eq wp_D))
end
end B
/-! BL60: a set of texts that grows; set comprehensions with two clauses. -/
namespace GS
open PySem PySem.Spec PyProof.Rows L2 PySem.W
/-- the set of the texts in vs -/
def SO (w : World) (a : Addr) (vs : List V) : HO := .ext fun h => ∃ L es ep t, SetG w h a L es ep t ∧ (∀ r ∈ L, ∃ x u, r = (NestedKey.text x, Value.str x u)) ∧ ∀ x, V.str x ∈ vs ↔ NestedKey.text x ∈ L.map (·.1)
theorem so_new {w : World} {P : Program} {H : Hp} {h : Heap} {a : Addr} {vs : List V} {L : List Row} {es : Array (Int × Value)} {ep : Nat} {t : SetTable} (R : SetG w h a L es ep t) (g : ∀ r ∈ L, ∃ x u, r = (NestedKey.text x, Value.str x u)) (m : ∀ x, V.str x ∈ vs ↔ NestedKey.text x ∈ L.map (·.1)) : ObjOk P w H h a (SO w a vs) := by
  obtain ⟨o, ho, _⟩ := R.ob
  refine ⟨⟨L, es, ep, t, R, g, m⟩, ⟨o, ho⟩, ?_⟩
  rintro h1 h2 ⟨L, es, ep, t, R, g, m⟩ k
  refine ⟨L, es, ep, t, R.keep k fun p hp => ⟨?_, (R.key p hp).2⟩, g, m⟩
  obtain ⟨x, u, rfl⟩ := g p hp
  exact .text x u
theorem few_of {α : Type} [DecidableEq α] : ∀ {l b : List α}, l.Nodup → (∀ x ∈ l, x ∈ b) → l.length ≤ b.length
  | [], _, _, _ => Nat.zero_le _
  | x :: l, b, n, h => by
    have n' := List.nodup_cons.mp n
    have hx : x ∈ b := h x List.mem_cons_self
    have := few_of (l := l) (b := b.erase x) n'.2 fun y hy => (List.mem_erase_of_ne (fun e => n'.1 (by rw [← e]; exact hy))).mpr (h y (List.mem_cons_of_mem _ hy))
    have h1 := List.length_erase_of_mem hx
    have h2 := List.length_pos_of_mem hx
    rw [List.length_cons]
    omega
section
variable {X : Cx} {pins : List (Addr × Obj)} {σ : L2.St} {H : Hp} {s : Shared} {E : Value → Shared → Prop} {D : Addr}
theorem so_add {vs : List V} {y : Str} {u : Value} {Q : Value → Shared → Prop} (I : Inv X pins σ H s) (hu : X.A.units + 80 < cLine) (hD : H D = some (SO X.w D vs)) (b : List Str) (hb : b.length < 62) (hm : ∀ z, V.str z ∈ vs → z ∈ b) (r : RelV (.str y) u)
    (k : ∀ s', Inv X pins σ (upd H D (SO X.w D (vs ++ [.str y]))) s' → Q .none s') : wpAny (model X.prog X.w) X.A (call (.builtin "set.add") [.ref D, u]) Q E s := by
  obtain ⟨tk, rfl⟩ := r
  obtain ⟨L, es, ep, t, R, g, m⟩ := (I.hok D _ hD).1
  obtain ⟨o, ho, hex, hd⟩ := R.ob
  have few : L.length < 63 := by
    have inj : ∀ x ∈ L.map (·.1), x ∈ b.map NestedKey.text := fun x hx => by
      obtain ⟨r, hr, rfl⟩ := List.mem_map.mp hx
      obtain ⟨z, v, rfl⟩ := g r hr
      exact List.mem_map.mpr ⟨z, hm z ((m z).mpr hx), rfl⟩
    have := few_of R.nd inj
    rw [List.length_map, List.length_map] at this
    omega
  have nk : NestedIs s.heap (.text y) (.str y tk) := .text y tk
  have fin : ∀ (h' : Heap) (n : Nat), Heap.SameBut D s.heap h' → ObjOk X.prog X.w (upd H D (SO X.w D (vs ++ [.str y]))) h' D (SO X.w D (vs ++ [.str y])) → Q .none { s with heap := h', toks := n } := fun h' n sb ok =>
    k _ (I.write (e := D) (t' := n) (by rw [hD]; trivial) (.inl rfl) (fun b u hb hu => (sb.2 b hb).trans hu) ok.2.1 ok)
  refine wpAny_call_entry F.slot_set_add ⟨o, ho, hex.1⟩ F.entry_set_add ?_ (F.args_set_add_2 _ _)
  unfold Builtin.«set.add» Builtin.Frozenset.oneOther Builtin.Frozenset.addrOf setAdd
  simp only [List.isEmpty_nil, bind_assoc, pure_bind]
  refine wpAny_bind (wpAny_holding (wpAny_bind (pyHash_key (.text y) _ _ _ _ nk (by show X.A.units + 1 + 0 < cLine; omega) ?_)))
  refine add_row (s := { s with toks := s.toks + (NestedKey.text y).draws }) R (.inl ⟨rfl, fun p hp => ?_⟩) nk (by show 0 ≤ 8; omega) (by show X.A.units + 1 + 9 < cLine; omega) (by omega) (fun old => ?_) fun new h' L' mo => ?_
  · obtain ⟨z, v, rfl⟩ := g p hp
    rfl
  · show wpAny _ _ (ret Value.none) _ _ _
    refine wpAny_pure ⟨_, rfl, fin s.heap _ (Heap.SameBut.refl ..) (so_new R g fun x => ?_)⟩
    rw [List.mem_append, List.mem_singleton, m x]
    exact ⟨fun z => z.elim id fun e => by cases e; exact old, .inl⟩
  · obtain ⟨es', ep', t', R'⟩ := mo.set
    show wpAny _ _ (ret Value.none) _ _ _
    refine wpAny_pure ⟨_, rfl, fin h' _ mo.sb (so_new R' (fun r hr => ?_) fun x => ?_)⟩
    · rcases List.mem_cons.mp (mo.pm.mem_iff.mp hr) with z | z
      · exact ⟨y, tk, z⟩
      · exact g r z
    · rw [(mo.pm.map (·.1)).mem_iff, List.map_cons, List.mem_append, List.mem_singleton, m x, List.mem_cons]
      exact ⟨fun z => z.elim .inr fun e => by cases e; exact .inl rfl, fun z => z.elim (fun e => by cases e; exact .inr rfl) .inl⟩
end
/-! ### a clause's loop, whatever a turn does -/
theorem turns {Y : Cx} {pins : List (Addr × Obj)} {σ : L2.St} {H0 : Hp} {s0 : Shared} {J : It} {g : TG} {t : B.TN} {p it : Addr} {vs : List Nat} {fp : List Addr} {tn : Nat → Heap → Prop} {tg : Expr} {Fin : Hp → Prop} {Z G : Shared → Prop} {E : Value → Shared → Prop} {Body : Shared → (Shared → Prop) → Prop}
    (T : Turn Y.prog Y.w Y.K tg J fp it tn) (hc : Y.calm = true) (hxe : Y.xe = fun _ _ => False) (pg : PG Y tg g) (hl : B.LcLoop J g t p vs σ H0 Fin) (I0 : Inv Y pins (wipe σ vs) H0 s0) (st0 : tn 0 s0.heap) (hf : ∀ b ∈ fp, FpOk Y pins H0 b)
    (hb : ∀ pins' σ2 H2 s2 Nx (K : Shared → Prop), Inv Y pins' σ2 H2 s2 → t p σ2 H2 Nx → (∀ σ3 H3 s3, Inv Y pins' σ3 H3 s3 → σ3.length = σ2.length → (∀ (j : Nat) v, (wipe σ2 vs)[j]? = some (some v) → σ3[j]? = some (some v)) → Nx H3 → K s3) → Body s2 K)
    (hz : ∀ H s, Inv Y pins (wipe σ vs) H s → Fin H → Z s)
    (loop : ∀ (I : Nat → Shared → Prop), (∀ n s, I n s → wpAny (model Y.prog Y.w) Y.A (pyNext (.ref it)) (fun r s1 => match r with
      | none => Z s1
      | some v => wpAny (model Y.prog Y.w) Y.A (letOwnedTupleGo tg (.ref it) v) (fun _ s2 => wpAny (model Y.prog Y.w) Y.A (assign tg Y.env v) (fun _ s3 => Body s3 fun s' => ∃ m, m < n ∧ I m s') E s2) E s1) E s) → ∀ n s, I n s → G s) : G s0 := by
  obtain ⟨W, ⟨m0, w0⟩, tr⟩ := hl
  have ff : ∀ {H : Hp}, (∀ b ∈ fp, H b = none) → ∀ b ∈ fp, FpOk Y pins H b := fun h b hb => ⟨h b hb, (hf b hb).2⟩
  refine loop (fun n s => ∃ i H, (Inv Y pins (wipe σ vs) H s ∧ W i n H) ∧ tn i s.heap ∧ ∀ b ∈ fp, H b = none) ?_ m0 s0 ⟨0, H0, ⟨I0, w0⟩, st0, fun b hb => (hf b hb).1⟩
  rintro n s ⟨i, H, ⟨I1, ww⟩, st1, nn⟩
  rcases tr i n H ww with ⟨a1, a2⟩ | ⟨a1, Nx, a2, a3⟩
  · refine thnF (T.done Y rfl rfl rfl hc i pins s _ H (fun _ _ => False) I1 (ff nn) st1 a1) ?_
    rintro r s' ⟨rfl, I2⟩
    exact hz H s' I2 a2
  · refine thnF (T.item Y rfl rfl rfl hc i pins s _ H (fun _ _ => False) I1 (ff nn) st1 a1) ?_
    rintro r s' ⟨u, rfl, h2⟩
    refine thnF h2 ?_
    rintro _ s2 ⟨x, H2, I2, r2, y2, st2, n2⟩
    have run := pg.run _ s2 _ H2 x u _ (I2.pinned (ff n2) (T.obj _ _ st2)) r2 (a3 x H2 y2)
    rw [hxe] at run
    refine thnF run ?_
    rintro _ s3 ⟨σ3, H3, I3, e3, q3⟩
    refine hb _ σ3 H3 s3 Nx _ I3 q3 ?_
    intro σ4 H4 s4 I4 l4 k4 nx
    obtain ⟨m, hm, w4⟩ := a2 H4 nx
    have pin : ∀ b ∈ fp, ∀ o, s2.heap.get? b = some o → s4.heap.get? b = some o ∧ H4 b = none := fun b hb o e => by
      have z := I4.pin (b, o) (List.mem_append_right _ (List.mem_append_right _ (mem_pinsAt hb e)))
      exact ⟨z.1, z.2.1⟩
    have kept : tn (i + 1) s4.heap := T.keep _ _ _ st2 fun b hb o e => (pin b hb o e).1
    refine ⟨m, hm, i + 1, H4, ⟨I4.unpinned.weak ?_ fun j v e => k4 j v (by rw [e3]; exact e), w4⟩, kept, fun b hb => ?_⟩
    · rw [l4, ← wipe_length σ3 vs, e3]
    · obtain ⟨o, e, _⟩ := T.obj _ _ st2 b hb
      exact (pin b hb o e).2
end GS
/-! BL61: {elt for .. in .. if .. for .. in .. if ..}, the elements texts. -/
namespace GS
open PySem PySem.Spec PyProof.Rows L2 PySem.W
abbrev tst (f : List Expr) (en : PySem.Env) : Sem Bool := forIn f true fun q y => if y = true then do let z ← isTrue q en (eval q en); pure (ForInStep.yield z) else pure (ForInStep.yield y)
abbrev sc2 (elt t0 i0 t1 i1 : Expr) (f0 f1 : List Expr) (sc : Scope) (pos : Pos) : Expr := .SetComp elt [⟨t0, i0, f0, 0⟩, ⟨t1, i1, f1, 0⟩] sc pos
section
variable (elt t0 i0 t1 i1 : Expr) (f0 f1 : List Expr) (sc : Scope) (pos : Pos) (jt acc : Value) (en : PySem.Env)
theorem one_out : compTurn (sc2 elt t0 i0 t1 i1 f0 f1 sc pos) 0 jt acc en = (do
      standAt i0.pos
      match ← pyNext jt with
      | none => pure (.done .next)
      | some y =>
        letOwnedTupleGo t0 jt y
        assign t0 en y
        let mut z := true
        for q in f0 do
          if z then z ← isTrue q en (eval q en)
        if z then
          let u ← eval i1 en
          standAt i1.pos
          let u ← foldedSetIterable i1 en u
          let _ ← runOwn (.compStart (sc2 elt t0 i0 t1 i1 f0 f1 sc pos) 1 (← holding [u] (pyIter u)) acc en) en
        again (.compLoop (sc2 elt t0 i0 t1 i1 f0 f1 sc pos) 0 jt acc en)) := by rfl
theorem one_in : compTurn (sc2 elt t0 i0 t1 i1 f0 f1 sc pos) 1 jt acc en = (do
      standAt i1.pos
      match ← pyNext jt with
      | none => pure (.done .next)
      | some y =>
        letOwnedTupleGo t1 jt y
        assign t1 en y
        let mut z := true
        for q in f1 do
          if z then z ← isTrue q en (eval q en)
        if z then
          (do let u ← eval elt en; standAt elt.pos; let _ ← call (.builtin "set.add") [acc, u])
        again (.compLoop (sc2 elt t0 i0 t1 i1 f0 f1 sc pos) 1 jt acc en)) := by rfl
end
section
variable {P : Program} {w : World} {A : Around} {R : Result → Shared → Prop} {s : Shared} {elt t0 i0 t1 i1 : Expr} {f0 f1 : List Expr} {sc : Scope} {pos : Pos} {jt acc : Value} {en : PySem.Env}
theorem loop_out (hs : ∀ x, foldedSetIterable i1 en x = pure x) (I : Nat → Shared → Prop)
    (turn : ∀ n s, I n s → wpAny (model P w) A (pyNext jt) (fun r s1 => match r with
      | none => R (.ok .next) s1
      | some v => wpAny (model P w) A (letOwnedTupleGo t0 jt v) (fun _ s2 => wpAny (model P w) A (assign t0 en v) (fun _ s3 =>
          wpAny (model P w) A (tst f0 en) (fun z s4 => if z = true then wpAny (model P w) A (eval i1 en) (fun x s5 => wpAny (model P w) A (pyIter x) (fun kt s6 =>
              codeAny (model P w) A (.compStart (sc2 elt t0 i0 t1 i1 f0 f1 sc pos) 1 kt acc en) (fun r s' => match r with
                | .ok _ => ∃ m, m < n ∧ I m s'
                | .error _ => False) s6) (notedBy (model P w) A en fun e s' => R (.error e) s') s5) (notedBy (model P w) A en fun e s' => R (.error e) s') s4
            else ∃ m, m < n ∧ I m s4) (notedBy (model P w) A en fun e s' => R (.error e) s') s3) (notedBy (model P w) A en fun e s' => R (.error e) s') s2) (notedBy (model P w) A en fun e s' => R (.error e) s') s1) (notedBy (model P w) A en fun e s' => R (.error e) s') s)
    (n : Nat) (s : Shared) (h : I n s) : codeAny (model P w) A (.compLoop (sc2 elt t0 i0 t1 i1 f0 f1 sc pos) 0 jt acc en) R s := by
  refine codeAny_loop rfl I ?_ n h
  intro n s hI
  show wpAny _ A ((compTurn (sc2 elt t0 i0 t1 i1 f0 f1 sc pos) 0 jt acc en).onRaise _) _ _ s
  refine wpAny_noted ?_
  rw [one_out]
  refine wpAny_bind (wpAny_standAt (wpAny_bind (wpAny_mono (turn n s hI) ?_ fun _ _ z => z)))
  intro r s1 h1
  rcases r with _ | v
  · exact wpAny_pure h1
  refine wpAny_bind (wpAny_mono h1 (fun _ s2 h2 => wpAny_bind (wpAny_mono h2 (fun _ s3 h3 => wpAny_bind (wpAny_mono h3 ?_ fun _ _ z => z)) fun _ _ z => z)) fun _ _ z => z)
  intro z s4 h4
  cases z
  · exact wpAny_pure ⟨rfl, h4⟩
  refine wpAny_bind (wpAny_mono h4 (fun x s5 h5 => wpAny_bind (wpAny_standAt (wpAny_bind (wpAny_of_eq (hs x) (wpAny_bind (wpAny_holding (wpAny_mono h5 ?_ fun _ _ z => z))))))) fun _ _ z => z)
  intro kt s6 h6
  refine wpAny_bind (wpAny_runOwn ?_)
  rw [Around.mark_none]
  refine codeAny_mono h6 ?_
  intro r s' hr
  cases r with
  | error e => exact hr.elim
  | ok f =>
    first
      | exact wpAny_pure ⟨rfl, hr⟩
      | exact wpAny_bind (wpAny_pure (wpAny_pure ⟨rfl, hr⟩))
theorem loop_in (I : Nat → Shared → Prop)
    (turn : ∀ n s, I n s → wpAny (model P w) A (pyNext jt) (fun r s1 => match r with
      | none => R (.ok .next) s1
      | some v => wpAny (model P w) A (letOwnedTupleGo t1 jt v) (fun _ s2 => wpAny (model P w) A (assign t1 en v) (fun _ s3 =>
          wpAny (model P w) A (tst f1 en) (fun z s4 => if z = true then wpAny (model P w) A (eval elt en) (fun x s5 => wpAny (model P w) A (call (.builtin "set.add") [acc, x]) (fun _ s6 =>
              ∃ m, m < n ∧ I m s6) (notedBy (model P w) A en fun e s' => R (.error e) s') s5) (notedBy (model P w) A en fun e s' => R (.error e) s') s4
            else ∃ m, m < n ∧ I m s4) (notedBy (model P w) A en fun e s' => R (.error e) s') s3) (notedBy (model P w) A en fun e s' => R (.error e) s') s2) (notedBy (model P w) A en fun e s' => R (.error e) s') s1) (notedBy (model P w) A en fun e s' => R (.error e) s') s)
    (n : Nat) (s : Shared) (h : I n s) : codeAny (model P w) A (.compLoop (sc2 elt t0 i0 t1 i1 f0 f1 sc pos) 1 jt acc en) R s := by
  refine codeAny_loop rfl I ?_ n h
  intro n s hI
  show wpAny _ A ((compTurn (sc2 elt t0 i0 t1 i1 f0 f1 sc pos) 1 jt acc en).onRaise _) _ _ s
  refine wpAny_noted ?_
  rw [one_in]
  refine wpAny_bind (wpAny_standAt (wpAny_bind (wpAny_mono (turn n s hI) ?_ fun _ _ z => z)))
  intro r s1 h1
  rcases r with _ | v
  · exact wpAny_pure h1
  refine wpAny_bind (wpAny_mono h1 (fun _ s2 h2 => wpAny_bind (wpAny_mono h2 (fun _ s3 h3 => wpAny_bind (wpAny_mono h3 ?_ fun _ _ z => z)) fun _ _ z => z)) fun _ _ z => z)
  intro z s4 h4
  cases z
  · exact wpAny_pure ⟨rfl, h4⟩
  refine wpAny_bind (wpAny_bind (wpAny_mono h4 ?_ fun _ _ z => z))
  intro x s5 h5
  refine wpAny_bind (wpAny_standAt (wpAny_bind (wpAny_mono h5 ?_ fun _ _ z => z)))
  intro _ s6 h6
  exact wpAny_pure (wpAny_pure ⟨rfl, h6⟩)
theorem start_in (h0 : codeAny (model P w) A (.compLoop (sc2 elt t0 i0 t1 i1 f0 f1 sc pos) 1 jt acc en) R s)
    (h1 : wpAny (model P w) A (pyIter jt) (fun kt s' => codeAny (model P w) A (.compLoop (sc2 elt t0 i0 t1 i1 f0 f1 sc pos) 1 kt acc en) R s') (notedBy (model P w) A en fun x s' => R (.error x) s') s) :
    codeAny (model P w) A (.compStart (sc2 elt t0 i0 t1 i1 f0 f1 sc pos) 1 jt acc en) R s := by
  refine codeAny_of_tree ?_
  show wpAny _ _ ((compStart (sc2 elt t0 i0 t1 i1 f0 f1 sc pos) 1 jt acc en).onRaise _) _ _ s
  refine wpAny_notedAt ?_
  unfold compStart
  show wpAny _ _ (ask >>= _) _ _ s
  refine wpAny_bind (wpAny_askSetting (wpAny_ite ?_))
  split
  · first
      | exact wpAny_pure ⟨rfl, h0⟩
      | exact wpAny_bind (wpAny_pure (wpAny_pure ⟨rfl, h0⟩))
  · refine wpAny_bind (wpAny_rule ?_)
    first
      | exact wpAny_bind (wpAny_standAt (wpAny_bind (wpAny_mono h1 (fun kt s' k => wpAny_pure ⟨rfl, k⟩) fun _ _ z => z)))
      | (show wpAny _ _ (standAt i1.pos >>= _) _ _ s; exact wpAny_bind (wpAny_standAt (wpAny_bind (wpAny_mono h1 (fun kt s' k => wpAny_pure ⟨rfl, k⟩) fun _ _ z => z))))
end
end GS
/-! BL62: the set comprehension as a value. -/
namespace GS
open PySem PySem.Spec PyProof.Rows L2 PySem.W
def tInS (wd : World) (tt : TT) (te : TE) : B.TN := fun p σ H Nx => tt σ H fun b H1 => if b = true then te σ H1 fun y H2 => ∃ (x : Str) (vs : List V) (bs : List Str), y = V.str x ∧ H2 p = some (SO wd p vs) ∧ bs.length < 62 ∧ (∀ z, V.str z ∈ vs → z ∈ bs) ∧ Nx (upd H2 p (SO wd p (vs ++ [V.str x]))) else Nx H1
def tInS2 (wd : World) (tt : TT) (wi1 : TI) (g1 : TG) (tt1 : TT) (te : TE) (vs1 : List Nat) : B.TN := fun p σ H Nx => tt σ H fun b H1 => if b = true then wi1 σ H1 fun J H2 => B.LcLoop J g1 (tInS wd tt1 te) p vs1 σ H2 Nx else Nx H1
def tScc (wd : World) (wi : TI) (g : TG) (tt : TT) (wi1 : TI) (g1 : TG) (tt1 : TT) (te : TE) (vs vs1 : List Nat) : TE := fun σ H Q => wi σ H fun J H1 => ∀ D, H1 D = none → B.LcLoop J g (tInS2 wd tt wi1 g1 tt1 te vs1) D vs σ (upd H1 D (SO wd D [])) fun H' => Q (.ref D) H'
section
variable {X : Cx} {elt tg iter tg1 iter1 : Expr} {ifs ifs1 : List Expr} {scope : Scope} {own : List (Str × Nat)} {vs1 : List Nat} {pos : Pos} {wi wi1 : TI} {g g1 : TG} {tt tt1 : TT} {te : TE}
theorem pe_scc (hu : X.A.units + 80 < cLine) (hc : X.calm = true) (hN : X.N.Nodup) (hi : PI X tg iter wi) (ok : BlkOk X.N X.env.scope scope own) (hv : ∀ i ∈ vs1, i ∈ own.map (·.2))
    (b1 : ∀ (s : Shared) (H : Hp) (C : Addr) (cl : List (Str × Addr)) (fp : List Addr), (PG (X.blk s H scope (compEnvC scope cl C X.env) fp) tg g ∧ PTs (X.blk s H scope (compEnvC scope cl C X.env) fp) ifs tt) ∧ PI (X.blk s H scope (compEnvC scope cl C X.env) fp) tg1 iter1 wi1)
    (b2 : ∀ (s : Shared) (H : Hp) (C : Addr) (cl : List (Str × Addr)) (fp : List Addr), (PG (X.blk s H scope (compEnvC scope cl C X.env) fp) tg1 g1 ∧ PTs (X.blk s H scope (compEnvC scope cl C X.env) fp) ifs1 tt1) ∧ PE (X.blk s H scope (compEnvC scope cl C X.env) fp) elt te)
    (hs : ∀ x, foldedSetIterable iter X.env x = pure x) (hs1 : ∀ env x, foldedSetIterable iter1 env x = pure x) :
    PE X (sc2 elt tg iter tg1 iter1 ifs ifs1 scope pos) (tScc X.w wi g tt wi1 g1 tt1 te (own.map (·.2)) vs1) := by
  refine ⟨fun pins s σ H Q I h => ?_⟩
  have free : ∀ y ∈ scope.names, y.2 = .free → ∃ c, X.env.cells.lookup y.1 = some c := fun y hy e => (ok.free y hy e).elim (fun k => I.ok.has _ (.inl k)) fun k => I.ok.has _ (.inr k)
  show wpAny _ X.A (comprehension (sc2 elt tg iter tg1 iter1 ifs ifs1 scope pos) scope X.env (firstIterPos [⟨tg, iter, ifs, 0⟩, ⟨tg1, iter1, ifs1, 0⟩] pos) (newSet (.type "set")) false (eval iter X.env) none) _ _ s
  refine wpAny_comprehension_free rfl hs (closure_ok free) ok.kind (fun y hy e => by rw [ok.uniq y hy, e]) (thn (hi.run pins s σ H _ I h) fun xv s1 hx => thn hx ?_)
  rintro itv s2 ⟨it, fp, tn, J, H2, rfl, I2, T, st2, f2, q⟩
  refine PpSet.newSet_ok (newEnv_comp ?_)
  obtain ⟨D, hD⟩ : ∃ D, s2.heap.objs.size = D := ⟨_, rfl⟩
  rw [hD]
  have q := q D (I2.hok.fresh (Nat.le_of_eq hD))
  obtain ⟨ob, hob⟩ : ∃ ob : Obj, ({ cls := .type "set", dict := none, data := .set #[] 0 (.fresh 0 0 (!X.w.params.followText "set-order")) } : Obj) = ob := ⟨_, rfl⟩
  rw [hob]
  obtain ⟨s3, hs3⟩ : ∃ s3 : Shared, ({ s2 with heap := s2.heap.push ob } : Shared) = s3 := ⟨_, rfl⟩
  have at3 : s3.heap.get? D = some ob := by rw [← hs3, ← hD, ← hob]; exact Heap.get?_push_size _ rfl
  have up3 : ∀ {b o}, s2.heap.get? b = some o → s3.heap.get? b = some o := fun e => by rw [← hs3]; exact Heap.get?_push_of_some _ e
  have I3 : Inv X pins σ (upd H2 D (SO X.w D [])) s3 := by
    have z := so_new (P := X.prog) (H := upd H2 D (SO X.w D [])) (vs := []) (fresh_set hob at3) (fun r hr => by cases hr) fun x => by simp
    rw [← hs3] at z ⊢
    exact I2.laid (t' := s2.toks) (fun b o e => Heap.get?_push_of_some _ e) (Nat.le_of_eq hD) z
  have size : ∀ b ∈ fp, b < s2.heap.objs.size := fun b hb => by
    obtain ⟨o, e, _⟩ := T.obj _ _ st2 b hb
    exact Heap.lt_size e
  have size3 : s2.heap.objs.size < s3.heap.objs.size := by rw [← hs3]; show _ < (s2.heap.push ob).objs.size; rw [Heap.size_push]; exact Nat.lt_succ_self _
  have f3 : ∀ b ∈ fp, FpOk X pins (upd H2 D (SO X.w D [])) b ∧ b < s3.heap.objs.size := fun b hb => by
    refine ⟨⟨?_, (f2 b hb).2⟩, Nat.lt_trans (size b hb) size3⟩
    rw [upd_ne (by rw [← hD]; exact Nat.ne_of_lt (size b hb))]
    exact (f2 b hb).1
  obtain ⟨cl, hcl⟩ : ∃ cl, cellsFrom (s3.heap.objs.size + 1) scope.names (cloFrom X.env.cells scope.names []) = cl := ⟨_, rfl⟩
  have I4 := block_start I3 ok hN f3
  have c1 := b1 s3 (upd H2 D (SO X.w D [])) s3.heap.objs.size cl fp
  have c2 := b2 s3 (upd H2 D (SO X.w D [])) s3.heap.objs.size cl fp
  have e3 : s2.heap.push ob = s3.heap := by rw [← hs3]
  simp only [hcl] at I4
  rw [e3, hcl]
  obtain ⟨ce, hce⟩ : ∃ ce, compEnvC scope cl s3.heap.objs.size X.env = ce := ⟨_, rfl⟩
  have cL : ce.locals = s3.heap.objs.size := by rw [← hce]; rfl
  have nfp : ∀ b ∈ fp, (upd H2 D (SO X.w D [])) b = none := fun b hb => (f3 b hb).1.1
  obtain ⟨H3, hH3⟩ : ∃ H3, upd H2 D (SO X.w D []) = H3 := ⟨_, rfl⟩
  rw [hH3] at I3 q nfp
  rw [hH3, hce] at c1 c2 I4
  simp only [hH3] at f3
  obtain ⟨s4, hs4⟩ : ∃ s4 : Shared, ({ s3 with heap := pushCells (s3.heap.push { cls := .type "dict", data := .dict #[] }) scope.names } : Shared) = s4 := ⟨_, rfl⟩
  rw [hs4] at I4
  have st4 : tn 0 s4.heap := T.keep _ _ _ st2 fun b _ o e => by rw [← hs4]; exact pushCells_keeps _ _ _ _ (Heap.get?_push_of_some _ (up3 e))
  obtain ⟨RR, hRR⟩ : ∃ RR, compPost (model X.prog X.w) X.A X.xe none (fun v s' => ∃ x H', Inv X pins σ H' s' ∧ RelV x v ∧ Q x H') (.ref D) s3.heap.objs.size = RR := ⟨_, rfl⟩
  have goal : codeAny (model X.prog X.w) X.A (.compLoop (sc2 elt tg iter tg1 iter1 ifs ifs1 scope pos) 0 (.ref it) (.ref D) ce) RR s4 := by
    refine turns (Y := X.blk s3 H3 scope ce fp) (pins := []) (E := notedBy (model X.prog X.w) X.A ce fun e s' => RR (.error e) s') (Body := fun s3 K => wpAny (model X.prog X.w) X.A (tst ifs ce) (fun z s4 => if z = true then wpAny (model X.prog X.w) X.A (eval iter1 ce) (fun x s5 => wpAny (model X.prog X.w) X.A (pyIter x) (fun kt s6 => codeAny (model X.prog X.w) X.A (.compStart (sc2 elt tg iter tg1 iter1 ifs ifs1 scope pos) 1 kt (.ref D) ce) (fun r s' => match r with
        | .ok _ => K s'
        | .error _ => False) s6) (notedBy (model X.prog X.w) X.A ce fun e s' => RR (.error e) s') s5) (notedBy (model X.prog X.w) X.A ce fun e s' => RR (.error e) s') s4 else K s4) (notedBy (model X.prog X.w) X.A ce fun e s' => RR (.error e) s') s3) T hc rfl c1.1.1 q I4 st4
      (fun b hb => ⟨nfp b hb, (I4.ok.exf b hb).1, I4.ok.exfs b hb, .inl hb, fun x c e => (I4.ok.exf b hb).2 x c e, fun p hp => absurd (show p ∈ ([] : List (Addr × Obj)) ++ [] from hp) (by simp)⟩)
      (Z := fun s => RR (.ok .next) s) ?_ ?_ (fun I turn n s h => loop_out (hs1 ce) I turn n s h)
    · intro pins' σ5 H5 s5 Nx K I5 t5 k5
      refine thnF (c1.1.2.run pins' s5 σ5 H5 _ I5 t5) ?_
      rintro b s6 ⟨H6, I6, q6⟩
      cases b with
      | false => exact k5 σ5 H6 s6 I6 rfl (fun j v e => (wipe_some e).1) q6
      | true =>
        refine thnF (c1.2.run pins' s6 σ5 H6 _ I6 q6) fun xv s7 hx => thnF hx ?_
        rintro kv s8 ⟨kt, fp1, tn1, J1, H8, rfl, I8, T1, st8, f8, q8⟩
        have inner : codeAny (model X.prog X.w) X.A (.compLoop (sc2 elt tg iter tg1 iter1 ifs ifs1 scope pos) 1 (.ref kt) (.ref D) ce) (fun r s' => match r with
            | .ok _ => K s'
            | .error _ => False) s8 := by
          refine turns (Y := X.blk s3 H3 scope ce fp) (pins := pins') (E := notedBy (model X.prog X.w) X.A ce fun _ _ => False) (Body := fun s3 K => wpAny (model X.prog X.w) X.A (tst ifs1 ce) (fun z s4 => if z = true then wpAny (model X.prog X.w) X.A (eval elt ce) (fun x s5 => wpAny (model X.prog X.w) X.A (call (.builtin "set.add") [.ref D, x]) (fun _ s6 => K s6) (notedBy (model X.prog X.w) X.A ce fun _ _ => False) s5) (notedBy (model X.prog X.w) X.A ce fun _ _ => False) s4 else K s4) (notedBy (model X.prog X.w) X.A ce fun _ _ => False) s3) T1 hc rfl c2.1.1 q8 (I8.weak (wipe_length _ _) fun j v e => (wipe_some e).1) st8 f8 (Z := fun s => K s) ?_ ?_ (fun I turn n s h => loop_in I turn n s h)
          · intro pins2 σ9 H9 s9 Nx1 K1 I9 t9 k9
            refine thnF (c2.1.2.run pins2 s9 σ9 H9 _ I9 t9) ?_
            rintro b s10 ⟨H10, I10, q10⟩
            cases b with
            | false => exact k9 σ9 H10 s10 I10 rfl (fun j v e => (wipe_some e).1) q10
            | true =>
              refine thnF (c2.2.run pins2 s10 σ9 H10 _ I10 q10) ?_
              rintro u s11 ⟨y, H11, I11, r11, x, vs, bs, rfl, hDv, hb, hm, nx⟩
              exact so_add (X := X.blk s3 H3 scope ce fp) I11 hu hDv bs hb hm r11 fun s12 I12 => k9 σ9 _ s12 I12 rfl (fun j v e => (wipe_some e).1) nx
          · intro H9 s9 I9 nx
            exact k5 _ H9 s9 I9 (wipe_length σ5 vs1) (fun j v e => by
              obtain ⟨e1, e2⟩ := wipe_some e
              rw [wipe_out fun z => e2 (hv j z)]
              exact e1) nx
        exact start_in inner (T1.self X.A 0 _ _ _ st8 inner)
    · intro H5 s5 I5 q5
      have I6 : Inv X pins σ H5 s5 := I3.call' (ch := fp) I5.os I5.base I5.hok I5.bare fun b hb => ⟨(f3 b hb).1.2.2.2.1, (f3 b hb).1.2.1, (f3 b hb).1.2.2.2.2.1, (f3 b hb).1.2.2.2.2.2⟩
      have nC : H5 s3.heap.objs.size = none := by rw [← cL]; exact I5.free
      obtain ⟨m, hn, _⟩ := I5.loc
      have hn : s5.heap.Ns ce.locals m := hn
      rw [cL] at hn
      obtain ⟨f0, f1, f2, f3, f4, f5⟩ := I3.fpOk (Nat.le_refl _) nC
      rw [← hRR]
      refine ⟨m, hn, fun h'' sb => ⟨.ref D, H5, ?_, rfl, q5⟩⟩
      exact I6.turned (t' := s5.toks) (fun b o hb e => (sb.2 b hb).trans e) nC f1 f3 f4 f5
  subst hRR; subst hs4; subst hce; subst hs3
  exact PpSet.codeAny_compStart_set goal (T.self X.A 0 _ _ _ st4 goal)
end
end GS
/-! BL63: sorted(set comprehension) as a mirror. -/
namespace GS
open PySem PySem.Spec PyProof.Rows L2 PySem.W
def isTx : PyData → Bool
  | .str _ => true
  | _ => false
theorem isTx_eq {d : PyData} (h : isTx d = true) : ∃ x, d = .str x := by cases d <;> first | exact ⟨_, rfl⟩ | cases h
def rSortTx (wd : World) : V → Hp → VK → Prop := fun v H Q => ∃ D vs ds, v = V.ref D ∧ H D = some (SO wd D vs) ∧ (∀ d ∈ ds, ∃ x, d = PyData.str x) ∧ (∀ x, PyData.str x ∈ ds ↔ V.str x ∈ vs) ∧ ∀ xs : List Str, xs.map PyData.str = B.sortP (dedP ds) → ∀ p, H p = none → Q (.ref p) (upd H p (.lst (xs.map V.str)))
theorem sortOk_tx {ds : List PyData} (h : ∀ d ∈ ds, ∃ x, d = PyData.str x) : B.sortOk ds = true := by
  unfold B.sortOk
  simp only [Bool.and_eq_true, Bool.or_eq_true, List.all_eq_true, decide_eq_true_eq]
  refine ⟨⟨fun d hd e he => ?_, .inr fun d hd => ?_⟩, fun d hd => ?_⟩
  · obtain ⟨x, rfl⟩ := h d hd
    obtain ⟨y, rfl⟩ := h e he
    rfl
  · obtain ⟨x, rfl⟩ := h d hd
    rfl
  · obtain ⟨x, rfl⟩ := h d hd
    show 0 ≤ 64
    omega
theorem rows_tx {h : Heap} : ∀ {L : List Row}, (∀ r ∈ L, ∃ x u, r = (NestedKey.text x, Value.str x u)) → ∃ ys : List Str, RowsOf h (ys.map fun x => (PyData.str x, V.str x)) L ∧ L.map (·.1) = ys.map NestedKey.text
  | [], _ => ⟨[], .nil, rfl⟩
  | r :: L, g => by
    obtain ⟨ys, h1, h2⟩ := rows_tx (h := h) (L := L) fun r hr => g r (List.mem_cons_of_mem _ hr)
    obtain ⟨x, u, rfl⟩ := g r List.mem_cons_self
    exact ⟨x :: ys, .cons rfl ⟨⟨u, rfl⟩, .str x u⟩ h1, by rw [List.map_cons, List.map_cons, h2]⟩
theorem nodup_text : ∀ {ys : List Str}, (ys.map NestedKey.text).Nodup → (ys.map PyData.str).Nodup
  | [], _ => List.nodup_nil
  | y :: ys, h => by
    have h := List.nodup_cons.mp h
    refine List.nodup_cons.mpr ⟨fun m => h.1 ?_, nodup_text h.2⟩
    obtain ⟨z, hz, e⟩ := List.mem_map.mp m
    cases e
    exact List.mem_map.mpr ⟨y, hz, rfl⟩
section
variable [B.Nm] [B.Gd]
theorem pe_sortTx {X : Cx} {e : Expr} {te : TE} {p pos : Pos} (hu : X.A.units + 80 < cLine) (hm : X.mg "sorted" = none) (he : PE X e te) (hg : Gl X "sorted" := by rfl) (hc : X.calm = true := by rfl)
    (na : starEach [e] X.env = (false, eval e X.env) :: starEach [] X.env := by rfl) : PE X (.Call (.Name "sorted" p) [e] [] pos) (tUn (rSortTx X.w) te) := by
  refine ⟨fun pins s σ H Q I h => Call_ (ld_blt I hg hm (show bootBuiltins "sorted" = some (.builtin "sorted") by decide +kernel) ?_)⟩
  refine PyProof.Rows.callWith_builtin1 (PyProof.Rows.args_cons (thn (he.run pins s σ H _ I h) ?_) na) na rfl
  rintro v s1 ⟨x, H1, I1, r1, D, vs, ds, rfl, hD, ht, hv, q⟩
  cases r1
  refine PyProof.Rows.args_nil ?_
  obtain ⟨L, es, ep, t, R, g, m⟩ := (I1.hok D _ hD).1
  obtain ⟨ys, hb, hy⟩ := rows_tx (h := s1.heap) g
  have tx : ∀ d ∈ (ys.map fun x => (PyData.str x, V.str x)).map (·.1), ∃ x, d = PyData.str x := fun d hd => by
    rw [List.map_map] at hd
    obtain ⟨x, _, rfl⟩ := List.mem_map.mp hd
    exact ⟨x, rfl⟩
  refine sorted_setG R (I1.ok.hd hc) hb (sortOk_tx tx) hu ?_
  intro s' pp out c bs' pb pw ee k2 e1 e2 hpp e3
  have tb : ∀ (l : List Bit), (∀ b ∈ l, b ∈ ys.map fun x => (PyData.str x, V.str x)) → ∃ zs : List Str, l = zs.map fun x => (PyData.str x, V.str x) := fun l => by
    induction l with
    | nil => exact fun _ => ⟨[], rfl⟩
    | cons b l ih =>
      intro h
      obtain ⟨zs, rfl⟩ := ih fun b hb => h b (List.mem_cons_of_mem _ hb)
      obtain ⟨x, _, rfl⟩ := List.mem_map.mp (h b List.mem_cons_self)
      exact ⟨x :: zs, rfl⟩
  obtain ⟨zs, rfl⟩ := tb bs' fun b hbm => pb.mem_iff.mp hbm
  have few := R.few
  have len : zs.length ≤ 64 := by
    have h1 := pb.length_eq
    have h2 := hb.len
    rw [List.length_map, List.length_map] at h1
    rw [List.length_map] at h2
    omega
  have rel := vals_of ee
  have e0 : (zs.map fun x => (PyData.str x, V.str x)).map (·.2) = zs.map V.str := by rw [List.map_map]; rfl
  have e4 : (zs.map fun x => (PyData.str x, V.str x)).map (·.1) = zs.map PyData.str := by rw [List.map_map]; rfl
  rw [e0] at rel
  have I3 : Inv X pins σ (upd H1 pp (.lst (zs.map V.str))) { heap := s'.heap, gens := s1.gens, drawn := s1.drawn, toks := s'.toks, os := s1.os } :=
    I1.laid (t' := s'.toks) k2 hpp ⟨by rw [List.length_map, sizeLine_eq]; omega, out, c, rel, e3⟩
  refine ⟨V.ref pp, _, inv_same I3 rfl (e1.trans rfl) (e2.trans rfl), rfl, q zs ?_ pp (I1.hok.fresh hpp)⟩
  have ndz : (zs.map PyData.str).Nodup := by
    have p1 := pb.map (·.1)
    rw [e4, List.map_map] at p1
    refine p1.nodup_iff.mpr (nodup_text ?_)
    rw [← hy]
    exact R.nd
  have mz : ∀ d, d ∈ zs.map PyData.str ↔ d ∈ dedP ds := fun d => by
    have nn : ∀ d ∈ ds, (nk d).isSome = true := fun d hd => by obtain ⟨x, rfl⟩ := ht d hd; rfl
    rw [mem_ded nn]
    have p1 := (pb.map (·.1)).mem_iff (a := d)
    rw [e4, List.map_map] at p1
    rw [p1]
    constructor
    · intro h
      obtain ⟨x, hx, rfl⟩ := List.mem_map.mp h
      exact (hv x).mpr ((m x).mpr (by rw [hy]; exact List.mem_map.mpr ⟨x, hx, rfl⟩))
    · intro h
      obtain ⟨x, rfl⟩ := ht d h
      have := (m x).mp ((hv x).mp h)
      rw [hy] at this
      obtain ⟨z, hz, e⟩ := List.mem_map.mp this
      cases e
      exact List.mem_map.mpr ⟨x, hz, rfl⟩
  have p2 : (zs.map PyData.str).Perm (dedP ds) := (List.perm_ext_iff_of_nodup ndz nodup_ded).mpr mz
  have TL : TotalLe (dataLe false id) := sortLe_total _ _ _
  refine sorted_unique (r := fun x y => dataLe false id x y = true) (p2.trans (List.mergeSort_perm ..).symm) ?_ ?_ fun d hd e he h1 h2 => ?_
  · rw [← e4]; exact List.pairwise_map.mpr pw
  · exact List.pairwise_mergeSort (fun a b c => TL.trans a b c) (fun a b => by have := TL.total a b; simpa using this) _
  · obtain ⟨x, _, rfl⟩ := List.mem_map.mp hd
    obtain ⟨y, _, rfl⟩ := List.mem_map.mp he
    exact le_anti rfl h1 h2 (k := .text x) (k' := .text y) rfl rfl
end
end GS
namespace B
open PySem L2
variable [Nm] [Gd]
theorem heap_of : ∀ n : Nat, ∃ h : Heap, h.objs.size = n
  | 0 => ⟨{}, rfl⟩
  | n + 1 => by
    obtain ⟨h, e⟩ := heap_of n
    exact ⟨h.push { cls := .type "set", data := .fields #[] }, by rw [Heap.size_push, e]⟩
theorem so_code {wd : World} {p : Addr} {vs : List V} (q : Str) : GS.SO wd p vs ≠ LamX.CodeO p q := by
  intro z
  obtain ⟨h, e⟩ := heap_of p
  have z := congrFun (HO.ext.inj z) (h.push { cls := .type "set", data := .fields #[.none, .str q 0] })
  have g : (h.push { cls := .type "set", data := .fields #[.none, .str q 0] }).get? p = some { cls := .type "set", data := .fields #[.none, .str q 0] } := by rw [← e]; exact Heap.get?_push_size _ rfl
  have y := z.mpr ⟨_, _, _, g, rfl, rfl⟩
  obtain ⟨L, es, ep, t, R, _⟩ := y
  obtain ⟨o, ho, _, hd⟩ := R.ob
  rw [g] at ho
  cases ho
  cases hd
theorem unprotU {K : W.Frag} {w w' : Wd} {H H' : Hp} {st st' : Store} {p : Addr} {o : HO} (hs : RelSt K w H st) (hp : H p = none) (g : Ge (w.prot p) (upd H p o) w' H') (s : RelSt K w' H' st') (o1 : NoT o := by intro _ z; cases z) (o2 : ∀ q, o ≠ LamX.CodeO p q) :
    ∃ w2, Mo w' H' w2 (hide H' p) ∧ RelSt K w2 (hide H' p) st' ∧ Ge w H w2 (hide H' p) ∧ H' p = some o ∧ w2.rho = w'.rho := by
  have np := hs.notin hp
  obtain ⟨more, e1, e2, hm⟩ := g.pre
  have e2' : w'.ext = p :: w.ext := e2
  have e1' : w'.rho = w.rho ++ more := e1
  have npr : p ∉ w'.rho := fun q => s.nde p q (by rw [e2']; exact List.mem_cons_self)
  have mo : Mo w' H' ⟨w'.rho, w.ext⟩ (hide H' p) := ⟨fun a u _ n h => by
    have ne : a ≠ p := fun z => n (List.mem_append_right _ (by rw [e2', z]; exact List.mem_cons_self))
    refine ⟨fun q => ?_, by rw [hide_ne ne]; exact h⟩
    rcases List.mem_append.mp q with q | q
    · exact n (List.mem_append_left _ q)
    · exact n (List.mem_append_right _ (by rw [e2']; exact List.mem_cons_of_mem _ q)), fun _ _ h => h⟩
  have hpo : H' p = some o := g.keep p o o1 (fun q => np (List.mem_append_left _ q)) upd_same
  have tb : LamX.Tabs Nm.tb (hide H' p) := fun t ht => by
    obtain ⟨ps, h1, h2, h3⟩ := s.tab t ht
    refine ⟨ps, by rw [hide_ne (fun z => by rw [z, hpo] at h1; exact o1 _ (Option.some.inj h1))]; exact h1, h2, fun pos cv hc => ?_⟩
    obtain ⟨c, e1, e2⟩ := h3 pos cv hc
    exact ⟨c, e1, by rw [hide_ne (fun z => by rw [z, hpo] at e2; exact o2 _ (Option.some.inj e2))]; exact e2⟩
  refine ⟨⟨w'.rho, w.ext⟩, mo, ⟨s.len, s.nd, fun a h => ?_, fun a h q => s.nde a h (by rw [e2']; exact List.mem_cons_of_mem _ q), fun n q a h1 h2 => ?_, tb, Gd.sb mo.sub s.inv⟩, ⟨⟨more, e1', rfl, fun q hq => ?_⟩, fun a u t n h => ?_, fun a u n h => ?_⟩, hpo, rfl⟩
  · obtain ⟨u, e⟩ := s.trk a (by rw [e2']; exact List.mem_cons_of_mem _ h)
    exact ⟨u, by rw [hide_ne (fun z => np (by rw [← z]; exact List.mem_append_right _ h))]; exact e⟩
  · have ne : a ≠ p := fun z => npr (by rw [← z]; exact List.mem_of_getElem? h2)
    exact (s.obj n q a h1 h2).mo mo (hide_ne ne)
  · obtain ⟨n1, n2⟩ := hm q hq
    have ne : q ≠ p := fun z => by rw [z, upd_same] at n2; cases n2
    rw [upd_ne ne] at n2
    refine ⟨fun z => n1 ?_, n2⟩
    rcases List.mem_append.mp z with z | z
    · exact List.mem_append_left _ z
    · exact List.mem_append_right _ (List.mem_cons_of_mem _ z)
  · have ne : a ≠ p := ne_of_none h hp
    rw [hide_ne ne]
    exact g.keep a u t n (by rw [upd_ne ne]; exact h)
  · have ne : a ≠ p := ne_of_none h hp
    rw [hide_ne ne]
    exact g.there a u n (by rw [upd_ne ne]; exact h)

/-- what is wanted behind a turn -/
def PostU (K : W.Frag) (wd : World) (p : Addr) (w : Wd) (H : Hp) (r : Res (List PyData)) (Nx : Hp → Prop) : Prop :=
  match r with
  | .ok acc st' => ∀ w' H' vs, Ge w H w' H' → RelSt K w' H' st' → H' p = none → Rps K w' H' acc vs → Nx (upd H' p (GS.SO wd p vs))
  | _ => False
theorem PostU.mono {K : W.Frag} {wd : World} {p : Addr} {w w' : Wd} {H H' : Hp} {r : Res (List PyData)} {Nx : Hp → Prop} (g : Ge w H w' H') (h : PostU K wd p w H r Nx) : PostU K wd p w' H' r Nx := by
  cases r with
  | ok acc st => exact fun w2 H2 vs g2 => h w2 H2 vs (g.trans g2)
  | exc e st => exact h
  | bad => exact h
def RfNU (K : W.Frag) (wd : World) (t : TN) (f : Env → List PyData → M (List PyData)) : Prop :=
  ∀ p w σ H env st acc vs Nx, RelSt K w H st → RelEnv K w H env σ → H p = none → Rps K w H acc vs → PostU K wd p w H (f env acc st) Nx → t p σ (upd H p (GS.SO wd p vs)) Nx
/-- a step within the protected state -/
theorem Rf.stepU {α β : Type} {K : W.Frag} {wd : World} {R : Wd → Hp → α → β → Prop} {t : St → Hp → (β → Hp → Prop) → Prop} {f : Env → M α} (h : Rf K E0 R t f)
    {p : Addr} {w : Wd} {σ : St} {H : Hp} {env : Env} {st : Store} {vs : List V} {g : α → M (List PyData)} {Nx : Hp → Prop} {U : β → Hp → Prop} (hs : RelSt K w H st) (he : RelEnv K w H env σ) (hn : H p = none) (hp : PostU K wd p w H (bd (noX (f env)) g st) Nx)
    (k : ∀ w1 H1 w2 st' a b, RelSt K w1 H1 st' → R w1 H1 a b → Mo w1 H1 w2 (hide H1 p) → w2.rho = w1.rho → RelSt K w2 (hide H1 p) st' → Ge w H w2 (hide H1 p) → H1 p = some (GS.SO wd p vs) → PostU K wd p w2 (hide H1 p) (g a st') Nx → U b H1) : t σ (upd H p (GS.SO wd p vs)) U := by
  refine h (w.prot p) σ _ env st _ (hs.prot hn) (he.mo (Mo.prot hs hn)) ?_
  cases hf : f env st with
  | ok a st' =>
    rw [bd_ok (noX_ok hf)] at hp
    intro w1 H1 b g1 s1 q1
    obtain ⟨w2, mo, s2, g2, hD, er⟩ := unprotU hs hn g1 s1 (o2 := so_code)
    exact k w1 H1 w2 st' a b s1 q1 mo er s2 g2 hD (hp.mono g2)
  | exc e st' => rw [bd_bad (noX_exc hf)] at hp; exact hp.elim
  | bad => rw [bd_bad (noX_bad hf)] at hp; exact hp.elim
def scIn (ft : Env → M Bool) (fe : Env → M D) (env : Env) (acc : List PyData) : M (List PyData) :=
  bd (noX (ft env)) fun b => if b = true then bd (noX (fe env)) fun d => (match d with
    | .val (.str y) => if acc.all GS.isTx = true ∧ (GS.dedP acc).length < 62 then rt (acc ++ [.str y]) else bad
    | _ => bad) else rt acc
theorem rps_tx {K : W.Frag} {w : Wd} {H : Hp} : ∀ {ds : List PyData} {vs : List V}, Rps K w H ds vs → (∀ d ∈ ds, GS.isTx d = true) → ∀ x, PyData.str x ∈ ds ↔ V.str x ∈ vs
  | _, _, .nil, _, x => by simp
  | _, _, .cons (d := d) r t, h, x => by
    obtain ⟨y, rfl⟩ := GS.isTx_eq (h d List.mem_cons_self)
    have ih := rps_tx t (fun d hd => h d (List.mem_cons_of_mem _ hd)) x
    cases r
    simp only [List.mem_cons, ih, PyData.str.injEq, V.str.injEq]
theorem rfn_inS {K : W.Frag} {wd : World} {tt : TT} {te : TE} {ft : Env → M Bool} {fe : Env → M D} (ht : Rf K E0 RB tt ft) (he : Rf K E0 (RE K) te fe) : RfNU K wd (GS.tInS wd tt te) (scIn ft fe) := by
  intro p w σ H env st acc vs Nx s0 e0 n0 q0 hp
  refine ht.stepU s0 e0 n0 hp fun w1 H1 w2 st1 b b' s1 r1 mo er s2 g2 hD hp => ?_
  cases r1
  have hh : upd (hide H1 p) p (GS.SO wd p vs) = H1 := by rw [upd_hide, upd_self hD]
  cases b with
  | false =>
    rw [if_neg Bool.false_ne_true] at hp ⊢
    have := hp w2 _ vs (Ge.refl _ _) s2 hide_same (q0.mono g2)
    rw [hh] at this
    exact this
  | true =>
    rw [if_pos rfl] at hp ⊢
    rw [← hh]
    refine he.stepU s2 (e0.mono g2) hide_same hp fun w3 H3 w4 st3 d v s3 r3 mo3 er3 s4 g4 hD3 hp => ?_
    split at hp
    · rename_i y
      split at hp
      · rename_i hl
        have all := List.all_eq_true.mp hl.1
        cases r3
        have q4 := (q0.mono g2).mono g4
        have nn : ∀ d ∈ acc, (GS.nk d).isSome = true := fun d hd => by obtain ⟨x, rfl⟩ := GS.isTx_eq (all d hd); rfl
        have tx : ∀ d, GS.isTx d = true → ∃ x, d = PyData.str x := fun d h => GS.isTx_eq h
        refine ⟨y, vs, (GS.dedP acc).map (fun d => match d with | .str x => x | _ => ""), rfl, hD3, by rw [List.length_map]; exact hl.2, fun z hz => ?_, ?_⟩
        · exact List.mem_map.mpr ⟨.str z, (GS.mem_ded nn).mpr ((rps_tx q4 all z).mpr hz), rfl⟩
        · have := hp w4 _ (vs ++ [V.str y]) (Ge.refl _ _) s4 hide_same (q4.append (.cons (.str y) .nil))
          rw [upd_hide] at this
          exact this
      · exact hp.elim
    · exact hp.elim
theorem sc_loop {K : W.Frag} {wd : World} {m0 : Nat} {J : It} {tg : TG} {t : TN} {is vs0 : List Nat} {g : D → Env → M Env} {inner : Env → List PyData → M (List PyData)} (hg : RfG K E0 is tg g) (hi : RfNU K wd t inner) (his : ∀ i ∈ is, i ∈ vs0)
    {w : Wd} {σ : St} {H : Hp} {env : Env} {st : Store} {s : Src} {acc : List PyData} {vs : List V} {p : Addr} {Fin : Hp → Prop} (hs : RelSt K w H st) (he : RelEnv K w H env σ) (hn : H p = none) (hq : Rps K w H acc vs) (hJ : RI K w H s J)
    (hp : PostU K wd p w H (lcL m0 g inner (kill vs0 env) s acc st) Fin) : LcLoop J tg t p vs0 σ (upd H p (GS.SO wd p vs)) Fin := by
  have turn : ∀ (w2 : Wd) (H2 : Hp) (st2 : Store) (acc2 : List PyData) (vs2 : List V) (x : PyData) (v : V) (H3 : Hp) (rest : List PyData → M (List PyData)) (Nx : Hp → Prop), Ge w H w2 H2 → RelSt K w2 H2 st2 → H2 p = none → Rps K w2 H2 acc2 vs2 →
      Same (upd H2 p (GS.SO wd p vs2)) H3 → Rp K (w2.prot p) H3 x v → PostU K wd p w2 H2 (bd (noX (g (.val x) (kill vs0 env))) (fun env' => bd (inner env' acc2) rest) st2) Fin →
      (∀ w4 H4 st4 acc4 vs4, Ge w H w4 H4 → RelSt K w4 H4 st4 → H4 p = none → Rps K w4 H4 acc4 vs4 → PostU K wd p w4 H4 (rest acc4 st4) Fin → Nx (upd H4 p (GS.SO wd p vs4))) →
      tg v (wipe σ vs0) H3 fun σ2 H2 => wipe σ2 vs0 = wipe σ vs0 ∧ t p σ2 H2 Nx := by
    intro w2 H2 st2 acc2 vs2 x v H3 rest Nx g2 s2 n2 q2 sm rx hp2 hN
    have e2 : RelEnv K w2 H2 (kill vs0 env) (wipe σ vs0) := (he.mono g2).wiped
    have s2p := s2.prot (o := GS.SO wd p vs2) n2
    have g3 : Ge (w2.prot p) (upd H2 p (GS.SO wd p vs2)) (w2.prot p) H3 := .same sm
    refine hg (w2.prot p) (wipe σ vs0) H3 (kill vs0 env) st2 (.val x) v _ (s2p.same sm) ((e2.mo (Mo.prot s2 n2)).mono g3) rx ?_
    cases hf : g (.val x) (kill vs0 env) st2 with
    | ok env' st' =>
      rw [bd_ok (noX_ok hf)] at hp2
      intro w4 H4 σ4 g4 s4 e4 ww
      refine ⟨(ww vs0 his).trans ?_, ?_⟩
      · have : ∀ (l : List Nat) (τ : St), wipe (wipe τ l) l = wipe τ l := fun l τ => by
          apply List.ext_getElem?
          intro i
          by_cases hi : i ∈ l
          · have key : ∀ (l : List Nat) (τ : St), i ∈ l → (wipe τ l)[i]? = if i < τ.length then some none else none := by
              intro l
              induction l with
              | nil => intro τ h; simp at h
              | cons y l ih =>
                intro τ h
                unfold wipe
                by_cases hy : i = y
                · subst hy
                  by_cases hl : i < τ.length
                  · rw [List.getElem?_set_self (by rw [wipe_length]; exact hl), if_pos hl]
                  · rw [if_neg hl, List.getElem?_eq_none (by rw [List.length_set, wipe_length]; omega)]
                · rw [List.getElem?_set_ne (Ne.symm hy)]
                  exact ih τ (by
                    rcases List.mem_cons.mp h with e | e
                    · exact absurd e hy
                    · exact e)
            rw [key l _ hi, key l _ hi, wipe_length]
          · rw [wipe_out hi]
        exact this vs0 σ
      · obtain ⟨w5, mo5, s5, g5, hD5, er5⟩ := unprotU s2 n2 (g3.trans g4) s4 (o2 := so_code)
        have hh : upd (hide H4 p) p (GS.SO wd p vs2) = H4 := by rw [upd_hide, upd_self hD5]
        rw [← hh]
        refine hi p w5 σ4 (hide H4 p) env' st' acc2 vs2 Nx s5 (e4.mo mo5) hide_same (q2.mono g5) ?_
        have hp5 := hp2.mono g5
        cases hr : inner env' acc2 st' with
        | ok acc6 st6 =>
          rw [bd_ok hr] at hp5
          exact fun w6 H6 vs6 g6 s6 n6 q6 => hN w6 H6 st6 acc6 vs6 (g2.trans (g5.trans g6)) s6 n6 q6 (hp5.mono g6)
        | exc e st6 => rw [bd_exc hr] at hp5; exact hp5.elim
        | bad => rw [bd_bad hr] at hp5; exact hp5.elim
    | exc e st' => rw [bd_bad (noX_exc hf)] at hp2; exact hp2.elim
    | bad => rw [bd_bad (noX_bad hf)] at hp2; exact hp2.elim
  cases s with
  | fix xs =>
    let W : Nat → Nat → Hp → Prop := fun i m H' => ∃ w2 H2 st2 acc2 vs2, H' = upd H2 p (GS.SO wd p vs2) ∧ Ge w H w2 H2 ∧ RelSt K w2 H2 st2 ∧ H2 p = none ∧ Rps K w2 H2 acc2 vs2 ∧ i ≤ xs.length ∧ m = xs.length - i ∧ PostU K wd p w2 H2 (lcF g inner (kill vs0 env) (xs.drop i) acc2 st2) Fin
    refine ⟨W, ⟨xs.length, w, H, st, acc, vs, rfl, Ge.refl _ _, hs, hn, hq, Nat.zero_le _, rfl, hp⟩, ?_⟩
    rintro i m H' ⟨w2, H2, st2, acc2, vs2, rfl, g2, s2, n2, q2, hil, rfl, hp2⟩
    have J2 : ItOk K w2 H2 J xs := ItOk.mono g2.mo hJ
    by_cases hlt : i < xs.length
    · right
      have ex : xs[i]? = some xs[i] := by simp [hlt]
      have ed : xs.drop i = xs[i] :: xs.drop (i + 1) := List.drop_eq_getElem_cons hlt
      obtain ⟨go, yld⟩ := J2.prot (o := GS.SO wd p vs2) s2 n2 ex
      refine ⟨go, fun H' => W (i + 1) (xs.length - (i + 1)) H', fun H' h => ⟨_, by omega, h⟩, fun v H3 hy => ?_⟩
      obtain ⟨sm, rx⟩ := yld v H3 hy
      rw [ed] at hp2
      unfold lcF at hp2
      exact turn w2 H2 st2 acc2 vs2 xs[i] v H3 _ _ g2 s2 n2 q2 sm rx hp2 fun w4 H4 st4 acc4 vs4 g4 s4 n4 q4 hp4 => ⟨w4, H4, st4, acc4, vs4, rfl, g4, s4, n4, q4, hlt, rfl, hp4⟩
    · left
      have e : i = xs.length := by omega
      subst e
      refine ⟨(J2 w2 _ st2 (Ge.new n2).mo (s2.new n2)).2, ?_⟩
      rw [List.drop_length] at hp2
      exact hp2 w2 H2 vs2 (Ge.refl _ _) s2 n2 q2
  | obj n =>
    obtain ⟨a, ha, rfl⟩ := hJ
    have npa : a ≠ p := fun z => hs.notin hn (by rw [← z]; exact List.mem_append_left _ (List.mem_of_getElem? ha))
    let W : Nat → Nat → Hp → Prop := fun i m H' => ∃ w2 H2 st2 acc2 vs2, H' = upd H2 p (GS.SO wd p vs2) ∧ Ge w H w2 H2 ∧ RelSt K w2 H2 st2 ∧ H2 p = none ∧ Rps K w2 H2 acc2 vs2 ∧ PostU K wd p w2 H2 (lcO g inner n (kill vs0 env) m i acc2 st2) Fin
    refine ⟨W, ⟨m0, w, H, st, acc, vs, rfl, Ge.refl _ _, hs, hn, hq, hp⟩, ?_⟩
    rintro i m H' ⟨w2, H2, st2, acc2, vs2, rfl, g2, s2, n2, q2, hp2⟩
    cases m with
    | zero => exact (show False from hp2).elim
    | succ m =>
      unfold lcO at hp2
      cases ho : st2[n]? with
      | none => simp only [ho] at hp2; exact (show False from hp2).elim
      | some o =>
        cases o with
        | lst xs =>
          simp only [ho] at hp2
          obtain ⟨us, ev, rv⟩ := s2.obj n _ a ho (g2.get ha)
          have ev' : upd H2 p (GS.SO wd p vs2) a = some (.lst us) := by rw [upd_ne npa]; exact ev
          cases hx : xs[i]? with
          | none =>
            left
            simp only [hx] at hp2
            refine ⟨⟨us, SqL.of ev', ?_⟩, hp2 w2 H2 vs2 (Ge.refl _ _) s2 n2 q2⟩
            rw [← rv.length]
            exact List.getElem?_eq_none_iff.mp hx
          | some x =>
            right
            simp only [hx] at hp2
            obtain ⟨v, hv, rx⟩ := rv.get hx
            refine ⟨⟨us, v, SqL.of ev', hv⟩, fun H' => W (i + 1) m H', fun H' h => ⟨m, Nat.lt_succ_self _, h⟩, fun v' H3 hy => ?_⟩
            obtain ⟨e3, hy⟩ := hy
            subst e3
            have e4 : v' = v := by
              have q := hy us (SqL.of ev')
              rw [hv] at q
              exact (Option.some.inj q).symm
            subst e4
            exact turn w2 H2 st2 acc2 vs2 x v' _ _ _ g2 s2 n2 q2 (Same.refl _) (rx.mo (Mo.prot s2 n2)) hp2 fun w4 H4 st4 acc4 vs4 g4 s4 n4 q4 hp4 => ⟨w4, H4, st4, acc4, vs4, rfl, g4, s4, n4, q4, hp4⟩
        | _ => simp only [ho] at hp2; exact (show False from hp2).elim
def scIn2 (m : Nat) (vs1 : List Nat) (ft : Env → M Bool) (fi1 : Env → M Src) (g1 : D → Env → M Env) (ft1 : Env → M Bool) (fe : Env → M D) (env : Env) (acc : List PyData) : M (List PyData) :=
  bd (noX (ft env)) fun b => if b = true then bd (noX (fi1 env)) fun s => lcL m g1 (scIn ft1 fe) (kill vs1 env) s acc else rt acc
theorem rfn_inS2 {K : W.Frag} {wd : World} {m : Nat} {vs1 is1 : List Nat} {tt tt1 : TT} {wi1 : TI} {tg1 : TG} {te : TE} {ft ft1 : Env → M Bool} {fi1 : Env → M Src} {g1 : D → Env → M Env} {fe : Env → M D}
    (ht : Rf K E0 RB tt ft) (hi : Rf K E0 (RI K) wi1 fi1) (hg : RfG K E0 is1 tg1 g1) (his : ∀ i ∈ is1, i ∈ vs1) (ht1 : Rf K E0 RB tt1 ft1) (he : Rf K E0 (RE K) te fe) : RfNU K wd (GS.tInS2 wd tt wi1 tg1 tt1 te vs1) (scIn2 m vs1 ft fi1 g1 ft1 fe) := by
  intro p w σ H env st acc vs Nx s0 e0 n0 q0 hp
  refine ht.stepU s0 e0 n0 hp fun w1 H1 w2 st1 b b' s1 r1 mo er s2 g2 hD hp => ?_
  cases r1
  have hh : upd (hide H1 p) p (GS.SO wd p vs) = H1 := by rw [upd_hide, upd_self hD]
  cases b with
  | false =>
    rw [if_neg Bool.false_ne_true] at hp ⊢
    have := hp w2 _ vs (Ge.refl _ _) s2 hide_same (q0.mono g2)
    rw [hh] at this
    exact this
  | true =>
    rw [if_pos rfl] at hp ⊢
    rw [← hh]
    refine hi.stepU s2 (e0.mono g2) hide_same hp fun w3 H3 w4 st3 s J s3 r3 mo3 er3 s4 g4 hD3 hp => ?_
    have h3 : upd (hide H3 p) p (GS.SO wd p vs) = H3 := by rw [upd_hide, upd_self hD3]
    have rJ : RI K w4 (hide H3 p) s J := by
      cases s with
      | fix xs => exact ItOk.mono mo3 r3
      | obj n =>
        obtain ⟨a, ha, e⟩ := r3
        exact ⟨a, by rw [er3]; exact ha, e⟩
    have := sc_loop (m0 := m) (vs0 := vs1) hg (rfn_inS ht1 he) his s4 ((e0.mono g2).mono g4) hide_same ((q0.mono g2).mono g4) rJ hp
    rw [h3] at this
    exact this
def sccS (m : Nat) (own vs1 : List Nat) (fi : Env → M Src) (g : D → Env → M Env) (ft : Env → M Bool) (fi1 : Env → M Src) (g1 : D → Env → M Env) (ft1 : Env → M Bool) (fe : Env → M D) : Env → M (List PyData) :=
  fun env => bd (fi env) fun s => bd (noX (lcL m g (scIn2 m vs1 ft fi1 g1 ft1 fe) (kill own env) s [])) fun ds => fun st => if ds.all GS.isTx = true then .ok (sortP (GS.dedP ds)) st else .bad
theorem rf_scc {K : W.Frag} {wd : World} {E : XK} {m : Nat} {own vs1 is is1 : List Nat} {ti ti1 : TI} {tg tg1 : TG} {tt tt1 : TT} {te : TE} {fi fi1 : Env → M Src} {g g1 : D → Env → M Env} {ft ft1 : Env → M Bool} {fe : Env → M D} (hi : Rf K E (RI K) ti fi) (hg : RfG K E0 is tg g) (his : ∀ i ∈ is, i ∈ own)
    (ht : Rf K E0 RB tt ft) (hi1 : Rf K E0 (RI K) ti1 fi1) (hg1 : RfG K E0 is1 tg1 g1) (his1 : ∀ i ∈ is1, i ∈ vs1) (ht1 : Rf K E0 RB tt1 ft1) (he : Rf K E0 (RE K) te fe) : RfF K E (tUn (GS.rSortTx wd) (GS.tScc wd ti tg tt ti1 tg1 tt1 te own vs1)) (sccS m own vs1 fi g ft fi1 g1 ft1 fe) := by
  intro w σ H env st Q s0 e0 hp
  unfold sccS at hp
  refine hi w σ H env st _ s0 e0 ?_
  cases hf : fi env st with
  | ok s st' =>
    rw [bd_ok hf] at hp
    intro w1 H1 J g1' s1 q1 p np
    refine sc_loop (m0 := m) hg (rfn_inS2 (m := m) ht hi1 hg1 his1 ht1 he) his s1 (e0.mono g1') np .nil q1 (Fin := fun H' => GS.rSortTx wd (.ref p) H' Q) ?_
    have hp := hp.mono g1'
    cases hr : lcL m g (scIn2 m vs1 ft fi1 g1 ft1 fe) (kill own env) s [] st' with
    | ok acc st2 =>
      rw [bd_ok (noX_ok hr)] at hp
      intro w2 H2 vs g2 s2 n2 q2
      split at hp
      · rename_i all
        have all := List.all_eq_true.mp all
        refine ⟨p, vs, acc, rfl, upd_same, fun d hd => GS.isTx_eq (all d hd), rps_tx q2 all, fun xs e r nr => ?_⟩
        refine hp w2 _ r (xs.map V.str) (g2.trans (Ge.new n2)) (s2.new n2) nr ?_
        rw [← e]
        have : ∀ l : List Str, Rps K w2 (upd H2 p (GS.SO wd p vs)) (l.map PyData.str) (l.map V.str) := fun l => by
          induction l with
          | nil => exact .nil
          | cons x l ih => exact .cons (.str x) ih
        exact this xs
      · exact hp.elim
    | exc e st2 => rw [bd_bad (noX_exc hr)] at hp; exact hp.elim
    | bad => rw [bd_bad (noX_bad hr)] at hp; exact hp.elim
  | exc e st' => rw [bd_exc hf] at hp; exact hp
  | bad => rw [bd_bad hf] at hp; exact hp
section
variable {X : Cx} {E : XK} {elt tg iter tg1 iter1 : Expr} {ifs ifs1 : List Expr} {scope : Scope} {own : List (Str × Nat)} {is is1 : List Nat} {p pos pos1 : Pos} {ti ti1 : TI} {g g1 : TG} {tt tt1 : TT} {te : TE} {fi fi1 : Env → M Src} {fg fg1 : D → Env → M Env} {ft ft1 : Env → M Bool} {fe : Env → M D} {wd : World}
theorem sf_sortScc (m : Nat) (vs1 : List Nat) (hN : X.N.Nodup) (hi : SI X E tg iter ti fi) (ok : BlkOk X.N X.env.scope scope own)
    (hg : ∀ (s : Shared) (H : Hp) (C : Addr) (cl : List (Str × Addr)) (fp : List Addr), SG (X.blk s H scope (PySem.compEnvC scope cl C X.env) fp) E0 is tg g fg) (ht : ∀ (s : Shared) (H : Hp) (C : Addr) (cl : List (Str × Addr)) (fp : List Addr), STs (X.blk s H scope (PySem.compEnvC scope cl C X.env) fp) E0 ifs tt ft)
    (hi1 : ∀ (s : Shared) (H : Hp) (C : Addr) (cl : List (Str × Addr)) (fp : List Addr), SI (X.blk s H scope (PySem.compEnvC scope cl C X.env) fp) E0 tg1 iter1 ti1 fi1)
    (hg1 : ∀ (s : Shared) (H : Hp) (C : Addr) (cl : List (Str × Addr)) (fp : List Addr), SG (X.blk s H scope (PySem.compEnvC scope cl C X.env) fp) E0 is1 tg1 g1 fg1) (ht1 : ∀ (s : Shared) (H : Hp) (C : Addr) (cl : List (Str × Addr)) (fp : List Addr), STs (X.blk s H scope (PySem.compEnvC scope cl C X.env) fp) E0 ifs1 tt1 ft1)
    (he : ∀ (s : Shared) (H : Hp) (C : Addr) (cl : List (Str × Addr)) (fp : List Addr), SE (X.blk s H scope (PySem.compEnvC scope cl C X.env) fp) E0 elt te fe) (hu : X.A.units + 80 < cLine) (hm : X.mg "sorted" = none) {os : List Nat} (hos : own.map (·.2) = os := by rfl) (his : ∀ i ∈ is, i ∈ os := by decide) (his1 : ∀ i ∈ is1, i ∈ vs1 := by decide) (hv : ∀ i ∈ vs1, i ∈ os := by decide) (hc : X.calm = true := by rfl) (hs : ∀ x, foldedSetIterable iter X.env x = pure x := by intro _; rfl) (hs1 : ∀ env x, foldedSetIterable iter1 env x = pure x := by intro _ _; rfl) (hgl : Gl X "sorted" := by rfl) (na : starEach [.SetComp elt [⟨tg, iter, ifs, 0⟩, ⟨tg1, iter1, ifs1, 0⟩] scope pos] X.env = (false, eval (.SetComp elt [⟨tg, iter, ifs, 0⟩, ⟨tg1, iter1, ifs1, 0⟩] scope pos) X.env) :: starEach [] X.env := by rfl) (hw : X.w = wd := by rfl) :
    SF X E (.Call (.Name "sorted" p) [.SetComp elt [⟨tg, iter, ifs, 0⟩, ⟨tg1, iter1, ifs1, 0⟩] scope pos] [] pos1) (tUn (GS.rSortTx wd) (GS.tScc wd ti g tt ti1 g1 tt1 te os vs1)) (sccS m os vs1 fi fg ft fi1 fg1 ft1 fe) := by
  subst hos
  subst hw
  exact ⟨GS.pe_sortTx hu hm (GS.pe_scc hu hc hN hi.pi ok hv (fun s H C cl fp => ⟨⟨(hg s H C cl fp).pg, (ht s H C cl fp).pt⟩, (hi1 s H C cl fp).pi⟩) (fun s H C cl fp => ⟨⟨(hg1 s H C cl fp).pg, (ht1 s H C cl fp).pt⟩, (he s H C cl fp).pe⟩) hs hs1) hgl hc na,
    rf_scc hi.rf (hg {} (fun _ => none) 0 [] []).rf his (ht {} (fun _ => none) 0 [] []).rf (hi1 {} (fun _ => none) 0 [] []).rf (hg1 {} (fun _ => none) 0 [] []).rf his1 (ht1 {} (fun _ => none) 0 [] []).rf (he {} (fun _ => none) 0 [] []).rf⟩
end
end B
/-! BL64: simp rules for sorted(set comprehension). -/
namespace B
open PySem L2
def sortTx (ds : List PyData) : M (List PyData) := fun st => if ds.all GS.isTx = true then .ok (sortP (GS.dedP ds)) st else .bad
def scTxt (acc : List PyData) : PyData → List PyData
  | .str y => acc ++ [.str y]
  | _ => acc
section
variable {env : Env} {st : Store} {X : Ex → Store → Prop}
@[simp] theorem f_sortTx {ds : List PyData} {Q : List PyData → Store → Prop} : wpx X (sortTx ds st) Q = (ds.all GS.isTx = true ∧ Q (sortP (GS.dedP ds)) st) := by
  unfold sortTx
  by_cases h : ds.all GS.isTx = true
  · rw [if_pos h]; simp only [h, true_and]; exact wp_ok
  · rw [if_neg h]; simp [h, wp_bad]
@[simp] theorem e_sccS {m : Nat} {own vs1 : List Nat} {fi fi1 : Env → M Src} {g g1 : D → Env → M Env} {ft ft1 : Env → M Bool} {fe : Env → M D} {Q : List PyData → Store → Prop} : wpx X (sccS m own vs1 fi g ft fi1 g1 ft1 fe env st) Q = wpx X (bd (fi env) (fun src => match src with
    | .fix xs => bd (noX (lcF g (scIn2 m vs1 ft fi1 g1 ft1 fe) (kill own env) xs [])) sortTx
    | .obj n => bd (noX (lcO g (scIn2 m vs1 ft fi1 g1 ft1 fe) n (kill own env) m 0 [])) sortTx) st) Q := by
  simp only [sccS, wp_bd]
  refine congrArg (wpx X _) (funext fun r => funext fun s => ?_)
  cases r <;> rfl
theorem e_scIn2 {m : Nat} {vs1 : List Nat} {fi1 : Env → M Src} {g1 : D → Env → M Env} {ft ft1 : Env → M Bool} {fe : Env → M D} {acc : List PyData} {Q : List PyData → Store → Prop} : wpx X (scIn2 m vs1 ft fi1 g1 ft1 fe env acc st) Q = wpx X (bd (noX (ft env)) (fun b => if b = true then bd (noX (fi1 env)) fun s => (match s with
    | .fix xs => lcF g1 (scIn ft1 fe) (kill vs1 env) xs acc
    | .obj n => lcO g1 (scIn ft1 fe) n (kill vs1 env) m 0 acc) else rt acc) st) Q := by
  have : scIn2 m vs1 ft fi1 g1 ft1 fe env acc = bd (noX (ft env)) (fun b => if b = true then bd (noX (fi1 env)) fun s => (match s with
    | .fix xs => lcF g1 (scIn ft1 fe) (kill vs1 env) xs acc
    | .obj n => lcO g1 (scIn ft1 fe) n (kill vs1 env) m 0 acc) else rt acc) := by
    unfold scIn2
    refine congrArg (bd _) (funext fun b => ?_)
    split
    · refine congrArg (bd _) (funext fun s => ?_)
      cases s <;> rfl
    · rfl
  rw [this]
theorem e_scIn {ft : Env → M Bool} {fe : Env → M D} {acc : List PyData} {Q : List PyData → Store → Prop} : wpx X (scIn ft fe env acc st) Q = wpx X (bd (noX (ft env)) (fun b => if b = true then bd (noX (fe env)) (fun d => (match d with
    | .val (.str y) => if acc.all GS.isTx = true ∧ (GS.dedP acc).length < 62 then rt (acc ++ [.str y]) else bad
    | _ => bad)) else rt acc) st) Q := rfl
end
end B
namespace Yk06
open PySem L2 B
def top (i : Nat) : Stmt := PySem.Challenge.pw_outandover_k06_who_can_call_whom.main.body.getD i (.Pass ⟨0, 0, 0, 0⟩)
/-! _law_heard -/
abbrev s__law_heard : Stmt := top 18
def h__law_heard : M D → M D := heardM "told" 2 3 ["NotUsable"] (fun C fs =>
  (seqS (asgS (asObj (lstE (aCons (isErr 2 (decide (C ∈ ([] : List Str)))) (aCons (isErr 2 (decide (C ∈ (["NotUsable"] : List Str)))) aNil)))) (setV 1))
  (seqS (dropS (methL extH (gv 1) (aCons (asVal (lstE (aCons (isErr 2 (decide (C ∈ ([] : List Str)))) (aCons (isErr 2 (decide (C ∈ ([] : List Str)))) aNil)))) aNil)))
  (seqS (ifS (andT (tst (op2 eqF (gv 1) (asVal (lstE (aCons (cD (.val (.bool true))) (aCons (cD (.val (.bool false))) (aCons (cD (.val (.bool false))) (aCons (cD (.val (.bool false))) aNil)))))))) (truT (isErr 2 (decide (C ∈ ([] : List Str)))))) (retS (tupE (aCons (cD (.val (.str "paper"))) (aCons (errF 2 fs "word") (aCons (errF 2 fs "at") aNil))))) nxS)
  (seqS (ifS (andT (tst (op2 eqF (gv 1) (asVal (lstE (aCons (cD (.val (.bool false))) (aCons (cD (.val (.bool true))) (aCons (cD (.val (.bool false))) (aCons (cD (.val (.bool false))) aNil)))))))) (truT (isErr 2 (decide (C ∈ (["NotUsable"] : List Str)))))) (retS (tupE (aCons (cD (.val (.str "use"))) (aCons (errF 2 fs "word") (aCons (errF 2 fs "at") aNil))))) nxS)
  (seqS (ifS (andT (tst (op2 eqF (gv 1) (asVal (lstE (aCons (cD (.val (.bool false))) (aCons (cD (.val (.bool false))) (aCons (cD (.val (.bool false))) (aCons (cD (.val (.bool true))) aNil)))))))) (truT (isErr 2 (decide (C ∈ ([] : List Str)))))) (retS (ifV (truT (isErr 2 (decide (C ∈ ([] : List Str))))) (tupE (aCons (cD (.val (.str "odd"))) aNil)) (tupE (aCons (cD (.val (.str "text"))) (aCons (errF 2 fs "line") (aCons (errF 2 fs "field") aNil)))))) nxS)
  (retS (tupE (aCons (cD (.val (.str "odd"))) aNil)))))))))
/-! called_in -/
abbrev s_called_in : Stmt := top 13
def b_called_in : B.Env → M Fl :=
  (retS (asObj (sccS 100000 [1, 2, 3, 4] [4] (anyI (gv 0)) (setT 3 (setsCons (setV 1) (setsCons (setV 2) (setsCons (setV 3) setsNil)))) yesT (anyI (gv 1)) (setV 4) (tst (op2 neF (gv 4) (cD (.val (.str ""))))) (gv 4))))
def m_called_in : List D → M D := fnOf 5 b_called_in
/-! _law_feed -/
abbrev s__law_feed : Stmt := top 16
def b__law_feed : B.Env → M Fl :=
  (retS (dispE (pCons (cD (.val (.str "cells"))) (asVal (callFF listF (aCons (asVal (slFz (gv 0) oNone (oSome (cD (.val (.int 63)))))) aNil))) (pCons (cD (.val (.str "at"))) (cD (.val (.int 0))) (pCons (cD (.val (.str "left"))) (cD (.val (.int 0))) (pCons (cD (.val (.str "count"))) (cD (.val (.int 0))) pNil))))))
def m__law_feed : List D → M D := fnOf 1 b__law_feed
/-! _law_draw -/
abbrev s__law_draw : Stmt := top 17
def b__law_draw : B.Env → M Fl :=
  (seqS (dputS (gv 0) (cD (.val (.str "count"))) (op2 addF (op2 dgetF (gv 0) (cD (.val (.str "count")))) (cD (.val (.int 1)))))
  (seqS (killS [2] (ifS (tst (op2 gtF (op2 dgetF (gv 0) (cD (.val (.str "left")))) (cD (.val (.int 0))))) (seqS (asgS (op2 modF (callF intG (aCons (op2 dgetF (gv 0) (cD (.val (.str "left")))) aNil)) (gv 1)) (setV 2))
  (seqS (dputS (gv 0) (cD (.val (.str "left"))) (op2 fdivF (op2 dgetF (gv 0) (cD (.val (.str "left")))) (gv 1)))
  (retS (gv 2)))) nxS))
  (seqS (asgS (op2 dgetF (gv 0) (cD (.val (.str "at")))) (setV 3))
  (seqS (dputS (gv 0) (cD (.val (.str "at"))) (op2 addF (gv 3) (cD (.val (.int 1)))))
  (seqS (asgS (ifV (tst (op2 neF (op2 dgetF (gv 0) (cD (.val (.str "cells")))) (asVal (lstE aNil)))) (op2 ixF (op2 dgetF (gv 0) (cD (.val (.str "cells")))) (op2 modF (callF intG (aCons (gv 3) aNil)) (callF lenF (aCons (op2 dgetF (gv 0) (cD (.val (.str "cells")))) aNil)))) (cD (.val (.int 47)))) (setV 4))
  (seqS (ifS (andT (tst (op2 geF (gv 4) (op2 powF (cD (.val (.int 10))) (cD (.val (.int 18)))))) (tst (op2 ltF (gv 3) (callF lenF (aCons (op2 dgetF (gv 0) (cD (.val (.str "cells")))) aNil))))) (seqS (dputS (gv 0) (cD (.val (.str "left"))) (op2 fdivF (gv 4) (gv 1)))
  (retS (op2 modF (callF intG (aCons (gv 4) aNil)) (gv 1)))) nxS)
  (seqS (asgS (op2 modF (callF intG (aCons (op2 addF (op2 addF (op2 modF (callF intG (aCons (gv 4) aNil)) (cD (.val (.int 1000000531)))) (op2 mulH (cD (.val (.int 230017))) (op2 dgetF (gv 0) (cD (.val (.str "count")))))) (cD (.val (.int 101)))) aNil)) (cD (.val (.int 2147482951)))) (setV 5))
  (seqS (asgS (op2 modF (callF intG (aCons (op2 addF (op2 addF (op2 mulH (gv 5) (gv 5)) (op2 mulH (cD (.val (.int 5100007))) (op2 dgetF (gv 0) (cD (.val (.str "count")))))) (cD (.val (.int 59)))) aNil)) (cD (.val (.int 2147482949)))) (setV 5))
  (retS (op2 modF (callF intG (aCons (op2 fdivF (op2 modF (callF intG (aCons (op2 addF (op2 mulH (gv 5) (gv 5)) (op2 mulH (cD (.val (.int 103))) (gv 5))) aNil)) (cD (.val (.int 2147482873)))) (cD (.val (.int 16)))) aNil)) (gv 1)))))))))))
def m__law_draw : List D → M D := fnOf 6 b__law_draw
/-! _law_first -/
abbrev s__law_first : Stmt := top 21
def b__law_first : B.Env → M Fl :=
  (seqS (asgS (tupE (aCons (tupE (aCons (cD (.val (.str ""))) (aCons (cD (.val (.str "g"))) aNil))) (aCons (tupE (aCons (tupE (aCons (cD (.val (.str "back"))) aNil)) aNil)) (aCons (tupE aNil) aNil)))) (setV 0))
  (seqS (asgS (tupE (aCons (tupE (aCons (tupE (aCons (cD (.val (.str "f"))) aNil)) (aCons (tupE (aCons (cD (.val (.int 1))) aNil)) (aCons (tupE (aCons (tupE (aCons (cD (.val (.str ""))) (aCons (cD (.val (.int 2))) aNil))) aNil)) aNil)))) (aCons (tupE (aCons (tupE (aCons (cD (.val (.str ""))) aNil)) (aCons (tupE (aCons (tupE (aCons (cD (.val (.str "back"))) aNil)) (aCons (cD (.val (.int 0))) aNil))) (aCons (tupE aNil) aNil)))) (aCons (gv 0) aNil)))) (setV 1))
  (seqS (asgS (tupE (aCons (tupE (aCons (tupE (aCons (cD (.val (.str ""))) aNil)) (aCons (tupE (aCons (cD (.val (.int 1))) (aCons (tupE (aCons (cD (.val (.str "fail"))) (aCons (cD (.val (.str "bad"))) aNil))) aNil))) (aCons (tupE aNil) aNil)))) (aCons (gv 0) aNil))) (setV 2))
  (retS (tupE (aCons (tupE (aCons (cD (.val (.str "main"))) (aCons (gv 1) aNil))) (aCons (tupE (aCons (cD (.val (.str "f"))) (aCons (gv 2) aNil))) (aCons (tupE (aCons (cD (.val (.str "g"))) (aCons (tupE (aCons (tupE (aCons (tupE (aCons (cD (.val (.str ""))) aNil)) (aCons (tupE (aCons (tupE (aCons (cD (.val (.str "back"))) aNil)) aNil)) (aCons (tupE aNil) aNil)))) aNil)) aNil))) aNil))))))))
def m__law_first : List D → M D := fnOf 3 b__law_first
/-! _law_great -/
abbrev s__law_great : Stmt := top 22
def b__law_great : B.Env → M Fl :=
  (seqS (asgS (asVal (lstE (aCons (cD (.val (.str "main"))) (aCons (cD (.val (.str "h"))) (aCons (cD (.val (.str "abcdefgh"))) (aCons (cD (.val (.str "g"))) (aCons (cD (.val (.str "ga"))) (aCons (cD (.val (.str "zz"))) (aCons (cD (.val (.str "a"))) (aCons (cD (.val (.str "fail"))) aNil)))))))))) (setV 0))
  (seqS (asgS (asVal (lstE (aCons (cD (.val (.int 12))) (aCons (cD (.val (.int 12))) (aCons (cD (.val (.int 10))) (aCons (cD (.val (.int 2))) (aCons (cD (.val (.int 1))) (aCons (cD (.val (.int 1))) (aCons (cD (.val (.int 1))) (aCons (cD (.val (.int 1))) aNil)))))))))) (setV 1))
  (seqS (parN [2, 3] (aCons (asVal (lstE (aCons (cD (.val (.str "k"))) (aCons (cD (.val (.str "bad"))) (aCons (cD (.val (.str "kk"))) (aCons (cD (.val (.str "zz"))) (aCons (cD (.val (.str "back"))) (aCons (cD (.val (.str "a"))) aNil)))))))) (aCons (asObj (lstE aNil)) aNil)))
  (seqS (asgS (callF lenF (aCons (gv 2) aNil)) (setV 4))
  (seqS (forS 100000 (rngI (aCons (cD (.val (.int 8))) aNil)) (setV 5) (killS [5, 6, 7, 8, 9, 10] (seqS (asgS (asObj (lstE aNil)) (setV 6))
  (seqS (forS 100000 (rngI (aCons (op2 ixF (gv 1) (gv 5)) aNil)) (setV 7) (killS [7, 8, 9, 10] (seqS (asgS (asVal (callFF sortF (aCons (op2 addF (asVal (lstE (aCons (cD (.val (.str ""))) aNil))) (slF (gv 0) (oSome (op2 modF (callF intG (aCons (op2 addF (gv 5) (gv 7)) aNil)) (cD (.val (.int 8))))) oNone)) aNil))) (setV 8))
  (seqS (asgS (obV false (lcS 100000 [11] (rngI (aCons (op2 ixF (gv 1) (gv 5)) aNil)) (setV 11) yesT (op2 modF (callF intG (aCons (op2 addF (gv 7) (gv 11)) aNil)) (op2 ixF (gv 1) (gv 5))))) (setV 9))
  (seqS (asgS (op2 addF (gv 9) (asVal (lstE (aCons (tupE (aCons (cD (.val (.str "back"))) aNil)) (aCons (tupE (aCons (cD (.val (.str "fail"))) (aCons (op2 ixF (gv 2) (op2 modF (callF intG (aCons (gv 5) aNil)) (gv 4))) aNil))) aNil))))) (setV 9))
  (seqS (asgS (obV false (lcS 100000 [11] (rngI (aCons (cD (.val (.int 3))) aNil)) (setV 11) yesT (tupE (aCons (op2 ixF (gv 2) (op2 modF (callF intG (aCons (op2 addF (gv 5) (gv 11)) aNil)) (gv 4))) (aCons (op2 modF (callF intG (aCons (op2 addF (gv 7) (gv 11)) aNil)) (op2 ixF (gv 1) (gv 5))) aNil))))) (setV 10))
  (dropS (methL appF (gv 6) (aCons (tupE (aCons (callF tupleF (aCons (gv 8) aNil)) (aCons (callF tupleF (aCons (gv 9) aNil)) (aCons (callF tupleF (aCons (op2 addF (gv 10) (asVal (lstE (aCons (tupE (aCons (cD (.val (.str ""))) (aCons (cD (.val (.int 0))) aNil))) aNil)))) aNil)) aNil)))) aNil)))))))))
  (dropS (methL appF (gv 3) (aCons (tupE (aCons (op2 ixF (gv 0) (gv 5)) (aCons (callF tupleF (aCons (gv 6) aNil)) aNil))) aNil)))))))
  (retS (callF tupleF (aCons (gv 3) aNil))))))))
def m__law_great : List D → M D := fnT 12 b__law_great
/-! _law_callees -/
abbrev s__law_callees : Stmt := top 24
def b__law_callees : B.Env → M Fl :=
  (seqS (asgS (asObj (lstE aNil)) (setV 2))
  (seqS (forS 100000 (anyI (gv 0)) (setT 2 (setsCons (setV 3) (setsCons (setV 4) setsNil))) (killS [3, 4, 5] (killS [5] (ifS (tst (op2 eqF (gv 3) (gv 1))) (forS 100000 (anyI (gv 4)) (setV 5) (killS [5] (dropS (methL extH (gv 2) (aCons (asVal (lcS 100000 [6] (anyI (op2 ixF (gv 5) (cD (.val (.int 0))))) (setV 6) (tst (op2 neF (gv 6) (cD (.val (.str ""))))) (gv 6))) aNil))))) nxS))))
  (retS (gv 2))))
def m__law_callees : List D → M D := fnOf 7 b__law_callees
/-! _law_row -/
abbrev s__law_row : Stmt := top 19
def b__law_row : B.Env → M Fl :=
  (seqS (asgS (obV false (lcS 100000 [8] (anyI (asVal (callFF sortF (aCons (op2 addF (asVal (lstE (aCons (cD (.val (.str ""))) aNil))) (gv 1)) aNil)))) (setV 8) (tst (op2 eqF (callF m__law_draw (aCons (gv 0) (aCons (cD (.val (.int 2))) aNil))) (cD (.val (.int 0))))) (gv 8))) (setV 3))
  (seqS (ifS (tst (op2 eqF (gv 3) (asVal (lstE aNil)))) (asgS (asVal (lstE (aCons (op2 ixF (op2 addF (asVal (lstE (aCons (cD (.val (.str ""))) aNil))) (gv 1)) (callF m__law_draw (aCons (gv 0) (aCons (op2 addF (cD (.val (.int 1))) (callF lenF (aCons (gv 1) aNil))) aNil)))) aNil))) (setV 3)) nxS)
  (seqS (asgS (op2 addF (asVal (rgE (gv 2))) (asVal (lstE (aCons (tupE (aCons (cD (.val (.str "back"))) aNil)) (aCons (tupE (aCons (cD (.val (.str "fail"))) (aCons (cD (.val (.str "bad"))) aNil))) (aCons (tupE (aCons (cD (.val (.str "fail"))) (aCons (cD (.val (.str "back"))) aNil))) aNil)))))) (setV 4))
  (seqS (parN [5, 6] (aCons (asObj (lstE aNil)) (aCons (asObj (lstE aNil)) aNil)))
  (seqS (forS 100000 (rngI (aCons (op2 addF (cD (.val (.int 1))) (callF m__law_draw (aCons (gv 0) (aCons (cD (.val (.int 4))) aNil)))) aNil)) (setV 7) (killS [7] (seqS (asgS (op2 ixF (gv 4) (callF m__law_draw (aCons (gv 0) (aCons (callF lenF (aCons (gv 4) aNil)) aNil)))) (setV 8))
  (ifS (tst (op2 (inF true) (gv 8) (gv 5))) (dropS (methL appF (gv 5) (aCons (gv 8) aNil))) nxS))))
  (seqS (killS [8] (forS 100000 (rngI (aCons (callF m__law_draw (aCons (gv 0) (aCons (cD (.val (.int 4))) aNil))) aNil)) (setV 7) (killS [7, 9] (seqS (asgS (op2 ixF (asVal (lstE (aCons (cD (.val (.str ""))) (aCons (cD (.val (.str "bad"))) (aCons (cD (.val (.str "back"))) (aCons (cD (.val (.str "zz"))) aNil)))))) (callF m__law_draw (aCons (gv 0) (aCons (cD (.val (.int 4))) aNil)))) (setV 9))
  (ifS (tst (op2 (inF true) (gv 9) (asVal (lcS 100000 [8] (anyI (gv 6)) (setV 8) yesT (op2 ixF (gv 8) (cD (.val (.int 0)))))))) (dropS (methL appF (gv 6) (aCons (tupE (aCons (gv 9) (aCons (callF m__law_draw (aCons (gv 0) (aCons (gv 2) aNil))) aNil))) aNil))) nxS)))))
  (retS (tupE (aCons (callF tupleF (aCons (gv 3) aNil)) (aCons (callF tupleF (aCons (gv 5) aNil)) (aCons (callF tupleF (aCons (gv 6) aNil)) aNil)))))))))))
def m__law_row : List D → M D := fnT 10 b__law_row
/-! _law_linked -/
abbrev s__law_linked : Stmt := top 23
def b__law_linked : B.Env → M Fl :=
  (seqS (asgS (slF (asVal (lstE (aCons (cD (.val (.str "t"))) (aCons (cD (.val (.str "main"))) (aCons (cD (.val (.str "ab"))) (aCons (cD (.val (.str "a"))) (aCons (cD (.val (.str "zz"))) (aCons (cD (.val (.str "abc"))) (aCons (cD (.val (.str "h"))) (aCons (cD (.val (.str "g"))) aNil)))))))))) oNone (oSome (op2 addF (cD (.val (.int 1))) (callF m__law_draw (aCons (gv 0) (aCons (cD (.val (.int 8))) aNil)))))) (setV 1))
  (seqS (parN [2, 3, 4] (aCons (callF lenF (aCons (gv 1) aNil)) (aCons (callF m__law_draw (aCons (gv 0) (aCons (cD (.val (.int 7))) aNil))) (aCons (asObj (lstE aNil)) aNil))))
  (seqS (asgS (tupE (aCons (tupE (aCons (cD (.val (.str ""))) aNil)) (aCons (tupE (aCons (tupE (aCons (cD (.val (.str "back"))) aNil)) aNil)) (aCons (tupE aNil) aNil)))) (setV 5))
  (seqS (forS 100000 (rngI (aCons (gv 2) aNil)) (setV 6) (killS [6, 7, 8, 9, 10] (seqS (asgS (asObj (lstE (aCons (asVal (lstE (aCons (op2 ixF (gv 1) (op2 modF (callF intG (aCons (op2 addF (gv 6) (cD (.val (.int 1)))) aNil)) (gv 2))) aNil))) (aCons (slF (gv 1) (oSome (op2 addF (gv 6) (cD (.val (.int 1))))) (oSome (op2 addF (gv 6) (cD (.val (.int 2)))))) aNil)))) (setV 7))
  (seqS (dropS (methL extH (gv 7) (aCons (asVal (lstE (aCons (slF (gv 1) (oSome (gv 6)) (oSome (op2 addF (gv 6) (cD (.val (.int 2)))))) (aCons (asVal (lstE (aCons (op2 ixF (gv 1) (cD (.val (.int 0)))) aNil))) (aCons (slF (gv 1) (oSome (negE (cD (.val (.int 1))))) oNone) aNil))))) aNil)))
  (seqS (dropS (methL extH (gv 7) (aCons (asVal (lstE (aCons (asVal (lstE (aCons (op2 ixF (gv 1) (callF m__law_draw (aCons (gv 0) (aCons (gv 2) aNil)))) aNil))) aNil))) aNil)))
  (seqS (dropS (methL extH (gv 7) (aCons (asVal (lstE (aCons (asVal (lstE (aCons (op2 ixF (gv 1) (op2 modF (callF intG (aCons (op2 mulH (gv 6) (cD (.val (.int 3)))) aNil)) (gv 2))) (aCons (op2 ixF (gv 1) (op2 modF (callF intG (aCons (op2 addF (op2 mulH (gv 6) (cD (.val (.int 5)))) (cD (.val (.int 2)))) aNil)) (gv 2))) aNil)))) aNil))) aNil)))
  (seqS (asgS (asVal (sortSetE (op2 addF (op2 ixF (gv 7) (gv 3)) (slF (asVal (lstE (aCons (cD (.val (.str ""))) aNil))) oNone (oSome (callF m__law_draw (aCons (gv 0) (aCons (cD (.val (.int 2))) aNil)))))))) (setV 8))
  (seqS (asgS (tupE (aCons (ifV (tst (op2 neF (gv 8) (asVal (lstE aNil)))) (callF tupleF (aCons (gv 8) aNil)) (tupE (aCons (cD (.val (.str ""))) aNil))) (aCons (tupE (aCons (tupE (aCons (cD (.val (.str "back"))) aNil)) (aCons (cD (.val (.int 0))) aNil))) (aCons (tupE aNil) aNil)))) (setV 9))
  (seqS (asgS (op2 ixF (asVal (lstE (aCons (tupE (aCons (gv 9) aNil)) (aCons (tupE (aCons (gv 5) (aCons (gv 9) aNil))) (aCons (tupE (aCons (gv 9) (aCons (gv 5) aNil))) (aCons (tupE (aCons (gv 5) (aCons (gv 5) (aCons (gv 9) aNil)))) aNil)))))) (callF m__law_draw (aCons (gv 0) (aCons (cD (.val (.int 4))) aNil)))) (setV 10))
  (dropS (methL appF (gv 4) (aCons (tupE (aCons (op2 ixF (gv 1) (gv 6)) (aCons (gv 10) aNil))) aNil))))))))))))
  (retS (callF tupleF (aCons (gv 4) aNil)))))))
def m__law_linked : List D → M D := fnT 11 b__law_linked
/-! _law_reached -/
abbrev s__law_reached : Stmt := top 25
def b__law_reached : B.Env → M Fl :=
  (seqS (parN [2, 3] (aCons (asObj (lstE aNil)) (aCons (callF m__law_callees (aCons (gv 0) (aCons (gv 1) aNil))) aNil)))
  (seqS (killS [3] (forS 100000 (rngI (aCons (callF lenF (aCons (gv 0) aNil)) aNil)) (setV 4) (killS [4, 5, 6] (seqS (asgS (asVal (lstE aNil)) (setV 5))
  (seqS (forS 100000 (anyI (gv 3)) (setV 6) (killS [6] (ifS (tst (op2 (inF true) (gv 6) (gv 2))) (seqS (dropS (methL appF (gv 2) (aCons (gv 6) aNil)))
  (asgS (op2 addF (gv 5) (callF m__law_callees (aCons (gv 0) (aCons (gv 6) aNil)))) (setV 5))) nxS)))
  (asgS (gv 5) (setV 3)))))))
  (retS (callF tupleF (aCons (asVal (callFF sortF (aCons (gv 2) aNil))) aNil)))))
def m__law_reached : List D → M D := fnT 7 b__law_reached
/-! lines_of -/
abbrev s_lines_of : Stmt := top 12
def b_lines_of : B.Env → M Fl :=
  (seqS (forS 100000 (anyI (gv 0)) (setT 2 (setsCons (setV 2) (setsCons (setV 3) setsNil))) (killS [2, 3] (ifS (tst (op2 eqF (gv 2) (gv 1))) (retS (gv 3)) nxS)))
  (raiseS "NotUsable" ["word", "at"] (aCons (cD (.val (.str "name"))) (aCons (gv 1) aNil))))
def m_lines_of : List D → M D := fnOf 4 b_lines_of
/-! _law_drawn -/
abbrev s__law_drawn : Stmt := top 20
def b__law_drawn : B.Env → M Fl :=
  (seqS (asgS (asVal (lstE (aCons (asVal (lstE (aCons (cD (.val (.str "main"))) (aCons (cD (.val (.str "f"))) (aCons (cD (.val (.str "g"))) aNil))))) (aCons (asVal (lstE (aCons (cD (.val (.str "a"))) aNil))) (aCons (asVal (lstE (aCons (cD (.val (.str "function"))) (aCons (cD (.val (.str "back"))) (aCons (cD (.val (.str "fail"))) (aCons (cD (.val (.str "zzzzzzzz"))) aNil)))))) aNil))))) (setV 1))
  (seqS (asgS (op2 addF (gv 1) (asVal (lstE (aCons (asVal (lstE (aCons (cD (.val (.str "b"))) (aCons (cD (.val (.str "ab"))) (aCons (cD (.val (.str "abc"))) (aCons (cD (.val (.str "a"))) aNil)))))) (aCons (asVal (lstE (aCons (cD (.val (.str "g"))) (aCons (cD (.val (.str "f"))) aNil)))) aNil))))) (setV 1))
  (seqS (parN [2, 3] (aCons (op2 ixF (gv 1) (callF m__law_draw (aCons (gv 0) (aCons (cD (.val (.int 5))) aNil)))) (aCons (asObj (lstE aNil)) aNil)))
  (seqS (forS 100000 (anyI (gv 2)) (setV 4) (killS [4, 5] (seqS (asgS (op2 addF (cD (.val (.int 1))) (callF m__law_draw (aCons (gv 0) (aCons (cD (.val (.int 4))) aNil)))) (setV 5))
  (dropS (methL appF (gv 3) (aCons (tupE (aCons (gv 4) (aCons (callF tupleF (aCons (asVal (lcS 100000 [6] (rngI (aCons (gv 5) aNil)) (setV 6) yesT (callF m__law_row (aCons (gv 0) (aCons (gv 2) (aCons (gv 5) aNil)))))) aNil)) aNil))) aNil))))))
  (retS (callF tupleF (aCons (gv 3) aNil)))))))
def m__law_drawn : List D → M D := fnT 7 b__law_drawn
/-! can_call -/
abbrev s_can_call : Stmt := top 14
def b_can_call : B.Env → M Fl :=
  (seqS (parN [2, 3] (aCons (callF m_called_in (aCons (callF m_lines_of (aCons (gv 0) (aCons (gv 1) aNil))) aNil)) (aCons (asObj (lstE aNil)) aNil)))
  (seqS (whF (truT (gv 2)) (killS [4] (seqS (asgS (popE (gv 2)) (setV 4))
  (ifS (tst (op2 (inF true) (gv 4) (gv 3))) (seqS (dropS (methL appF (gv 3) (aCons (gv 4) aNil)))
  (dropS (methL extH (gv 2) (aCons (callF m_called_in (aCons (callF m_lines_of (aCons (gv 0) (aCons (gv 4) aNil))) aNil)) aNil)))) nxS))) 100000)
  (retS (callF tupleF (aCons (asVal (callFF sortF (aCons (gv 3) aNil))) aNil)))))
def m_can_call : List D → M D := fnT 5 b_can_call
/-! _law_right -/
abbrev s__law_right : Stmt := top 26
def b__law_right : B.Env → M Fl :=
  (seqS (parN [1, 2] (aCons (callF reprF (aCons (gv 0) aNil)) (aCons (asVal (lcS 100000 [6] (anyI (gv 0)) (setV 6) yesT (op2 ixF (gv 6) (cD (.val (.int 0)))))) aNil)))
  (seqS (asgS (asVal (lstE (aCons (cD (.val (.str ""))) (aCons (cD (.val (.str "nobody"))) (aCons (op2 addF (op2 ixF (gv 2) (cD (.val (.int 0)))) (cD (.val (.str "x")))) (aCons (upE (op2 ixF (gv 2) (negE (cD (.val (.int 1)))))) (aCons (cD (.val .none)) (aCons (cD (.val (.int 0))) (aCons (cD (.val (.bool true))) aNil))))))))) (setV 3))
  (seqS (forS 100000 (anyI (op2 addF (op2 addF (gv 2) (gv 3)) (asVal (lstE (aCons (asVal (lstE (aCons (op2 ixF (gv 2) (cD (.val (.int 0)))) aNil))) (aCons (tupE (aCons (op2 ixF (gv 2) (cD (.val (.int 0)))) aNil)) aNil)))))) (setV 4) (killS [4, 5] (seqS (asgS (tupE (aCons (cD (.val (.str "use"))) (aCons (cD (.val (.str "name"))) (aCons (gv 4) aNil)))) (setV 5))
  (seqS (ifS (andT (truT (callF isiF (aCons (gv 4) (aCons (cD (.cst (.ty "str"))) aNil)))) (tst (op2 (inF false) (gv 4) (gv 2)))) (asgS (tupE (aCons (cD (.val (.str "told"))) (aCons (callF m__law_reached (aCons (gv 0) (aCons (gv 4) aNil))) aNil))) (setV 5)) nxS)
  (ifS (tst (op2 neF (callF reprF (aCons (lamF h__law_heard (callF m_can_call (aCons (gv 0) (aCons (gv 4) aNil)))) aNil)) (callF reprF (aCons (gv 5) aNil)))) (retS (cD (.val (.bool false)))) nxS)))))
  (retS (op2 eqF (callF reprF (aCons (gv 0) aNil)) (gv 1))))))
def m__law_right : List D → M D := fnOf 7 b__law_right
/-! law -/
abbrev s_law : Stmt := top 27
def b_law : B.Env → M Fl :=
  (seqS (asgS (callF m__law_feed (aCons (gv 0) aNil)) (setV 1))
  (seqS (asgS (asVal (lstE (aCons (callF m__law_linked (aCons (gv 1) aNil)) (aCons (callF m__law_linked (aCons (gv 1) aNil)) (aCons (callF m__law_drawn (aCons (gv 1) aNil)) (aCons (callF m__law_first aNil) (aCons (callF m__law_great aNil) aNil))))))) (setV 2))
  (seqS (ifS (tst (op2 neF (asVal (lcS 100000 [4] (anyI (gv 2)) (setV 4) (notT (truT (callF m__law_right (aCons (gv 4) aNil)))) (gv 4))) (asVal (lstE aNil)))) (retS (cD (.val (.bool false)))) nxS)
  (seqS (asgS (tupE (aCons (tupE (aCons (cD (.val (.str "again"))) (aCons (tupE (aCons (tupE (aCons (tupE (aCons (cD (.val (.str ""))) (aCons (cD (.val (.str "again"))) aNil))) (aCons (tupE (aCons (cD (.val (.int 1))) aNil)) (aCons (tupE aNil) aNil)))) (aCons (tupE (aCons (tupE (aCons (cD (.val (.str ""))) aNil)) (aCons (tupE (aCons (tupE (aCons (cD (.val (.str "back"))) aNil)) aNil)) (aCons (tupE aNil) aNil)))) aNil))) aNil))) aNil)) (setV 3))
  (seqS (ifS (tst (op2 neF (callKw [1, 0] m_can_call aNil (aCons (cD (.val (.str "again"))) (aCons (gv 3) aNil))) (tupE (aCons (cD (.val (.str "again"))) aNil)))) (retS (cD (.val (.bool false)))) nxS)
  (retS (andV (op2 eqF (callKw [1, 0] m_can_call aNil (aCons (cD (.val (.str "main"))) (aCons (callF m__law_first aNil) aNil))) (tupE (aCons (cD (.val (.str "f"))) (aCons (cD (.val (.str "g"))) aNil)))) (op2 eqF (callF m_can_call (aCons (callF m__law_first aNil) (aCons (cD (.val (.str "g"))) aNil))) (tupE aNil)))))))))
def m_law : List D → M D := fnOf 5 b_law
end Yk06
namespace Yk06
open PySem L2 B
variable [Gd]
abbrev s_NotUsable : Stmt := clsDef (top 7) 0
structure DefAt (K : W.Frag) (mg : Str → Option Value) (x : Str) (st : Stmt) (f : Addr) (fd : FuncData) (ps : List Str) : Prop where
  F : Fun K x x st f fd
  g : mg x = some (.ref f)
  b : L2.Binds K fd ps []
structure Txt (P : Program) (K : W.Frag) (mg : Str → Option Value) : Type where
  a_called_in : Addr
  d_called_in : FuncData
  p_called_in : DefAt K mg "called_in" s_called_in a_called_in d_called_in ["lines"]
  a__law_feed : Addr
  d__law_feed : FuncData
  p__law_feed : DefAt K mg "_law_feed" s__law_feed a__law_feed d__law_feed ["_law_script"]
  a__law_draw : Addr
  d__law_draw : FuncData
  p__law_draw : DefAt K mg "_law_draw" s__law_draw a__law_draw d__law_draw ["_law_feed_here", "_law_many"]
  a__law_heard : Addr
  d__law_heard : FuncData
  p__law_heard : DefAt K mg "_law_heard" s__law_heard a__law_heard d__law_heard ["_law_ask"]
  a__law_first : Addr
  d__law_first : FuncData
  p__law_first : DefAt K mg "_law_first" s__law_first a__law_first d__law_first []
  a__law_great : Addr
  d__law_great : FuncData
  p__law_great : DefAt K mg "_law_great" s__law_great a__law_great d__law_great []
  a__law_callees : Addr
  d__law_callees : FuncData
  p__law_callees : DefAt K mg "_law_callees" s__law_callees a__law_callees d__law_callees ["_law_whole", "_law_title"]
  a__law_row : Addr
  d__law_row : FuncData
  p__law_row : DefAt K mg "_law_row" s__law_row a__law_row d__law_row ["_law_feed_here", "_law_titles", "_law_size"]
  a__law_linked : Addr
  d__law_linked : FuncData
  p__law_linked : DefAt K mg "_law_linked" s__law_linked a__law_linked d__law_linked ["_law_feed_here"]
  a__law_reached : Addr
  d__law_reached : FuncData
  p__law_reached : DefAt K mg "_law_reached" s__law_reached a__law_reached d__law_reached ["_law_whole", "_law_title"]
  a_lines_of : Addr
  d_lines_of : FuncData
  p_lines_of : DefAt K mg "lines_of" s_lines_of a_lines_of d_lines_of ["program", "name"]
  a__law_drawn : Addr
  d__law_drawn : FuncData
  p__law_drawn : DefAt K mg "_law_drawn" s__law_drawn a__law_drawn d__law_drawn ["_law_feed_here"]
  a_can_call : Addr
  d_can_call : FuncData
  p_can_call : DefAt K mg "can_call" s_can_call a_can_call d_can_call ["program", "name"]
  a__law_right : Addr
  d__law_right : FuncData
  p__law_right : DefAt K mg "_law_right" s__law_right a__law_right d__law_right ["_law_whole"]
  a_law : Addr
  d_law : FuncData
  p_law : DefAt K mg "law" s_law a_law d_law ["_law_script"]
  n_int : mg "int" = none
  n_isinstance : mg "isinstance" = none
  n_len : mg "len" = none
  n_list : mg "list" = none
  n_range : mg "range" = none
  n_repr : mg "repr" = none
  n_set : mg "set" = none
  n_sorted : mg "sorted" = none
  n_str : mg "str" = none
  n_tuple : mg "tuple" = none
  t_NO_CALL : Tok
  g_NO_CALL : mg "NO_CALL" = some (.str "" t_NO_CALL)
  a_StepError : Addr
  g_StepError : mg "StepError" = some (.ref a_StepError)
  a_PaperError : Addr
  g_PaperError : mg "PaperError" = some (.ref a_PaperError)
  a_ProgramError : Addr
  g_ProgramError : mg "ProgramError" = some (.ref a_ProgramError)
  a_SessionError : Addr
  g_SessionError : mg "SessionError" = some (.ref a_SessionError)
  a_TextError : Addr
  g_TextError : mg "TextError" = some (.ref a_TextError)
  a_InvalidPaper : Addr
  g_InvalidPaper : mg "InvalidPaper" = some (.ref a_InvalidPaper)
  a_NotUsable : Addr
  g_NotUsable : mg "NotUsable" = some (.ref a_NotUsable)
  a_InvalidText : Addr
  g_InvalidText : mg "InvalidText" = some (.ref a_InvalidText)
  a_InvalidRow : Addr
  g_InvalidRow : mg "InvalidRow" = some (.ref a_InvalidRow)
  i_NotUsable : Addr
  d_NotUsable : FuncData
  x_NotUsable : ExcAt P K mg "NotUsable" a_NotUsable i_NotUsable d_NotUsable "word" "at"
  e_NotUsable : ExcC K a_NotUsable
  f_NotUsable : XfC K a_NotUsable
  m_NotUsable_StepError : PySem.W.exmOne K (.ref a_NotUsable) (.ref a_StepError) = some true
  kit_NotUsable_InvalidPaper : PySem.W.kitOne K (.ref a_NotUsable) (.ref a_InvalidPaper) = some false
  kit_NotUsable_InvalidRow : PySem.W.kitOne K (.ref a_NotUsable) (.ref a_InvalidRow) = some false
  kit_NotUsable_InvalidText : PySem.W.kitOne K (.ref a_NotUsable) (.ref a_InvalidText) = some false
  kit_NotUsable_NotUsable : PySem.W.kitOne K (.ref a_NotUsable) (.ref a_NotUsable) = some true
  kit_NotUsable_PaperError : PySem.W.kitOne K (.ref a_NotUsable) (.ref a_PaperError) = some false
  kit_NotUsable_ProgramError : PySem.W.kitOne K (.ref a_NotUsable) (.ref a_ProgramError) = some true
  kit_NotUsable_SessionError : PySem.W.kitOne K (.ref a_NotUsable) (.ref a_SessionError) = some false
  kit_NotUsable_TextError : PySem.W.kitOne K (.ref a_NotUsable) (.ref a_TextError) = some false
  fno_NotUsable_at : PySem.W.findIn K (.ref a_NotUsable) "at" = some none
  fno_NotUsable_field : PySem.W.findIn K (.ref a_NotUsable) "field" = some none
  fno_NotUsable_line : PySem.W.findIn K (.ref a_NotUsable) "line" = some none
  fno_NotUsable_word : PySem.W.findIn K (.ref a_NotUsable) "word" = some none
  c__law_right : Addr
  t__law_right : Addr
  q__law_right : d__law_right.code = .ref c__law_right
  ti__law_right : PySem.W.tabIn K "_law_right" = some (c__law_right, t__law_right)
  tk__law_right : K.lookup t__law_right = none
@[reducible] def nmOf {P : Program} {K : W.Frag} {mg : Str → Option Value} (T : Txt P K mg) : Nm where
  tb := [(T.t__law_right, ((PyProof.Rows.envOfC "_law_right" (defScope s__law_right) 0 0 .none).qual ++ "<lambda>"))]
  cl := fun x => if x = "StepError" then T.a_StepError else if x = "PaperError" then T.a_PaperError else if x = "ProgramError" then T.a_ProgramError else if x = "SessionError" then T.a_SessionError else if x = "TextError" then T.a_TextError else if x = "InvalidPaper" then T.a_InvalidPaper else if x = "NotUsable" then T.a_NotUsable else if x = "InvalidText" then T.a_InvalidText else if x = "InvalidRow" then T.a_InvalidRow else 0
def csOf {P : Program} {K : W.Frag} {mg : Str → Option Value} (T : Txt P K mg) : List (Addr × Addr × Str) := [(T.c__law_right, T.t__law_right, ((PyProof.Rows.envOfC "_law_right" (defScope s__law_right) 0 0 .none).qual ++ "<lambda>"))]
section
variable {P : Program} {K : W.Frag} {mg : Str → Option Value} (T : Txt P K mg)
theorem cl_StepError : (nmOf T).cl "StepError" = T.a_StepError := by show (if ("StepError" : Str) = "StepError" then T.a_StepError else if ("StepError" : Str) = "PaperError" then T.a_PaperError else if ("StepError" : Str) = "ProgramError" then T.a_ProgramError else if ("StepError" : Str) = "SessionError" then T.a_SessionError else if ("StepError" : Str) = "TextError" then T.a_TextError else if ("StepError" : Str) = "InvalidPaper" then T.a_InvalidPaper else if ("StepError" : Str) = "NotUsable" then T.a_NotUsable else if ("StepError" : Str) = "InvalidText" then T.a_InvalidText else if ("StepError" : Str) = "InvalidRow" then T.a_InvalidRow else 0) = _; simp
theorem cl_PaperError : (nmOf T).cl "PaperError" = T.a_PaperError := by show (if ("PaperError" : Str) = "StepError" then T.a_StepError else if ("PaperError" : Str) = "PaperError" then T.a_PaperError else if ("PaperError" : Str) = "ProgramError" then T.a_ProgramError else if ("PaperError" : Str) = "SessionError" then T.a_SessionError else if ("PaperError" : Str) = "TextError" then T.a_TextError else if ("PaperError" : Str) = "InvalidPaper" then T.a_InvalidPaper else if ("PaperError" : Str) = "NotUsable" then T.a_NotUsable else if ("PaperError" : Str) = "InvalidText" then T.a_InvalidText else if ("PaperError" : Str) = "InvalidRow" then T.a_InvalidRow else 0) = _; simp
theorem cl_ProgramError : (nmOf T).cl "ProgramError" = T.a_ProgramError := by show (if ("ProgramError" : Str) = "StepError" then T.a_StepError else if ("ProgramError" : Str) = "PaperError" then T.a_PaperError else if ("ProgramError" : Str) = "ProgramError" then T.a_ProgramError else if ("ProgramError" : Str) = "SessionError" then T.a_SessionError else if ("ProgramError" : Str) = "TextError" then T.a_TextError else if ("ProgramError" : Str) = "InvalidPaper" then T.a_InvalidPaper else if ("ProgramError" : Str) = "NotUsable" then T.a_NotUsable else if ("ProgramError" : Str) = "InvalidText" then T.a_InvalidText else if ("ProgramError" : Str) = "InvalidRow" then T.a_InvalidRow else 0) = _; simp
theorem cl_SessionError : (nmOf T).cl "SessionError" = T.a_SessionError := by show (if ("SessionError" : Str) = "StepError" then T.a_StepError else if ("SessionError" : Str) = "PaperError" then T.a_PaperError else if ("SessionError" : Str) = "ProgramError" then T.a_ProgramError else if ("SessionError" : Str) = "SessionError" then T.a_SessionError else if ("SessionError" : Str) = "TextError" then T.a_TextError else if ("SessionError" : Str) = "InvalidPaper" then T.a_InvalidPaper else if ("SessionError" : Str) = "NotUsable" then T.a_NotUsable else if ("SessionError" : Str) = "InvalidText" then T.a_InvalidText else if ("SessionError" : Str) = "InvalidRow" then T.a_InvalidRow else 0) = _; simp
theorem cl_TextError : (nmOf T).cl "TextError" = T.a_TextError := by show (if ("TextError" : Str) = "StepError" then T.a_StepError else if ("TextError" : Str) = "PaperError" then T.a_PaperError else if ("TextError" : Str) = "ProgramError" then T.a_ProgramError else if ("TextError" : Str) = "SessionError" then T.a_SessionError else if ("TextError" : Str) = "TextError" then T.a_TextError else if ("TextError" : Str) = "InvalidPaper" then T.a_InvalidPaper else if ("TextError" : Str) = "NotUsable" then T.a_NotUsable else if ("TextError" : Str) = "InvalidText" then T.a_InvalidText else if ("TextError" : Str) = "InvalidRow" then T.a_InvalidRow else 0) = _; simp
theorem cl_InvalidPaper : (nmOf T).cl "InvalidPaper" = T.a_InvalidPaper := by show (if ("InvalidPaper" : Str) = "StepError" then T.a_StepError else if ("InvalidPaper" : Str) = "PaperError" then T.a_PaperError else if ("InvalidPaper" : Str) = "ProgramError" then T.a_ProgramError else if ("InvalidPaper" : Str) = "SessionError" then T.a_SessionError else if ("InvalidPaper" : Str) = "TextError" then T.a_TextError else if ("InvalidPaper" : Str) = "InvalidPaper" then T.a_InvalidPaper else if ("InvalidPaper" : Str) = "NotUsable" then T.a_NotUsable else if ("InvalidPaper" : Str) = "InvalidText" then T.a_InvalidText else if ("InvalidPaper" : Str) = "InvalidRow" then T.a_InvalidRow else 0) = _; simp
theorem cl_NotUsable : (nmOf T).cl "NotUsable" = T.a_NotUsable := by show (if ("NotUsable" : Str) = "StepError" then T.a_StepError else if ("NotUsable" : Str) = "PaperError" then T.a_PaperError else if ("NotUsable" : Str) = "ProgramError" then T.a_ProgramError else if ("NotUsable" : Str) = "SessionError" then T.a_SessionError else if ("NotUsable" : Str) = "TextError" then T.a_TextError else if ("NotUsable" : Str) = "InvalidPaper" then T.a_InvalidPaper else if ("NotUsable" : Str) = "NotUsable" then T.a_NotUsable else if ("NotUsable" : Str) = "InvalidText" then T.a_InvalidText else if ("NotUsable" : Str) = "InvalidRow" then T.a_InvalidRow else 0) = _; simp
theorem cl_InvalidText : (nmOf T).cl "InvalidText" = T.a_InvalidText := by show (if ("InvalidText" : Str) = "StepError" then T.a_StepError else if ("InvalidText" : Str) = "PaperError" then T.a_PaperError else if ("InvalidText" : Str) = "ProgramError" then T.a_ProgramError else if ("InvalidText" : Str) = "SessionError" then T.a_SessionError else if ("InvalidText" : Str) = "TextError" then T.a_TextError else if ("InvalidText" : Str) = "InvalidPaper" then T.a_InvalidPaper else if ("InvalidText" : Str) = "NotUsable" then T.a_NotUsable else if ("InvalidText" : Str) = "InvalidText" then T.a_InvalidText else if ("InvalidText" : Str) = "InvalidRow" then T.a_InvalidRow else 0) = _; simp
theorem cl_InvalidRow : (nmOf T).cl "InvalidRow" = T.a_InvalidRow := by show (if ("InvalidRow" : Str) = "StepError" then T.a_StepError else if ("InvalidRow" : Str) = "PaperError" then T.a_PaperError else if ("InvalidRow" : Str) = "ProgramError" then T.a_ProgramError else if ("InvalidRow" : Str) = "SessionError" then T.a_SessionError else if ("InvalidRow" : Str) = "TextError" then T.a_TextError else if ("InvalidRow" : Str) = "InvalidPaper" then T.a_InvalidPaper else if ("InvalidRow" : Str) = "NotUsable" then T.a_NotUsable else if ("InvalidRow" : Str) = "InvalidText" then T.a_InvalidText else if ("InvalidRow" : Str) = "InvalidRow" then T.a_InvalidRow else 0) = _; simp
theorem kxs : ∀ C ∈ (["NotUsable"] : List Str), ExcC K ((nmOf T).cl C) ∧ XfC K ((nmOf T).cl C) := by
  intro C hC; simp only [List.mem_cons, List.not_mem_nil, or_false] at hC; rcases hC with rfl
  · rw [cl_NotUsable]; exact ⟨T.e_NotUsable, T.f_NotUsable⟩
theorem exm_StepError : ∀ C ∈ (["NotUsable"] : List Str), PySem.W.exmOne K (.ref ((nmOf T).cl C)) (.ref T.a_StepError) = some true := by
  intro C hC; simp only [List.mem_cons, List.not_mem_nil, or_false] at hC; rcases hC with rfl
  · rw [cl_NotUsable]; exact T.m_NotUsable_StepError
theorem kit_InvalidPaper : ∀ C ∈ (["NotUsable"] : List Str), PySem.W.kitOne K (.ref ((nmOf T).cl C)) (.ref T.a_InvalidPaper) = some (decide (C ∈ ([] : List Str))) := by
  intro C hC; simp only [List.mem_cons, List.not_mem_nil, or_false] at hC; rcases hC with rfl
  · rw [cl_NotUsable, T.kit_NotUsable_InvalidPaper]; simp
theorem kit_InvalidRow : ∀ C ∈ (["NotUsable"] : List Str), PySem.W.kitOne K (.ref ((nmOf T).cl C)) (.ref T.a_InvalidRow) = some (decide (C ∈ ([] : List Str))) := by
  intro C hC; simp only [List.mem_cons, List.not_mem_nil, or_false] at hC; rcases hC with rfl
  · rw [cl_NotUsable, T.kit_NotUsable_InvalidRow]; simp
theorem kit_InvalidText : ∀ C ∈ (["NotUsable"] : List Str), PySem.W.kitOne K (.ref ((nmOf T).cl C)) (.ref T.a_InvalidText) = some (decide (C ∈ ([] : List Str))) := by
  intro C hC; simp only [List.mem_cons, List.not_mem_nil, or_false] at hC; rcases hC with rfl
  · rw [cl_NotUsable, T.kit_NotUsable_InvalidText]; simp
theorem kit_NotUsable : ∀ C ∈ (["NotUsable"] : List Str), PySem.W.kitOne K (.ref ((nmOf T).cl C)) (.ref T.a_NotUsable) = some (decide (C ∈ (["NotUsable"] : List Str))) := by
  intro C hC; simp only [List.mem_cons, List.not_mem_nil, or_false] at hC; rcases hC with rfl
  · rw [cl_NotUsable, T.kit_NotUsable_NotUsable]; simp
theorem kit_PaperError : ∀ C ∈ (["NotUsable"] : List Str), PySem.W.kitOne K (.ref ((nmOf T).cl C)) (.ref T.a_PaperError) = some (decide (C ∈ ([] : List Str))) := by
  intro C hC; simp only [List.mem_cons, List.not_mem_nil, or_false] at hC; rcases hC with rfl
  · rw [cl_NotUsable, T.kit_NotUsable_PaperError]; simp
theorem kit_ProgramError : ∀ C ∈ (["NotUsable"] : List Str), PySem.W.kitOne K (.ref ((nmOf T).cl C)) (.ref T.a_ProgramError) = some (decide (C ∈ (["NotUsable"] : List Str))) := by
  intro C hC; simp only [List.mem_cons, List.not_mem_nil, or_false] at hC; rcases hC with rfl
  · rw [cl_NotUsable, T.kit_NotUsable_ProgramError]; simp
theorem kit_SessionError : ∀ C ∈ (["NotUsable"] : List Str), PySem.W.kitOne K (.ref ((nmOf T).cl C)) (.ref T.a_SessionError) = some (decide (C ∈ ([] : List Str))) := by
  intro C hC; simp only [List.mem_cons, List.not_mem_nil, or_false] at hC; rcases hC with rfl
  · rw [cl_NotUsable, T.kit_NotUsable_SessionError]; simp
theorem kit_TextError : ∀ C ∈ (["NotUsable"] : List Str), PySem.W.kitOne K (.ref ((nmOf T).cl C)) (.ref T.a_TextError) = some (decide (C ∈ ([] : List Str))) := by
  intro C hC; simp only [List.mem_cons, List.not_mem_nil, or_false] at hC; rcases hC with rfl
  · rw [cl_NotUsable, T.kit_NotUsable_TextError]; simp
theorem fno_at : ∀ C ∈ (["NotUsable"] : List Str), PySem.W.findIn K (.ref ((nmOf T).cl C)) "at" = some none := by
  intro C hC; simp only [List.mem_cons, List.not_mem_nil, or_false] at hC; rcases hC with rfl
  · rw [cl_NotUsable]; exact T.fno_NotUsable_at
theorem fno_field : ∀ C ∈ (["NotUsable"] : List Str), PySem.W.findIn K (.ref ((nmOf T).cl C)) "field" = some none := by
  intro C hC; simp only [List.mem_cons, List.not_mem_nil, or_false] at hC; rcases hC with rfl
  · rw [cl_NotUsable]; exact T.fno_NotUsable_field
theorem fno_line : ∀ C ∈ (["NotUsable"] : List Str), PySem.W.findIn K (.ref ((nmOf T).cl C)) "line" = some none := by
  intro C hC; simp only [List.mem_cons, List.not_mem_nil, or_false] at hC; rcases hC with rfl
  · rw [cl_NotUsable]; exact T.fno_NotUsable_line
theorem fno_word : ∀ C ∈ (["NotUsable"] : List Str), PySem.W.findIn K (.ref ((nmOf T).cl C)) "word" = some none := by
  intro C hC; simp only [List.mem_cons, List.not_mem_nil, or_false] at hC; rcases hC with rfl
  · rw [cl_NotUsable]; exact T.fno_NotUsable_word
theorem tm__law_right : (T.t__law_right, ((PyProof.Rows.envOfC "_law_right" (defScope s__law_right) 0 0 .none).qual ++ "<lambda>")) ∈ (nmOf T).tb := by show _ ∈ ([(T.t__law_right, ((PyProof.Rows.envOfC "_law_right" (defScope s__law_right) 0 0 .none).qual ++ "<lambda>"))] : List (Addr × Str)); simp
theorem tu__law_right : ∀ p ∈ (nmOf T).tb, p.1 = T.t__law_right → p.2 = ((PyProof.Rows.envOfC "_law_right" (defScope s__law_right) 0 0 .none).qual ++ "<lambda>") := by
  intro p hp e; replace hp : p ∈ ([(T.t__law_right, ((PyProof.Rows.envOfC "_law_right" (defScope s__law_right) 0 0 .none).qual ++ "<lambda>"))] : List (Addr × Str)) := hp; simp only [List.mem_cons, List.not_mem_nil, or_false] at hp; rcases hp with rfl
  · rfl
theorem tc__law_right : (T.c__law_right, T.t__law_right, ((PyProof.Rows.envOfC "_law_right" (defScope s__law_right) 0 0 .none).qual ++ "<lambda>")) ∈ csOf T := by simp [csOf]
end
theorem kb_can_call_0_name_program {K : W.Frag} {f : Addr} {fd : FuncData} (F : Fun K "can_call" "can_call" s_can_call f fd) : KB fd ["program", "name"] ["name", "program"] 0 2 [1, 0] := by
  obtain ⟨oc, od, kV, doc, pm, an, cdv, ct, osl, rfl, lk, hcd⟩ := F.ex
  intro s us ws h1 h2
  match us, h1, ws, h2 with
  | [], _, [w0, w1], _ => exact .of_eq rfl
theorem kb_can_call_0_name_program_ix : ∀ ds es : List D, ds.length = 0 → es.length = 2 → (pick [1, 0] (ds ++ es)).length = 2 := by
  intro ds es h1 h2
  match ds, h1, es, h2 with
  | [], _, [w0, w1], _ => rfl
section
variable {P : Program} {w : World} {K : W.Frag} {mg : Str → Option Value} {base : Heap}
theorem sc__law_heard : FnScope ["_law_ask", "_law_families", "e_in"] ["_law_ask"] (defScope s__law_heard) := ⟨rfl, rfl, rfl, by decide +kernel, rfl, by decide +kernel, by decide +kernel⟩
theorem hr__law_heard {X : Cx} (T : Txt X.prog X.K X.mg) {cdv : Value} {q : Str} {k : Nat} : letI := nmOf T; Hears X ["_law_ask", "_law_families", "e_in"] "_law_heard" (defScope s__law_heard) T.a__law_heard cdv (defBody s__law_heard) "_law_ask" q k h__law_heard := by
  letI := nmOf T
  refine hears_try (i := 2) (n := "e_in") (told := "told") (xc := "StepError") sc__law_heard.nd rfl (by decide) rfl rfl T.g_StepError (by decide) (exm_StepError T) (by decide) fun C hC fs gd' e dx oe pn s H hr ER => ?_
  letI := gd'
  have hu := unitsOf hr
  have KX := kxs T
  exact ⟨_, (ss_cons (ss_set (i := 1) sc__law_heard.nd (SF.o (sf_lst (sa_cons (se_isErr ER (KX C hC).1 (kit_PaperError T C hC) T.n_isinstance T.g_PaperError rfl rfl rfl (se_var 2)) (sa_cons (se_isErr ER (KX C hC).1 (kit_ProgramError T C hC) T.n_isinstance T.g_ProgramError rfl rfl rfl (se_var 2)) sa_nil)))))
      (ss_cons (ss_expr (se_extH (K := X.K) (se_var 1) (sa_cons (SF.v (sf_lst (sa_cons (se_isErr ER (KX C hC).1 (kit_SessionError T C hC) T.n_isinstance T.g_SessionError rfl rfl rfl (se_var 2)) (sa_cons (se_isErr ER (KX C hC).1 (kit_TextError T C hC) T.n_isinstance T.g_TextError rfl rfl rfl (se_var 2)) sa_nil)))) sa_nil)))
      (ss_cons (ss_if (SW.st (sw_and (st_cmp (op_eqP (K := X.K) (un hu)) bop_eq (se_var 1) (SF.v (sf_lst (sa_cons se_bl (sa_cons se_bl (sa_cons se_bl (sa_cons se_bl sa_nil)))))) (nomark _)) (sw_and1 (st_truth (K := X.K) (se_isErr ER (KX C hC).1 (kit_InvalidPaper T C hC) T.n_isinstance T.g_InvalidPaper rfl rfl rfl (se_var 2)))))) (ss_one (ss_ret (se_tup (sa_cons se_str (sa_cons (se_errF ER (KX C hC).2 (fno_word T C hC) (se_var 2)) (sa_cons (se_errF ER (KX C hC).2 (fno_at T C hC) (se_var 2)) sa_nil)))))) ss_nil)
      (ss_cons (ss_if (SW.st (sw_and (st_cmp (op_eqP (K := X.K) (un hu)) bop_eq (se_var 1) (SF.v (sf_lst (sa_cons se_bl (sa_cons se_bl (sa_cons se_bl (sa_cons se_bl sa_nil)))))) (nomark _)) (sw_and1 (st_truth (K := X.K) (se_isErr ER (KX C hC).1 (kit_NotUsable T C hC) T.n_isinstance T.g_NotUsable rfl rfl rfl (se_var 2)))))) (ss_one (ss_ret (se_tup (sa_cons se_str (sa_cons (se_errF ER (KX C hC).2 (fno_word T C hC) (se_var 2)) (sa_cons (se_errF ER (KX C hC).2 (fno_at T C hC) (se_var 2)) sa_nil)))))) ss_nil)
      (ss_cons (ss_if (SW.st (sw_and (st_cmp (op_eqP (K := X.K) (un hu)) bop_eq (se_var 1) (SF.v (sf_lst (sa_cons se_bl (sa_cons se_bl (sa_cons se_bl (sa_cons se_bl sa_nil)))))) (nomark _)) (sw_and1 (st_truth (K := X.K) (se_isErr ER (KX C hC).1 (kit_InvalidText T C hC) T.n_isinstance T.g_InvalidText rfl rfl rfl (se_var 2)))))) (ss_one (ss_ret (se_if (st_truth (K := X.K) (se_isErr ER (KX C hC).1 (kit_InvalidRow T C hC) T.n_isinstance T.g_InvalidRow rfl rfl rfl (se_var 2))) (se_tup (sa_cons se_str sa_nil)) (se_tup (sa_cons se_str (sa_cons (se_errF ER (KX C hC).2 (fno_line T C hC) (se_var 2)) (sa_cons (se_errF ER (KX C hC).2 (fno_field T C hC) (se_var 2)) sa_nil))))))) ss_nil)
      (ss_one (ss_ret (se_tup (sa_cons se_str sa_nil)))))))))⟩
theorem sc_called_in : FnScope ["lines", "calls", "ways", "handlers", "name"] ["lines"] (defScope s_called_in) := ⟨rfl, rfl, rfl, by decide +kernel, rfl, by decide +kernel, by decide +kernel⟩
theorem ok_called_in (T : Txt P K mg) (hB : ∀ p ∈ csOf T, LamX.TabB base mg p.1 p.2.1) : letI := nmOf T; FnG P w K mg base 1 T.a_called_in T.d_called_in ["lines"] (spOf K 1 m_called_in) := by
  letI := nmOf T
  refine does T.p_called_in.F sc_called_in fun A out s H E hr hG => ?_
  have tk : Takes (cxOf (L2.CX P w) P w K mg base ["lines", "calls", "ways", "handlers", "name"] "called_in" (defScope s_called_in) T.a_called_in T.d_called_in.code A out s H E) (fun cls d _ H => E cls d H) := takes_of rfl rfl rfl rfl
  have hx : Passes (L2.CX P w) (cxOf (L2.CX P w) P w K mg base ["lines", "calls", "ways", "handlers", "name"] "called_in" (defScope s_called_in) T.a_called_in T.d_called_in.code A out s H E) E := passes_call tk fun _ _ _ _ h => h
  have ho := passes_of (X := cxOf (L2.CX P w) P w K mg base ["lines", "calls", "ways", "handlers", "name"] "called_in" (defScope s_called_in) T.a_called_in T.d_called_in.code A out s H E) rfl
  have hu := unitsOf hr
  exact ⟨_, (ss_one (ss_ret (SF.o (sf_sortScc 100000 [4] sc_called_in.nd (si_any (K := K) (se_var 0)) (blkOk_by (own := [("calls", 1), ("ways", 2), ("handlers", 3), ("name", 4)]) (N := ["lines", "calls", "ways", "handlers", "name"]) (sc := defScope s_called_in) (by decide +kernel)) (fun _ _ _ _ _ => (sg_tup (K := K) (sgs_cons (sg_name (i := 1) sc_called_in.nd) (sgs_cons (sg_name (i := 2) sc_called_in.nd) (sgs_cons (sg_name (i := 3) sc_called_in.nd) sgs_nil))))) (fun _ _ _ _ _ => sts_nil) (fun _ _ _ _ _ => (si_any (K := K) (se_var 1))) (fun _ _ _ _ _ => (sg_name (i := 4) sc_called_in.nd)) (fun _ _ _ _ _ => (sts_one (st_cmp (op_neP (K := K) (un hu)) bop_ne (se_var 4) (se_glob (v := .str "") (d := .val (.str "")) (by rfl) T.g_NO_CALL (by exact ⟨_, rfl⟩) (fun _ _ => .str _)) (nomark _)))) (fun _ _ _ _ _ => (se_var 4)) (un hu) T.n_sorted))))⟩
theorem sc__law_feed : FnScope ["_law_script"] ["_law_script"] (defScope s__law_feed) := ⟨rfl, rfl, rfl, by decide +kernel, rfl, by decide +kernel, by decide +kernel⟩
theorem ok__law_feed (T : Txt P K mg) (hB : ∀ p ∈ csOf T, LamX.TabB base mg p.1 p.2.1) : letI := nmOf T; FnG P w K mg base 1 T.a__law_feed T.d__law_feed ["_law_script"] (spOf K 1 m__law_feed) := by
  letI := nmOf T
  refine does T.p__law_feed.F sc__law_feed fun A out s H E hr hG => ?_
  have tk : Takes (cxOf (L2.CX P w) P w K mg base ["_law_script"] "_law_feed" (defScope s__law_feed) T.a__law_feed T.d__law_feed.code A out s H E) (fun cls d _ H => E cls d H) := takes_of rfl rfl rfl rfl
  have hx : Passes (L2.CX P w) (cxOf (L2.CX P w) P w K mg base ["_law_script"] "_law_feed" (defScope s__law_feed) T.a__law_feed T.d__law_feed.code A out s H E) E := passes_call tk fun _ _ _ _ h => h
  have ho := passes_of (X := cxOf (L2.CX P w) P w K mg base ["_law_script"] "_law_feed" (defScope s__law_feed) T.a__law_feed T.d__law_feed.code A out s H E) rfl
  have hu := unitsOf hr
  exact ⟨_, (ss_one (ss_ret (se_disp (sps_cons se_str (SF.v (sf_callTy (kList (K := K)) bc_list T.n_list (by decide +kernel) (sa_cons (SF.v (sf_sliceFz (K := K) (se_var 0) so_none (so_some se_int))) sa_nil))) (sps_cons se_str se_int (sps_cons se_str se_int (sps_cons se_str se_int sps_nil)))))))⟩
theorem sc__law_draw : FnScope ["_law_feed_here", "_law_many", "_law_digit", "_law_turn_in", "_law_cell", "_law_mixed"] ["_law_feed_here", "_law_many"] (defScope s__law_draw) := ⟨rfl, rfl, rfl, by decide +kernel, rfl, by decide +kernel, by decide +kernel⟩
theorem ok__law_draw (T : Txt P K mg) (hB : ∀ p ∈ csOf T, LamX.TabB base mg p.1 p.2.1) : letI := nmOf T; FnG P w K mg base 1 T.a__law_draw T.d__law_draw ["_law_feed_here", "_law_many"] (spOf K 2 m__law_draw) := by
  letI := nmOf T
  refine does T.p__law_draw.F sc__law_draw fun A out s H E hr hG => ?_
  have tk : Takes (cxOf (L2.CX P w) P w K mg base ["_law_feed_here", "_law_many", "_law_digit", "_law_turn_in", "_law_cell", "_law_mixed"] "_law_draw" (defScope s__law_draw) T.a__law_draw T.d__law_draw.code A out s H E) (fun cls d _ H => E cls d H) := takes_of rfl rfl rfl rfl
  have hx : Passes (L2.CX P w) (cxOf (L2.CX P w) P w K mg base ["_law_feed_here", "_law_many", "_law_digit", "_law_turn_in", "_law_cell", "_law_mixed"] "_law_draw" (defScope s__law_draw) T.a__law_draw T.d__law_draw.code A out s H E) E := passes_call tk fun _ _ _ _ h => h
  have ho := passes_of (X := cxOf (L2.CX P w) P w K mg base ["_law_feed_here", "_law_many", "_law_digit", "_law_turn_in", "_law_cell", "_law_mixed"] "_law_draw" (defScope s__law_draw) T.a__law_draw T.d__law_draw.code A out s H E) rfl
  have hu := unitsOf hr
  exact ⟨_, (ss_cons (ss_dput (un hu) (se_var 0) se_str (se_op (op_addA (K := K)) bop_add (se_dget (un hu) (se_var 0) se_str) se_int))
      (ss_cons (ss_kill [2] (ss_if (st_cmp op_gt bop_cmp (se_dget (un hu) (se_var 0) se_str) se_int (nomark _)) (ss_cons (ss_set (i := 2) sc__law_draw.nd (se_op op_mod bop_mod (se_callTy (CallR.or call_int1 call_int_str) bc_intG T.n_int (by decide +kernel) (sa_cons (se_dget (un hu) (se_var 0) se_str) sa_nil)) (se_var 1)))
      (ss_cons (ss_dput (un hu) (se_var 0) se_str (se_op op_fdiv bop_fdiv (se_dget (un hu) (se_var 0) se_str) (se_var 1)))
      (ss_one (ss_ret (se_var 2))))) ss_nil))
      (ss_cons (ss_set (i := 3) sc__law_draw.nd (se_dget (un hu) (se_var 0) se_str))
      (ss_cons (ss_dput (un hu) (se_var 0) se_str (se_op (op_addA (K := K)) bop_add (se_var 3) se_int))
      (ss_cons (ss_set (i := 4) sc__law_draw.nd (se_if (st_cmp (op_neP (K := K) (un hu)) bop_ne (se_dget (un hu) (se_var 0) se_str) (SF.v (sf_lst sa_nil)) (nomark _)) (se_ix (K := K) (se_dget (un hu) (se_var 0) se_str) (se_op op_mod bop_mod (se_callTy (CallR.or call_int1 call_int_str) bc_intG T.n_int (by decide +kernel) (sa_cons (se_var 3) sa_nil)) (se_callB (kLen (K := K)) bc_len T.n_len (by decide +kernel) (sa_cons (se_dget (un hu) (se_var 0) se_str) sa_nil)))) se_int))
      (ss_cons (ss_if (SW.st (sw_and (st_cmp op_ge bop_cmp (se_var 4) (se_op op_pow bop_pow se_int se_int) (nomark _)) (sw_and1 (st_cmp op_lt bop_cmp (se_var 3) (se_callB (kLen (K := K)) bc_len T.n_len (by decide +kernel) (sa_cons (se_dget (un hu) (se_var 0) se_str) sa_nil)) (nomark _))))) (ss_cons (ss_dput (un hu) (se_var 0) se_str (se_op op_fdiv bop_fdiv (se_var 4) (se_var 1)))
      (ss_one (ss_ret (se_op op_mod bop_mod (se_callTy (CallR.or call_int1 call_int_str) bc_intG T.n_int (by decide +kernel) (sa_cons (se_var 4) sa_nil)) (se_var 1))))) ss_nil)
      (ss_cons (ss_set (i := 5) sc__law_draw.nd (se_op op_mod bop_mod (se_callTy (CallR.or call_int1 call_int_str) bc_intG T.n_int (by decide +kernel) (sa_cons (se_op (op_addA (K := K)) bop_add (se_op (op_addA (K := K)) bop_add (se_op op_mod bop_mod (se_callTy (CallR.or call_int1 call_int_str) bc_intG T.n_int (by decide +kernel) (sa_cons (se_var 4) sa_nil)) se_int) (se_op (op_mulH (K := K)) bop_mulH se_int (se_dget (un hu) (se_var 0) se_str))) se_int) sa_nil)) se_int))
      (ss_cons (ss_set (i := 5) sc__law_draw.nd (se_op op_mod bop_mod (se_callTy (CallR.or call_int1 call_int_str) bc_intG T.n_int (by decide +kernel) (sa_cons (se_op (op_addA (K := K)) bop_add (se_op (op_addA (K := K)) bop_add (se_op (op_mulH (K := K)) bop_mulH (se_var 5) (se_var 5)) (se_op (op_mulH (K := K)) bop_mulH se_int (se_dget (un hu) (se_var 0) se_str))) se_int) sa_nil)) se_int))
      (ss_one (ss_ret (se_op op_mod bop_mod (se_callTy (CallR.or call_int1 call_int_str) bc_intG T.n_int (by decide +kernel) (sa_cons (se_op op_fdiv bop_fdiv (se_op op_mod bop_mod (se_callTy (CallR.or call_int1 call_int_str) bc_intG T.n_int (by decide +kernel) (sa_cons (se_op (op_addA (K := K)) bop_add (se_op (op_mulH (K := K)) bop_mulH (se_var 5) (se_var 5)) (se_op (op_mulH (K := K)) bop_mulH se_int (se_var 5))) sa_nil)) se_int) se_int) sa_nil)) (se_var 1))))))))))))⟩
theorem sc__law_first : FnScope ["_law_either", "_law_first_here", "_law_late"] [] (defScope s__law_first) := ⟨rfl, rfl, rfl, by decide +kernel, rfl, by decide +kernel, by decide +kernel⟩
theorem ok__law_first (T : Txt P K mg) (hB : ∀ p ∈ csOf T, LamX.TabB base mg p.1 p.2.1) : letI := nmOf T; FnG P w K mg base 1 T.a__law_first T.d__law_first [] (spOf K 0 m__law_first) := by
  letI := nmOf T
  refine does T.p__law_first.F sc__law_first fun A out s H E hr hG => ?_
  have tk : Takes (cxOf (L2.CX P w) P w K mg base ["_law_either", "_law_first_here", "_law_late"] "_law_first" (defScope s__law_first) T.a__law_first T.d__law_first.code A out s H E) (fun cls d _ H => E cls d H) := takes_of rfl rfl rfl rfl
  have hx : Passes (L2.CX P w) (cxOf (L2.CX P w) P w K mg base ["_law_either", "_law_first_here", "_law_late"] "_law_first" (defScope s__law_first) T.a__law_first T.d__law_first.code A out s H E) E := passes_call tk fun _ _ _ _ h => h
  have ho := passes_of (X := cxOf (L2.CX P w) P w K mg base ["_law_either", "_law_first_here", "_law_late"] "_law_first" (defScope s__law_first) T.a__law_first T.d__law_first.code A out s H E) rfl
  have hu := unitsOf hr
  exact ⟨_, (ss_cons (ss_set (i := 0) sc__law_first.nd (se_tup (sa_cons (se_tup (sa_cons se_str (sa_cons se_str sa_nil))) (sa_cons (se_tup (sa_cons (se_tup (sa_cons se_str sa_nil)) sa_nil)) (sa_cons (se_tup sa_nil) sa_nil)))))
      (ss_cons (ss_set (i := 1) sc__law_first.nd (se_tup (sa_cons (se_tup (sa_cons (se_tup (sa_cons se_str sa_nil)) (sa_cons (se_tup (sa_cons se_int sa_nil)) (sa_cons (se_tup (sa_cons (se_tup (sa_cons se_str (sa_cons se_int sa_nil))) sa_nil)) sa_nil)))) (sa_cons (se_tup (sa_cons (se_tup (sa_cons se_str sa_nil)) (sa_cons (se_tup (sa_cons (se_tup (sa_cons se_str sa_nil)) (sa_cons se_int sa_nil))) (sa_cons (se_tup sa_nil) sa_nil)))) (sa_cons (se_var 0) sa_nil)))))
      (ss_cons (ss_set (i := 2) sc__law_first.nd (se_tup (sa_cons (se_tup (sa_cons (se_tup (sa_cons se_str sa_nil)) (sa_cons (se_tup (sa_cons se_int (sa_cons (se_tup (sa_cons se_str (sa_cons se_str sa_nil))) sa_nil))) (sa_cons (se_tup sa_nil) sa_nil)))) (sa_cons (se_var 0) sa_nil))))
      (ss_one (ss_ret (se_tup (sa_cons (se_tup (sa_cons se_str (sa_cons (se_var 1) sa_nil))) (sa_cons (se_tup (sa_cons se_str (sa_cons (se_var 2) sa_nil))) (sa_cons (se_tup (sa_cons se_str (sa_cons (se_tup (sa_cons (se_tup (sa_cons (se_tup (sa_cons se_str sa_nil)) (sa_cons (se_tup (sa_cons (se_tup (sa_cons se_str sa_nil)) sa_nil)) (sa_cons (se_tup sa_nil) sa_nil)))) sa_nil)) sa_nil))) sa_nil)))))))))⟩
theorem sc__law_great : FnScope ["_law_titles", "_law_sizes", "_law_kinds_in", "_law_found", "_law_many", "_law_j", "_law_lot", "_law_k", "_law_calls", "_law_ways", "_law_handlers", "_law_i"] [] (defScope s__law_great) := ⟨rfl, rfl, rfl, by decide +kernel, rfl, by decide +kernel, by decide +kernel⟩
theorem ok__law_great (T : Txt P K mg) (hB : ∀ p ∈ csOf T, LamX.TabB base mg p.1 p.2.1) : letI := nmOf T; FnG P w K mg base 1 T.a__law_great T.d__law_great [] (spOf K 0 m__law_great) := by
  letI := nmOf T
  refine doesT T.p__law_great.F sc__law_great fun A out s H E hr hG => ?_
  have tk : Takes (cxOf (L2.CX P w) P w K mg base ["_law_titles", "_law_sizes", "_law_kinds_in", "_law_found", "_law_many", "_law_j", "_law_lot", "_law_k", "_law_calls", "_law_ways", "_law_handlers", "_law_i"] "_law_great" (defScope s__law_great) T.a__law_great T.d__law_great.code A out s H E) (fun cls d _ H => E cls d H) := takes_of rfl rfl rfl rfl
  have hx : Passes (L2.CX P w) (cxOf (L2.CX P w) P w K mg base ["_law_titles", "_law_sizes", "_law_kinds_in", "_law_found", "_law_many", "_law_j", "_law_lot", "_law_k", "_law_calls", "_law_ways", "_law_handlers", "_law_i"] "_law_great" (defScope s__law_great) T.a__law_great T.d__law_great.code A out s H E) E := passes_call tk fun _ _ _ _ h => h
  have ho := passes_of (X := cxOf (L2.CX P w) P w K mg base ["_law_titles", "_law_sizes", "_law_kinds_in", "_law_found", "_law_many", "_law_j", "_law_lot", "_law_k", "_law_calls", "_law_ways", "_law_handlers", "_law_i"] "_law_great" (defScope s__law_great) T.a__law_great T.d__law_great.code A out s H E) rfl
  have hu := unitsOf hr
  exact ⟨_, (ss_cons (ss_set (i := 0) sc__law_great.nd (SF.v (sf_lst (sa_cons se_str (sa_cons se_str (sa_cons se_str (sa_cons se_str (sa_cons se_str (sa_cons se_str (sa_cons se_str (sa_cons se_str sa_nil)))))))))))
      (ss_cons (ss_set (i := 1) sc__law_great.nd (SF.v (sf_lst (sa_cons se_int (sa_cons se_int (sa_cons se_int (sa_cons se_int (sa_cons se_int (sa_cons se_int (sa_cons se_int (sa_cons se_int sa_nil)))))))))))
      (ss_cons (ss_parG (sa_cons (SF.v (sf_lst (sa_cons se_str (sa_cons se_str (sa_cons se_str (sa_cons se_str (sa_cons se_str (sa_cons se_str sa_nil)))))))) (sa_cons (SF.o (sf_lst sa_nil)) sa_nil)) (sn_cons (i := 2) sc__law_great.nd (sn_cons (i := 3) sc__law_great.nd sn_nil)))
      (ss_cons (ss_set (i := 4) sc__law_great.nd (se_callB (kLen (K := K)) bc_len T.n_len (by decide +kernel) (sa_cons (se_var 2) sa_nil)))
      (ss_cons (ss_for 100000 ho (si_range T.n_range (sa_cons se_int sa_nil)) (sg_name (i := 5) sc__law_great.nd) (sss_kill [5, 6, 7, 8, 9, 10] (ss_cons (ss_set (i := 6) sc__law_great.nd (SF.o (sf_lst sa_nil)))
      (ss_cons (ss_for 100000 ho (si_range T.n_range (sa_cons (se_ix (K := K) (se_var 1) (se_var 5)) sa_nil)) (sg_name (i := 7) sc__law_great.nd) (sss_kill [7, 8, 9, 10] (ss_cons (ss_set (i := 8) sc__law_great.nd (SF.v (sf_callB (cr_sortP (K := K) (un hu)) bc_sort T.n_sorted (by decide +kernel) (sa_cons (se_op (op_addA (K := K)) bop_add (SF.v (sf_lst (sa_cons se_str sa_nil))) (se_slice (K := K) (se_var 0) (so_some (se_op op_mod bop_mod (se_callTy (CallR.or call_int1 call_int_str) bc_intG T.n_int (by decide +kernel) (sa_cons (se_op (op_addA (K := K)) bop_add (se_var 5) (se_var 7)) sa_nil)) se_int)) so_none)) sa_nil))))
      (ss_cons (ss_setLc (i := 9) false 100000 sc__law_great.nd (si_range T.n_range (sa_cons (se_ix (K := K) (se_var 1) (se_var 5)) sa_nil)) (blkOk_by (own := [("_law_i", 11)]) (N := ["_law_titles", "_law_sizes", "_law_kinds_in", "_law_found", "_law_many", "_law_j", "_law_lot", "_law_k", "_law_calls", "_law_ways", "_law_handlers", "_law_i"]) (sc := defScope s__law_great) (by decide +kernel)) (fun _ _ _ _ _ => (sg_name (i := 11) sc__law_great.nd)) (fun _ _ _ _ _ => sts_nil) (fun _ _ _ _ _ => (se_op op_mod bop_mod (se_callTy (CallR.or call_int1 call_int_str) bc_intG T.n_int (by decide +kernel) (sa_cons (se_op (op_addA (K := K)) bop_add (se_var 7) (se_var 11)) sa_nil)) (se_ix (K := K) (se_var 1) (se_var 5)))) (sw_true rfl rfl rfl (by decide +kernel)))
      (ss_cons (ss_set (i := 9) sc__law_great.nd (se_op (op_addA (K := K)) bop_add (se_var 9) (SF.v (sf_lst (sa_cons (se_tup (sa_cons se_str sa_nil)) (sa_cons (se_tup (sa_cons se_str (sa_cons (se_ix (K := K) (se_var 2) (se_op op_mod bop_mod (se_callTy (CallR.or call_int1 call_int_str) bc_intG T.n_int (by decide +kernel) (sa_cons (se_var 5) sa_nil)) (se_var 4))) sa_nil))) sa_nil))))))
      (ss_cons (ss_setLc (i := 10) false 100000 sc__law_great.nd (si_range T.n_range (sa_cons se_int sa_nil)) (blkOk_by (own := [("_law_i", 11)]) (N := ["_law_titles", "_law_sizes", "_law_kinds_in", "_law_found", "_law_many", "_law_j", "_law_lot", "_law_k", "_law_calls", "_law_ways", "_law_handlers", "_law_i"]) (sc := defScope s__law_great) (by decide +kernel)) (fun _ _ _ _ _ => (sg_name (i := 11) sc__law_great.nd)) (fun _ _ _ _ _ => sts_nil) (fun _ _ _ _ _ => (se_tup (sa_cons (se_ix (K := K) (se_var 2) (se_op op_mod bop_mod (se_callTy (CallR.or call_int1 call_int_str) bc_intG T.n_int (by decide +kernel) (sa_cons (se_op (op_addA (K := K)) bop_add (se_var 5) (se_var 11)) sa_nil)) (se_var 4))) (sa_cons (se_op op_mod bop_mod (se_callTy (CallR.or call_int1 call_int_str) bc_intG T.n_int (by decide +kernel) (sa_cons (se_op (op_addA (K := K)) bop_add (se_var 7) (se_var 11)) sa_nil)) (se_ix (K := K) (se_var 1) (se_var 5))) sa_nil)))) (sw_true rfl rfl rfl (by decide +kernel)))
      (ss_one (ss_expr (se_append (K := K) (se_var 6) (sa_cons (se_tup (sa_cons (se_callTy (kTuple (K := K)) bc_tuple T.n_tuple (by decide +kernel) (sa_cons (se_var 8) sa_nil)) (sa_cons (se_callTy (kTuple (K := K)) bc_tuple T.n_tuple (by decide +kernel) (sa_cons (se_var 9) sa_nil)) (sa_cons (se_callTy (kTuple (K := K)) bc_tuple T.n_tuple (by decide +kernel) (sa_cons (se_op (op_addA (K := K)) bop_add (se_var 10) (SF.v (sf_lst (sa_cons (se_tup (sa_cons se_str (sa_cons se_int sa_nil))) sa_nil)))) sa_nil)) sa_nil)))) sa_nil))))))))))
      (ss_one (ss_expr (se_append (K := K) (se_var 3) (sa_cons (se_tup (sa_cons (se_ix (K := K) (se_var 0) (se_var 5)) (sa_cons (se_callTy (kTuple (K := K)) bc_tuple T.n_tuple (by decide +kernel) (sa_cons (se_var 6) sa_nil)) sa_nil))) sa_nil))))))))
      (ss_one (ss_ret (se_callTy (kTuple (K := K)) bc_tuple T.n_tuple (by decide +kernel) (sa_cons (se_var 3) sa_nil)))))))))⟩
theorem sc__law_callees : FnScope ["_law_whole", "_law_title", "_law_found", "_law_own", "_law_rows_in", "_law_row_here", "_law_callee"] ["_law_whole", "_law_title"] (defScope s__law_callees) := ⟨rfl, rfl, rfl, by decide +kernel, rfl, by decide +kernel, by decide +kernel⟩
theorem ok__law_callees (T : Txt P K mg) (hB : ∀ p ∈ csOf T, LamX.TabB base mg p.1 p.2.1) : letI := nmOf T; FnG P w K mg base 1 T.a__law_callees T.d__law_callees ["_law_whole", "_law_title"] (spOf K 2 m__law_callees) := by
  letI := nmOf T
  refine does T.p__law_callees.F sc__law_callees fun A out s H E hr hG => ?_
  have tk : Takes (cxOf (L2.CX P w) P w K mg base ["_law_whole", "_law_title", "_law_found", "_law_own", "_law_rows_in", "_law_row_here", "_law_callee"] "_law_callees" (defScope s__law_callees) T.a__law_callees T.d__law_callees.code A out s H E) (fun cls d _ H => E cls d H) := takes_of rfl rfl rfl rfl
  have hx : Passes (L2.CX P w) (cxOf (L2.CX P w) P w K mg base ["_law_whole", "_law_title", "_law_found", "_law_own", "_law_rows_in", "_law_row_here", "_law_callee"] "_law_callees" (defScope s__law_callees) T.a__law_callees T.d__law_callees.code A out s H E) E := passes_call tk fun _ _ _ _ h => h
  have ho := passes_of (X := cxOf (L2.CX P w) P w K mg base ["_law_whole", "_law_title", "_law_found", "_law_own", "_law_rows_in", "_law_row_here", "_law_callee"] "_law_callees" (defScope s__law_callees) T.a__law_callees T.d__law_callees.code A out s H E) rfl
  have hu := unitsOf hr
  exact ⟨_, (ss_cons (ss_set (i := 2) sc__law_callees.nd (SF.o (sf_lst sa_nil)))
      (ss_cons (ss_for 100000 ho (si_any (K := K) (se_var 0)) (sg_tup (K := K) (sgs_cons (sg_name (i := 3) sc__law_callees.nd) (sgs_cons (sg_name (i := 4) sc__law_callees.nd) sgs_nil))) (sss_kill [3, 4, 5] (ss_one (ss_kill [5] (ss_if (st_cmp (op_eqP (K := K) (un hu)) bop_eq (se_var 3) (se_var 1) (nomark _)) (ss_one (ss_for 100000 ho (si_any (K := K) (se_var 4)) (sg_name (i := 5) sc__law_callees.nd) (sss_kill [5] (ss_one (ss_expr (se_extH (K := K) (se_var 2) (sa_cons (SF.v (sf_lc 100000 sc__law_callees.nd (si_any (K := K) (se_ix (K := K) (se_var 5) se_int)) (blkOk_by (own := [("_law_callee", 6)]) (N := ["_law_whole", "_law_title", "_law_found", "_law_own", "_law_rows_in", "_law_row_here", "_law_callee"]) (sc := defScope s__law_callees) (by decide +kernel)) (fun _ _ _ _ _ => (sg_name (i := 6) sc__law_callees.nd)) (fun _ _ _ _ _ => (sts_one (st_cmp (op_neP (K := K) (un hu)) bop_ne (se_var 6) se_str (nomark _)))) (fun _ _ _ _ _ => (se_var 6)))) sa_nil))))))) ss_nil)))))
      (ss_one (ss_ret (se_var 2)))))⟩
theorem sc__law_row : FnScope ["_law_feed_here", "_law_titles", "_law_size", "_law_calls", "_law_menu", "_law_ways", "_law_handlers", "_law_k", "_law_own", "_law_sort"] ["_law_feed_here", "_law_titles", "_law_size"] (defScope s__law_row) := ⟨rfl, rfl, rfl, by decide +kernel, rfl, by decide +kernel, by decide +kernel⟩
theorem ok__law_row (T : Txt P K mg) (hB : ∀ p ∈ csOf T, LamX.TabB base mg p.1 p.2.1) : letI := nmOf T; FnG P w K mg base 2 T.a__law_row T.d__law_row ["_law_feed_here", "_law_titles", "_law_size"] (spOf K 3 m__law_row) := by
  letI := nmOf T
  refine doesT T.p__law_row.F sc__law_row fun A out s H E hr hG => ?_
  have tk : Takes (cxOf (L2.CX P w) P w K mg base ["_law_feed_here", "_law_titles", "_law_size", "_law_calls", "_law_menu", "_law_ways", "_law_handlers", "_law_k", "_law_own", "_law_sort"] "_law_row" (defScope s__law_row) T.a__law_row T.d__law_row.code A out s H E) (fun cls d _ H => E cls d H) := takes_of rfl rfl rfl rfl
  have hx : Passes (L2.CX P w) (cxOf (L2.CX P w) P w K mg base ["_law_feed_here", "_law_titles", "_law_size", "_law_calls", "_law_menu", "_law_ways", "_law_handlers", "_law_k", "_law_own", "_law_sort"] "_law_row" (defScope s__law_row) T.a__law_row T.d__law_row.code A out s H E) E := passes_call tk fun _ _ _ _ h => h
  have ho := passes_of (X := cxOf (L2.CX P w) P w K mg base ["_law_feed_here", "_law_titles", "_law_size", "_law_calls", "_law_menu", "_law_ways", "_law_handlers", "_law_k", "_law_own", "_law_sort"] "_law_row" (defScope s__law_row) T.a__law_row T.d__law_row.code A out s H E) rfl
  have hu := unitsOf hr
  exact ⟨_, (ss_cons (ss_setLc (i := 3) false 100000 sc__law_row.nd (si_any (K := K) (SF.v (sf_callB (cr_sortP (K := K) (un hu)) bc_sort T.n_sorted (by decide +kernel) (sa_cons (se_op (op_addA (K := K)) bop_add (SF.v (sf_lst (sa_cons se_str sa_nil))) (se_var 1)) sa_nil)))) (blkOk_by (own := [("_law_own", 8)]) (N := ["_law_feed_here", "_law_titles", "_law_size", "_law_calls", "_law_menu", "_law_ways", "_law_handlers", "_law_k", "_law_own", "_law_sort"]) (sc := defScope s__law_row) (by decide +kernel)) (fun _ _ _ _ _ => (sg_name (i := 8) sc__law_row.nd)) (fun _ _ _ _ _ => (sts_one (st_cmp (op_eqP (K := K) (un hu)) bop_eq (se_call (K := K) (ok__law_draw T hB) (hr.mono (by decide)) hG T.p__law_draw.g T.p__law_draw.F.kp T.p__law_draw.b passL (sa_cons (se_var 0) (sa_cons se_int sa_nil)) (lenIs_cons (lenIs_cons lenIs_nil))) se_int (nomark _)))) (fun _ _ _ _ _ => (se_var 8)) (sw_true rfl rfl rfl (by decide +kernel)))
      (ss_cons (ss_if (st_cmp (op_eqP (K := K) (un hu)) bop_eq (se_var 3) (SF.v (sf_lst sa_nil)) (nomark _)) (ss_one (ss_set (i := 3) sc__law_row.nd (SF.v (sf_lst (sa_cons (se_ix (K := K) (se_op (op_addA (K := K)) bop_add (SF.v (sf_lst (sa_cons se_str sa_nil))) (se_var 1)) (se_call (K := K) (ok__law_draw T hB) (hr.mono (by decide)) hG T.p__law_draw.g T.p__law_draw.F.kp T.p__law_draw.b hx (sa_cons (se_var 0) (sa_cons (se_op (op_addA (K := K)) bop_add se_int (se_callB (kLen (K := K)) bc_len T.n_len (by decide +kernel) (sa_cons (se_var 1) sa_nil))) sa_nil)) (lenIs_cons (lenIs_cons lenIs_nil)))) sa_nil))))) ss_nil)
      (ss_cons (ss_set (i := 4) sc__law_row.nd (se_op (op_addA (K := K)) bop_add (SF.v (sf_listRg T.n_list T.n_range (se_var 2))) (SF.v (sf_lst (sa_cons (se_tup (sa_cons se_str sa_nil)) (sa_cons (se_tup (sa_cons se_str (sa_cons se_str sa_nil))) (sa_cons (se_tup (sa_cons se_str (sa_cons se_str sa_nil))) sa_nil)))))))
      (ss_cons (ss_par2 (i := 5) (j := 6) sc__law_row.nd (by decide) (sa_cons (SF.o (sf_lst sa_nil)) (sa_cons (SF.o (sf_lst sa_nil)) sa_nil)))
      (ss_cons (ss_for 100000 ho (si_range T.n_range (sa_cons (se_op (op_addA (K := K)) bop_add se_int (se_call (K := K) (ok__law_draw T hB) (hr.mono (by decide)) hG T.p__law_draw.g T.p__law_draw.F.kp T.p__law_draw.b hx (sa_cons (se_var 0) (sa_cons se_int sa_nil)) (lenIs_cons (lenIs_cons lenIs_nil)))) sa_nil)) (sg_name (i := 7) sc__law_row.nd) (sss_kill [7] (ss_cons (ss_set (i := 8) sc__law_row.nd (se_ix (K := K) (se_var 4) (se_call (K := K) (ok__law_draw T hB) (hr.mono (by decide)) hG T.p__law_draw.g T.p__law_draw.F.kp T.p__law_draw.b hx (sa_cons (se_var 0) (sa_cons (se_callB (kLen (K := K)) bc_len T.n_len (by decide +kernel) (sa_cons (se_var 4) sa_nil)) sa_nil)) (lenIs_cons (lenIs_cons lenIs_nil)))))
      (ss_one (ss_if (st_cmp (op_notInP (K := K) (un hu)) (bop_in (neg := true)) (se_var 8) (se_var 5) rfl) (ss_one (ss_expr (se_append (K := K) (se_var 5) (sa_cons (se_var 8) sa_nil)))) ss_nil)))))
      (ss_cons (ss_kill [8] (ss_for 100000 ho (si_range T.n_range (sa_cons (se_call (K := K) (ok__law_draw T hB) (hr.mono (by decide)) hG T.p__law_draw.g T.p__law_draw.F.kp T.p__law_draw.b hx (sa_cons (se_var 0) (sa_cons se_int sa_nil)) (lenIs_cons (lenIs_cons lenIs_nil))) sa_nil)) (sg_name (i := 7) sc__law_row.nd) (sss_kill [7, 9] (ss_cons (ss_set (i := 9) sc__law_row.nd (se_ix (K := K) (SF.v (sf_lst (sa_cons se_str (sa_cons se_str (sa_cons se_str (sa_cons se_str sa_nil)))))) (se_call (K := K) (ok__law_draw T hB) (hr.mono (by decide)) hG T.p__law_draw.g T.p__law_draw.F.kp T.p__law_draw.b hx (sa_cons (se_var 0) (sa_cons se_int sa_nil)) (lenIs_cons (lenIs_cons lenIs_nil)))))
      (ss_one (ss_if (st_cmp (op_notInP (K := K) (un hu)) (bop_in (neg := true)) (se_var 9) (SF.v (sf_lc 100000 sc__law_row.nd (si_any (K := K) (se_var 6)) (blkOk_by (own := [("_law_own", 8)]) (N := ["_law_feed_here", "_law_titles", "_law_size", "_law_calls", "_law_menu", "_law_ways", "_law_handlers", "_law_k", "_law_own", "_law_sort"]) (sc := defScope s__law_row) (by decide +kernel)) (fun _ _ _ _ _ => (sg_name (i := 8) sc__law_row.nd)) (fun _ _ _ _ _ => sts_nil) (fun _ _ _ _ _ => (se_ix (K := K) (se_var 8) se_int)))) rfl) (ss_one (ss_expr (se_append (K := K) (se_var 6) (sa_cons (se_tup (sa_cons (se_var 9) (sa_cons (se_call (K := K) (ok__law_draw T hB) (hr.mono (by decide)) hG T.p__law_draw.g T.p__law_draw.F.kp T.p__law_draw.b hx (sa_cons (se_var 0) (sa_cons (se_var 2) sa_nil)) (lenIs_cons (lenIs_cons lenIs_nil))) sa_nil))) sa_nil)))) ss_nil))))))
      (ss_one (ss_ret (se_tup (sa_cons (se_callTy (kTuple (K := K)) bc_tuple T.n_tuple (by decide +kernel) (sa_cons (se_var 3) sa_nil)) (sa_cons (se_callTy (kTuple (K := K)) bc_tuple T.n_tuple (by decide +kernel) (sa_cons (se_var 5) sa_nil)) (sa_cons (se_callTy (kTuple (K := K)) bc_tuple T.n_tuple (by decide +kernel) (sa_cons (se_var 6) sa_nil)) sa_nil))))))))))))⟩
theorem sc__law_linked : FnScope ["_law_feed_here", "_law_titles", "_law_size", "_law_shape", "_law_found", "_law_plain", "_law_j", "_law_lot", "_law_calls", "_law_row_here", "_law_rows_in"] ["_law_feed_here"] (defScope s__law_linked) := ⟨rfl, rfl, rfl, by decide +kernel, rfl, by decide +kernel, by decide +kernel⟩
theorem ok__law_linked (T : Txt P K mg) (hB : ∀ p ∈ csOf T, LamX.TabB base mg p.1 p.2.1) : letI := nmOf T; FnG P w K mg base 2 T.a__law_linked T.d__law_linked ["_law_feed_here"] (spOf K 1 m__law_linked) := by
  letI := nmOf T
  refine doesT T.p__law_linked.F sc__law_linked fun A out s H E hr hG => ?_
  have tk : Takes (cxOf (L2.CX P w) P w K mg base ["_law_feed_here", "_law_titles", "_law_size", "_law_shape", "_law_found", "_law_plain", "_law_j", "_law_lot", "_law_calls", "_law_row_here", "_law_rows_in"] "_law_linked" (defScope s__law_linked) T.a__law_linked T.d__law_linked.code A out s H E) (fun cls d _ H => E cls d H) := takes_of rfl rfl rfl rfl
  have hx : Passes (L2.CX P w) (cxOf (L2.CX P w) P w K mg base ["_law_feed_here", "_law_titles", "_law_size", "_law_shape", "_law_found", "_law_plain", "_law_j", "_law_lot", "_law_calls", "_law_row_here", "_law_rows_in"] "_law_linked" (defScope s__law_linked) T.a__law_linked T.d__law_linked.code A out s H E) E := passes_call tk fun _ _ _ _ h => h
  have ho := passes_of (X := cxOf (L2.CX P w) P w K mg base ["_law_feed_here", "_law_titles", "_law_size", "_law_shape", "_law_found", "_law_plain", "_law_j", "_law_lot", "_law_calls", "_law_row_here", "_law_rows_in"] "_law_linked" (defScope s__law_linked) T.a__law_linked T.d__law_linked.code A out s H E) rfl
  have hu := unitsOf hr
  exact ⟨_, (ss_cons (ss_set (i := 1) sc__law_linked.nd (se_slice (K := K) (SF.v (sf_lst (sa_cons se_str (sa_cons se_str (sa_cons se_str (sa_cons se_str (sa_cons se_str (sa_cons se_str (sa_cons se_str (sa_cons se_str sa_nil)))))))))) so_none (so_some (se_op (op_addA (K := K)) bop_add se_int (se_call (K := K) (ok__law_draw T hB) (hr.mono (by decide)) hG T.p__law_draw.g T.p__law_draw.F.kp T.p__law_draw.b hx (sa_cons (se_var 0) (sa_cons se_int sa_nil)) (lenIs_cons (lenIs_cons lenIs_nil)))))))
      (ss_cons (ss_par3 (i := 2) (j := 3) (l := 4) sc__law_linked.nd (by decide) (by decide) (by decide) (sa_cons (se_callB (kLen (K := K)) bc_len T.n_len (by decide +kernel) (sa_cons (se_var 1) sa_nil)) (sa_cons (se_call (K := K) (ok__law_draw T hB) (hr.mono (by decide)) hG T.p__law_draw.g T.p__law_draw.F.kp T.p__law_draw.b hx (sa_cons (se_var 0) (sa_cons se_int sa_nil)) (lenIs_cons (lenIs_cons lenIs_nil))) (sa_cons (SF.o (sf_lst sa_nil)) sa_nil))) (ps_par3 rfl sc__law_linked.nd rfl rfl rfl (by decide) (by decide) (by decide) rfl rfl rfl ((sa_cons (se_callB (kLen (K := K)) bc_len T.n_len (by decide +kernel) (sa_cons (se_var 1) sa_nil)) (sa_cons (se_call (K := K) (ok__law_draw T hB) (hr.mono (by decide)) hG T.p__law_draw.g T.p__law_draw.F.kp T.p__law_draw.b hx (sa_cons (se_var 0) (sa_cons se_int sa_nil)) (lenIs_cons (lenIs_cons lenIs_nil))) (sa_cons (SF.o (sf_lst sa_nil)) sa_nil)))).pa rfl))
      (ss_cons (ss_set (i := 5) sc__law_linked.nd (se_tup (sa_cons (se_tup (sa_cons se_str sa_nil)) (sa_cons (se_tup (sa_cons (se_tup (sa_cons se_str sa_nil)) sa_nil)) (sa_cons (se_tup sa_nil) sa_nil)))))
      (ss_cons (ss_for 100000 ho (si_range T.n_range (sa_cons (se_var 2) sa_nil)) (sg_name (i := 6) sc__law_linked.nd) (sss_kill [6, 7, 8, 9, 10] (ss_cons (ss_set (i := 7) sc__law_linked.nd (SF.o (sf_lst (sa_cons (SF.v (sf_lst (sa_cons (se_ix (K := K) (se_var 1) (se_op op_mod bop_mod (se_callTy (CallR.or call_int1 call_int_str) bc_intG T.n_int (by decide +kernel) (sa_cons (se_op (op_addA (K := K)) bop_add (se_var 6) se_int) sa_nil)) (se_var 2))) sa_nil))) (sa_cons (se_slice (K := K) (se_var 1) (so_some (se_op (op_addA (K := K)) bop_add (se_var 6) se_int)) (so_some (se_op (op_addA (K := K)) bop_add (se_var 6) se_int))) sa_nil)))))
      (ss_cons (ss_expr (se_extH (K := K) (se_var 7) (sa_cons (SF.v (sf_lst (sa_cons (se_slice (K := K) (se_var 1) (so_some (se_var 6)) (so_some (se_op (op_addA (K := K)) bop_add (se_var 6) se_int))) (sa_cons (SF.v (sf_lst (sa_cons (se_ix (K := K) (se_var 1) se_int) sa_nil))) (sa_cons (se_slice (K := K) (se_var 1) (so_some (se_neg se_int)) so_none) sa_nil))))) sa_nil)))
      (ss_cons (ss_expr (se_extH (K := K) (se_var 7) (sa_cons (SF.v (sf_lst (sa_cons (SF.v (sf_lst (sa_cons (se_ix (K := K) (se_var 1) (se_call (K := K) (ok__law_draw T hB) (hr.mono (by decide)) hG T.p__law_draw.g T.p__law_draw.F.kp T.p__law_draw.b hx (sa_cons (se_var 0) (sa_cons (se_var 2) sa_nil)) (lenIs_cons (lenIs_cons lenIs_nil)))) sa_nil))) sa_nil))) sa_nil)))
      (ss_cons (ss_expr (se_extH (K := K) (se_var 7) (sa_cons (SF.v (sf_lst (sa_cons (SF.v (sf_lst (sa_cons (se_ix (K := K) (se_var 1) (se_op op_mod bop_mod (se_callTy (CallR.or call_int1 call_int_str) bc_intG T.n_int (by decide +kernel) (sa_cons (se_op (op_mulH (K := K)) bop_mulH (se_var 6) se_int) sa_nil)) (se_var 2))) (sa_cons (se_ix (K := K) (se_var 1) (se_op op_mod bop_mod (se_callTy (CallR.or call_int1 call_int_str) bc_intG T.n_int (by decide +kernel) (sa_cons (se_op (op_addA (K := K)) bop_add (se_op (op_mulH (K := K)) bop_mulH (se_var 6) se_int) se_int) sa_nil)) (se_var 2))) sa_nil)))) sa_nil))) sa_nil)))
      (ss_cons (ss_set (i := 8) sc__law_linked.nd (SF.v (sf_sortSet (K := K) (se_op (op_addA (K := K)) bop_add (se_ix (K := K) (se_var 7) (se_var 3)) (se_slice (K := K) (SF.v (sf_lst (sa_cons se_str sa_nil))) so_none (so_some (se_call (K := K) (ok__law_draw T hB) (hr.mono (by decide)) hG T.p__law_draw.g T.p__law_draw.F.kp T.p__law_draw.b hx (sa_cons (se_var 0) (sa_cons se_int sa_nil)) (lenIs_cons (lenIs_cons lenIs_nil)))))) (un hu) T.n_sorted T.n_set)))
      (ss_cons (ss_set (i := 9) sc__law_linked.nd (se_tup (sa_cons (se_if (st_cmp (op_neP (K := K) (un hu)) bop_ne (se_var 8) (SF.v (sf_lst sa_nil)) (nomark _)) (se_callTy (kTuple (K := K)) bc_tuple T.n_tuple (by decide +kernel) (sa_cons (se_var 8) sa_nil)) (se_tup (sa_cons se_str sa_nil))) (sa_cons (se_tup (sa_cons (se_tup (sa_cons se_str sa_nil)) (sa_cons se_int sa_nil))) (sa_cons (se_tup sa_nil) sa_nil)))))
      (ss_cons (ss_set (i := 10) sc__law_linked.nd (se_ix (K := K) (SF.v (sf_lst (sa_cons (se_tup (sa_cons (se_var 9) sa_nil)) (sa_cons (se_tup (sa_cons (se_var 5) (sa_cons (se_var 9) sa_nil))) (sa_cons (se_tup (sa_cons (se_var 9) (sa_cons (se_var 5) sa_nil))) (sa_cons (se_tup (sa_cons (se_var 5) (sa_cons (se_var 5) (sa_cons (se_var 9) sa_nil)))) sa_nil)))))) (se_call (K := K) (ok__law_draw T hB) (hr.mono (by decide)) hG T.p__law_draw.g T.p__law_draw.F.kp T.p__law_draw.b hx (sa_cons (se_var 0) (sa_cons se_int sa_nil)) (lenIs_cons (lenIs_cons lenIs_nil)))))
      (ss_one (ss_expr (se_append (K := K) (se_var 4) (sa_cons (se_tup (sa_cons (se_ix (K := K) (se_var 1) (se_var 6)) (sa_cons (se_var 10) sa_nil))) sa_nil)))))))))))))
      (ss_one (ss_ret (se_callTy (kTuple (K := K)) bc_tuple T.n_tuple (by decide +kernel) (sa_cons (se_var 4) sa_nil))))))))⟩
theorem sc__law_reached : FnScope ["_law_whole", "_law_title", "_law_found", "_law_lot", "_law_k", "_law_late", "_law_own"] ["_law_whole", "_law_title"] (defScope s__law_reached) := ⟨rfl, rfl, rfl, by decide +kernel, rfl, by decide +kernel, by decide +kernel⟩
theorem ok__law_reached (T : Txt P K mg) (hB : ∀ p ∈ csOf T, LamX.TabB base mg p.1 p.2.1) : letI := nmOf T; FnG P w K mg base 2 T.a__law_reached T.d__law_reached ["_law_whole", "_law_title"] (spOf K 2 m__law_reached) := by
  letI := nmOf T
  refine doesT T.p__law_reached.F sc__law_reached fun A out s H E hr hG => ?_
  have tk : Takes (cxOf (L2.CX P w) P w K mg base ["_law_whole", "_law_title", "_law_found", "_law_lot", "_law_k", "_law_late", "_law_own"] "_law_reached" (defScope s__law_reached) T.a__law_reached T.d__law_reached.code A out s H E) (fun cls d _ H => E cls d H) := takes_of rfl rfl rfl rfl
  have hx : Passes (L2.CX P w) (cxOf (L2.CX P w) P w K mg base ["_law_whole", "_law_title", "_law_found", "_law_lot", "_law_k", "_law_late", "_law_own"] "_law_reached" (defScope s__law_reached) T.a__law_reached T.d__law_reached.code A out s H E) E := passes_call tk fun _ _ _ _ h => h
  have ho := passes_of (X := cxOf (L2.CX P w) P w K mg base ["_law_whole", "_law_title", "_law_found", "_law_lot", "_law_k", "_law_late", "_law_own"] "_law_reached" (defScope s__law_reached) T.a__law_reached T.d__law_reached.code A out s H E) rfl
  have hu := unitsOf hr
  exact ⟨_, (ss_cons (ss_par2 (i := 2) (j := 3) sc__law_reached.nd (by decide) (sa_cons (SF.o (sf_lst sa_nil)) (sa_cons (se_call (K := K) (ok__law_callees T hB) (hr.mono (by decide)) hG T.p__law_callees.g T.p__law_callees.F.kp T.p__law_callees.b hx (sa_cons (se_var 0) (sa_cons (se_var 1) sa_nil)) (lenIs_cons (lenIs_cons lenIs_nil))) sa_nil)))
      (ss_cons (ss_kill [3] (ss_for 100000 ho (si_range T.n_range (sa_cons (se_callB (kLen (K := K)) bc_len T.n_len (by decide +kernel) (sa_cons (se_var 0) sa_nil)) sa_nil)) (sg_name (i := 4) sc__law_reached.nd) (sss_kill [4, 5, 6] (ss_cons (ss_set (i := 5) sc__law_reached.nd (SF.v (sf_lst sa_nil)))
      (ss_cons (ss_for 100000 ho (si_any (K := K) (se_var 3)) (sg_name (i := 6) sc__law_reached.nd) (sss_kill [6] (ss_one (ss_if (st_cmp (op_notInP (K := K) (un hu)) (bop_in (neg := true)) (se_var 6) (se_var 2) rfl) (ss_cons (ss_expr (se_append (K := K) (se_var 2) (sa_cons (se_var 6) sa_nil)))
      (ss_one (ss_set (i := 5) sc__law_reached.nd (se_op (op_addA (K := K)) bop_add (se_var 5) (se_call (K := K) (ok__law_callees T hB) (hr.mono (by decide)) hG T.p__law_callees.g T.p__law_callees.F.kp T.p__law_callees.b hx (sa_cons (se_var 0) (sa_cons (se_var 6) sa_nil)) (lenIs_cons (lenIs_cons lenIs_nil))))))) ss_nil))))
      (ss_one (ss_set (i := 3) sc__law_reached.nd (se_var 5))))))))
      (ss_one (ss_ret (se_callTy (kTuple (K := K)) bc_tuple T.n_tuple (by decide +kernel) (sa_cons (SF.v (sf_callB (cr_sortP (K := K) (un hu)) bc_sort T.n_sorted (by decide +kernel) (sa_cons (se_var 2) sa_nil))) sa_nil))))))⟩
theorem sc_lines_of : FnScope ["program", "name", "own", "lines"] ["program", "name"] (defScope s_lines_of) := ⟨rfl, rfl, rfl, by decide +kernel, rfl, by decide +kernel, by decide +kernel⟩
theorem ok_lines_of (T : Txt P K mg) (hB : ∀ p ∈ csOf T, LamX.TabB base mg p.1 p.2.1) : letI := nmOf T; FnG P w K mg base 3 T.a_lines_of T.d_lines_of ["program", "name"] (spOf K 2 m_lines_of) := by
  letI := nmOf T
  refine does T.p_lines_of.F sc_lines_of fun A out s H E hr hG => ?_
  have tk : Takes (cxOf (L2.CX P w) P w K mg base ["program", "name", "own", "lines"] "lines_of" (defScope s_lines_of) T.a_lines_of T.d_lines_of.code A out s H E) (fun cls d _ H => E cls d H) := takes_of rfl rfl rfl rfl
  have hx : Passes (L2.CX P w) (cxOf (L2.CX P w) P w K mg base ["program", "name", "own", "lines"] "lines_of" (defScope s_lines_of) T.a_lines_of T.d_lines_of.code A out s H E) E := passes_call tk fun _ _ _ _ h => h
  have ho := passes_of (X := cxOf (L2.CX P w) P w K mg base ["program", "name", "own", "lines"] "lines_of" (defScope s_lines_of) T.a_lines_of T.d_lines_of.code A out s H E) rfl
  have hu := unitsOf hr
  exact ⟨_, (ss_cons (ss_for 100000 ho (si_any (K := K) (se_var 0)) (sg_tup (K := K) (sgs_cons (sg_name (i := 2) sc_lines_of.nd) (sgs_cons (sg_name (i := 3) sc_lines_of.nd) sgs_nil))) (sss_kill [2, 3] (ss_one (ss_if (st_cmp (op_eqP (K := K) (un hu)) bop_eq (se_var 2) (se_var 1) (nomark _)) (ss_one (ss_ret (se_var 3))) ss_nil))))
      (ss_one (ss_raise2 T.x_NotUsable (cl_NotUsable T) (by decide +kernel) tk (hr.mono (by decide)) (sa_cons se_str (sa_cons (se_var 1) sa_nil)))))⟩
theorem sc__law_drawn : FnScope ["_law_feed_here", "_law_pools", "_law_titles", "_law_found", "_law_title", "_law_size", "_law_k"] ["_law_feed_here"] (defScope s__law_drawn) := ⟨rfl, rfl, rfl, by decide +kernel, rfl, by decide +kernel, by decide +kernel⟩
theorem ok__law_drawn (T : Txt P K mg) (hB : ∀ p ∈ csOf T, LamX.TabB base mg p.1 p.2.1) : letI := nmOf T; FnG P w K mg base 3 T.a__law_drawn T.d__law_drawn ["_law_feed_here"] (spOf K 1 m__law_drawn) := by
  letI := nmOf T
  refine doesT T.p__law_drawn.F sc__law_drawn fun A out s H E hr hG => ?_
  have tk : Takes (cxOf (L2.CX P w) P w K mg base ["_law_feed_here", "_law_pools", "_law_titles", "_law_found", "_law_title", "_law_size", "_law_k"] "_law_drawn" (defScope s__law_drawn) T.a__law_drawn T.d__law_drawn.code A out s H E) (fun cls d _ H => E cls d H) := takes_of rfl rfl rfl rfl
  have hx : Passes (L2.CX P w) (cxOf (L2.CX P w) P w K mg base ["_law_feed_here", "_law_pools", "_law_titles", "_law_found", "_law_title", "_law_size", "_law_k"] "_law_drawn" (defScope s__law_drawn) T.a__law_drawn T.d__law_drawn.code A out s H E) E := passes_call tk fun _ _ _ _ h => h
  have ho := passes_of (X := cxOf (L2.CX P w) P w K mg base ["_law_feed_here", "_law_pools", "_law_titles", "_law_found", "_law_title", "_law_size", "_law_k"] "_law_drawn" (defScope s__law_drawn) T.a__law_drawn T.d__law_drawn.code A out s H E) rfl
  have hu := unitsOf hr
  exact ⟨_, (ss_cons (ss_set (i := 1) sc__law_drawn.nd (SF.v (sf_lst (sa_cons (SF.v (sf_lst (sa_cons se_str (sa_cons se_str (sa_cons se_str sa_nil))))) (sa_cons (SF.v (sf_lst (sa_cons se_str sa_nil))) (sa_cons (SF.v (sf_lst (sa_cons se_str (sa_cons se_str (sa_cons se_str (sa_cons se_str sa_nil)))))) sa_nil))))))
      (ss_cons (ss_set (i := 1) sc__law_drawn.nd (se_op (op_addA (K := K)) bop_add (se_var 1) (SF.v (sf_lst (sa_cons (SF.v (sf_lst (sa_cons se_str (sa_cons se_str (sa_cons se_str (sa_cons se_str sa_nil)))))) (sa_cons (SF.v (sf_lst (sa_cons se_str (sa_cons se_str sa_nil)))) sa_nil))))))
      (ss_cons (ss_parG (sa_cons (se_ix (K := K) (se_var 1) (se_call (K := K) (ok__law_draw T hB) (hr.mono (by decide)) hG T.p__law_draw.g T.p__law_draw.F.kp T.p__law_draw.b hx (sa_cons (se_var 0) (sa_cons se_int sa_nil)) (lenIs_cons (lenIs_cons lenIs_nil)))) (sa_cons (SF.o (sf_lst sa_nil)) sa_nil)) (sn_cons (i := 2) sc__law_drawn.nd (sn_cons (i := 3) sc__law_drawn.nd sn_nil)))
      (ss_cons (ss_for 100000 ho (si_any (K := K) (se_var 2)) (sg_name (i := 4) sc__law_drawn.nd) (sss_kill [4, 5] (ss_cons (ss_set (i := 5) sc__law_drawn.nd (se_op (op_addA (K := K)) bop_add se_int (se_call (K := K) (ok__law_draw T hB) (hr.mono (by decide)) hG T.p__law_draw.g T.p__law_draw.F.kp T.p__law_draw.b hx (sa_cons (se_var 0) (sa_cons se_int sa_nil)) (lenIs_cons (lenIs_cons lenIs_nil)))))
      (ss_one (ss_expr (se_append (K := K) (se_var 3) (sa_cons (se_tup (sa_cons (se_var 4) (sa_cons (se_callTy (kTuple (K := K)) bc_tuple T.n_tuple (by decide +kernel) (sa_cons (SF.v (sf_lc 100000 sc__law_drawn.nd (si_range T.n_range (sa_cons (se_var 5) sa_nil)) (blkOk_by (own := [("_law_k", 6)]) (N := ["_law_feed_here", "_law_pools", "_law_titles", "_law_found", "_law_title", "_law_size", "_law_k"]) (sc := defScope s__law_drawn) (by decide +kernel)) (fun _ _ _ _ _ => (sg_name (i := 6) sc__law_drawn.nd)) (fun _ _ _ _ _ => sts_nil) (fun _ _ _ _ _ => (se_call (K := K) (ok__law_row T hB) (hr.mono (by decide)) hG T.p__law_row.g T.p__law_row.F.kp T.p__law_row.b passL (sa_cons (se_var 0) (sa_cons (se_var 2) (sa_cons (se_var 5) sa_nil))) (lenIs_cons (lenIs_cons (lenIs_cons lenIs_nil))))))) sa_nil)) sa_nil))) sa_nil)))))))
      (ss_one (ss_ret (se_callTy (kTuple (K := K)) bc_tuple T.n_tuple (by decide +kernel) (sa_cons (se_var 3) sa_nil))))))))⟩
theorem sc_can_call : FnScope ["program", "name", "due", "found", "called"] ["program", "name"] (defScope s_can_call) := ⟨rfl, rfl, rfl, by decide +kernel, rfl, by decide +kernel, by decide +kernel⟩
theorem ok_can_call (T : Txt P K mg) (hB : ∀ p ∈ csOf T, LamX.TabB base mg p.1 p.2.1) : letI := nmOf T; FnG P w K mg base 4 T.a_can_call T.d_can_call ["program", "name"] (spOf K 2 m_can_call) := by
  letI := nmOf T
  refine doesT T.p_can_call.F sc_can_call fun A out s H E hr hG => ?_
  have tk : Takes (cxOf (L2.CX P w) P w K mg base ["program", "name", "due", "found", "called"] "can_call" (defScope s_can_call) T.a_can_call T.d_can_call.code A out s H E) (fun cls d _ H => E cls d H) := takes_of rfl rfl rfl rfl
  have hx : Passes (L2.CX P w) (cxOf (L2.CX P w) P w K mg base ["program", "name", "due", "found", "called"] "can_call" (defScope s_can_call) T.a_can_call T.d_can_call.code A out s H E) E := passes_call tk fun _ _ _ _ h => h
  have ho := passes_of (X := cxOf (L2.CX P w) P w K mg base ["program", "name", "due", "found", "called"] "can_call" (defScope s_can_call) T.a_can_call T.d_can_call.code A out s H E) rfl
  have hu := unitsOf hr
  exact ⟨_, (ss_cons (ss_par2 (i := 2) (j := 3) sc_can_call.nd (by decide) (sa_cons (se_call (K := K) (ok_called_in T hB) (hr.mono (by decide)) hG T.p_called_in.g T.p_called_in.F.kp T.p_called_in.b hx (sa_cons (se_call (K := K) (ok_lines_of T hB) (hr.mono (by decide)) hG T.p_lines_of.g T.p_lines_of.F.kp T.p_lines_of.b hx (sa_cons (se_var 0) (sa_cons (se_var 1) sa_nil)) (lenIs_cons (lenIs_cons lenIs_nil))) sa_nil) (lenIs_cons lenIs_nil)) (sa_cons (SF.o (sf_lst sa_nil)) sa_nil)))
      (ss_cons (ss_while 100000 ho (st_truth (K := K) (se_var 2)) (sss_kill [4] (ss_cons (ss_set (i := 4) sc_can_call.nd (se_pop (se_var 2)))
      (ss_one (ss_if (st_cmp (op_notInP (K := K) (un hu)) (bop_in (neg := true)) (se_var 4) (se_var 3) rfl) (ss_cons (ss_expr (se_append (K := K) (se_var 3) (sa_cons (se_var 4) sa_nil)))
      (ss_one (ss_expr (se_extH (K := K) (se_var 2) (sa_cons (se_call (K := K) (ok_called_in T hB) (hr.mono (by decide)) hG T.p_called_in.g T.p_called_in.F.kp T.p_called_in.b hx (sa_cons (se_call (K := K) (ok_lines_of T hB) (hr.mono (by decide)) hG T.p_lines_of.g T.p_lines_of.F.kp T.p_lines_of.b hx (sa_cons (se_var 0) (sa_cons (se_var 4) sa_nil)) (lenIs_cons (lenIs_cons lenIs_nil))) sa_nil) (lenIs_cons lenIs_nil)) sa_nil))))) ss_nil)))))
      (ss_one (ss_ret (se_callTy (kTuple (K := K)) bc_tuple T.n_tuple (by decide +kernel) (sa_cons (SF.v (sf_callB (cr_sortP (K := K) (un hu)) bc_sort T.n_sorted (by decide +kernel) (sa_cons (se_var 3) sa_nil))) sa_nil))))))⟩
theorem sc__law_right : FnScope ["_law_whole", "_law_kept", "_law_titles", "_law_strays", "_law_item", "_law_due_in", "_law_own"] ["_law_whole"] (defScope s__law_right) := ⟨rfl, rfl, rfl, by decide +kernel, rfl, by decide +kernel, by decide +kernel⟩
theorem ok__law_right (T : Txt P K mg) (hB : ∀ p ∈ csOf T, LamX.TabB base mg p.1 p.2.1) : letI := nmOf T; FnG P w K mg base 7 T.a__law_right T.d__law_right ["_law_whole"] (spOf K 1 m__law_right) := by
  letI := nmOf T
  refine does T.p__law_right.F sc__law_right fun A out s H E hr hG => ?_
  have tk : Takes (cxOf (L2.CX P w) P w K mg base ["_law_whole", "_law_kept", "_law_titles", "_law_strays", "_law_item", "_law_due_in", "_law_own"] "_law_right" (defScope s__law_right) T.a__law_right T.d__law_right.code A out s H E) (fun cls d _ H => E cls d H) := takes_of rfl rfl rfl rfl
  have hx : Passes (L2.CX P w) (cxOf (L2.CX P w) P w K mg base ["_law_whole", "_law_kept", "_law_titles", "_law_strays", "_law_item", "_law_due_in", "_law_own"] "_law_right" (defScope s__law_right) T.a__law_right T.d__law_right.code A out s H E) E := passes_call tk fun _ _ _ _ h => h
  have ho := passes_of (X := cxOf (L2.CX P w) P w K mg base ["_law_whole", "_law_kept", "_law_titles", "_law_strays", "_law_item", "_law_due_in", "_law_own"] "_law_right" (defScope s__law_right) T.a__law_right T.d__law_right.code A out s H E) rfl
  have hu := unitsOf hr
  obtain ⟨oc__law_heard, od__law_heard, kV__law_heard, doc__law_heard, pm__law_heard, an__law_heard, cdv__law_heard, ct__law_heard, osl__law_heard, efd__law_heard, lk__law_heard, hcg__law_heard⟩ := T.p__law_heard.F.ex
  have bd__law_heard := T.p__law_heard.b
  rw [efd__law_heard] at lk__law_heard bd__law_heard
  exact ⟨_, (ss_cons (ss_par2 (i := 1) (j := 2) sc__law_right.nd (by decide) (sa_cons (se_callB (cr_reprP (K := K) (un hu) hG) bc_repr T.n_repr (by decide +kernel) (sa_cons (se_var 0) sa_nil)) (sa_cons (SF.v (sf_lc 100000 sc__law_right.nd (si_any (K := K) (se_var 0)) (blkOk_by (own := [("_law_own", 6)]) (N := ["_law_whole", "_law_kept", "_law_titles", "_law_strays", "_law_item", "_law_due_in", "_law_own"]) (sc := defScope s__law_right) (by decide +kernel)) (fun _ _ _ _ _ => (sg_name (i := 6) sc__law_right.nd)) (fun _ _ _ _ _ => sts_nil) (fun _ _ _ _ _ => (se_ix (K := K) (se_var 6) se_int)))) sa_nil)))
      (ss_cons (ss_set (i := 3) sc__law_right.nd (SF.v (sf_lst (sa_cons se_str (sa_cons se_str (sa_cons (se_op (op_addA (K := K)) bop_add (se_ix (K := K) (se_var 2) se_int) se_str) (sa_cons (se_upper (se_ix (K := K) (se_var 2) (se_neg se_int))) (sa_cons se_non (sa_cons se_int (sa_cons se_bl sa_nil))))))))))
      (ss_cons (ss_for 100000 ho (si_any (K := K) (se_op (op_addA (K := K)) bop_add (se_op (op_addA (K := K)) bop_add (se_var 2) (se_var 3)) (SF.v (sf_lst (sa_cons (SF.v (sf_lst (sa_cons (se_ix (K := K) (se_var 2) se_int) sa_nil))) (sa_cons (se_tup (sa_cons (se_ix (K := K) (se_var 2) se_int) sa_nil)) sa_nil)))))) (sg_name (i := 4) sc__law_right.nd) (sss_kill [4, 5] (ss_cons (ss_set (i := 5) sc__law_right.nd (se_tup (sa_cons se_str (sa_cons se_str (sa_cons (se_var 4) sa_nil)))))
      (ss_cons (ss_if (SW.st (sw_and (st_truth (K := K) (se_callB (kIsi (K := K)) bc_isi T.n_isinstance (by decide +kernel) (sa_cons (se_var 4) (sa_cons (se_bltn (u := .type "str") (v := .ty "str") T.n_str (by decide +kernel) rfl) sa_nil)))) (sw_and1 (st_cmp (op_inP (K := K) (un hu)) (bop_in (neg := false)) (se_var 4) (se_var 2) rfl)))) (ss_one (ss_set (i := 5) sc__law_right.nd (se_tup (sa_cons se_str (sa_cons (se_call (K := K) (ok__law_reached T hB) (hr.mono (by decide)) hG T.p__law_reached.g T.p__law_reached.F.kp T.p__law_reached.b hx (sa_cons (se_var 0) (sa_cons (se_var 4) sa_nil)) (lenIs_cons (lenIs_cons lenIs_nil))) sa_nil))))) ss_nil)
      (ss_one (ss_if (st_cmp (op_neP (K := K) (un hu)) bop_ne (se_callB (cr_reprP (K := K) (un hu) hG) bc_repr T.n_repr (by decide +kernel) (sa_cons (se_lam (K := K) (k := 4) (kh := 0) T.p__law_heard.g T.p__law_heard.F.kp lk__law_heard hcg__law_heard bd__law_heard sc__law_heard rfl (.inl rfl) (hr__law_heard (X := cxOf (L2.CX P w) P w K mg base ["_law_whole", "_law_kept", "_law_titles", "_law_strays", "_law_item", "_law_due_in", "_law_own"] "_law_right" (defScope s__law_right) T.a__law_right T.d__law_right.code A out s H E) T) (by decide) (hB _ (tc__law_right T)) T.q__law_right (tm__law_right T) (tu__law_right T) (hr.mono (by decide)) hG (LamX.lamS_by (by kernel_rfl)) rfl (fun _ _ _ _ _ => rfl) (fun A outer s H E f c' hr hG => (have hu := unitsOf hr; (se_call (K := K) (ok_can_call T hB) (hr.mono (by decide)) hG T.p_can_call.g T.p_can_call.F.kp T.p_can_call.b (passes_call (takes_of rfl rfl rfl rfl) fun _ _ _ _ h => h) (sa_cons (se_var 0) (sa_cons (se_var 4) sa_nil)) (lenIs_cons (lenIs_cons lenIs_nil)))))) sa_nil)) (se_callB (cr_reprP (K := K) (un hu) hG) bc_repr T.n_repr (by decide +kernel) (sa_cons (se_var 5) sa_nil)) (nomark _)) (ss_one (ss_ret se_bl)) ss_nil))))))
      (ss_one (ss_ret (se_cmp (op_eqP (K := K) (un hu)) bop_eq (se_callB (cr_reprP (K := K) (un hu) hG) bc_repr T.n_repr (by decide +kernel) (sa_cons (se_var 0) sa_nil)) (se_var 1) (nomark _)))))))⟩
theorem sc_law : FnScope ["_law_script", "_law_feed_here", "_law_some", "_law_alone", "_law_whole"] ["_law_script"] (defScope s_law) := ⟨rfl, rfl, rfl, by decide +kernel, rfl, by decide +kernel, by decide +kernel⟩
theorem ok_law (T : Txt P K mg) (hB : ∀ p ∈ csOf T, LamX.TabB base mg p.1 p.2.1) : letI := nmOf T; FnG P w K mg base 8 T.a_law T.d_law ["_law_script"] (spOf K 1 m_law) := by
  letI := nmOf T
  refine does T.p_law.F sc_law fun A out s H E hr hG => ?_
  have tk : Takes (cxOf (L2.CX P w) P w K mg base ["_law_script", "_law_feed_here", "_law_some", "_law_alone", "_law_whole"] "law" (defScope s_law) T.a_law T.d_law.code A out s H E) (fun cls d _ H => E cls d H) := takes_of rfl rfl rfl rfl
  have hx : Passes (L2.CX P w) (cxOf (L2.CX P w) P w K mg base ["_law_script", "_law_feed_here", "_law_some", "_law_alone", "_law_whole"] "law" (defScope s_law) T.a_law T.d_law.code A out s H E) E := passes_call tk fun _ _ _ _ h => h
  have ho := passes_of (X := cxOf (L2.CX P w) P w K mg base ["_law_script", "_law_feed_here", "_law_some", "_law_alone", "_law_whole"] "law" (defScope s_law) T.a_law T.d_law.code A out s H E) rfl
  have hu := unitsOf hr
  exact ⟨_, (ss_cons (ss_set (i := 1) sc_law.nd (se_call (K := K) (ok__law_feed T hB) (hr.mono (by decide)) hG T.p__law_feed.g T.p__law_feed.F.kp T.p__law_feed.b hx (sa_cons (se_var 0) sa_nil) (lenIs_cons lenIs_nil)))
      (ss_cons (ss_set (i := 2) sc_law.nd (SF.v (sf_lst (sa_cons (se_call (K := K) (ok__law_linked T hB) (hr.mono (by decide)) hG T.p__law_linked.g T.p__law_linked.F.kp T.p__law_linked.b hx (sa_cons (se_var 1) sa_nil) (lenIs_cons lenIs_nil)) (sa_cons (se_call (K := K) (ok__law_linked T hB) (hr.mono (by decide)) hG T.p__law_linked.g T.p__law_linked.F.kp T.p__law_linked.b hx (sa_cons (se_var 1) sa_nil) (lenIs_cons lenIs_nil)) (sa_cons (se_call (K := K) (ok__law_drawn T hB) (hr.mono (by decide)) hG T.p__law_drawn.g T.p__law_drawn.F.kp T.p__law_drawn.b hx (sa_cons (se_var 1) sa_nil) (lenIs_cons lenIs_nil)) (sa_cons (se_call0 (K := K) (ok__law_first T hB) (hr.mono (by decide)) hG T.p__law_first.g T.p__law_first.F.kp T.p__law_first.b hx) (sa_cons (se_call0 (K := K) (ok__law_great T hB) (hr.mono (by decide)) hG T.p__law_great.g T.p__law_great.F.kp T.p__law_great.b hx) sa_nil))))))))
      (ss_cons (ss_if (st_cmp (op_neP (K := K) (un hu)) bop_ne (SF.v (sf_lc 100000 sc_law.nd (si_any (K := K) (se_var 2)) (blkOk_by (own := [("_law_whole", 4)]) (N := ["_law_script", "_law_feed_here", "_law_some", "_law_alone", "_law_whole"]) (sc := defScope s_law) (by decide +kernel)) (fun _ _ _ _ _ => (sg_name (i := 4) sc_law.nd)) (fun _ _ _ _ _ => (sts_one (st_not (st_truth (K := K) (se_call (K := K) (ok__law_right T hB) (hr.mono (by decide)) hG T.p__law_right.g T.p__law_right.F.kp T.p__law_right.b passL (sa_cons (se_var 4) sa_nil) (lenIs_cons lenIs_nil)))))) (fun _ _ _ _ _ => (se_var 4)))) (SF.v (sf_lst sa_nil)) (nomark _)) (ss_one (ss_ret se_bl)) ss_nil)
      (ss_cons (ss_set (i := 3) sc_law.nd (se_tup (sa_cons (se_tup (sa_cons se_str (sa_cons (se_tup (sa_cons (se_tup (sa_cons (se_tup (sa_cons se_str (sa_cons se_str sa_nil))) (sa_cons (se_tup (sa_cons se_int sa_nil)) (sa_cons (se_tup sa_nil) sa_nil)))) (sa_cons (se_tup (sa_cons (se_tup (sa_cons se_str sa_nil)) (sa_cons (se_tup (sa_cons (se_tup (sa_cons se_str sa_nil)) sa_nil)) (sa_cons (se_tup sa_nil) sa_nil)))) sa_nil))) sa_nil))) sa_nil)))
      (ss_cons (ss_if (st_cmp (op_neP (K := K) (un hu)) bop_ne (se_callKw0 (K := K) (ok_can_call T hB) (hr.mono (by decide)) hG T.p_can_call.g T.p_can_call.F.kp (kb_can_call_0_name_program T.p_can_call.F) hx (sk_cons se_str (sk_cons (se_var 3) sk_nil)) (lenIs_cons (lenIs_cons lenIs_nil)) (kb_can_call_0_name_program_ix)) (se_tup (sa_cons se_str sa_nil)) (nomark _)) (ss_one (ss_ret se_bl)) ss_nil)
      (ss_one (ss_ret (se_and (K := K) (se_cmp (op_eqP (K := K) (un hu)) bop_eq (se_callKw0 (K := K) (ok_can_call T hB) (hr.mono (by decide)) hG T.p_can_call.g T.p_can_call.F.kp (kb_can_call_0_name_program T.p_can_call.F) hx (sk_cons se_str (sk_cons (se_call0 (K := K) (ok__law_first T hB) (hr.mono (by decide)) hG T.p__law_first.g T.p__law_first.F.kp T.p__law_first.b hx) sk_nil)) (lenIs_cons (lenIs_cons lenIs_nil)) (kb_can_call_0_name_program_ix)) (se_tup (sa_cons se_str (sa_cons se_str sa_nil))) (nomark _)) (se_one (se_cmp (op_eqP (K := K) (un hu)) bop_eq (se_call (K := K) (ok_can_call T hB) (hr.mono (by decide)) hG T.p_can_call.g T.p_can_call.F.kp T.p_can_call.b hx (sa_cons (se_call0 (K := K) (ok__law_first T hB) (hr.mono (by decide)) hG T.p__law_first.g T.p__law_first.F.kp T.p__law_first.b hx) (sa_cons se_str sa_nil)) (lenIs_cons (lenIs_cons lenIs_nil))) (se_tup sa_nil) (nomark _)))))))))))⟩
end
end Yk06
namespace Yk06
open PySem L2 B
/-- the calls of a line -/
def callsD : PyData → List PyData
  | .tuple (.tuple cs :: _) => cs
  | _ => []
def Cal (ts : List PyData) (c : PyData) : Prop := c ∈ PyData.str "" :: ts
def InC (ts : List PyData) (r : PyData) : Prop := ∀ c ∈ callsD r, Cal ts c
def rowsD : PyData → List PyData
  | .tuple [_, .tuple rs] => rs
  | _ => []
def InF (ts : List PyData) (f : PyData) : Prop := ∀ r ∈ rowsD f, InC ts r
/-! drawn programs -/
theorem draw_ok {o : O} {many : Int} {rest : Store} (ho : isFeed o) (h0 : 0 < many) (h1 : many < 1073741824) :
    wpx noE (m__law_draw [.loc 0, .val (.int many)] (o :: rest)) fun d s => ∃ r f, (0 ≤ r ∧ r < many ∧ isFeed f) ∧ d = .val (.int r) ∧ s = f :: rest := by
  obtain ⟨cs, a, l, c, rfl⟩ := ho
  by_cases hc : cs = []
  · subst hc
    simp [m__law_draw, b__law_draw, feedO, putP, PyData.eqv, PyData.eqvAll, PyData.depth, PyData.depthAll]
    repeat' first
      | exact h0 | exact h1 | exact emod_pos h0 | exact Int.emod_lt_of_pos _ h0 | exact ⟨[], _, _, _, rfl⟩ | decide
      | exact Int.lt_of_lt_of_le (by decide) (emod_pos (by decide)) | exact Int.lt_trans (Int.emod_lt_of_pos _ (by decide)) (by decide)
      | apply And.intro | split
  · obtain ⟨v, hv⟩ := atI_mod hc a
    have hl : (0 : Int) < cs.length := by have := List.length_pos_iff.mpr hc; omega
    simp [m__law_draw, b__law_draw, feedO, putP, eqv_nil, hc, hv]
    repeat' first
      | exact h0 | exact h1 | exact hl | exact List.length_pos_iff.mpr hc | exact emod_pos h0 | exact Int.emod_lt_of_pos _ h0 | exact ⟨_, _, _, _, rfl⟩ | decide
      | exact Int.lt_of_lt_of_le (by decide) (emod_pos (by decide)) | exact Int.lt_trans (Int.emod_lt_of_pos _ (by decide)) (by decide)
      | exact Or.inr (by decide : PyData.depth (.list []) ≤ 64)
      | exact Nat.le_trans (Nat.min_le_right _ _) (by decide : PyData.depth (.list []) ≤ 64)
      | apply And.intro | split
theorem row_ok {o : O} {ts : List PyData} {size : Int} {rest : Store} (ho : isFeed o) (ht : ∀ t ∈ ts, NameOk t) (lt : ts.length ≤ 8) (h0 : 1 ≤ size) (h1 : size ≤ 4) (hp : Pl rest) :
    wpx noE (m__law_row [.loc 0, .val (.list ts), .val (.int size)] (o :: rest)) fun d s => ∃ p f, (RowOk p ∧ InC ts p ∧ isFeed f) ∧ d = .val p ∧ s = f :: rest := by
  have hts : ∀ t ∈ PyData.str "" :: ts, NameOk t := fun t h => by
    rcases List.mem_cons.mp h with rfl | h
    · exact ⟨_, rfl, Sm.lit (by decide +kernel)⟩
    · exact ht t h
  have s0 : sortOk (PyData.str "" :: ts) = true := sortOk_strs (fun x hx => by obtain ⟨a, e, _⟩ := hts x hx; exact ⟨a, e⟩)
  simp [m__law_row, b__law_row, -e_seqS]
  refine seq_cut (fun e s => ∃ calls f, ((∀ c ∈ calls, Cal ts c) ∧ calls.length ≤ 9 ∧ isFeed f) ∧ e = rowE ts size calls ∧ s = f :: rest) ?_ ?_
  · simp [s0]
    refine ⟨by omega, ?_⟩
    refine wp_mono (wp_lcF (I := fun i acc s => ((∀ c ∈ acc, Cal ts c) ∧ acc.length ≤ i) ∧ ∃ f, isFeed f ∧ s = f :: rest) _ _ _ ⟨⟨by simp, by simp⟩, o, ho, rfl⟩ ?_) ?_
    · rintro i x acc s hx ⟨⟨ha, la⟩, f, hf, rfl⟩
      have hx' : Cal ts x := mem_sortP.mp (List.mem_of_getElem? hx)
      have hi : i < 9 := by
        rcases Nat.lt_or_ge i (sortP (PyData.str "" :: ts)).length with h | h
        · rw [len_sortP, List.length_cons] at h; omega
        · rw [List.getElem?_eq_none h] at hx; cases hx
      simp
      refine wp_mono (draw_ok hf (by decide) (by decide)) ?_
      rintro d s ⟨r, f', ⟨hr0, hr1, hf'⟩, rfl, rfl⟩
      simp [PyData.depth]
      by_cases hr : r = 0
      · simp [hr, hf']
        refine ⟨by omega, ?_, la⟩
        rintro c (hc | rfl)
        · exact ha c hc
        · exact hx'
      · simp [hr, hf']
        exact ⟨ha, by omega⟩
    · rintro calls s ⟨⟨hc, lc⟩, f, hf, rfl⟩
      rw [len_sortP, List.length_cons] at lc
      simp
      exact ⟨calls, ⟨hc, by omega, hf⟩, rfl⟩
  rintro _ _ ⟨calls, f, ⟨hc, lc, hf⟩, rfl, rfl⟩
  clear ho o
  refine seq_cut (fun e s => ∃ calls f, ((∀ c ∈ calls, Cal ts c) ∧ calls.length ≤ 9 ∧ isFeed f) ∧ e = rowE ts size calls ∧ s = f :: rest) ?_ ?_
  · cases calls with
    | nil =>
      simp [rowE, PyData.eqv, PyData.eqvAll, PyData.depth, PyData.depthAll]
      refine ⟨by omega, ?_⟩
      refine wp_mono (draw_ok hf (by omega) (by omega)) ?_
      rintro d s ⟨r, f', ⟨hr0, hr1, hf'⟩, rfl, rfl⟩
      obtain ⟨x, hx, ex⟩ := atI_some (xs := PyData.str "" :: ts) hr0 (by simp; omega)
      simp [ex, hf']
      exact (hx : Cal ts x)
    | cons c r =>
      simp [rowE, PyData.eqv, PyData.eqvAll, PyData.depth, PyData.depthAll]
      simp at hc lc
      exact ⟨hc, by omega, hf⟩
  rintro _ _ ⟨calls, f, ⟨hc, lc, hf⟩, rfl, rfl⟩
  simp [rowE, -e_forS, rgB]
  have lm := menu_len h0
  have hm := menu_ok (size := size) h1
  refine ⟨⟨by omega, by omega⟩, by simp [rgP]; omega, ?_⟩
  rw [show rgP 0 size ++ [PyData.tuple [PyData.str (Str.ofString "back")], PyData.tuple [PyData.str (Str.ofString "fail"), PyData.str (Str.ofString "bad")], PyData.tuple [PyData.str (Str.ofString "fail"), PyData.str (Str.ofString "back")]] = menuL size from rfl]
  generalize menuL size = mn at *
  simp
  refine wp_mono (draw_ok hf (by decide) (by decide)) ?_
  rintro d s ⟨r, f', ⟨hr0, hr1, hf'⟩, rfl, rfl⟩
  simp
  refine ⟨rgOk.of (by omega) (by omega), ?_⟩
  refine wp_forF (I := fun i env s => ∃ v8 f ws, (isFeed f ∧ (∀ w ∈ ws, WayOk w) ∧ ws.length ≤ i) ∧ env = [some (.loc 0), some (.val (.list ts)), some (.val (.int size)), some (.val (.list calls)), some (.val (.list mn)), some (.loc (rest.length + 1)), some (.loc (rest.length + 1 + 1)), none, v8, none] ∧ s = f :: (rest ++ [.lst ws, .lst []])) _ _ _ ⟨none, f', [], ⟨hf', by simp, by simp⟩, rfl, rfl⟩ ?_ ?_
  · rintro i x env s hx ⟨v8, g, ws, ⟨hg, hw, lw⟩, rfl, rfl⟩
    obtain ⟨rfl, hi⟩ := range_get hx
    simp
    refine wp_mono (draw_ok hg (by omega) (by omega)) ?_
    rintro d s ⟨q, g', ⟨hq0, hq1, hg'⟩, rfl, rfl⟩
    obtain ⟨x, hx, ex⟩ := atI_some (xs := mn) hq0 hq1
    have hd : min (PyData.depthAll ws) x.depth ≤ 64 := Nat.le_trans (Nat.min_le_right _ _) (way_depth (hm x hx))
    simp [ex]
    by_cases hin : inAny x ws = true
    · simp [hin]
      exact ⟨hd, _, _, _, ⟨hg', hw, by omega⟩, rfl, rfl, rfl⟩
    · simp at hin
      simp [hin]
      refine ⟨hd, by omega, _, _, _, ⟨hg', fun w h => ?_, by simp; omega⟩, rfl, rfl, rfl⟩
      rcases List.mem_append.mp h with h | h
      · exact hw w h
      · rw [List.mem_singleton.mp h]; exact hm _ hx
  rintro env s ⟨v8, g, ws, ⟨hg, hw, lw⟩, rfl, rfl⟩
  simp at lw
  simp
  refine wp_mono (draw_ok hg (by decide) (by decide)) ?_
  rintro d s ⟨r2, g', ⟨hr20, hr21, hg'⟩, rfl, rfl⟩
  simp
  refine ⟨rgOk.of (by omega) (by omega), ?_⟩
  refine wp_forF (I := fun i env s => ∃ v8 f hs, (isFeed f ∧ (∀ w ∈ hs, HandOk w) ∧ hs.length ≤ i) ∧ env = [some (.loc 0), some (.val (.list ts)), some (.val (.int size)), some (.val (.list calls)), some (.val (.list mn)), some (.loc (rest.length + 1)), some (.loc (rest.length + 1 + 1)), none, v8, none] ∧ s = f :: (rest ++ [.lst ws, .lst hs])) _ _ _ ⟨v8, g', [], ⟨hg', by simp, by simp⟩, rfl, rfl⟩ ?_ ?_
  · rintro i x env s hx ⟨v8, k, hs, ⟨hk, hh, lh⟩, rfl, rfl⟩
    obtain ⟨rfl, hi⟩ := range_get hx
    simp
    refine wp_mono (draw_ok hk (by decide) (by decide)) ?_
    rintro d s ⟨q, k', ⟨hq0, hq1, hk'⟩, rfl, rfl⟩
    obtain ⟨x, hx, ex⟩ := srt_at hq0 hq1
    simp [ex]
    refine wp_lcO (Q := _) hs (I := fun i acc s => (acc = (hs.take i).map headD) ∧ s = k' :: (rest ++ [.lst ws, .lst hs])) ?_ ?_ ?_ _ _ _ _ ⟨by simp, rfl⟩ (by omega) (by omega)
    · rintro i acc s ⟨_, rfl⟩
      simp
    · rintro i y acc s hy ⟨rfl, rfl⟩
      obtain ⟨a, b, rfl, _, _⟩ := hh y (List.mem_of_getElem? hy)
      simp
      refine ⟨by omega, ?_⟩
      rw [List.take_succ, List.getElem?_map, hy]; rfl
    · rintro acc s ⟨rfl, rfl⟩
      rw [List.take_length]
      simp [PyData.depth]
      by_cases hin : inAny (.str x) (hs.map headD) = true
      · simp [hin]
        exact ⟨_, _, _, ⟨hk', hh, by omega⟩, rfl, rfl, rfl⟩
      · simp at hin
        simp [hin]
        refine wp_mono (draw_ok hk' (by omega) (by omega)) ?_
        rintro d s ⟨z, k2, ⟨hz0, hz1, hk2⟩, rfl, rfl⟩
        simp
        refine ⟨by omega, _, _, _, ⟨hk2, fun w h => ?_, by simp; omega⟩, rfl, rfl, rfl⟩
        rcases List.mem_append.mp h with h | h
        · exact hh w h
        · rw [List.mem_singleton.mp h]; exact ⟨_, _, rfl, hx, num_small hz0 (by omega)⟩
  rintro env s ⟨v8, k, hs, ⟨hk, hh, lh⟩, rfl, rfl⟩
  simp at lh
  have hkp : Pl (k :: rest) := by obtain ⟨cs, a, l, c, rfl⟩ := hk; exact hp.cons_dk _
  simp
  exact ⟨hkp.ok _, ⟨_, _, _, rfl, fun c h => hts c (hc c h), hw, hh, by omega, by omega, by omega⟩, fun c h => hc c h, hk⟩
def Pooled (fs : List PyData) : Prop := PyData.list (fs.map headD) ∈ POOLS
theorem drawn_names {o : O} {rest : Store} (ho : isFeed o) (hp : Pl rest) : wpx noE (m__law_drawn [.loc 0] (o :: rest)) fun d s => ∃ p f, ((∃ fs, p = .tuple fs ∧ ProgOk p ∧ Pooled fs ∧ ∀ f ∈ fs, InF (fs.map headD) f) ∧ isFeed f) ∧ d = .val p ∧ s = f :: rest := by
  simp [m__law_drawn, b__law_drawn]
  refine wp_mono (draw_ok ho (by decide) (by decide)) ?_
  rintro d s ⟨r, f, ⟨hr0, hr1, hf⟩, rfl, rfl⟩
  obtain ⟨ts, hts, l1, l4, ets⟩ := pool_at hr0 hr1
  have hpool : PyData.list ts ∈ POOLS := by
    obtain ⟨x, hx, ex⟩ := atI_some (xs := POOLS) hr0 (by simpa using hr1)
    rw [ets] at ex
    cases ex
    exact hx
  simp [ets]
  refine wp_forF (I := fun i env s => ∃ f found, (isFeed f ∧ (∀ w ∈ found, FunOk w ∧ InF ts w) ∧ found.map headD = ts.take i) ∧ env = [some (.loc 0), some (.val (.list POOLS)), some (.val (.list ts)), some (.loc (rest.length + 1)), none, none, none] ∧ s = f :: (rest ++ [.lst found])) _ _ _ ⟨f, [], ⟨hf, by simp, by simp⟩, rfl, rfl⟩ ?_ ?_
  · rintro i x env s hx ⟨g, found, ⟨hg, hfo, lfo⟩, rfl, rfl⟩
    have hi : i < ts.length := by
      rcases Nat.lt_or_ge i ts.length with h | h
      · exact h
      · rw [List.getElem?_eq_none h] at hx; cases hx
    have lfo2 : found.length = i := by have := congrArg List.length lfo; simp at this; omega
    have tk := List.take_add_one (l := ts) (i := i)
    rw [hx] at tk
    obtain ⟨y, rfl, hy⟩ := hts x (List.mem_of_getElem? hx)
    simp
    refine wp_mono (draw_ok hg (by decide) (by decide)) ?_
    rintro d s ⟨q, g', ⟨hq0, hq1, hg'⟩, rfl, rfl⟩
    simp
    refine ⟨rgOk.of (by omega) (by omega), ?_⟩
    refine wp_mono (wp_lcF (I := fun j acc s => ((∀ c ∈ acc, RowOk c ∧ InC ts c) ∧ acc.length = j) ∧ ∃ f, isFeed f ∧ s = f :: (rest ++ [.lst found])) _ _ _ ⟨⟨by simp, rfl⟩, g', hg', rfl⟩ ?_) ?_
    · rintro j x acc s hx ⟨⟨ha, la⟩, k, hk, rfl⟩
      obtain ⟨rfl, hj⟩ := range_get hx
      simp
      refine wp_mono (row_ok hk hts (by omega) (by omega) (by omega) (hp.lst found)) ?_
      rintro d s ⟨p, k', ⟨hp', hpi, hk'⟩, rfl, rfl⟩
      simp [hk']
      refine ⟨by omega, ?_, la⟩
      rintro c (hc | rfl)
      · exact ha c hc
      · exact ⟨hp', hpi⟩
    · rintro rows s ⟨⟨hrs, lrs⟩, k, hk, rfl⟩
      simp at lrs
      simp
      refine ⟨by omega, hk, ?_, by rw [tk, lfo]; simp [headD]⟩
      rintro w (h | rfl)
      · exact hfo w h
      · exact ⟨⟨_, _, rfl, hy, fun c h => (hrs c h).1, by omega⟩, fun r h => (hrs r h).2⟩
  rintro env s ⟨k, found, ⟨hk, hfo, lfo⟩, rfl, rfl⟩
  have hkp : Pl (k :: rest) := by obtain ⟨cs, a, l, c, rfl⟩ := hk; exact hp.cons_dk _
  have lfo2 : found.length = ts.length := by have := congrArg List.length lfo; simpa using this
  rw [List.take_length] at lfo
  simp
  exact ⟨hkp.ok _, ⟨⟨_, rfl, fun f h => (hfo f h).1, by omega, by rintro rfl; simp at lfo2; omega⟩, by unfold Pooled; rw [lfo]; exact hpool, fun f h => by rw [lfo]; exact (hfo f h).2⟩, hk⟩
theorem feed_ok (ns : List Int) (h : ns.length ≤ 63) : m__law_feed [.frz (ns.map PyData.int)] [] = .ok (.loc 0) [feedO ns 0 0 0] := by
  refine of_wp ?_
  simp [m__law_feed, b__law_feed, newDk, kvsOf, mergeP, putP, feedO]
  simp only [cutP, HT.sIx_none, List.drop_zero, Nat.sub_zero]
  rw [show (63 : Int) = ((63 : Nat) : Int) from rfl, HT.sIx_nat]
  exact List.take_of_length_le (by simp; omega)
abbrev TIT : List PyData := [.str "main", .str "h", .str "abcdefgh", .str "g", .str "ga", .str "zz", .str "a", .str "fail"]
abbrev SIZ : List PyData := [.int 12, .int 12, .int 10, .int 2, .int 1, .int 1, .int 1, .int 1]
abbrev KIN : List PyData := [.str "k", .str "bad", .str "kk", .str "zz", .str "back", .str "a"]
theorem tit_ok : ∀ x ∈ TIT, NameOk x := fun x hx => name_of ((List.all_eq_true.mp (show TIT.all nameB = true by decide +kernel)) x hx)
theorem kin_ok : ∀ x ∈ KIN, NameOk x := fun x hx => name_of ((List.all_eq_true.mp (show KIN.all nameB = true by decide +kernel)) x hx)
theorem siz_at {i : Nat} (h : i < 8) : ∃ s : Int, 1 ≤ s ∧ s ≤ 12 ∧ atI SIZ (i : Int) = some (.int s) := by
  rcases (by omega : i = 0 ∨ i = 1 ∨ i = 2 ∨ i = 3 ∨ i = 4 ∨ i = 5 ∨ i = 6 ∨ i = 7) with rfl | rfl | rfl | rfl | rfl | rfl | rfl | rfl <;> exact ⟨_, by decide, by decide, rfl⟩
def wayF (k s : Int) : PyData → PyData
  | .int t => .int ((k + t) % s)
  | _ => .none
def E0 (n : Nat) : B.Env := [some (.val (.list TIT)), some (.val (.list SIZ)), some (.val (.list KIN)), some (.loc n), some (.val (.int 6)), none, none, none, none, none, none, none]
theorem kin_at {i : Int} (h0 : 0 ≤ i) (h1 : i < 6) : ∃ x, Sm 8 x ∧ atI KIN i = some (.str x) := by
  obtain ⟨y, hy, e⟩ := atI_some (xs := KIN) h0 (by simpa using h1)
  obtain ⟨x, rfl, hx⟩ := kin_ok y hy
  exact ⟨x, hx, e⟩
def handF (j k s : Int) : PyData → PyData
  | .int t => match atI KIN ((j + t) % 6) with
    | some x => .tuple [x, .int ((k + t) % s)]
    | none => .none
  | _ => .none
theorem great_names {st : Store} (hp : Pl st) : wpx noE (m__law_great [] st) fun d s => ∃ fs, ((∀ f ∈ fs, FunOk f ∧ InF TIT f) ∧ fs.map headD = TIT) ∧ d = .val (.tuple fs) ∧ s = st := by
  simp [m__law_great, b__law_great]
  refine ⟨rgOk.of (by decide) (by decide), ?_⟩
  refine wp_forF (I := fun i env s => env = E0 st.length ∧ ∃ found, (s.take st.length = st ∧ s[st.length]? = some (.lst found)) ∧ (∀ f ∈ found, FunOk f ∧ InF TIT f) ∧ found.map headD = TIT.take i) _ _ _ ⟨rfl, [], by simp, by simp, by simp⟩ ?_ ?_
  · rintro j x env s hx ⟨rfl, found, ⟨ht, hg⟩, hf, lf⟩
    obtain ⟨rfl, hj⟩ := range_get hx
    obtain ⟨sj, h1, h2, hs⟩ := siz_at hj
    have hn : st.length < s.length := by
      rcases Nat.lt_or_ge st.length s.length with h | h
      · exact h
      · rw [List.getElem?_eq_none h] at hg; cases hg
    simp [E0, hs]
    refine ⟨rgOk.of (by omega) (by omega), ?_⟩
    refine wp_forF (I := fun k env s' => env = [some (.val (.list TIT)), some (.val (.list SIZ)), some (.val (.list KIN)), some (.loc st.length), some (.val (.int 6)), some (.val (.int j)), some (.loc s.length), none, none, none, none, none] ∧ ∃ lot, s' = s ++ [.lst lot] ∧ (∀ r ∈ lot, RowOk r ∧ InC TIT r) ∧ lot.length = k) _ _ _ ⟨rfl, [], rfl, by simp, rfl⟩ ?_ ?_
    · rintro k x env s' hx ⟨rfl, lot, rfl, hr, lr⟩
      obtain ⟨rfl, hk⟩ := range_get hx
      have e1 := fun (env : B.Env) (he : 11 < env.length) (g1 : env[1]? = some (some (.val (.list SIZ)))) (g5 : env[5]? = some (some (.val (.int j)))) (g7 : env[7]? = some (some (.val (.int k)))) =>
        lcF_wp (g := setV 11) (ft := yesT) (fe := op2 modF (callF intG (aCons (op2 addF (gv 7) (gv 11)) aNil)) (op2 ixF (gv 1) (gv 5))) (env := env) (st := s ++ [.lst lot]) (xs := (List.range sj.toNat).map fun (t : Nat) => PyData.int t) (wayF k sj) (fun y hy => by
          obtain ⟨t, ht, rfl⟩ := List.mem_map.mp hy
          have a1 : (List.set env 11 (some (.val (.int (t : Int)))))[1]? = some (some (.val (.list SIZ))) := by rw [List.getElem?_set_ne (by decide)]; exact g1
          have a5 : (List.set env 11 (some (.val (.int (t : Int)))))[5]? = some (some (.val (.int j))) := by rw [List.getElem?_set_ne (by decide)]; exact g5
          have a7 : (List.set env 11 (some (.val (.int (t : Int)))))[7]? = some (some (.val (.int k))) := by rw [List.getElem?_set_ne (by decide)]; exact g7
          simp [he, a1, a5, a7, hs, wayF]
          omega) (by simp; omega)
      have e2 := fun (env : B.Env) (he : 11 < env.length) (g1 : env[1]? = some (some (.val (.list SIZ)))) (g2 : env[2]? = some (some (.val (.list KIN)))) (g4 : env[4]? = some (some (.val (.int 6)))) (g5 : env[5]? = some (some (.val (.int j)))) (g7 : env[7]? = some (some (.val (.int k)))) =>
        lcF_wp (g := setV 11) (ft := yesT) (fe := tupE (aCons (op2 ixF (gv 2) (op2 modF (callF intG (aCons (op2 addF (gv 5) (gv 11)) aNil)) (gv 4))) (aCons (op2 modF (callF intG (aCons (op2 addF (gv 7) (gv 11)) aNil)) (op2 ixF (gv 1) (gv 5))) aNil))) (env := env) (st := s ++ [.lst lot]) (xs := (List.range 3).map fun (t : Nat) => PyData.int t) (handF j k sj) (fun y hy => by
          obtain ⟨t, ht, rfl⟩ := List.mem_map.mp hy
          have a1 : (List.set env 11 (some (.val (.int (t : Int)))))[1]? = some (some (.val (.list SIZ))) := by rw [List.getElem?_set_ne (by decide)]; exact g1
          have a2 : (List.set env 11 (some (.val (.int (t : Int)))))[2]? = some (some (.val (.list KIN))) := by rw [List.getElem?_set_ne (by decide)]; exact g2
          have a4 : (List.set env 11 (some (.val (.int (t : Int)))))[4]? = some (some (.val (.int 6))) := by rw [List.getElem?_set_ne (by decide)]; exact g4
          have a5 : (List.set env 11 (some (.val (.int (t : Int)))))[5]? = some (some (.val (.int j))) := by rw [List.getElem?_set_ne (by decide)]; exact g5
          have a7 : (List.set env 11 (some (.val (.int (t : Int)))))[7]? = some (some (.val (.int k))) := by rw [List.getElem?_set_ne (by decide)]; exact g7
          obtain ⟨x, hx, ex⟩ := kin_at (i := ((j : Int) + t) % 6) (emod_pos (by decide)) (Int.emod_lt_of_pos _ (by decide))
          simp [he, a1, a2, a4, a5, a7, hs, handF, ex]
          omega) (by simp)
      have s0 : sortOk (PyData.str "" :: cutP TIT (some (((j : Int) + k) % 8)) none) = true := sortOk_strs (fun x hx => by
        rcases List.mem_cons.mp hx with rfl | hx
        · exact ⟨_, rfl⟩
        · obtain ⟨a, e, _⟩ := tit_ok x (mem_cutP hx); exact ⟨a, e⟩)
      have l0 : (cutP TIT (some (((j : Int) + k) % 8)) none).length ≤ 8 := len_cutP
      obtain ⟨xj, hxj, exj⟩ := kin_at (i := (j : Int) % 6) (emod_pos (by decide)) (Int.emod_lt_of_pos _ (by decide))
      simp [s0, e1, e2, exj, hs]
      refine ⟨by omega, rgOk.of (by omega) (by omega), by omega, rgOk.of (by decide) (by decide), by omega, ?_, lr⟩
      rintro r (hr' | rfl)
      · exact hr r hr'
      · refine ⟨⟨_, _, _, rfl, fun c hc => ?_, fun c hc => ?_, fun c hc => ?_, ?_, ?_, ?_⟩, fun c hc => ?_⟩
        · rcases List.mem_cons.mp (mem_sortP.mp hc) with rfl | hc
          · exact ⟨_, rfl, Sm.lit (by decide +kernel)⟩
          · exact tit_ok c (mem_cutP hc)
        · rcases List.mem_append.mp hc with hc | hc
          · obtain ⟨t, ht, rfl⟩ := List.mem_map.mp hc
            have g1 : 0 ≤ ((k : Int) + t) % sj := emod_pos (by omega)
            have g2 : ((k : Int) + t) % sj < sj := Int.emod_lt_of_pos _ (by omega)
            exact .inl ⟨_, rfl, num_small g1 (by omega)⟩
          · simp only [List.mem_cons, List.not_mem_nil, or_false] at hc
            rcases hc with rfl | rfl
            · exact .inr (.inl rfl)
            · exact .inr (.inr ⟨_, rfl, hxj⟩)
        · rcases List.mem_append.mp hc with hc | hc
          · obtain ⟨t, ht, rfl⟩ := List.mem_map.mp hc
            have g1 : 0 ≤ ((k : Int) + t) % sj := emod_pos (by omega)
            have g2 : ((k : Int) + t) % sj < sj := Int.emod_lt_of_pos _ (by omega)
            obtain ⟨x, hx, ex⟩ := kin_at (i := ((j : Int) + t) % 6) (emod_pos (by decide)) (Int.emod_lt_of_pos _ (by decide))
            simp only [Function.comp_apply, handF, ex]
            exact ⟨_, _, rfl, hx, num_small g1 (by omega)⟩
          · simp only [List.mem_cons, List.not_mem_nil, or_false] at hc
            subst hc
            exact ⟨_, _, rfl, Sm.lit (by decide +kernel), num_small (by decide) (by decide)⟩
        · rw [len_sortP, List.length_cons]; omega
        · simp; omega
        · simp
        · rcases List.mem_cons.mp (mem_sortP.mp hc) with rfl | hc
          · exact List.mem_cons_self
          · exact List.mem_cons_of_mem _ (mem_cutP hc)
    · rintro env s' ⟨rfl, lot, rfl, hr, lr⟩
      obtain ⟨x, hx, ex⟩ := atI_some (xs := TIT) (i := (j : Int)) (by omega) (by simp; omega)
      have tk := List.take_add_one (l := TIT) (i := j)
      have ex2 : TIT[j]? = some x := by rw [← ex, atI_get (by omega) (by simp; omega)]; simp
      rw [ex2] at tk
      obtain ⟨y, rfl, hy⟩ := tit_ok x hx
      have lf2 : found.length = j := by have := congrArg List.length lf; simp at this; omega
      have g0 : (s ++ [O.lst lot])[st.length]? = some (.lst found) := by rw [List.getElem?_append_left hn]; exact hg
      simp [ex, g0]
      simp at lr
      refine ⟨by omega, _, ⟨?_, by rw [List.getElem?_set_self (by simp; omega)]⟩, ?_, (by rw [List.map_append, lf]; rfl : List.map headD (found ++ [PyData.tuple [PyData.str y, PyData.tuple lot]]) = List.take j TIT ++ (some (PyData.str y)).toList).trans tk.symm⟩
      · rw [take_set_at, List.take_append_of_le_length (by omega), ht]
      · intro f hf'
        rcases List.mem_append.mp hf' with hf' | hf'
        · exact hf f hf'
        · rw [List.mem_singleton.mp hf']
          exact ⟨⟨_, _, rfl, hy, fun r h => (hr r h).1, by omega⟩, fun r h => (hr r h).2⟩
  · rintro env s ⟨rfl, found, ⟨ht, hg⟩, hf, lf⟩
    have := hp.ok st.length
    rw [List.take_of_length_le (by simp)] at lf
    simp [E0, hg, ht, this]
    exact ⟨hf, lf⟩
end Yk06
namespace Yk06
open PySem L2 B
abbrev LT8 : List PyData := [.str "t", .str "main", .str "ab", .str "a", .str "zz", .str "abc", .str "h", .str "g"]
abbrev PLN : PyData := .tuple [.tuple [.str ""], .tuple [.tuple [.str "back"]], .tuple []]
theorem lt8_ok : ∀ x ∈ LT8, NameOk x := fun x hx => name_of ((List.all_eq_true.mp (show LT8.all nameB = true by decide +kernel)) x hx)
theorem cut8 {r : Int} (h0 : 0 ≤ r) (h1 : r < 8) : ∃ n, 1 ≤ n ∧ n ≤ 8 ∧ cutP LT8 none (some (1 + r)) = LT8.take n := by
  rcases (by omega : r = 0 ∨ r = 1 ∨ r = 2 ∨ r = 3 ∨ r = 4 ∨ r = 5 ∨ r = 6 ∨ r = 7) with rfl | rfl | rfl | rfl | rfl | rfl | rfl | rfl
  · exact ⟨1, by decide, by decide, rfl⟩
  · exact ⟨2, by decide, by decide, rfl⟩
  · exact ⟨3, by decide, by decide, rfl⟩
  · exact ⟨4, by decide, by decide, rfl⟩
  · exact ⟨5, by decide, by decide, rfl⟩
  · exact ⟨6, by decide, by decide, rfl⟩
  · exact ⟨7, by decide, by decide, rfl⟩
  · exact ⟨8, by decide, by decide, rfl⟩
theorem setOk_tx {ds : List PyData} (h : ∀ d ∈ ds, ∃ x, d = .str x) (hl : ds.length < 64) : GS.setOk ds = true := by
  simp only [GS.setOk, Bool.and_eq_true, decide_eq_true_eq, List.all_eq_true, Bool.or_eq_true]
  refine ⟨hl, fun d hd => ?_, .inl fun d hd => ?_⟩
  · obtain ⟨x, rfl⟩ := h d hd
    exact ⟨rfl, by show 0 ≤ 8; omega⟩
  · obtain ⟨x, rfl⟩ := h d hd
    rfl
theorem nk_tx {ds : List PyData} (h : ∀ d ∈ ds, ∃ x, d = PyData.str x) : ∀ d ∈ ds, (GS.nk d).isSome = true := fun d hd => by obtain ⟨x, rfl⟩ := h d hd; rfl
theorem sortOk_ded {ds : List PyData} (h : ∀ d ∈ ds, ∃ x, d = PyData.str x) : sortOk (GS.dedP ds) = true := sortOk_strs fun x hx => h x ((GS.mem_ded (nk_tx h)).mp hx)
/-- lists of names -/
def LotOk (ts : List PyData) (y : PyData) : Prop := ∃ ys, y = .list ys ∧ (∀ c ∈ ys, c ∈ ts) ∧ ys.length ≤ 8
def FL6 (ts found : List PyData) (i : Nat) : Prop := (∀ f ∈ found, FunOk f ∧ InF ts f) ∧ found.map headD = ts.take i
theorem call_row {ts cs : List PyData} (ht : ∀ x ∈ ts, NameOk x) (hc : ∀ c ∈ cs, Cal ts c) (hl : cs.length ≤ 10) : RowOk (.tuple [.tuple cs, .tuple [.tuple [.str "back"], .int 0], .tuple []]) ∧ InC ts (.tuple [.tuple cs, .tuple [.tuple [.str "back"], .int 0], .tuple []]) := by
  refine ⟨⟨_, _, _, rfl, fun c h => ?_, fun c h => ?_, (fun c h => by cases h), hl, by simp, by simp⟩, fun c h => hc c h⟩
  · rcases List.mem_cons.mp (hc c h) with rfl | h
    · exact ⟨_, rfl, Sm.lit (by decide +kernel)⟩
    · exact ht c h
  · simp only [List.mem_cons, List.not_mem_nil, or_false] at h
    rcases h with rfl | rfl
    · exact .inr (.inl rfl)
    · exact .inl ⟨_, rfl, num_small (by decide) (by decide)⟩
theorem pln_row {ts : List PyData} : RowOk PLN ∧ InC ts PLN := by
  refine ⟨⟨_, _, _, rfl, fun c h => ?_, fun c h => ?_, (fun c h => by cases h), by simp, by simp, by simp⟩, fun c h => ?_⟩
  · rw [List.mem_singleton.mp h]; exact ⟨_, rfl, Sm.lit (by decide +kernel)⟩
  · rw [List.mem_singleton.mp h]; exact .inr (.inl rfl)
  · rw [List.mem_singleton.mp (show c ∈ [PyData.str ""] from h)]; exact List.mem_cons_self
theorem linked_ok {o : O} {rest : Store} (ho : isFeed o) (hp : Pl rest) : wpx noE (m__law_linked [.loc 0] (o :: rest)) fun d s => ∃ fs f, (((∀ f ∈ fs, FunOk f ∧ InF (fs.map headD) f) ∧ ∃ n, 1 ≤ n ∧ n ≤ 8 ∧ fs.map headD = LT8.take n) ∧ isFeed f) ∧ d = .val (.tuple fs) ∧ s = f :: rest := by
  simp [m__law_linked, b__law_linked, -e_forS]
  refine wp_mono (draw_ok ho (by decide) (by decide)) ?_
  rintro d s ⟨r, f, ⟨hr0, hr1, hf⟩, rfl, rfl⟩
  obtain ⟨n, n1, n8, en⟩ := cut8 hr0 hr1
  clear ho o
  have hn : (LT8.take n).length = n := by rw [List.length_take]; simp; omega
  have ht : ∀ x ∈ LT8.take n, NameOk x := fun x hx => lt8_ok x (List.mem_of_mem_take hx)
  generalize hts : LT8.take n = ts at en ht hn
  simp [en, -e_forS]
  refine wp_mono (draw_ok hf (by decide) (by decide)) ?_
  rintro d s ⟨sh, f, ⟨hs0, hs1, hf⟩, rfl, rfl⟩
  simp [-e_killS]
  refine ⟨rgOk.of (by omega) (by omega), ?_⟩
  refine wp_forF (I := fun i env s => env = [some (.loc 0), some (.val (.list ts)), some (.val (.int ts.length)), some (.val (.int sh)), some (.loc (rest.length + 1)), some (.val PLN), none, none, none, none, none] ∧ ∃ f tl found, (isFeed f ∧ FL6 ts found i) ∧ (tl.take rest.length = rest ∧ tl[rest.length]? = some (.lst found)) ∧ s = f :: tl) _ _ _ ⟨rfl, f, rest ++ [.lst []], [], ⟨hf, by simp, by simp⟩, ⟨by simp, by simp⟩, rfl⟩ ?_ ?_
  · clear hf f
    rintro j x env s hx ⟨rfl, f, tl, found, ⟨hf, hfl⟩, ⟨htk, hfo⟩, rfl⟩
    obtain ⟨rfl, hj⟩ := range_get hx
    have hlt : rest.length < tl.length := by
      rcases Nat.lt_or_ge rest.length tl.length with h | h
      · exact h
      · rw [List.getElem?_eq_none h] at hfo; cases hfo
    simp [-e_seqS]
    refine seq_cut (fun e s => ∃ lot, (lot.length = 2 ∧ ∀ y ∈ lot, LotOk ts y) ∧ e = [some (.loc 0), some (.val (.list ts)), some (.val (.int ts.length)), some (.val (.int sh)), some (.loc (rest.length + 1)), some (.val PLN), some (.val (.int j)), some (.loc (tl.length + 1)), none, none, none] ∧ s = f :: (tl ++ [.lst lot])) ?_ ?_
    · obtain ⟨a1, ha1, e1⟩ := atI_some (xs := ts) (i := ((j : Int) + 1) % ts.length) (emod_pos (by omega)) (Int.emod_lt_of_pos _ (by omega))
      simp [e1]
      refine ⟨by omega, ?_⟩
      exact ⟨⟨_, rfl, by simpa using ha1, by simp⟩, _, rfl, fun c h => mem_cutP h, Nat.le_trans len_cutP (by omega)⟩
    rintro _ _ ⟨lot, ⟨l1, l2⟩, rfl, rfl⟩
    refine seq_cut (fun e s => ∃ lot, (lot.length = 5 ∧ ∀ y ∈ lot, LotOk ts y) ∧ e = [some (.loc 0), some (.val (.list ts)), some (.val (.int ts.length)), some (.val (.int sh)), some (.loc (rest.length + 1)), some (.val PLN), some (.val (.int j)), some (.loc (tl.length + 1)), none, none, none] ∧ s = f :: (tl ++ [.lst lot])) ?_ ?_
    · obtain ⟨a1, ha1, e1⟩ := atI_some (xs := ts) (i := 0) (by omega) (by omega)
      simp [e1, l1]
      rintro y (h | rfl | rfl | rfl)
      · exact l2 y h
      · exact ⟨_, rfl, fun c h => mem_cutP h, Nat.le_trans len_cutP (by omega)⟩
      · exact ⟨_, rfl, by simpa using ha1, by simp⟩
      · exact ⟨_, rfl, fun c h => mem_cutP h, Nat.le_trans len_cutP (by omega)⟩
    clear l1 l2 lot
    rintro _ _ ⟨lot, ⟨l1, l2⟩, rfl, rfl⟩
    refine seq_cut (fun e s => ∃ f lot, isFeed f ∧ (lot.length = 6 ∧ ∀ y ∈ lot, LotOk ts y) ∧ e = [some (.loc 0), some (.val (.list ts)), some (.val (.int ts.length)), some (.val (.int sh)), some (.loc (rest.length + 1)), some (.val PLN), some (.val (.int j)), some (.loc (tl.length + 1)), none, none, none] ∧ s = f :: (tl ++ [.lst lot])) ?_ ?_
    · simp
      refine wp_mono (draw_ok hf (by omega) (by omega)) ?_
      rintro d s ⟨q, f', ⟨hq0, hq1, hf'⟩, rfl, rfl⟩
      obtain ⟨a1, ha1, e1⟩ := atI_some (xs := ts) hq0 hq1
      simp [e1, l1]
      refine ⟨hf', ?_⟩
      rintro y (h | rfl)
      · exact l2 y h
      · exact ⟨_, rfl, by simpa using ha1, by simp⟩
    clear l1 l2 lot hf f
    rintro _ _ ⟨f, lot, hf, ⟨l1, l2⟩, rfl, rfl⟩
    refine seq_cut (fun e s => ∃ lot, (lot.length = 7 ∧ ∀ y ∈ lot, LotOk ts y) ∧ e = [some (.loc 0), some (.val (.list ts)), some (.val (.int ts.length)), some (.val (.int sh)), some (.loc (rest.length + 1)), some (.val PLN), some (.val (.int j)), some (.loc (tl.length + 1)), none, none, none] ∧ s = f :: (tl ++ [.lst lot])) ?_ ?_
    · obtain ⟨a1, ha1, e1⟩ := atI_some (xs := ts) (i := ((j : Int) * 3) % ts.length) (emod_pos (by omega)) (Int.emod_lt_of_pos _ (by omega))
      obtain ⟨a2, ha2, e2⟩ := atI_some (xs := ts) (i := ((j : Int) * 5 + 2) % ts.length) (emod_pos (by omega)) (Int.emod_lt_of_pos _ (by omega))
      simp [e1, e2, l1]
      refine ⟨by omega, ?_⟩
      rintro y (h | rfl)
      · exact l2 y h
      · refine ⟨_, rfl, fun c h => ?_, by simp⟩
        simp only [List.mem_cons, List.not_mem_nil, or_false] at h
        rcases h with rfl | rfl
        · exact ha1
        · exact ha2
    clear l1 l2 lot
    rintro _ _ ⟨lot, ⟨l1, l2⟩, rfl, rfl⟩
    refine seq_cut (fun e s => ∃ f cs, isFeed f ∧ ((∀ c ∈ cs, Cal ts c) ∧ cs.length ≤ 10) ∧ e = [some (.loc 0), some (.val (.list ts)), some (.val (.int ts.length)), some (.val (.int sh)), some (.loc (rest.length + 1)), some (.val PLN), some (.val (.int j)), some (.loc (tl.length + 1)), some (.val (.list cs)), none, none] ∧ s = f :: (tl ++ [.lst lot])) ?_ ?_
    · obtain ⟨y, hy, ey⟩ := atI_some (xs := lot) hs0 (by omega)
      obtain ⟨ys, rfl, hys, lys⟩ := l2 y hy
      simp [ey]
      refine wp_mono (draw_ok hf (by decide) (by decide)) ?_
      rintro d s ⟨q, f', ⟨hq0, hq1, hf'⟩, rfl, rfl⟩
      have all : ∀ c ∈ ys ++ cutP [PyData.str ""] none (some q), Cal ts c := fun c h => by
        rcases List.mem_append.mp h with h | h
        · exact List.mem_cons_of_mem _ (hys c h)
        · rw [List.mem_singleton.mp (mem_cutP h)]; exact List.mem_cons_self
      have tx : ∀ c ∈ ys ++ cutP [PyData.str ""] none (some q), ∃ x, c = PyData.str x := fun c h => by
        rcases List.mem_cons.mp (all c h) with rfl | h
        · exact ⟨_, rfl⟩
        · obtain ⟨x, e, _⟩ := ht c h
          exact ⟨x, e⟩
      have ll : (ys ++ cutP [PyData.str ""] none (some q)).length ≤ 9 := by
        have := len_cutP (xs := [PyData.str ""]) (lo := none) (hi := some q)
        rw [List.length_append]
        simp at this
        omega
      simp
      refine ⟨by rw [List.length_append] at ll; omega, ⟨setOk_tx tx (by omega), sortOk_ded tx⟩, _, hf', _, ⟨fun c h => all c ((GS.mem_ded (nk_tx tx)).mp (mem_sortP.mp h)), ?_⟩, rfl, rfl⟩
      rw [len_sortP]
      exact Nat.le_trans GS.len_ded (by omega)
    clear l1 l2 hf f
    rintro _ _ ⟨f, cs, hf, ⟨c1, c2⟩, rfl, rfl⟩
    refine seq_cut (fun e s => ∃ r, (RowOk r ∧ InC ts r) ∧ e = [some (.loc 0), some (.val (.list ts)), some (.val (.int ts.length)), some (.val (.int sh)), some (.loc (rest.length + 1)), some (.val PLN), some (.val (.int j)), some (.loc (tl.length + 1)), some (.val (.list cs)), some (.val r), none] ∧ s = f :: (tl ++ [.lst lot])) ?_ ?_
    · by_cases h : cs = []
      · subst h
        simp [PyData.eqv, PyData.eqvAll, PyData.depth, PyData.depthAll]
        exact call_row ht (fun c h => by rw [List.mem_singleton.mp h]; exact List.mem_cons_self) (by simp)
      · obtain ⟨c, r, rfl⟩ := List.exists_cons_of_ne_nil h
        simp [PyData.eqv, PyData.eqvAll, PyData.depth, PyData.depthAll]
        exact call_row ht c1 c2
    clear c1 c2
    rintro _ _ ⟨r, hr, rfl, rfl⟩
    refine seq_cut (fun e s => ∃ f rs v8 v9, isFeed f ∧ ((∀ r ∈ rs, RowOk r ∧ InC ts r) ∧ rs.length ≤ 12) ∧ e = [some (.loc 0), some (.val (.list ts)), some (.val (.int ts.length)), some (.val (.int sh)), some (.loc (rest.length + 1)), some (.val PLN), some (.val (.int j)), some (.loc (tl.length + 1)), v8, v9, some (.val (.tuple rs))] ∧ s = f :: (tl ++ [.lst lot])) ?_ ?_
    · simp
      refine wp_mono (draw_ok hf (by decide) (by decide)) ?_
      rintro d s ⟨q, f', ⟨hq0, hq1, hf'⟩, rfl, rfl⟩
      have pl : RowOk PLN ∧ InC ts PLN := pln_row
      obtain ⟨y, hy, ey⟩ := atI_some (xs := [PyData.tuple [r], .tuple [PLN, r], .tuple [r, PLN], .tuple [PLN, PLN, r]]) hq0 (by simpa using hq1)
      have : ∃ rs, y = .tuple rs ∧ ((∀ r ∈ rs, RowOk r ∧ InC ts r) ∧ rs.length ≤ 12) := by
        simp only [List.mem_cons, List.not_mem_nil, or_false] at hy
        rcases hy with rfl | rfl | rfl | rfl
        · exact ⟨_, rfl, fun x h => by rw [List.mem_singleton.mp h]; exact hr, by simp⟩
        · refine ⟨_, rfl, fun x h => ?_, by simp⟩
          simp only [List.mem_cons, List.not_mem_nil, or_false] at h
          rcases h with rfl | rfl
          · exact pl
          · exact hr
        · refine ⟨_, rfl, fun x h => ?_, by simp⟩
          simp only [List.mem_cons, List.not_mem_nil, or_false] at h
          rcases h with rfl | rfl
          · exact hr
          · exact pl
        · refine ⟨_, rfl, fun x h => ?_, by simp⟩
          simp only [List.mem_cons, List.not_mem_nil, or_false] at h
          rcases h with rfl | rfl | rfl
          · exact pl
          · exact pl
          · exact hr
      obtain ⟨rs, rfl, h1, h2⟩ := this
      simp [ey]

      exact ⟨_, hf', _, ⟨h1, h2⟩, rfl, rfl⟩
    clear hf f
    rintro _ _ ⟨f, rs, v8, v9, hf, ⟨h1, h2⟩, rfl, rfl⟩
    obtain ⟨x, hx, ex⟩ := atI_some (xs := ts) (i := (j : Int)) (by omega) (by omega)
    have tk := List.take_add_one (l := ts) (i := j)
    have ex2 : ts[j]? = some x := by rw [← ex, atI_get (by omega) (by omega)]; simp
    rw [ex2] at tk
    obtain ⟨y, rfl, hy⟩ := ht x hx
    have lf2 : found.length = j := by have := congrArg List.length hfl.2; simp at this; omega
    have g0 : (tl ++ [O.lst lot])[rest.length]? = some (.lst found) := by rw [List.getElem?_append_left hlt]; exact hfo
    simp [ex, g0]
    refine ⟨by omega, f, _, _, ⟨hf, ?_, ?_⟩, ⟨?_, by rw [List.getElem?_set_self (by simp; omega)]⟩, rfl, rfl⟩
    · intro f hf'
      rcases List.mem_append.mp hf' with hf' | hf'
      · exact hfl.1 f hf'
      · rw [List.mem_singleton.mp hf']
        exact ⟨⟨_, _, rfl, hy, fun r h => (h1 r h).1, h2⟩, fun r h => (h1 r h).2⟩
    · rw [List.map_append, hfl.2]
      exact tk.symm
    · rw [take_set_at, List.take_append_of_le_length (by omega), htk]
  · rintro env s ⟨rfl, f, tl, found, ⟨hf, hfl⟩, ⟨htk, hfo⟩, rfl⟩
    have hkp : Pl (f :: rest) := by obtain ⟨cs, a, l, c, rfl⟩ := hf; exact hp.cons_dk _
    have hl := hfl.2
    rw [List.length_map, List.length_range, List.take_of_length_le (Nat.le_refl _)] at hl
    simp [hfo, htk]
    refine ⟨hkp.ok _, ⟨fun f h => by rw [hl]; exact hfl.1 f h, n, n1, n8, by rw [hl, hts]⟩, hf⟩
end Yk06
namespace Yk06
open PySem L2 B
def sndD : PyData → PyData
  | .tuple [_, r] => r
  | _ => .none
def fstD : PyData → PyData
  | .tuple [x, _] => x
  | _ => .none
def linesF (fs : List PyData) (p : PyData) : Option PyData := (fs.find? fun f => PyData.eqv (fstD f) p).map sndD
abbrev notUse (w : Str) (p : PyData) : Ex := .own "NotUsable" [("at", .val p), ("word", .val (.str w))]
theorem lines_some {fs : List PyData} {p r : PyData} (h : ∀ f ∈ fs, FunOk f) (e : linesF fs p = some r) (st : Store) : m_lines_of [.val (.tuple fs), .val p] st = .ok (.val r) st := by
  refine of_wp ?_
  obtain ⟨f, hf, rfl⟩ := Option.map_eq_some_iff.mp e
  simp [m_lines_of, b_lines_of]
  obtain ⟨hfp, as, bs, rfl, hno⟩ := List.find?_eq_some_iff_append.mp hf
  refine wp_forF (I := fun i e s => (e = [some (.val (.tuple (as ++ f :: bs))), some (.val p), none, none] ∧ s = st) ∧ i ≤ as.length) _ _ _ ⟨⟨rfl, rfl⟩, Nat.zero_le _⟩ ?_ ?_
  · rintro i x e s hx ⟨⟨rfl, hs⟩, hi⟩
    rw [hs]; clear hs s
    have hxm := List.mem_of_getElem? hx
    obtain ⟨y, rs, rfl, hy, hrs, lrs⟩ := h x hxm
    by_cases hlt : i < as.length
    · have hx2 : as[i]? = some (.tuple [.str y, .tuple rs]) := by rw [← hx, List.getElem?_append_left hlt]
      have := hno _ (List.mem_of_getElem? hx2)
      simp [fstD] at this
      simp [kill, this, PyData.depth]
      omega
    · have : i = as.length := by omega
      subst this
      rw [List.getElem?_append_right (Nat.le_refl _)] at hx
      simp at hx
      subst hx
      simp [fstD] at hfp
      simp [kill, hfp, PyData.depth, sndD]
  · rintro e s ⟨_, hi⟩
    simp at hi
    omega
theorem lines_none {fs : List PyData} {p : PyData} (h : ∀ f ∈ fs, FunOk f) (e : linesF fs p = none) (st : Store) : m_lines_of [.val (.tuple fs), .val p] st = .exc (notUse "name" p) st := by
  refine of_wpX ?_
  have hno : ∀ f ∈ fs, PyData.eqv (fstD f) p = false := by
    have := Option.map_eq_none_iff.mp e
    simpa [List.find?_eq_none] using this
  simp [m_lines_of, b_lines_of]
  refine for_same (fun x hx => ?_) ?_
  · obtain ⟨y, rs, rfl, hy, hrs, lrs⟩ := h x hx
    have := hno _ hx
    simp [fstD] at this
    simp [kill, this, PyData.depth]
  · simp
theorem take_flat {α β : Type} {xs : List α} {F : α → List β} {i : Nat} {x : α} (h : xs[i]? = some x) : (xs.take (i + 1)).flatMap F = (xs.take i).flatMap F ++ F x := by
  rw [List.take_add_one, h]; simp
/-- the calls that call -/
def noN (c : PyData) : Bool := !PyData.eqv c (.str "")
def callsN (r : PyData) : List PyData := (callsD r).filter noN
def inN (N : List PyData) (xs : List PyData) : Prop := ∀ c ∈ xs, c ∈ N
structure Nam (N : List PyData) : Prop where
  tx : ∀ c ∈ N, NameOk c
  few : N.length ≤ 9
theorem Nam.all {N xs : List PyData} (h : Nam N) (hx : inN N xs) : xs.all GS.isTx = true ∧ (GS.dedP xs).length < 62 := by
  have tx : ∀ c ∈ xs, ∃ x, c = PyData.str x := fun c hc => by obtain ⟨x, e, _⟩ := h.tx c (hx c hc); exact ⟨x, e⟩
  refine ⟨List.all_eq_true.mpr fun c hc => by obtain ⟨x, rfl⟩ := tx c hc; rfl, ?_⟩
  have := GS.few_of (l := (GS.dedP xs).map fun d => match d with | .str x => x | _ => "") (b := N.map fun d => match d with | .str x => x | _ => "") ?_ ?_
  · rw [List.length_map, List.length_map] at this
    have := h.few
    omega
  · have nd := GS.nodup_ded (ds := xs)
    have tx2 : ∀ c ∈ GS.dedP xs, ∃ x, c = PyData.str x := fun c hc => tx c ((GS.mem_ded (nk_tx tx)).mp hc)
    generalize GS.dedP xs = l at nd tx2
    induction l with
    | nil => exact List.nodup_nil
    | cons d l ih =>
      have nd := List.nodup_cons.mp nd
      rw [List.map_cons]
      refine List.nodup_cons.mpr ⟨fun m => nd.1 ?_, ih nd.2 fun c hc => tx2 c (List.mem_cons_of_mem _ hc)⟩
      obtain ⟨e, he, ee⟩ := List.mem_map.mp m
      obtain ⟨x, rfl⟩ := tx2 d List.mem_cons_self
      obtain ⟨y, rfl⟩ := tx2 e (List.mem_cons_of_mem _ he)
      simp only at ee
      rw [← ee]
      exact he
  · intro y hy
    obtain ⟨d, hd, rfl⟩ := List.mem_map.mp hy
    exact List.mem_map.mpr ⟨d, hx d ((GS.mem_ded (nk_tx tx)).mp hd), rfl⟩
theorem called_ok {N rs : List PyData} (hN : Nam N) (h : ∀ r ∈ rs, RowOk r) (hr : ∀ r ∈ rs, inN N (callsN r)) (st : Store) : m_called_in [.val (.tuple rs)] st = .ok (.loc st.length) (st ++ [.lst (sortP (GS.dedP (rs.flatMap callsN)))]) := by
  refine of_wp ?_
  simp [m_called_in, b_called_in]
  refine wp_mono (wp_lcF (I := fun i acc s => acc = (rs.take i).flatMap callsN ∧ s = st) _ _ _ ⟨by simp, rfl⟩ ?_) ?_
  · rintro i r acc s hi ⟨rfl, hs⟩
    rw [hs]; clear hs s
    have hm := List.mem_of_getElem? hi
    have hin := hr r hm
    have acc_in : inN N ((rs.take i).flatMap callsN) := fun c hc => by
      obtain ⟨q, hq, hc⟩ := List.mem_flatMap.mp hc
      exact hr q (List.mem_of_mem_take hq) c hc
    rw [take_flat hi]
    generalize (rs.take i).flatMap callsN = A at acc_in ⊢
    obtain ⟨cs, ws, hs, rfl, hcs, _, _, lcs, _, _⟩ := h r hm
    simp [kill, e_scIn2]
    refine wp_mono (wp_lcF (I := fun k acc s => acc = A ++ (cs.take k).filter noN ∧ s = st) _ _ _ ⟨by simp, rfl⟩ ?_) ?_
    · rintro k c acc s hk ⟨rfl, hs⟩
      rw [hs]; clear hs s
      obtain ⟨x, rfl, hx⟩ := hcs c (List.mem_of_getElem? hk)
      have cur : inN N (A ++ (cs.take k).filter noN) := fun c hc => by
        rcases List.mem_append.mp hc with hc | hc
        · exact acc_in c hc
        · have := List.mem_filter.mp hc
          exact hin c (List.mem_filter.mpr ⟨List.mem_of_mem_take this.1, this.2⟩)
      obtain ⟨u1, u2⟩ := hN.all cur
      have tk : (cs.take (k + 1)).filter noN = (cs.take k).filter noN ++ if noN (.str x) = true then [.str x] else [] := by
        rw [List.take_add_one, hk, List.filter_append]; simp [List.filter_cons]
      rw [tk, ← List.append_assoc]
      generalize A ++ (cs.take k).filter noN = B at u1 u2
      clear cur
      simp [e_scIn, -List.all_eq_true]
      by_cases hx0 : noN (.str x) = true
      · have : (x == Str.ofString "") = false := by simpa [noN] using hx0
        simp [hx0, this, u1, u2, -List.all_eq_true]
        intro e
        rw [e] at this
        simp at this
      · have : (x == Str.ofString "") = true := by simpa [noN] using hx0
        simp [hx0]
        have e : x = Str.ofString "" := by simpa using this
        simp [e]
    · rintro acc s ⟨rfl, hs⟩
      rw [hs]; clear hs s
      rw [List.take_length]
      exact ⟨rfl, rfl⟩
  · rintro acc s ⟨rfl, hs⟩
    rw [hs]; clear hs s
    rw [List.take_length]
    have all_in : inN N (rs.flatMap callsN) := fun c hc => by
      obtain ⟨q, hq, hc⟩ := List.mem_flatMap.mp hc
      exact hr q hq c hc
    obtain ⟨u1, u2⟩ := hN.all all_in
    simp [u1, -List.all_eq_true]
theorem wp_whF {ft : B.Env → M Bool} {fb : B.Env → M Fl} {Q : Fl → Store → Prop} (I : Nat → B.Env → Store → Prop) (step : ∀ n e s, I n e s → wpx noE (ft e s) fun b s' => if b = true then wpx noE (fb e s') fun f s2 => (match f with | .nx e' => ∃ m, m < n ∧ I m e' s2 | _ => False) else Q (.nx e) s') : ∀ (m n : Nat) (e : B.Env) (s : Store), I n e s → n < m → wpx noE (whF ft fb m e s) Q
  | 0, n, e, s, h, hm => absurd hm (Nat.not_lt_zero n)
  | m + 1, n, e, s, h, hm => by
    unfold whF
    simp only [wp_bd]
    refine wp_mono (step n e s h) fun b s' hb => ?_
    cases b with
    | false => simp at hb ⊢; exact hb
    | true =>
      simp only [if_true] at hb ⊢
      simp only [kM, if_true, wp_bd]
      refine wp_mono hb fun f s2 hf => ?_
      cases f with
      | nx e' =>
        obtain ⟨k, hk, hI⟩ := hf
        exact wp_whF I step m k e' s2 hI (by omega)
      | _ => exact hf.elim
end Yk06
namespace Yk06
open PySem L2 B
def NMS : List (List PyData) := [[.str "main", .str "f", .str "g"], [.str "a"], [.str "function", .str "back", .str "fail", .str "zzzzzzzz"], [.str "b", .str "ab", .str "abc", .str "a"], [.str "g", .str "f"], TIT, LT8.take 1, LT8.take 2, LT8.take 3, LT8.take 4, LT8.take 5, LT8.take 6, LT8.take 7, LT8.take 8, [.str "again"]]
structure Good (fs : List PyData) : Prop where
  ok : ∀ f ∈ fs, FunOk f
  nm : fs.map headD ∈ NMS
  inn : ∀ f ∈ fs, InF (fs.map headD) f
theorem Good.len {fs : List PyData} (h : Good fs) : 1 ≤ fs.length ∧ fs.length ≤ 8 := by
  have h1 : NMS.all (fun l => decide (1 ≤ l.length ∧ l.length ≤ 8)) = true := by decide +kernel
  have := of_decide_eq_true (List.all_eq_true.mp h1 _ h.nm)
  simpa using this
def poolS (l : List PyData) : List Str := l.map fun p => match p with | .str x => x | _ => Str.ofString ""
theorem nms_nodup {ts : List PyData} (h : ts ∈ NMS) : (poolS ts).Nodup := by
  have h1 : NMS.all (fun l => decide (poolS l).Nodup) = true := by decide +kernel
  exact of_decide_eq_true (List.all_eq_true.mp h1 ts h)
theorem Good.nam {fs : List PyData} (h : Good fs) : Nam (fs.map headD) := by
  refine ⟨fun c hc => ?_, by have := h.len; rw [List.length_map]; omega⟩
  obtain ⟨f, hf, rfl⟩ := List.mem_map.mp hc
  obtain ⟨x, rs, rfl, hx, _⟩ := h.ok f hf
  exact ⟨x, rfl, hx⟩
theorem Good.calls {fs : List PyData} (h : Good fs) {f : PyData} (hf : f ∈ fs) : ∀ r ∈ rowsD f, inN (fs.map headD) (callsN r) := fun r hr c hc => by
  have hc := List.mem_filter.mp hc
  rcases List.mem_cons.mp (h.inn f hf r hr c hc.1) with rfl | h'
  · exact absurd hc.2 (by decide +kernel)
  · exact h'
def calD (fs : List PyData) (p : PyData) : List PyData := match linesF fs p with
  | some (.tuple rs) => rs.flatMap callsN
  | _ => []
theorem fst_head {f : PyData} (h : FunOk f) : fstD f = headD f := by obtain ⟨x, rs, rfl, _⟩ := h; rfl
/-- a name of the program -/
theorem Good.lines {fs : List PyData} (h : Good fs) {p : PyData} (hp : p ∈ fs.map headD) : ∃ f rs, f ∈ fs ∧ rowsD f = rs ∧ linesF fs p = some (.tuple rs) ∧ ∀ r ∈ rs, RowOk r := by
  obtain ⟨g, hg, rfl⟩ := List.mem_map.mp hp
  have : ∃ f, fs.find? (fun f => PyData.eqv (fstD f) (headD g)) = some f := by
    rw [← Option.isSome_iff_exists, List.find?_isSome]
    obtain ⟨x, rs, rfl, _⟩ := h.ok g hg
    exact ⟨_, hg, by simp [fstD, headD]⟩
  obtain ⟨f, e⟩ := this
  have hf := List.mem_of_find?_eq_some e
  have he : linesF fs (headD g) = some (sndD f) := by unfold linesF; rw [e]; rfl
  obtain ⟨x, rs, rfl, _, hr, _⟩ := h.ok f hf
  exact ⟨_, rs, hf, rfl, he, hr⟩
theorem Good.cal {fs : List PyData} (h : Good fs) (p : PyData) : inN (fs.map headD) (calD fs p) := by
  intro c hc
  unfold calD at hc
  split at hc
  · rename_i rs e
    obtain ⟨f, hf, e2⟩ := Option.map_eq_some_iff.mp e
    have hf := List.mem_of_find?_eq_some hf
    obtain ⟨r, hr, hc⟩ := List.mem_flatMap.mp hc
    obtain ⟨x, ss, rfl, _⟩ := h.ok f hf
    cases e2
    exact h.calls hf r hr c hc
  · cases hc
theorem Good.none {fs : List PyData} (h : Good fs) {p : PyData} (hp : p ∉ fs.map headD) : linesF fs p = none := by
  unfold linesF
  rw [Option.map_eq_none_iff, List.find?_eq_none]
  intro f hf e
  refine hp ?_
  obtain ⟨x, rs, rfl, _⟩ := h.ok f hf
  have e : PyData.eqv (.str x) p = true := e
  have : p = .str x := by
    cases p with
    | str y => simp at e; rw [e]
    | _ => simp [PyData.eqv] at e
  rw [this]
  exact List.mem_map.mpr ⟨_, hf, rfl⟩
def calS (fs : List PyData) (p : PyData) : List PyData := sortP (GS.dedP (calD fs p))
theorem Good.calS {fs : List PyData} (h : Good fs) (p : PyData) : (∀ x, x ∈ calS fs p ↔ x ∈ calD fs p) ∧ (calS fs p).length ≤ 9 := by
  have hi := h.cal p
  have tx : ∀ c ∈ calD fs p, ∃ x, c = PyData.str x := fun c hc => by obtain ⟨x, e, _⟩ := h.nam.tx c (hi c hc); exact ⟨x, e⟩
  refine ⟨fun x => by unfold Yk06.calS; rw [mem_sortP, GS.mem_ded (nk_tx tx)], ?_⟩
  unfold Yk06.calS
  rw [len_sortP]
  have := (h.nam.few)
  have e := GS.few_of (l := poolS (GS.dedP (calD fs p))) (b := poolS (fs.map headD)) ?_ ?_
  · unfold poolS at e
    rw [List.length_map, List.length_map] at e
    omega
  · have nd := GS.nodup_ded (ds := calD fs p)
    have tx2 : ∀ c ∈ GS.dedP (calD fs p), ∃ x, c = PyData.str x := fun c hc => tx c ((GS.mem_ded (nk_tx tx)).mp hc)
    generalize GS.dedP (calD fs p) = l at nd tx2
    induction l with
    | nil => exact List.nodup_nil
    | cons d l ih =>
      have nd := List.nodup_cons.mp nd
      refine List.nodup_cons.mpr ⟨fun m => nd.1 ?_, ih nd.2 fun c hc => tx2 c (List.mem_cons_of_mem _ hc)⟩
      obtain ⟨e, he, ee⟩ := List.mem_map.mp m
      obtain ⟨x, rfl⟩ := tx2 d List.mem_cons_self
      obtain ⟨y, rfl⟩ := tx2 e (List.mem_cons_of_mem _ he)
      simp only at ee
      rw [← ee]
      exact he
  · intro y hy
    obtain ⟨d, hd, rfl⟩ := List.mem_map.mp hy
    exact List.mem_map.mpr ⟨d, hi d ((GS.mem_ded (nk_tx tx)).mp hd), rfl⟩
theorem called_fun {fs : List PyData} (h : Good fs) {p : PyData} (hp : p ∈ fs.map headD) (st : Store) : ∃ r, m_lines_of [.val (.tuple fs), .val p] st = .ok (.val r) st ∧ ∀ s, m_called_in [.val r] s = .ok (.loc s.length) (s ++ [.lst (calS fs p)]) := by
  obtain ⟨f, rs, hf, er, e, hr⟩ := h.lines hp
  refine ⟨.tuple rs, lines_some h.ok e st, fun s => ?_⟩
  rw [called_ok h.nam hr (by rw [← er]; exact h.calls hf)]
  simp only [calS, calD, e]
/-- what can be reached by calls -/
inductive Rch (c : PyData → List PyData) (p : PyData) : PyData → Prop
  | base {x : PyData} : x ∈ c p → Rch c p x
  | step {y x : PyData} : Rch c p y → x ∈ c y → Rch c p x
theorem rch_all {c : PyData → List PyData} {p : PyData} {found : List PyData} (h1 : ∀ x ∈ found, Rch c p x) (h2 : ∀ x ∈ c p, x ∈ found) (h3 : ∀ y ∈ found, ∀ x ∈ c y, x ∈ found) : ∀ x, x ∈ found ↔ Rch c p x := fun x => ⟨h1 x, fun h => by
  induction h with
  | base hx => exact h2 _ hx
  | step _ hx ih => exact h3 _ ih _ hx⟩
theorem in_any {N xs : List PyData} (hN : Nam N) (hx : inN N xs) {d : PyData} : inAny d xs = true ↔ d ∈ xs := by
  unfold inAny
  rw [List.any_eq_true]
  constructor
  · rintro ⟨y, hy, e⟩
    obtain ⟨x, rfl, _⟩ := hN.tx y (hx y hy)
    cases d with
    | str z => simp at e; rw [← e]; exact hy
    | _ => simp [PyData.eqv] at e
  · intro h
    obtain ⟨x, rfl, _⟩ := hN.tx d (hx d h)
    exact ⟨_, h, by simp⟩
end Yk06
namespace Yk06
open PySem L2 B
structure CI (fs : List PyData) (p : PyData) (due found : List PyData) : Prop where
  nd : found.Nodup
  fn : inN (fs.map headD) found
  dn : inN (fs.map headD) due
  r1 : ∀ x ∈ found, Rch (calD fs) p x
  r2 : ∀ x ∈ due, Rch (calD fs) p x
  c1 : ∀ x ∈ calD fs p, x ∈ found ∨ x ∈ due
  c2 : ∀ y ∈ found, ∀ x ∈ calD fs y, x ∈ found ∨ x ∈ due
theorem nd_few {N xs : List PyData} (hN : Nam N) (nd : xs.Nodup) (hx : inN N xs) : xs.length ≤ N.length := by
  have tx : ∀ c ∈ xs, ∃ x, c = PyData.str x := fun c hc => by obtain ⟨x, e, _⟩ := hN.tx c (hx c hc); exact ⟨x, e⟩
  have e := GS.few_of (l := poolS xs) (b := poolS N) ?_ ?_
  · unfold poolS at e
    rw [List.length_map, List.length_map] at e
    exact e
  · clear hx
    induction xs with
    | nil => exact List.nodup_nil
    | cons d l ih =>
      have nd := List.nodup_cons.mp nd
      refine List.nodup_cons.mpr ⟨fun m => nd.1 ?_, ih nd.2 fun c hc => tx c (List.mem_cons_of_mem _ hc)⟩
      obtain ⟨e, he, ee⟩ := List.mem_map.mp m
      obtain ⟨x, rfl⟩ := tx d List.mem_cons_self
      obtain ⟨y, rfl⟩ := tx e (List.mem_cons_of_mem _ he)
      simp only at ee
      rw [← ee]
      exact he
  · intro y hy
    obtain ⟨d, hd, rfl⟩ := List.mem_map.mp hy
    exact List.mem_map.mpr ⟨d, hx d hd, rfl⟩
theorem can_some {fs : List PyData} (h : Good fs) {p : PyData} (hp : p ∈ fs.map headD) {st : Store} (hs : Pl st) : wpx noE (m_can_call [.val (.tuple fs), .val p] st) fun d s => ∃ xs, (xs.Nodup ∧ inN (fs.map headD) xs ∧ ∀ x, x ∈ xs ↔ Rch (calD fs) p x) ∧ d = .val (.tuple (sortP xs)) ∧ s = st := by
  obtain ⟨r, e1, e2⟩ := called_fun h hp st
  have hl := h.len
  have hN := h.nam
  have nl : (fs.map headD).length ≤ 8 := by rw [List.length_map]; exact hl.2
  have start : CI fs p (calS fs p) [] := ⟨List.nodup_nil, (fun c h => by cases h), fun c hc => h.cal p c (((h.calS p).1 c).mp hc), (fun c h => by cases h), fun x hx => Rch.base (((h.calS p).1 x).mp hx), fun x hx => Or.inr (((h.calS p).1 x).mpr hx), fun c h => by cases h⟩
  simp [m_can_call, b_can_call, e1, e2]
  refine wp_whF (I := fun n env s => ∃ due found e4 ex, CI fs p due found ∧ (n = (9 - found.length) * 10 + due.length ∧ n ≤ 200) ∧ env = [some (.val (.tuple fs)), some (.val p), some (.loc st.length), some (.loc (st.length + 1)), e4] ∧ s = st ++ .lst due :: .lst found :: ex) ?_ _ (9 * 10 + (calS fs p).length) _ _ ⟨calS fs p, [], none, [], start, ⟨rfl, by have := (h.calS p).2; omega⟩, rfl, by simp⟩ ?_
  · rintro n env s ⟨due, found, e4, ex, hI, ⟨rfl, h200⟩, rfl, rfl⟩
    simp
    by_cases h0 : due = []
    · subst h0
      simp
      refine ⟨sortOk_strs fun x hx => by obtain ⟨a, e, _⟩ := hN.tx x (hI.fn x hx); exact ⟨a, e⟩, hs.ok _, found, ⟨hI.nd, hI.fn, rch_all hI.r1 (fun x hx => (hI.c1 x hx).elim id fun z => by cases z) fun y hy x hx => (hI.c2 y hy x hx).elim id fun z => by cases z⟩, rfl⟩
    · rw [if_neg h0]
      obtain ⟨ds, y, rfl⟩ : ∃ ds y, due = ds ++ [y] := ⟨due.dropLast, due.getLast h0, (List.dropLast_concat_getLast h0).symm⟩
      have hy : y ∈ fs.map headD := hI.dn y (by simp)
      have ey : (ds ++ [y])[(ds ++ [y]).length - 1]? = some y := by simp
      rw [ey]
      have fl := nd_few hN hI.nd hI.fn
      have yd : y.depth = 0 := by obtain ⟨a, e, _⟩ := hN.tx y hy; rw [e]; rfl
      refine ⟨by rw [yd]; omega, ?_⟩
      by_cases hin : inAny y found = true
      · rw [if_pos hin]
        have hin := (in_any hN hI.fn).mp hin
        refine ⟨_, ?_, ds, found, ⟨hI.nd, hI.fn, fun c hc => hI.dn c (by simp [hc]), hI.r1, fun x hx => hI.r2 x (by simp [hx]), fun x hx => ?_, fun z hz x hx => ?_⟩, ⟨rfl, ?_⟩, by simp, rfl⟩
        · rw [List.length_append]; simp
        rotate_left 2
        · rw [List.length_append] at h200; omega
        · rcases hI.c1 x hx with k | k
          · exact .inl k
          · rcases List.mem_append.mp k with k | k
            · exact .inr k
            · rw [List.mem_singleton.mp k]; exact .inl hin
        · rcases hI.c2 z hz x hx with k | k
          · exact .inl k
          · rcases List.mem_append.mp k with k | k
            · exact .inr k
            · rw [List.mem_singleton.mp k]; exact .inl hin
      · rw [if_neg hin]
        have hin : y ∉ found := fun k => hin ((in_any hN hI.fn).mpr k)
        refine ⟨by omega, ?_⟩
        obtain ⟨r', f1, f2⟩ := called_fun h hy (st ++ O.lst (ds ++ [y]).dropLast :: O.lst (found ++ [y]) :: ex)
        have e0 : (ds ++ [y]).dropLast = ds := by simp
        have ry := hI.r2 y (by simp)
        have cs := h.calS y
        have nd2 : (found ++ [y]).Nodup := by
          rw [List.nodup_append]
          refine ⟨hI.nd, by simp, fun a ha b hb e => hin ?_⟩
          rw [← List.mem_singleton.mp hb, ← e]; exact ha
        have fn2 : inN (fs.map headD) (found ++ [y]) := fun c hc => by
          rcases List.mem_append.mp hc with k | k
          · exact hI.fn c k
          · rw [List.mem_singleton.mp k]; exact hy
        have fl2 := nd_few hN nd2 fn2
        rw [List.length_append] at fl2
        rw [e0] at f1
        simp [f1, f2]
        have CI2 : CI fs p (ds ++ calS fs y) (found ++ [y]) := by
          refine ⟨nd2, fn2, fun c hc => ?_, fun x hx => ?_, fun x hx => ?_, fun x hx => ?_, fun z hz x hx => ?_⟩
          · rcases List.mem_append.mp hc with k | k
            · exact hI.dn c (by simp [k])
            · exact h.cal y c ((cs.1 c).mp k)
          · rcases List.mem_append.mp hx with k | k
            · exact hI.r1 x k
            · rw [List.mem_singleton.mp k]; exact ry
          · rcases List.mem_append.mp hx with k | k
            · exact hI.r2 x (by simp [k])
            · exact .step ry ((cs.1 x).mp k)
          · rcases hI.c1 x hx with k | k
            · exact .inl (by simp [k])
            · rcases List.mem_append.mp k with k | k
              · exact .inr (by simp [k])
              · exact .inl (by simp [List.mem_singleton.mp k])
          · rcases List.mem_append.mp hz with hz | hz
            · rcases hI.c2 z hz x hx with k | k
              · exact .inl (by simp [k])
              · rcases List.mem_append.mp k with k | k
                · exact .inr (by simp [k])
                · exact .inl (by simp [List.mem_singleton.mp k])
            · rw [List.mem_singleton.mp hz] at hx
              exact .inr (List.mem_append_right _ ((cs.1 x).mpr hx))
        rw [List.length_append, List.length_singleton] at h200
        have c9 := cs.2
        refine ⟨by omega, _, ?_, _, _, CI2, ⟨rfl, ?_⟩, rfl, rfl⟩
        · simp only [List.length_append, List.length_singleton]; omega
        · simp only [List.length_append, List.length_singleton]; omega
  · have := (h.calS p).2
    omega
theorem can_none {fs : List PyData} (h : Good fs) {p : PyData} (hp : p ∉ fs.map headD) {st : Store} (hs : Pl st) : m_can_call [.val (.tuple fs), .val p] st = .exc (notUse "name" p) st := by
  refine of_wpX ?_
  simp [m_can_call, b_can_call, lines_none h.ok (h.none hp)]
  exact ⟨hs.ok _, by simp [eOk, fOk, dOk]⟩
end Yk06
namespace Yk06
open PySem L2 B
theorem cal_flat {fs : List PyData} (h : Good fs) {p : PyData} (hp : p ∈ fs.map headD) : fs.flatMap (fun f => if PyData.eqv (fstD f) p = true then (rowsD f).flatMap callsN else []) = calD fs p := by
  have nd := nms_nodup h.nm
  have ok := h.ok
  obtain ⟨g, hg, rfl⟩ := List.mem_map.mp hp
  unfold calD linesF
  clear hp h
  induction fs with
  | nil => cases hg
  | cons f fs ih =>
    obtain ⟨x, rs, rfl, _⟩ := ok f List.mem_cons_self
    obtain ⟨y, ss, rfl, _⟩ := ok g hg
    have nd' := List.nodup_cons.mp nd
    rw [List.flatMap_cons, List.find?_cons]
    by_cases e : x = y
    · subst e
      have rest : fs.flatMap (fun f => if PyData.eqv (fstD f) (headD (.tuple [.str x, .tuple ss])) = true then (rowsD f).flatMap callsN else []) = [] := by
        rw [List.flatMap_eq_nil_iff]
        intro k hk
        obtain ⟨z, us, rfl, _⟩ := ok k (List.mem_cons_of_mem _ hk)
        by_cases ez : z = x
        · subst ez
          exact absurd (List.mem_map.mpr ⟨_, List.mem_map.mpr ⟨_, hk, rfl⟩, rfl⟩) nd'.1
        · simp [fstD, headD, ez]
      rw [rest]
      simp [fstD, headD, rowsD, sndD]
    · have e1 : PyData.eqv (fstD (.tuple [.str x, .tuple rs])) (headD (.tuple [.str y, .tuple ss])) = false := by simp [fstD, headD, e]
      rw [e1]
      have hg2 : PyData.tuple [.str y, .tuple ss] ∈ fs := by
        rcases List.mem_cons.mp hg with k | k
        · cases k; exact absurd rfl e
        · exact k
      have := ih nd'.2 (fun f hf => ok f (List.mem_cons_of_mem _ hf)) hg2
      simpa using this
theorem cal_len {fs : List PyData} (h : Good fs) (p : PyData) : (calD fs p).length ≤ 120 := by
  unfold calD linesF
  split
  · rename_i rs e
    obtain ⟨f, hf, e2⟩ := Option.map_eq_some_iff.mp e
    have hf := List.mem_of_find?_eq_some hf
    obtain ⟨x, ss, rfl, _, hr, lr⟩ := h.ok f hf
    cases e2
    have : ∀ (l : List PyData), (∀ r ∈ l, RowOk r) → (l.flatMap callsN).length ≤ 10 * l.length := by
      intro l
      induction l with
      | nil => simp
      | cons r l ih =>
        intro hl
        rw [List.flatMap_cons, List.length_append, List.length_cons]
        have := ih fun q hq => hl q (List.mem_cons_of_mem _ hq)
        obtain ⟨cs, ws, hs, rfl, _, _, _, lc, _⟩ := hl r List.mem_cons_self
        have := List.length_filter_le noN cs
        have e : callsN (.tuple [.tuple cs, .tuple ws, .tuple hs]) = cs.filter noN := rfl
        rw [e]
        omega
    have := this _ hr
    omega
  · simp
theorem callees_ok {fs : List PyData} (h : Good fs) {p : PyData} (hp : p ∈ fs.map headD) {st : Store} : wpx noE (m__law_callees [.val (.tuple fs), .val p] st) fun d s => d = .loc st.length ∧ s = st ++ [.lst (calD fs p)] := by
  rw [← cal_flat h hp]
  obtain ⟨px, rfl, _⟩ := h.nam.tx p hp
  have lim : ∀ i, ((fs.take i).flatMap (fun f => if PyData.eqv (fstD f) (.str px) = true then (rowsD f).flatMap callsN else [])).length ≤ 1000 := by
    intro i
    have e := List.take_append_drop i fs
    have h1 : ((fs.take i).flatMap (fun f => if PyData.eqv (fstD f) (.str px) = true then (rowsD f).flatMap callsN else [])).length ≤ (fs.flatMap (fun f => if PyData.eqv (fstD f) (.str px) = true then (rowsD f).flatMap callsN else [])).length := by
      have e := congrArg (fun l => (l.flatMap (fun f => if PyData.eqv (fstD f) (.str px) = true then (rowsD f).flatMap callsN else [])).length) (List.take_append_drop i fs)
      simp only [List.flatMap_append, List.length_append] at e
      omega
    refine Nat.le_trans h1 ?_
    rw [cal_flat h hp]
    exact Nat.le_trans (cal_len h _) (by omega)
  simp [m__law_callees, b__law_callees]
  refine wp_forF (I := fun i e s => (∃ a b c d, e = [some (.val (.tuple fs)), some (.val (.str px)), some (.loc st.length), a, b, c, d]) ∧ s = st ++ [.lst ((fs.take i).flatMap (fun f => if PyData.eqv (fstD f) (.str px) = true then (rowsD f).flatMap callsN else []))]) _ _ _ ⟨⟨none, none, none, none, rfl⟩, by simp⟩ ?_ ?_
  · rintro i f e s hi ⟨⟨a, b, c, d, rfl⟩, hs⟩
    rw [hs]; clear hs s
    have l1 := lim (i + 1)
    rw [take_flat hi] at l1 ⊢
    generalize (fs.take i).flatMap (fun f => if PyData.eqv (fstD f) (.str px) = true then (rowsD f).flatMap callsN else []) = A at l1 ⊢
    obtain ⟨x, rs, rfl, _, hr, lr⟩ := h.ok f (List.mem_of_getElem? hi)
    by_cases e : x = px
    · subst e
      have e2 : (if PyData.eqv (fstD (.tuple [.str x, .tuple rs])) (.str x) = true then (rowsD (.tuple [.str x, .tuple rs])).flatMap callsN else []) = rs.flatMap callsN := by simp [fstD, rowsD]
      rw [e2] at l1 ⊢
      simp [kill]
      refine wp_forF (I := fun k e s => (∃ c d, e = [some (.val (.tuple fs)), some (.val (.str x)), some (.loc st.length), some (.val (.str x)), some (.val (.tuple rs)), c, d]) ∧ s = st ++ [.lst (A ++ (rs.take k).flatMap callsN)]) _ _ _ ⟨⟨c, d, rfl⟩, by simp⟩ ?_ ?_
      · rintro k r e s hk ⟨⟨c, d, rfl⟩, hs⟩
        rw [hs]; clear hs s
        have l2 : (A ++ (rs.take (k + 1)).flatMap callsN).length ≤ 1000 := by
          refine Nat.le_trans ?_ l1
          rw [List.length_append, List.length_append]
          have : (rs.take (k + 1)).flatMap callsN ++ (rs.drop (k + 1)).flatMap callsN = rs.flatMap callsN := by rw [← List.flatMap_append, List.take_append_drop]
          rw [← this, List.length_append]
          omega
        rw [take_flat hk] at l2 ⊢
        rw [← List.append_assoc] at l2 ⊢
        generalize A ++ (rs.take k).flatMap callsN = B at l2 ⊢
        obtain ⟨cs, ws, hs, rfl, hcs, _, _, lcs, _, _⟩ := hr r (List.mem_of_getElem? hk)
        simp [kill]
        refine lc_filter noN id (fun y hy => ?_) (by rw [sizeLine_eq]; omega) ?_
        · obtain ⟨z, rfl, _⟩ := hcs y hy
          by_cases e : z = Str.ofString ""
          · simp [noN, e]
          · simp [noN, e]
        · rw [List.map_id]
          have e3 : callsN (.tuple [.tuple cs, .tuple ws, .tuple hs]) = cs.filter noN := rfl
          rw [e3] at l2 ⊢
          rw [List.length_append] at l2
          simp
          omega
      · rintro e s ⟨⟨c, d, rfl⟩, hs⟩
        rw [hs]; clear hs s
        rw [List.take_length]
        simp [kill]
    · have e2 : (if PyData.eqv (fstD (.tuple [.str x, .tuple rs])) (.str px) = true then (rowsD (.tuple [.str x, .tuple rs])).flatMap callsN else []) = [] := by simp [fstD, e]
      rw [e2]
      simp [kill, e]
  · rintro e s ⟨⟨a, b, c, d, rfl⟩, hs⟩
    rw [hs]; clear hs s
    rw [List.take_length]
    simp
end Yk06
namespace Yk06
open PySem L2 B
structure LI (fs : List PyData) (p : PyData) (j : Nat) (lot found : List PyData) : Prop where
  nd : found.Nodup
  fn : inN (fs.map headD) found
  ln : inN (fs.map headD) lot
  r1 : ∀ x ∈ found, Rch (calD fs) p x
  r2 : ∀ x ∈ lot, Rch (calD fs) p x
  c1 : ∀ x ∈ calD fs p, x ∈ found ∨ x ∈ lot
  c2 : ∀ y ∈ found, ∀ x ∈ calD fs y, x ∈ found ∨ x ∈ lot
  gr : (∀ x ∈ lot, x ∈ found) ∨ j ≤ found.length
  ll : lot.length ≤ 1200
structure II (fs : List PyData) (p : PyData) (lot f0 : List PyData) (i : Nat) (found late : List PyData) : Prop where
  nd : found.Nodup
  fn : inN (fs.map headD) found
  ln : inN (fs.map headD) late
  r1 : ∀ x ∈ found, Rch (calD fs) p x
  r2 : ∀ x ∈ late, Rch (calD fs) p x
  c1 : ∀ x ∈ calD fs p, x ∈ found ∨ x ∈ late ∨ x ∈ lot.drop i
  c2 : ∀ y ∈ found, ∀ x ∈ calD fs y, x ∈ found ∨ x ∈ late ∨ x ∈ lot.drop i
  gr : (found = f0 ∧ late = []) ∨ ((∃ x ∈ lot, x ∉ f0) ∧ f0.length + 1 ≤ found.length)
  ge : ∀ x ∈ f0, x ∈ found
  gl : f0.length ≤ found.length
  ll : late.length ≤ 120 * found.length
theorem LI.start {fs : List PyData} {p : PyData} {j : Nat} {lot found : List PyData} (h : LI fs p j lot found) : II fs p lot found 0 found [] :=
  ⟨h.nd, h.fn, (fun c h => by cases h), h.r1, (fun c h => by cases h), fun x hx => (h.c1 x hx).imp id Or.inr, fun y hy x hx => (h.c2 y hy x hx).imp id Or.inr, .inl ⟨rfl, rfl⟩, fun x hx => hx, Nat.le_refl _, by simp⟩
theorem II.stop {fs : List PyData} {p : PyData} {j : Nat} {lot f0 found late : List PyData} {i : Nat} (hi : lot.length ≤ i) (hN : Nam (fs.map headD)) (h0 : LI fs p j lot f0) (h : II fs p lot f0 i found late) : LI fs p (j + 1) late found := by
  have dr : lot.drop i = [] := List.drop_eq_nil_of_le hi
  refine ⟨h.nd, h.fn, h.ln, h.r1, h.r2, fun x hx => ?_, fun y hy x hx => ?_, ?_, ?_⟩
  · have := h.c1 x hx
    rw [dr] at this
    rcases this with k | k | k
    · exact .inl k
    · exact .inr k
    · cases k
  · have := h.c2 y hy x hx
    rw [dr] at this
    rcases this with k | k | k
    · exact .inl k
    · exact .inr k
    · cases k
  · rcases h.gr with ⟨_, e⟩ | ⟨⟨x, hx, hn⟩, g⟩
    · left; rw [e]; intro x hx; cases hx
    · rcases h0.gr with k | k
      · exact absurd (k x hx) hn
      · right; omega
  · have := nd_few hN h.nd h.fn
    have := hN.few
    have := h.ll
    omega
theorem II.old {fs : List PyData} {p : PyData} {lot f0 found late : List PyData} {i : Nat} {x : PyData} (hx : lot[i]? = some x) (hin : x ∈ found) (h : II fs p lot f0 i found late) : II fs p lot f0 (i + 1) found late := by
  have hi := (List.getElem?_eq_some_iff.mp hx)
  have e : lot.drop i = x :: lot.drop (i + 1) := by
    obtain ⟨h1, h2⟩ := hi
    rw [List.drop_eq_getElem_cons h1, h2]
  have cut : ∀ {z : PyData}, z ∈ found ∨ z ∈ late ∨ z ∈ lot.drop i → z ∈ found ∨ z ∈ late ∨ z ∈ lot.drop (i + 1) := fun {z} k => by
    rw [e] at k
    rcases k with k | k | k
    · exact .inl k
    · exact .inr (.inl k)
    · rcases List.mem_cons.mp k with rfl | k
      · exact .inl hin
      · exact .inr (.inr k)
  exact ⟨h.nd, h.fn, h.ln, h.r1, h.r2, fun z hz => cut (h.c1 z hz), fun y hy z hz => cut (h.c2 y hy z hz), h.gr, h.ge, h.gl, h.ll⟩
theorem II.new {fs : List PyData} (hg : Good fs) {p : PyData} {j : Nat} {lot f0 found late : List PyData} (h0 : LI fs p j lot f0) {i : Nat} {x : PyData} (hx : lot[i]? = some x) (hin : x ∉ found) (h : II fs p lot f0 i found late) : II fs p lot f0 (i + 1) (found ++ [x]) (late ++ calD fs x) := by
  have hi := (List.getElem?_eq_some_iff.mp hx)
  have e : lot.drop i = x :: lot.drop (i + 1) := by
    obtain ⟨h1, h2⟩ := hi
    rw [List.drop_eq_getElem_cons h1, h2]
  have hm := List.mem_of_getElem? hx
  have cut : ∀ {z : PyData}, z ∈ found ∨ z ∈ late ∨ z ∈ lot.drop i → z ∈ found ++ [x] ∨ z ∈ late ++ calD fs x ∨ z ∈ lot.drop (i + 1) := fun {z} k => by
    rw [e] at k
    rcases k with k | k | k
    · exact .inl (List.mem_append_left _ k)
    · exact .inr (.inl (List.mem_append_left _ k))
    · rcases List.mem_cons.mp k with rfl | k
      · exact .inl (List.mem_append_right _ (List.mem_singleton.mpr rfl))
      · exact .inr (.inr k)
  have rx := h0.r2 x hm
  have cl := cal_len hg x
  have h5 := h.ll
  refine ⟨?_, fun c hc => ?_, fun c hc => ?_, fun c hc => ?_, fun c hc => ?_, fun z hz => cut (h.c1 z hz), fun y hy z hz => ?_, .inr ⟨⟨x, hm, fun k => hin (h.ge x k)⟩, ?_⟩, fun c hc => List.mem_append_left _ (h.ge c hc), ?_, ?_⟩
  · rw [List.nodup_append]
    refine ⟨h.nd, by simp, fun a ha b hb e => hin ?_⟩
    rw [← List.mem_singleton.mp hb, ← e]; exact ha
  · rcases List.mem_append.mp hc with k | k
    · exact h.fn c k
    · rw [List.mem_singleton.mp k]; exact h0.ln x hm
  · rcases List.mem_append.mp hc with k | k
    · exact h.ln c k
    · exact hg.cal x c k
  · rcases List.mem_append.mp hc with k | k
    · exact h.r1 c k
    · rw [List.mem_singleton.mp k]; exact rx
  · rcases List.mem_append.mp hc with k | k
    · exact h.r2 c k
    · exact .step rx k
  · rcases List.mem_append.mp hy with k | k
    · exact cut (h.c2 y k z hz)
    · rw [List.mem_singleton.mp k] at hz
      exact .inr (.inl (List.mem_append_right _ hz))
  · have := h.gl
    rw [List.length_append, List.length_singleton]; omega
  · have := h.gl
    rw [List.length_append, List.length_singleton]; omega
  · rw [List.length_append, List.length_append, List.length_singleton]; omega
theorem full {N xs : List PyData} (hN : Nam N) (nd : xs.Nodup) (hx : inN N xs) (hl : N.length ≤ xs.length) : ∀ y ∈ N, y ∈ xs := fun y hy => by
  by_cases h : y ∈ xs
  · exact h
  · have := nd_few hN (xs := y :: xs) (List.nodup_cons.mpr ⟨h, nd⟩) (fun c hc => by rcases List.mem_cons.mp hc with rfl | hc; exact hy; exact hx c hc)
    rw [List.length_cons] at this
    omega
theorem LI.done {fs : List PyData} (hg : Good fs) {p : PyData} {lot found : List PyData} (h : LI fs p fs.length lot found) : ∀ x, x ∈ found ↔ Rch (calD fs) p x := by
  have sub : ∀ x ∈ lot, x ∈ found := by
    rcases h.gr with k | k
    · exact k
    · exact fun x hx => full hg.nam h.nd h.fn (by rw [List.length_map]; exact k) x (h.ln x hx)
  exact rch_all h.r1 (fun x hx => (h.c1 x hx).elim id (sub x)) fun y hy x hx => (h.c2 y hy x hx).elim id (sub x)
end Yk06
namespace Yk06
open PySem L2 B
abbrev inB : PyData → B.Env → M Fl := fun x env => bd (setV 6 (D.val x) env) (killS [6] (ifS (tst (op2 (inF true) (gv 6) (gv 2)))
              (seqS (dropS (methL appF (gv 2) (aCons (gv 6) aNil)))
                (asgS (op2 addF (gv 5) (callF m__law_callees (aCons (gv 0) (aCons (gv 6) aNil)))) (setV 5)))
              nxS))
abbrev EV (fs : List PyData) (p : PyData) (n : Nat) (lotD : D) (j : Nat) (late : List PyData) : B.Env := [some (.val (.tuple fs)), some (.val p), some (.loc n), some lotD, some (.val (.int j)), some (.val (.list late)), none]
theorem turn {fs : List PyData} (h : Good fs) {p : PyData} {j : Nat} {lot f0 found late : List PyData} (h0 : LI fs p j lot f0) {i : Nat} {x : PyData} (hx : lot[i]? = some x) (hI : II fs p lot f0 i found late) {lotD : D} {st ex : Store} {Q : Fl → Store → Prop} :
    wpx noE (inB x (EV fs p st.length lotD j late) (st ++ .lst found :: ex)) (kL (fun e s => ∃ found late ex', II fs p lot f0 (i + 1) found late ∧ e = EV fs p st.length lotD j late ∧ s = st ++ .lst found :: (ex ++ ex')) Q) := by
  have hN := h.nam
  have hm := h0.ln x (List.mem_of_getElem? hx)
  have xd : x.depth = 0 := by obtain ⟨a, e, _⟩ := hN.tx x hm; rw [e]; rfl
  have fl := nd_few hN hI.nd hI.fn
  have few := hN.few
  have ll := hI.ll
  simp
  refine ⟨by rw [xd]; omega, ?_⟩
  by_cases hin : inAny x found = true
  · have hin' := (in_any hN hI.fn).mp hin
    simp [hin]
    exact ⟨_, _, hI.old hx hin', rfl, rfl⟩
  · have hin' : x ∉ found := fun k => hin ((in_any hN hI.fn).mpr k)
    have cl := cal_len h x
    simp [hin]
    refine ⟨by omega, ?_⟩
    refine wp_mono (callees_ok h hm) ?_
    rintro _ _ ⟨rfl, rfl⟩
    simp
    exact ⟨by omega, _, _, hI.new h h0 hx hin', rfl, rfl⟩
theorem reached_ok {fs : List PyData} (h : Good fs) {p : PyData} (hp : p ∈ fs.map headD) {st : Store} (hs : Pl st) : wpx noE (m__law_reached [.val (.tuple fs), .val p] st) fun d s => ∃ xs, (xs.Nodup ∧ inN (fs.map headD) xs ∧ ∀ x, x ∈ xs ↔ Rch (calD fs) p x) ∧ d = .val (.tuple (sortP xs)) ∧ s = st := by
  have hl := h.len
  have hN := h.nam
  have nl : (fs.map headD).length ≤ 8 := by rw [List.length_map]; exact hl.2
  have start : LI fs p 0 (calD fs p) [] := ⟨List.nodup_nil, (fun c h => by cases h), h.cal p, (fun c h => by cases h), fun x hx => Rch.base hx, fun x hx => Or.inr hx, (fun c h => by cases h), .inr (Nat.zero_le _), Nat.le_trans (cal_len h p) (by omega)⟩
  simp [m__law_reached, b__law_reached]
  refine wp_mono (callees_ok h hp) ?_
  rintro _ _ ⟨rfl, rfl⟩
  simp
  refine ⟨rgOk.of (by omega) (by omega), ?_⟩
  refine wp_forF (I := fun j env s => ∃ lot found ex lotD, LI fs p j lot found ∧ ((lotD = .loc (st.length + 1) ∧ ∃ ex', ex = .lst lot :: ex') ∨ lotD = .val (.list lot)) ∧ env = [some (.val (.tuple fs)), some (.val p), some (.loc st.length), some lotD, none, none, none] ∧ s = st ++ .lst found :: ex) _ _ _ ⟨_, _, _, _, start, .inl ⟨rfl, [], rfl⟩, rfl, by simp⟩ ?_ ?_
  · rintro j x env s hx ⟨lot, f0, ex, lotD, hL, hD, rfl, rfl⟩
    obtain ⟨rfl, hj⟩ := range_get hx
    rcases hD with ⟨rfl, ex, rfl⟩ | rfl
    · simp
      refine wp_forO (body := inB) (I := fun i xs e s => xs = lot ∧ ∃ found late ex', II fs p lot f0 i found late ∧ e = EV fs p st.length (.loc (st.length + 1)) j late ∧ s = st ++ .lst found :: (.lst lot :: ex ++ ex')) ?_ ?_ ?_ (lim := 1200) ?_ _ _ lot _ _ ⟨rfl, f0, [], [], hL.start, rfl, by simp⟩ (by omega) (by omega)
      · rintro i xs e s ⟨rfl, found, late, ex', hI, rfl, rfl⟩
        simp
      · rintro i xs y e s hy ⟨rfl, found, late, ex', hI, rfl, rfl⟩
        refine wp_mono (turn h hL hy hI (Q := fun _ _ => False)) ?_
        rintro f s hf
        cases f with
        | nx e =>
          obtain ⟨found, late, ex2, hI, rfl, rfl⟩ := hf
          exact ⟨_, rfl, found, late, ex' ++ ex2, hI, rfl, by simp⟩
        | ct e =>
          obtain ⟨found, late, ex2, hI, rfl, rfl⟩ := hf
          exact ⟨_, rfl, found, late, ex' ++ ex2, hI, rfl, by simp⟩
        | _ => exact hf.elim
      · rintro i xs e s hy ⟨rfl, found, late, ex', hI, rfl, rfl⟩
        have hi := List.getElem?_eq_none_iff.mp hy
        have fin := hI.stop hi hN hL
        simp [kill]
        exact ⟨_, _, fin, _, .inr ⟨rfl, rfl, rfl⟩⟩
      · rintro i xs e s ⟨rfl, _⟩
        exact hL.ll
    · simp
      refine wp_forF (body := inB) (I := fun i e s => ∃ found late ex', II fs p lot f0 i found late ∧ e = EV fs p st.length (.val (.list lot)) j late ∧ s = st ++ .lst found :: (ex ++ ex')) _ _ _ ⟨f0, [], [], hL.start, rfl, by simp⟩ ?_ ?_
      · rintro i y e s hy ⟨found, late, ex', hI, rfl, rfl⟩
        refine wp_mono (turn h hL hy hI (Q := fun _ _ => False)) ?_
        rintro f s hf
        cases f with
        | nx e =>
          obtain ⟨found, late, ex2, hI, rfl, rfl⟩ := hf
          exact ⟨found, late, ex' ++ ex2, hI, rfl, by simp⟩
        | ct e =>
          obtain ⟨found, late, ex2, hI, rfl, rfl⟩ := hf
          exact ⟨found, late, ex' ++ ex2, hI, rfl, by simp⟩
        | _ => exact hf.elim
      · rintro e s ⟨found, late, ex', hI, rfl, rfl⟩
        have fin := hI.stop (Nat.le_refl _) hN hL
        simp [kill]
        exact ⟨_, _, fin, _, .inr ⟨rfl, rfl, rfl⟩⟩
  · rintro env s ⟨lot, found, ex, lotD, hL, hD, rfl, rfl⟩
    simp at hL
    simp
    exact ⟨sortOk_strs fun x hx => by obtain ⟨a, e, _⟩ := hN.tx x (hL.fn x hx); exact ⟨a, e⟩, hs.ok _, found, ⟨hL.nd, hL.fn, hL.done h⟩, rfl⟩
end Yk06
namespace Yk06
open PySem L2 B
open PySem.Spec PyProof.Rows PySem.W in
theorem sort_same {N xs ys : List PyData} (hN : Nam N) (hx : inN N xs) (nx : xs.Nodup) (ny : ys.Nodup) (h : ∀ x, x ∈ xs ↔ x ∈ ys) : sortP xs = sortP ys := by
  have p : xs.Perm ys := (List.perm_ext_iff_of_nodup nx ny).mpr h
  have TL : TotalLe (PySem.W.dataLe false id) := sortLe_total _ _ _
  have pw : ∀ l : List PyData, (sortP l).Pairwise (fun x y => PySem.W.dataLe false id x y = true) := fun l => List.pairwise_mergeSort (fun a b c => TL.trans a b c) (fun a b => by have := TL.total a b; simpa using this) _
  refine GS.sorted_unique (r := fun x y => PySem.W.dataLe false id x y = true) ((List.mergeSort_perm ..).trans (p.trans (List.mergeSort_perm ..).symm)) (pw xs) (pw ys) fun d hd e he h1 h2 => ?_
  obtain ⟨a, rfl, _⟩ := hN.tx d (hx d (mem_sortP.mp hd))
  obtain ⟨b, rfl, _⟩ := hN.tx e (hx e (mem_sortP.mp he))
  exact GS.le_anti rfl h1 h2 (k := .text a) (k' := .text b) rfl rfl
theorem heard_use {w : Str} {p : PyData} {st : Store} {ask : M D} (ha : ask st = .exc (notUse w p) st) (hp : Pl st) : h__law_heard ask st = .ok (.val (.tuple [.str "use", .str w, p])) st := by
  refine heard_exc ha (by simp) hp.err hp ?_
  have l1 : (Str.ofString "word" == Str.ofString "at") = false := by decide +kernel
  simp [List.lookup, l1, PyData.eqv, PyData.eqvAll, PyData.depth, PyData.depthAll]
theorem heard_told {p : PyData} {st : Store} {ask : M D} (ha : ask st = .ok (.val p) st) : h__law_heard ask st = .ok (.val (.tuple [.str "told", p])) st := heard_ok ha
/-- one item asked -/
theorem ask_in {fs : List PyData} (h : Good fs) {p : PyData} (hp : p ∈ fs.map headD) {st : Store} (hs : Pl st) : ∃ xs, (inN (fs.map headD) xs ∧ xs.length ≤ 9) ∧ m_can_call [.val (.tuple fs), .val p] st = .ok (.val (.tuple xs)) st ∧ m__law_reached [.val (.tuple fs), .val p] st = .ok (.val (.tuple xs)) st := by
  obtain ⟨_, _, e1, xs, ⟨n1, i1, m1⟩, rfl, rfl⟩ := wp_iff.mp (can_some h hp hs)
  obtain ⟨_, _, e2, ys, ⟨n2, i2, m2⟩, rfl, rfl⟩ := wp_iff.mp (reached_ok h hp hs)
  have e : sortP xs = sortP ys := sort_same h.nam i1 n1 n2 fun x => (m1 x).trans (m2 x).symm
  have := nd_few h.nam n1 i1
  have := h.nam.few
  exact ⟨sortP xs, ⟨fun c hc => i1 c (mem_sortP.mp hc), by rw [len_sortP]; omega⟩, e1, by rw [e]; exact e2⟩
theorem told_sz {fs : List PyData} (h : Good fs) {xs : List PyData} (hx : inN (fs.map headD) xs) (hl : xs.length ≤ 9) : Lit 2000 2 (.tuple [.str "told", .tuple xs]) := by
  refine (Lit.two (a := 62) (b := 9 * 84 + 3) (k := 1) (Lit.str (m := 6) (Sm.lit (by decide +kernel))) (Lit.tup (n := 82) (k := 0) (m := 9) (fun x hm => ?_) hl)).mono (by decide) (by decide)
  obtain ⟨a, rfl, ha⟩ := h.nam.tx x (hx x hm)
  exact Lit.str ha
def ttB : PyData → Bool
  | .str x => litB 100 0 (.str x) && decide (x.length ≤ 8) && litB 100 0 (.str (Txt.upper x)) && decide ((Txt.upper x).length ≤ 16)
  | _ => false
theorem Good.tit {fs : List PyData} {x : Str} (h : Good fs) (hm : PyData.str x ∈ fs.map headD) : (Lit 100 0 (.str x) ∧ x.length ≤ 8) ∧ Lit 100 0 (.str (Txt.upper x)) ∧ (Txt.upper x).length ≤ 16 := by
  have h1 : NMS.all (fun l => l.all ttB) = true := by decide +kernel
  have h2 := List.all_eq_true.mp (List.all_eq_true.mp h1 _ h.nm) (.str x) hm
  simp only [ttB, Bool.and_eq_true, decide_eq_true_eq] at h2
  exact ⟨⟨Lit.of h2.1.1.1, h2.1.1.2⟩, Lit.of h2.1.2, h2.2⟩
theorem right_ok {fs : List PyData} (h : Good fs) {st : Store} (hs : Pl st) : wpx noE (m__law_right [.val (.tuple fs)] st) fun a s => a = .val (.bool true) ∧ s = st := by
  have hl := h.len
  have hN := h.nam
  have z := ((Sz.tuple (n := 205117) (k := 5) (m := 8) (fun f hf => fun_sz (h.ok f hf)) hl.2).mono (n' := 2100000) (k' := 8) (by decide) (by decide)).fits (by decide) (by decide)
  have z2 := z.2.1
  rw [sizeLine_eq] at z2
  have tl : (fs.map headD).length = fs.length := List.length_map ..
  obtain ⟨a, ha, ea⟩ := atI_some (xs := fs.map headD) (i := 0) (by omega) (by omega)
  obtain ⟨x, rfl, hx⟩ := hN.tx a ha
  obtain ⟨b, hb, eb⟩ := atI_some (xs := fs.map headD) (i := ((fs.map headD).length : Int) - 1) (by omega) (by omega)
  rw [atI_get (by omega) (by omega)] at eb
  have eb : atI (fs.map headD) (-1) = some (b) := by
    unfold atI ixN
    rw [if_neg (by omega), if_pos (by omega), Option.bind_some, ← eb]
    exact congrArg (fun k => (fs.map headD)[k]?) (by omega)
  obtain ⟨y, rfl, hy⟩ := hN.tx b hb
  obtain ⟨⟨tx1, tx2⟩, _, _⟩ := h.tit ha
  obtain ⟨⟨ty1, ty2⟩, ty3, ty4⟩ := h.tit hb
  simp [m__law_right, b__law_right, z.1, z.2.2, z2]
  refine lc_map headD (fun q hq => ?_) (by rw [sizeLine_eq]; omega) ?_
  · obtain ⟨w, rs, rfl, _⟩ := h.ok q hq
    simp [headD]
  simp [ea, eb]
  refine ⟨by omega, by omega, by omega, by omega, ?_⟩
  generalize hst : [PyData.str (Str.ofString ""), PyData.str (Str.ofString "nobody"), PyData.str (x ++ Str.ofString "x"), PyData.str (Txt.upper y), PyData.none, PyData.int 0, PyData.bool true] = strays
  refine wp_forF (I := fun i e s => e = [some (.val (.tuple fs)), some (.val (.str (PyData.tuple fs).shown)), some (.val (.list (fs.map headD))), some (.val (.list strays)), none, none, none] ∧ s = st) _ _ _ ⟨rfl, rfl⟩ ?_ ?_
  · rintro i q e s hi ⟨rfl, hs'⟩
    rw [hs']; clear hs' s
    have lq : Lit 3000 2 q := by
      have hm := List.mem_of_getElem? hi
      simp only [List.mem_append, List.mem_cons, List.not_mem_nil, or_false] at hm
      rcases hm with hm | rfl | rfl | rfl | rfl | rfl | rfl | rfl | rfl | rfl
      · obtain ⟨w, rfl, hw⟩ := hN.tx q hm
        exact (Lit.str hw).mono (by decide) (Nat.zero_le _)
      · exact Lit.of (by decide +kernel)
      · exact Lit.of (by decide +kernel)
      · exact (Lit.str (hx.cat (n := 1) (Sm.lit (by decide +kernel)))).mono (by decide) (Nat.zero_le _)
      · exact ty3.mono (by decide) (by decide)
      · exact Lit.of (by decide +kernel)
      · exact Lit.of (by decide +kernel)
      · exact Lit.of (by decide +kernel)
      · exact (Lit.lst (n := 100) (k := 0) (m := 1) (fun p hp => by rw [List.mem_singleton.mp hp]; exact tx1) (by simp)).mono (by decide) (by decide)
      · exact (Lit.tup (n := 100) (k := 0) (m := 1) (fun p hp => by rw [List.mem_singleton.mp hp]; exact tx1) (by simp)).mono (by decide) (by decide)
    by_cases hq : q ∈ fs.map headD
    · obtain ⟨xs, ⟨i1, l1⟩, e1, e2⟩ := ask_in h hq hs
      have zz := (told_sz h i1 l1).sz.fits (by decide) (by decide)
      have z3 := zz.2.1
      rw [sizeLine_eq] at z3
      have hin := (in_any hN (fun c hc => hc)).mpr hq
      obtain ⟨w, rfl, _⟩ := hN.tx q hq
      have hh : ∀ env : B.Env, env[0]? = some (some (.val (.tuple fs))) → env[4]? = some (some (.val (.str w))) → h__law_heard (callF m_can_call (aCons (gv 0) (aCons (gv 4) aNil)) env) st = .ok (.val (.tuple [.str "told", .tuple xs])) st := fun env h0 h4 => heard_told (of_wp (by simp [h0, h4, e1]))
      simp [hin, hh, e2, zz.1, z3, zz.2.2]
    · have hh : ∀ env : B.Env, env[0]? = some (some (.val (.tuple fs))) → env[4]? = some (some (.val q)) → h__law_heard (callF m_can_call (aCons (gv 0) (aCons (gv 4) aNil)) env) st = .ok (.val (.tuple [.str "use", .str "name", q])) st := fun env h0 h4 => heard_use (of_wpX (by simp [h0, h4, can_none h hq hs])) hs
      have zz := (Lit.three (a := 52) (b := 52) (c := 3000) (k := 2) (Lit.str (m := 5) (Sm.lit (by decide +kernel))) (Lit.str (m := 5) (Sm.lit (by decide +kernel))) lq : Lit _ 3 (PyData.tuple [.str "use", .str "name", q])).sz.fits (by decide) (by decide)
      have z3 := zz.2.1
      rw [sizeLine_eq] at z3
      have hin : inAny q (fs.map headD) = false := by
        cases hc : inAny q (fs.map headD) with
        | false => rfl
        | true => exact absurd ((in_any hN (fun c hc => hc)).mp hc) hq
      have dq := lq.2.2
      simp [hin, hh, zz.1, z3, zz.2.2]
      obtain ⟨b, eb⟩ : ∃ b, kitB (tyName q) "str" = some b := by cases q <;> exact ⟨_, rfl⟩
      rw [eb]
      intro _
      omega
  · rintro e s ⟨rfl, hs'⟩
    rw [hs']; clear hs' s
    simp [z.1, z.2.2, z2]
end Yk06
namespace Yk06
open PySem L2 B
abbrev EI : PyData := .tuple [.tuple [.str "", .str "g"], .tuple [.tuple [.str "back"]], .tuple []]
abbrev G0 : PyData := .tuple [.tuple [.str ""], .tuple [.tuple [.str "back"]], .tuple []]
abbrev FL : List PyData := [.tuple [.str "main", .tuple [.tuple [.tuple [.str "f"], .tuple [.int 1], .tuple [.tuple [.str "", .int 2]]], .tuple [.tuple [.str ""], .tuple [.tuple [.str "back"], .int 0], .tuple []], EI]],
  .tuple [.str "f", .tuple [.tuple [.tuple [.str ""], .tuple [.int 1, .tuple [.str "fail", .str "bad"]], .tuple []], EI]], .tuple [.str "g", .tuple [G0]]]
abbrev AL : List PyData := [.tuple [.str "again", .tuple [.tuple [.tuple [.str "", .str "again"], .tuple [.int 1], .tuple []], .tuple [.tuple [.str ""], .tuple [.tuple [.str "back"]], .tuple []]]]]
theorem first_ok (st : Store) : m__law_first [] st = .ok (.val (.tuple FL)) st := by
  refine of_wp ?_
  simp [m__law_first, b__law_first]
theorem fl_good : Good FL := by
  refine ⟨?_, by simp [NMS, headD], ?_⟩
  · obtain ⟨fs, e, h, _⟩ := prog_of (p := .tuple FL) (by decide +kernel)
    cases e
    exact h
  · intro f hf r hr c hc
    simp only [List.mem_cons, List.not_mem_nil, or_false] at hf
    rcases hf with rfl | rfl | rfl <;> simp [rowsD] at hr
    · rcases hr with rfl | rfl | rfl <;> simp [callsD] at hc <;> (try rcases hc with rfl | rfl) <;> simp_all [Cal, headD]
    · rcases hr with rfl | rfl <;> simp [callsD] at hc <;> (try rcases hc with rfl | rfl) <;> simp_all [Cal, headD]
    · subst hr; simp [callsD] at hc; simp_all [Cal, headD]
theorem al_good : Good AL := by
  refine ⟨?_, by simp [NMS, headD], ?_⟩
  · obtain ⟨fs, e, h, _⟩ := prog_of (p := .tuple AL) (by decide +kernel)
    cases e
    exact h
  · intro f hf r hr c hc
    simp only [List.mem_cons, List.not_mem_nil, or_false] at hf
    subst hf
    simp [rowsD] at hr
    rcases hr with rfl | rfl <;> simp [callsD] at hc <;> (try rcases hc with rfl | rfl) <;> simp_all [Cal, headD]
theorem can_eq {fs : List PyData} (h : Good fs) {p : PyData} (hp : p ∈ fs.map headD) {st : Store} (hs : Pl st) {xs : List PyData} (nd : xs.Nodup) (h1 : ∀ x ∈ xs, Rch (calD fs) p x) (h2 : ∀ x ∈ calD fs p, x ∈ xs) (h3 : ∀ y ∈ xs, ∀ x ∈ calD fs y, x ∈ xs) : m_can_call [.val (.tuple fs), .val p] st = .ok (.val (.tuple (sortP xs))) st := by
  obtain ⟨_, _, e1, ys, ⟨n1, i1, m1⟩, rfl, rfl⟩ := wp_iff.mp (can_some h hp hs)
  rw [e1, sort_same h.nam i1 n1 nd fun x => (m1 x).trans (rch_all h1 h2 h3 x).symm]
theorem sort_two {α : Type} (le : α → α → Bool) (a b : α) : [a, b].mergeSort le = if le a b = true then [a, b] else [b, a] := by
  simp only [List.mergeSort, List.MergeSort.Internal.splitInTwo]
  simp [List.merge, List.mergeSort]
theorem c_main : calD FL (.str "main") = [.str "f", .str "g"] := by rfl
theorem c_f : calD FL (.str "f") = [.str "g"] := by rfl
theorem c_g : calD FL (.str "g") = [] := by rfl
theorem c_again : calD AL (.str "again") = [.str "again"] := by rfl
theorem ask_main {st : Store} (hs : Pl st) : m_can_call [.val (.tuple FL), .val (.str "main")] st = .ok (.val (.tuple [.str "f", .str "g"])) st := by
  have e := can_eq fl_good (p := .str "main") (by simp [headD]) hs (xs := [.str "f", .str "g"]) (List.nodup_cons.mpr ⟨fun h => by have h := List.mem_singleton.mp h; injection h with e; exact absurd e (by decide +kernel), by simp⟩) (fun x hx => .base (by rw [c_main]; exact hx)) (fun x hx => by rw [c_main] at hx; exact hx) (fun y hy x hx => by
    simp only [List.mem_cons, List.not_mem_nil, or_false] at hy
    rcases hy with rfl | rfl
    · rw [c_f] at hx; simp at hx; simp [hx]
    · rw [c_g] at hx; cases hx)
  rw [e]
  unfold sortP
  rw [sort_two, if_pos (by decide +kernel)]
theorem ask_g {st : Store} (hs : Pl st) : m_can_call [.val (.tuple FL), .val (.str "g")] st = .ok (.val (.tuple [])) st := by
  have e := can_eq fl_good (p := .str "g") (by simp [headD]) hs (xs := []) List.nodup_nil (fun x hx => by cases hx) (fun x hx => by rw [c_g] at hx; exact hx) (fun y hy x hx => by cases hy)
  rw [e]
  simp [sortP]
theorem ask_again {st : Store} (hs : Pl st) : m_can_call [.val (.tuple AL), .val (.str "again")] st = .ok (.val (.tuple [.str "again"])) st := by
  have e := can_eq al_good (p := .str "again") (by simp [headD]) hs (xs := [.str "again"]) (by simp) (fun x hx => .base (by rw [c_again]; exact hx)) (fun x hx => by rw [c_again] at hx; exact hx) (fun y hy x hx => by
    rw [List.mem_singleton.mp hy, c_again] at hx; exact hx)
  rw [e]
  simp [sortP]
theorem linked_good {fs : List PyData} (h : ∀ f ∈ fs, FunOk f ∧ InF (fs.map headD) f) (hn : ∃ n, 1 ≤ n ∧ n ≤ 8 ∧ fs.map headD = LT8.take n) : Good fs := by
  obtain ⟨n, h1, h8, e⟩ := hn
  refine ⟨fun f hf => (h f hf).1, ?_, fun f hf => (h f hf).2⟩
  rw [e]
  unfold NMS
  rcases (by omega : n = 1 ∨ n = 2 ∨ n = 3 ∨ n = 4 ∨ n = 5 ∨ n = 6 ∨ n = 7 ∨ n = 8) with rfl | rfl | rfl | rfl | rfl | rfl | rfl | rfl <;> simp only [List.mem_cons, true_or, or_true]
theorem drawn_good {fs : List PyData} (h : ∀ f ∈ fs, FunOk f) (hi : ∀ f ∈ fs, InF (fs.map headD) f) (hp : Pooled fs) : Good fs := by
  refine ⟨h, ?_, hi⟩
  unfold Pooled at hp
  simp only [List.mem_cons, List.not_mem_nil, or_false, PyData.list.injEq] at hp
  unfold NMS
  simp only [List.mem_cons, List.not_mem_nil, or_false]
  rcases hp with e | e | e | e | e <;> simp only [e, true_or, or_true]
theorem great_good {fs : List PyData} (h : ∀ f ∈ fs, FunOk f ∧ InF TIT f) (e : fs.map headD = TIT) : Good fs := ⟨fun f hf => (h f hf).1, by rw [e]; simp [NMS], fun f hf => by rw [e]; exact (h f hf).2⟩
theorem feed_pl {f : O} (hf : isFeed f) : Pl [f] := by obtain ⟨cs, a, l, c, rfl⟩ := hf; exact Pl.nil.cons_dk _
theorem main_t (ns : List Int) (h : ns.length ≤ 63) : wpx noE (m_law [.frz (ns.map PyData.int)] []) fun d _ => d = .val (.bool true) := by
  simp only [m_law, fnOf]
  simp [b_law, -e_seqS]
  generalize hN : some (D.frz (ns.map PyData.int)) = N
  refine seq_cut (fun e s => e = [N, some (.loc 0), none, none, none] ∧ ∃ f, isFeed f ∧ s = [f]) ?_ ?_
  · subst hN
    simp [feed_ok ns h]
    exact ⟨_, _, _, _, rfl⟩
  rintro _ _ ⟨rfl, f, hf, rfl⟩
  refine seq_cut (fun e s => ∃ W : List PyData, (∀ p ∈ W, ∃ fs, p = .tuple fs ∧ Good fs) ∧ W.length ≤ 5 ∧ e = [N, some (.loc 0), some (.val (.list W)), none, none] ∧ ∃ f, isFeed f ∧ s = [f]) ?_ ?_
  · simp
    refine wp_mono (linked_ok hf Pl.nil) ?_
    rintro d s ⟨f1, f, ⟨⟨a1, a2⟩, hf⟩, rfl, rfl⟩
    have g1 := linked_good a1 a2
    simp
    refine wp_mono (linked_ok hf Pl.nil) ?_
    rintro d s ⟨f2, f, ⟨⟨b1, b2⟩, hf⟩, rfl, rfl⟩
    have g2 := linked_good b1 b2
    simp
    refine wp_mono (drawn_names hf Pl.nil) ?_
    rintro d s ⟨p, f, ⟨⟨f3, rfl, ⟨f3', e, hfs, _, _⟩, hpo, hin⟩, hf⟩, rfl, rfl⟩
    cases e
    have g3 := drawn_good hfs hin hpo
    simp [first_ok]
    refine wp_mono (great_names (feed_pl hf)) ?_
    rintro d s ⟨f5, ⟨c1, c2⟩, rfl, rfl⟩
    have g5 := great_good c1 c2
    simp
    refine ⟨_, fun p hp => ?_, ?_, rfl, hf⟩
    · simp only [List.mem_cons, List.not_mem_nil, or_false] at hp
      rcases hp with rfl | rfl | rfl | rfl | rfl
      · exact ⟨_, rfl, g1⟩
      · exact ⟨_, rfl, g2⟩
      · exact ⟨_, rfl, g3⟩
      · exact ⟨_, rfl, fl_good⟩
      · exact ⟨_, rfl, g5⟩
    · simp
  clear hf f
  rintro _ _ ⟨W, hW, lW, rfl, f, hf, rfl⟩
  have pl := feed_pl hf
  refine seq_cut (fun e s => e = [N, some (.loc 0), some (.val (.list W)), none, none] ∧ s = [f]) ?_ ?_
  · simp
    refine lc_filter (fun _ => false) id (fun q hq => ?_) (by rw [sizeLine_eq]; omega) ?_
    · obtain ⟨fs, rfl, hg⟩ := hW q hq
      simp
      refine wp_mono (right_ok hg pl) ?_
      rintro d s ⟨rfl, rfl⟩
      simp
    · have fe : W.filter (fun _ => false) = [] := List.filter_eq_nil_iff.mpr (by simp)
      rw [fe]
      simp [PyData.eqv, PyData.eqvAll, PyData.depth, PyData.depthAll]
  rintro _ _ ⟨rfl, rfl⟩
  refine seq_cut (fun e s => e = [N, some (.loc 0), some (.val (.list W)), some (.val (.tuple AL)), none] ∧ s = [f]) ?_ ?_
  · simp
  rintro _ _ ⟨rfl, rfl⟩
  simp [pick, ask_again pl, first_ok, ask_main pl, ask_g pl]
  exact ⟨by decide +kernel, by decide +kernel, by decide +kernel, by decide +kernel, by decide +kernel, by decide +kernel⟩
theorem main : ∀ ns : List Int, ns.length ≤ 63 → ∃ st, m_law [.frz (ns.map PyData.int)] [] = .ok (.val (.bool true)) st := fun ns h => wp_end (main_t ns h)
end Yk06
namespace Yk06
open PySem L2 B
def txt_mk {P : Program} {K : W.Frag} {h : Heap} {mg : Str → Option Value} (X : K.In h) (G : h.Ns mainGlobals mg)
    {f0 : Addr} {od0 an0 : Option Addr} {sl0 : Array (Option Value)} {oc0 kV0 dc0 pm0 ct0 : Value}
    {cd0 : Value}
    {f1 : Addr} {od1 an1 : Option Addr} {sl1 : Array (Option Value)} {oc1 kV1 dc1 pm1 ct1 : Value}
    {cd1 : Value}
    {f2 : Addr} {od2 an2 : Option Addr} {sl2 : Array (Option Value)} {oc2 kV2 dc2 pm2 ct2 : Value}
    {cd2 : Value}
    {f3 : Addr} {od3 an3 : Option Addr} {sl3 : Array (Option Value)} {oc3 kV3 dc3 pm3 ct3 : Value}
    {cd3 : Value}
    {f4 : Addr} {od4 an4 : Option Addr} {sl4 : Array (Option Value)} {oc4 kV4 dc4 pm4 ct4 : Value}
    {cd4 : Value}
    {f5 : Addr} {od5 an5 : Option Addr} {sl5 : Array (Option Value)} {oc5 kV5 dc5 pm5 ct5 : Value}
    {cd5 : Value}
    {f6 : Addr} {od6 an6 : Option Addr} {sl6 : Array (Option Value)} {oc6 kV6 dc6 pm6 ct6 : Value}
    {cd6 : Value}
    {f7 : Addr} {od7 an7 : Option Addr} {sl7 : Array (Option Value)} {oc7 kV7 dc7 pm7 ct7 : Value}
    {cd7 : Value}
    {f8 : Addr} {od8 an8 : Option Addr} {sl8 : Array (Option Value)} {oc8 kV8 dc8 pm8 ct8 : Value}
    {cd8 : Value}
    {f9 : Addr} {od9 an9 : Option Addr} {sl9 : Array (Option Value)} {oc9 kV9 dc9 pm9 ct9 : Value}
    {cd9 : Value}
    {f10 : Addr} {od10 an10 : Option Addr} {sl10 : Array (Option Value)} {oc10 kV10 dc10 pm10 ct10 : Value}
    {cd10 : Value}
    {f11 : Addr} {od11 an11 : Option Addr} {sl11 : Array (Option Value)} {oc11 kV11 dc11 pm11 ct11 : Value}
    {cd11 : Value}
    {f12 : Addr} {od12 an12 : Option Addr} {sl12 : Array (Option Value)} {oc12 kV12 dc12 pm12 ct12 : Value}
    {cd12 : Value}
    {f13 : Addr} {od13 an13 : Option Addr} {sl13 : Array (Option Value)} {oc13 kV13 dc13 pm13 ct13 : Value}
    {cq13 tq13 : Addr}
    {cc13 : Value} {cdd13 : Option Addr} {vq13 : Array Value} {ccs13 : Array (Option Value)}
    {f14 : Addr} {od14 an14 : Option Addr} {sl14 : Array (Option Value)} {oc14 kV14 dc14 pm14 ct14 : Value}
    {cd14 : Value}
    {t_NO_CALL : Tok}
    {C_StepError : Addr}
    {C_PaperError : Addr}
    {C_ProgramError : Addr}
    {C_SessionError : Addr}
    {C_TextError : Addr}
    {C_InvalidPaper : Addr}
    {C_NotUsable : Addr}
    {C_InvalidText : Addr}
    {C_InvalidRow : Addr}
    {I_NotUsable cda_NotUsable cc_NotUsable : Addr} {oc_NotUsable ct_NotUsable kV_NotUsable dc_NotUsable pm_NotUsable : Value} {od_NotUsable an_NotUsable : Option Addr} {osl_NotUsable : Array (Option Value)}
    {cl_NotUsable : Value} {cld_NotUsable : Option Addr} {csl_NotUsable : Array (Option Value)} {ccl_NotUsable : Value} {cdd_NotUsable : Option Addr} {vs_NotUsable : Array Value} {ccs_NotUsable : Array (Option Value)} {file_NotUsable : Str} {tf_NotUsable : Tok}
    {nm_NotUsable q_NotUsable : Str} {N_NotUsable : Addr} {bs_NotUsable bm_NotUsable : List Value} {sn_NotUsable : List Str} {sub_NotUsable : List Value} {ab_NotUsable : Bool} {col_NotUsable : Option Bool} {dd_NotUsable : Option Addr} {k0_NotUsable k1_NotUsable k2_NotUsable k3_NotUsable k5_NotUsable : Option Value}
    {p0_NotUsable p1_NotUsable p2_NotUsable p3_NotUsable p4_NotUsable p5_NotUsable p6_NotUsable q1_NotUsable q2_NotUsable q3_NotUsable q4_NotUsable r1_NotUsable r2_NotUsable r3_NotUsable r4_NotUsable : Pos}
    {pl_NotUsable : PySem.Env → Sem Bool}
    {ar_NotUsable : Arg}
    (a0 : PySem.W.nsIn K mainGlobals "called_in" = some (some (.ref f0)))
    (l0 : K.lookup f0 = some ⟨oc0, od0, .func (PySem.W.fnOf "called_in" "called_in" (defArgs s_called_in) (defBody s_called_in) (defScope s_called_in) .none kV0 dc0 pm0 an0 cd0 ct0), sl0⟩)
    (c0 : PySem.W.codeIn K cd0 "called_in" = true)
    (k0 : PySem.W.keepIn K (.ref f0) = true)
    (a1 : PySem.W.nsIn K mainGlobals "_law_feed" = some (some (.ref f1)))
    (l1 : K.lookup f1 = some ⟨oc1, od1, .func (PySem.W.fnOf "_law_feed" "_law_feed" (defArgs s__law_feed) (defBody s__law_feed) (defScope s__law_feed) .none kV1 dc1 pm1 an1 cd1 ct1), sl1⟩)
    (c1 : PySem.W.codeIn K cd1 "_law_feed" = true)
    (k1 : PySem.W.keepIn K (.ref f1) = true)
    (a2 : PySem.W.nsIn K mainGlobals "_law_draw" = some (some (.ref f2)))
    (l2 : K.lookup f2 = some ⟨oc2, od2, .func (PySem.W.fnOf "_law_draw" "_law_draw" (defArgs s__law_draw) (defBody s__law_draw) (defScope s__law_draw) .none kV2 dc2 pm2 an2 cd2 ct2), sl2⟩)
    (c2 : PySem.W.codeIn K cd2 "_law_draw" = true)
    (k2 : PySem.W.keepIn K (.ref f2) = true)
    (a3 : PySem.W.nsIn K mainGlobals "_law_heard" = some (some (.ref f3)))
    (l3 : K.lookup f3 = some ⟨oc3, od3, .func (PySem.W.fnOf "_law_heard" "_law_heard" (defArgs s__law_heard) (defBody s__law_heard) (defScope s__law_heard) .none kV3 dc3 pm3 an3 cd3 ct3), sl3⟩)
    (c3 : PySem.W.codeIn K cd3 "_law_heard" = true)
    (k3 : PySem.W.keepIn K (.ref f3) = true)
    (a4 : PySem.W.nsIn K mainGlobals "_law_first" = some (some (.ref f4)))
    (l4 : K.lookup f4 = some ⟨oc4, od4, .func (PySem.W.fnOf "_law_first" "_law_first" (defArgs s__law_first) (defBody s__law_first) (defScope s__law_first) .none kV4 dc4 pm4 an4 cd4 ct4), sl4⟩)
    (c4 : PySem.W.codeIn K cd4 "_law_first" = true)
    (k4 : PySem.W.keepIn K (.ref f4) = true)
    (a5 : PySem.W.nsIn K mainGlobals "_law_great" = some (some (.ref f5)))
    (l5 : K.lookup f5 = some ⟨oc5, od5, .func (PySem.W.fnOf "_law_great" "_law_great" (defArgs s__law_great) (defBody s__law_great) (defScope s__law_great) .none kV5 dc5 pm5 an5 cd5 ct5), sl5⟩)
    (c5 : PySem.W.codeIn K cd5 "_law_great" = true)
    (k5 : PySem.W.keepIn K (.ref f5) = true)
    (a6 : PySem.W.nsIn K mainGlobals "_law_callees" = some (some (.ref f6)))
    (l6 : K.lookup f6 = some ⟨oc6, od6, .func (PySem.W.fnOf "_law_callees" "_law_callees" (defArgs s__law_callees) (defBody s__law_callees) (defScope s__law_callees) .none kV6 dc6 pm6 an6 cd6 ct6), sl6⟩)
    (c6 : PySem.W.codeIn K cd6 "_law_callees" = true)
    (k6 : PySem.W.keepIn K (.ref f6) = true)
    (a7 : PySem.W.nsIn K mainGlobals "_law_row" = some (some (.ref f7)))
    (l7 : K.lookup f7 = some ⟨oc7, od7, .func (PySem.W.fnOf "_law_row" "_law_row" (defArgs s__law_row) (defBody s__law_row) (defScope s__law_row) .none kV7 dc7 pm7 an7 cd7 ct7), sl7⟩)
    (c7 : PySem.W.codeIn K cd7 "_law_row" = true)
    (k7 : PySem.W.keepIn K (.ref f7) = true)
    (a8 : PySem.W.nsIn K mainGlobals "_law_linked" = some (some (.ref f8)))
    (l8 : K.lookup f8 = some ⟨oc8, od8, .func (PySem.W.fnOf "_law_linked" "_law_linked" (defArgs s__law_linked) (defBody s__law_linked) (defScope s__law_linked) .none kV8 dc8 pm8 an8 cd8 ct8), sl8⟩)
    (c8 : PySem.W.codeIn K cd8 "_law_linked" = true)
    (k8 : PySem.W.keepIn K (.ref f8) = true)
    (a9 : PySem.W.nsIn K mainGlobals "_law_reached" = some (some (.ref f9)))
    (l9 : K.lookup f9 = some ⟨oc9, od9, .func (PySem.W.fnOf "_law_reached" "_law_reached" (defArgs s__law_reached) (defBody s__law_reached) (defScope s__law_reached) .none kV9 dc9 pm9 an9 cd9 ct9), sl9⟩)
    (c9 : PySem.W.codeIn K cd9 "_law_reached" = true)
    (k9 : PySem.W.keepIn K (.ref f9) = true)
    (a10 : PySem.W.nsIn K mainGlobals "lines_of" = some (some (.ref f10)))
    (l10 : K.lookup f10 = some ⟨oc10, od10, .func (PySem.W.fnOf "lines_of" "lines_of" (defArgs s_lines_of) (defBody s_lines_of) (defScope s_lines_of) .none kV10 dc10 pm10 an10 cd10 ct10), sl10⟩)
    (c10 : PySem.W.codeIn K cd10 "lines_of" = true)
    (k10 : PySem.W.keepIn K (.ref f10) = true)
    (a11 : PySem.W.nsIn K mainGlobals "_law_drawn" = some (some (.ref f11)))
    (l11 : K.lookup f11 = some ⟨oc11, od11, .func (PySem.W.fnOf "_law_drawn" "_law_drawn" (defArgs s__law_drawn) (defBody s__law_drawn) (defScope s__law_drawn) .none kV11 dc11 pm11 an11 cd11 ct11), sl11⟩)
    (c11 : PySem.W.codeIn K cd11 "_law_drawn" = true)
    (k11 : PySem.W.keepIn K (.ref f11) = true)
    (a12 : PySem.W.nsIn K mainGlobals "can_call" = some (some (.ref f12)))
    (l12 : K.lookup f12 = some ⟨oc12, od12, .func (PySem.W.fnOf "can_call" "can_call" (defArgs s_can_call) (defBody s_can_call) (defScope s_can_call) .none kV12 dc12 pm12 an12 cd12 ct12), sl12⟩)
    (c12 : PySem.W.codeIn K cd12 "can_call" = true)
    (k12 : PySem.W.keepIn K (.ref f12) = true)
    (a13 : PySem.W.nsIn K mainGlobals "_law_right" = some (some (.ref f13)))
    (l13 : K.lookup f13 = some ⟨oc13, od13, .func (PySem.W.fnOf "_law_right" "_law_right" (defArgs s__law_right) (defBody s__law_right) (defScope s__law_right) .none kV13 dc13 pm13 an13 (.ref cq13) ct13), sl13⟩)
    (c13 : PySem.W.codeIn K (.ref cq13) "_law_right" = true)
    (k13 : PySem.W.keepIn K (.ref f13) = true)
    (lq13 : K.lookup cq13 = some ⟨cc13, cdd13, .fields vq13, ccs13⟩)
    (vt13 : vq13[11]? = some (.ref tq13))
    (ti13 : PySem.W.tabIn K "_law_right" = some (cq13, tq13))
    (tk13 : K.lookup tq13 = none)
    (a14 : PySem.W.nsIn K mainGlobals "law" = some (some (.ref f14)))
    (l14 : K.lookup f14 = some ⟨oc14, od14, .func (PySem.W.fnOf "law" "law" (defArgs s_law) (defBody s_law) (defScope s_law) .none kV14 dc14 pm14 an14 cd14 ct14), sl14⟩)
    (c14 : PySem.W.codeIn K cd14 "law" = true)
    (k14 : PySem.W.keepIn K (.ref f14) = true)
    (z_int : PySem.W.nsIn K mainGlobals "int" = some none)
    (z_isinstance : PySem.W.nsIn K mainGlobals "isinstance" = some none)
    (z_len : PySem.W.nsIn K mainGlobals "len" = some none)
    (z_list : PySem.W.nsIn K mainGlobals "list" = some none)
    (z_range : PySem.W.nsIn K mainGlobals "range" = some none)
    (z_repr : PySem.W.nsIn K mainGlobals "repr" = some none)
    (z_set : PySem.W.nsIn K mainGlobals "set" = some none)
    (z_sorted : PySem.W.nsIn K mainGlobals "sorted" = some none)
    (z_str : PySem.W.nsIn K mainGlobals "str" = some none)
    (z_tuple : PySem.W.nsIn K mainGlobals "tuple" = some none)
    (g_NO_CALL : PySem.W.nsIn K mainGlobals "NO_CALL" = some (some (.str "" t_NO_CALL)))
    (gc_StepError : PySem.W.nsIn K mainGlobals "StepError" = some (some (.ref C_StepError)))
    (gc_PaperError : PySem.W.nsIn K mainGlobals "PaperError" = some (some (.ref C_PaperError)))
    (gc_ProgramError : PySem.W.nsIn K mainGlobals "ProgramError" = some (some (.ref C_ProgramError)))
    (gc_SessionError : PySem.W.nsIn K mainGlobals "SessionError" = some (some (.ref C_SessionError)))
    (gc_TextError : PySem.W.nsIn K mainGlobals "TextError" = some (some (.ref C_TextError)))
    (gc_InvalidPaper : PySem.W.nsIn K mainGlobals "InvalidPaper" = some (some (.ref C_InvalidPaper)))
    (gc_NotUsable : PySem.W.nsIn K mainGlobals "NotUsable" = some (some (.ref C_NotUsable)))
    (gc_InvalidText : PySem.W.nsIn K mainGlobals "InvalidText" = some (some (.ref C_InvalidText)))
    (gc_InvalidRow : PySem.W.nsIn K mainGlobals "InvalidRow" = some (some (.ref C_InvalidRow)))
    (zsup : PySem.W.nsIn K mainGlobals "super" = some none)
    (opq : PySem.W.nsIn K cStatics "thirdparty.any" = some none)
    (top_ : (P.main.scope.names.lookup ("super" : Str)).isSome = false)
    (xl_NotUsable : K.lookup C_NotUsable = some (PySem.excClassObj nm_NotUsable q_NotUsable C_NotUsable N_NotUsable bs_NotUsable bm_NotUsable true sn_NotUsable sub_NotUsable ab_NotUsable col_NotUsable dd_NotUsable k0_NotUsable k1_NotUsable k2_NotUsable k3_NotUsable k5_NotUsable "ValueError.__new__"))
    (xv_NotUsable : PySem.HandSPX.refsVE bm_NotUsable = true)
    (sa_NotUsable : PySem.W.findIn K (.ref C_NotUsable) "__setattr__" = some (some (.builtin "object.__setattr__")))
    (xe_NotUsable : PySem.W.subIn K (.ref C_NotUsable) (.type "BaseException") = some true)
    (xt_NotUsable : PySem.W.typeIn K (.ref C_NotUsable) = some (.type "type"))
    (xk_NotUsable : PySem.W.keepIn K (.ref C_NotUsable) = true)
    (xi_NotUsable : PySem.W.findIn K (.ref C_NotUsable) "__init__" = some (some (.ref I_NotUsable)))
    (xj_NotUsable : PySem.W.typeIn K (.ref I_NotUsable) = some (.type "function"))
    (bo_NotUsable : defBody s_NotUsable = bodyI2 "word" "at" p0_NotUsable p1_NotUsable p2_NotUsable p3_NotUsable p4_NotUsable p5_NotUsable p6_NotUsable q1_NotUsable q2_NotUsable q3_NotUsable q4_NotUsable r1_NotUsable r2_NotUsable r3_NotUsable r4_NotUsable)
    (il_NotUsable : K.lookup I_NotUsable = some ⟨oc_NotUsable, od_NotUsable, .func (PySem.W.ksFn "__init__" "NotUsable.__init__" (defArgs s_NotUsable) (defBody s_NotUsable) (defScope s_NotUsable) .none kV_NotUsable dc_NotUsable pm_NotUsable an_NotUsable (.ref cda_NotUsable) ct_NotUsable cc_NotUsable), osl_NotUsable⟩)
    (ic_NotUsable : PySem.W.codeIn K (.ref cda_NotUsable) "NotUsable.__init__" = true)
    (ia_NotUsable : ((defArgs s_NotUsable).posonlyargs ++ (defArgs s_NotUsable).args).head? = some ar_NotUsable)
    (ib_NotUsable : ar_NotUsable.arg = "self")
    (cl1_NotUsable : K.lookup cc_NotUsable = some ⟨cl_NotUsable, cld_NotUsable, .cell (some (.ref C_NotUsable)), csl_NotUsable⟩)
    (cd1_NotUsable : K.lookup cda_NotUsable = some ⟨ccl_NotUsable, cdd_NotUsable, .fields vs_NotUsable, ccs_NotUsable⟩)
    (v2_NotUsable : vs_NotUsable[2]? = some (.str file_NotUsable tf_NotUsable))
    (fi_NotUsable : ((P.main.file : Str) == file_NotUsable) = true)
    (mr_NotUsable : PySem.W.mroIn K C_NotUsable (.ref C_NotUsable) = some true)
    (sv_NotUsable : PySem.W.subIn K (.ref C_NotUsable) (.type "ValueError") = some true)
    (sp_NotUsable : PySem.W.ks_superIn K C_NotUsable C_NotUsable "__init__" = some (some (.builtin "ValueError.__init__")))
    (n1_NotUsable : PySem.W.findIn K (.ref C_NotUsable) "word" = some none)
    (n2_NotUsable : PySem.W.findIn K (.ref C_NotUsable) "at" = some none)
    (ev_NotUsable : ∀ env : PySem.Env, eval (.Call (.Attribute (.Call (.Name "super" p0_NotUsable) [] [] p1_NotUsable) "__init__" p2_NotUsable) [.Name "word" p3_NotUsable, .Name "at" p4_NotUsable] [] p5_NotUsable) env = (do
      let ov ← attributeBase (.Call (.Name "super" p0_NotUsable) [] [] p1_NotUsable) "__init__" env (eval (.Call (.Name "super" p0_NotUsable) [] [] p1_NotUsable) env)
      standAt (p2_NotUsable).atName
      let (f, first) ← holding [ov] (getMethod ov "__init__" (pl_NotUsable env))
      callWith p5_NotUsable f first (backTo p5_NotUsable (starEach [.Name "word" p3_NotUsable, .Name "at" p4_NotUsable] env)) []))
    (eg_NotUsable : PySem.W.findIn K (.ref C_NotUsable) "__getattribute__" = some (some (.builtin "BaseException.__getattribute__")))
    (eh_NotUsable : PySem.W.findIn K (.ref C_NotUsable) "__getattr__" = some none)
    (ed_NotUsable : PySem.W.hasDictIn K C_NotUsable = true)
    (ea_NotUsable : PySem.W.findIn K (.ref C_NotUsable) "__class__" = some (some (.builtin "object.__class__")))
    (em_NotUsable : PySem.W.mroIn K C_NotUsable (.type "object") = some true)
    (m_NotUsable_StepError : PySem.W.exmOne K (.ref C_NotUsable) (.ref C_StepError) = some true)
    (kit_NotUsable_InvalidPaper : PySem.W.kitOne K (.ref C_NotUsable) (.ref C_InvalidPaper) = some false)
    (kit_NotUsable_InvalidRow : PySem.W.kitOne K (.ref C_NotUsable) (.ref C_InvalidRow) = some false)
    (kit_NotUsable_InvalidText : PySem.W.kitOne K (.ref C_NotUsable) (.ref C_InvalidText) = some false)
    (kit_NotUsable_NotUsable : PySem.W.kitOne K (.ref C_NotUsable) (.ref C_NotUsable) = some true)
    (kit_NotUsable_PaperError : PySem.W.kitOne K (.ref C_NotUsable) (.ref C_PaperError) = some false)
    (kit_NotUsable_ProgramError : PySem.W.kitOne K (.ref C_NotUsable) (.ref C_ProgramError) = some true)
    (kit_NotUsable_SessionError : PySem.W.kitOne K (.ref C_NotUsable) (.ref C_SessionError) = some false)
    (kit_NotUsable_TextError : PySem.W.kitOne K (.ref C_NotUsable) (.ref C_TextError) = some false)
    (fno_NotUsable_at : PySem.W.findIn K (.ref C_NotUsable) "at" = some none)
    (fno_NotUsable_field : PySem.W.findIn K (.ref C_NotUsable) "field" = some none)
    (fno_NotUsable_line : PySem.W.findIn K (.ref C_NotUsable) "line" = some none)
    (fno_NotUsable_word : PySem.W.findIn K (.ref C_NotUsable) "word" = some none)
    (en_ : PySem.W.specialIn K (.builtin "object.__class__") "__get__" = some (some (.builtin "getset_descriptor.__get__")))
    (et_ : PySem.W.takesIn K (.builtin "object.__class__") = some true)
    : Txt P K mg := {
    a_called_in := f0, d_called_in := _, p_called_in := ⟨fun_mk (st := s_called_in) l0 c0 k0, PySem.W.mg_of X G a0, (fun_mk (st := s_called_in) l0 c0 k0).binds (ps := ["lines"]) fun _ _ _ _ _ _ us hl => match us, hl with | [_], _ => rfl⟩
    a__law_feed := f1, d__law_feed := _, p__law_feed := ⟨fun_mk (st := s__law_feed) l1 c1 k1, PySem.W.mg_of X G a1, (fun_mk (st := s__law_feed) l1 c1 k1).binds (ps := ["_law_script"]) fun _ _ _ _ _ _ us hl => match us, hl with | [_], _ => rfl⟩
    a__law_draw := f2, d__law_draw := _, p__law_draw := ⟨fun_mk (st := s__law_draw) l2 c2 k2, PySem.W.mg_of X G a2, (fun_mk (st := s__law_draw) l2 c2 k2).binds (ps := ["_law_feed_here", "_law_many"]) fun _ _ _ _ _ _ us hl => match us, hl with | [_, _], _ => rfl⟩
    a__law_heard := f3, d__law_heard := _, p__law_heard := ⟨fun_mk (st := s__law_heard) l3 c3 k3, PySem.W.mg_of X G a3, (fun_mk (st := s__law_heard) l3 c3 k3).binds (ps := ["_law_ask"]) fun _ _ _ _ _ _ us hl => match us, hl with | [_], _ => rfl⟩
    a__law_first := f4, d__law_first := _, p__law_first := ⟨fun_mk (st := s__law_first) l4 c4 k4, PySem.W.mg_of X G a4, (fun_mk (st := s__law_first) l4 c4 k4).binds (ps := []) fun _ _ _ _ _ _ us hl => match us, hl with | [], _ => rfl⟩
    a__law_great := f5, d__law_great := _, p__law_great := ⟨fun_mk (st := s__law_great) l5 c5 k5, PySem.W.mg_of X G a5, (fun_mk (st := s__law_great) l5 c5 k5).binds (ps := []) fun _ _ _ _ _ _ us hl => match us, hl with | [], _ => rfl⟩
    a__law_callees := f6, d__law_callees := _, p__law_callees := ⟨fun_mk (st := s__law_callees) l6 c6 k6, PySem.W.mg_of X G a6, (fun_mk (st := s__law_callees) l6 c6 k6).binds (ps := ["_law_whole", "_law_title"]) fun _ _ _ _ _ _ us hl => match us, hl with | [_, _], _ => rfl⟩
    a__law_row := f7, d__law_row := _, p__law_row := ⟨fun_mk (st := s__law_row) l7 c7 k7, PySem.W.mg_of X G a7, (fun_mk (st := s__law_row) l7 c7 k7).binds (ps := ["_law_feed_here", "_law_titles", "_law_size"]) fun _ _ _ _ _ _ us hl => match us, hl with | [_, _, _], _ => rfl⟩
    a__law_linked := f8, d__law_linked := _, p__law_linked := ⟨fun_mk (st := s__law_linked) l8 c8 k8, PySem.W.mg_of X G a8, (fun_mk (st := s__law_linked) l8 c8 k8).binds (ps := ["_law_feed_here"]) fun _ _ _ _ _ _ us hl => match us, hl with | [_], _ => rfl⟩
    a__law_reached := f9, d__law_reached := _, p__law_reached := ⟨fun_mk (st := s__law_reached) l9 c9 k9, PySem.W.mg_of X G a9, (fun_mk (st := s__law_reached) l9 c9 k9).binds (ps := ["_law_whole", "_law_title"]) fun _ _ _ _ _ _ us hl => match us, hl with | [_, _], _ => rfl⟩
    a_lines_of := f10, d_lines_of := _, p_lines_of := ⟨fun_mk (st := s_lines_of) l10 c10 k10, PySem.W.mg_of X G a10, (fun_mk (st := s_lines_of) l10 c10 k10).binds (ps := ["program", "name"]) fun _ _ _ _ _ _ us hl => match us, hl with | [_, _], _ => rfl⟩
    a__law_drawn := f11, d__law_drawn := _, p__law_drawn := ⟨fun_mk (st := s__law_drawn) l11 c11 k11, PySem.W.mg_of X G a11, (fun_mk (st := s__law_drawn) l11 c11 k11).binds (ps := ["_law_feed_here"]) fun _ _ _ _ _ _ us hl => match us, hl with | [_], _ => rfl⟩
    a_can_call := f12, d_can_call := _, p_can_call := ⟨fun_mk (st := s_can_call) l12 c12 k12, PySem.W.mg_of X G a12, (fun_mk (st := s_can_call) l12 c12 k12).binds (ps := ["program", "name"]) fun _ _ _ _ _ _ us hl => match us, hl with | [_, _], _ => rfl⟩
    a__law_right := f13, d__law_right := _, p__law_right := ⟨fun_mk (st := s__law_right) l13 c13 k13, PySem.W.mg_of X G a13, (fun_mk (st := s__law_right) l13 c13 k13).binds (ps := ["_law_whole"]) fun _ _ _ _ _ _ us hl => match us, hl with | [_], _ => rfl⟩
    c__law_right := cq13, t__law_right := tq13, q__law_right := rfl, ti__law_right := ti13, tk__law_right := tk13
    a_law := f14, d_law := _, p_law := ⟨fun_mk (st := s_law) l14 c14 k14, PySem.W.mg_of X G a14, (fun_mk (st := s_law) l14 c14 k14).binds (ps := ["_law_script"]) fun _ _ _ _ _ _ us hl => match us, hl with | [_], _ => rfl⟩
    n_int := PySem.W.mg_none_of X G z_int
    n_isinstance := PySem.W.mg_none_of X G z_isinstance
    n_len := PySem.W.mg_none_of X G z_len
    n_list := PySem.W.mg_none_of X G z_list
    n_range := PySem.W.mg_none_of X G z_range
    n_repr := PySem.W.mg_none_of X G z_repr
    n_set := PySem.W.mg_none_of X G z_set
    n_sorted := PySem.W.mg_none_of X G z_sorted
    n_str := PySem.W.mg_none_of X G z_str
    n_tuple := PySem.W.mg_none_of X G z_tuple
    t_NO_CALL := t_NO_CALL, g_NO_CALL := PySem.W.mg_of X G g_NO_CALL
    a_StepError := C_StepError, g_StepError := PySem.W.mg_of X G gc_StepError
    a_PaperError := C_PaperError, g_PaperError := PySem.W.mg_of X G gc_PaperError
    a_ProgramError := C_ProgramError, g_ProgramError := PySem.W.mg_of X G gc_ProgramError
    a_SessionError := C_SessionError, g_SessionError := PySem.W.mg_of X G gc_SessionError
    a_TextError := C_TextError, g_TextError := PySem.W.mg_of X G gc_TextError
    a_InvalidPaper := C_InvalidPaper, g_InvalidPaper := PySem.W.mg_of X G gc_InvalidPaper
    a_NotUsable := C_NotUsable, g_NotUsable := PySem.W.mg_of X G gc_NotUsable
    a_InvalidText := C_InvalidText, g_InvalidText := PySem.W.mg_of X G gc_InvalidText
    a_InvalidRow := C_InvalidRow, g_InvalidRow := PySem.W.mg_of X G gc_InvalidRow
    i_NotUsable := I_NotUsable, d_NotUsable := PySem.W.ksFn "__init__" "NotUsable.__init__" (defArgs s_NotUsable) (defBody s_NotUsable) (defScope s_NotUsable) (.none) kV_NotUsable dc_NotUsable pm_NotUsable an_NotUsable (.ref cda_NotUsable) ct_NotUsable cc_NotUsable, x_NotUsable := ⟨PySem.W.mg_of X G gc_NotUsable, ⟨⟨_, _, _, _, _, _, _, _, _, _, _, _, _, _, _, xl_NotUsable, xv_NotUsable⟩, sa_NotUsable, xe_NotUsable, xt_NotUsable, xk_NotUsable⟩, xi_NotUsable, xj_NotUsable, .all fun us hl => match us, hl with | [_, _, _], _ => rfl, fun w base CX => iniOk (st := s_NotUsable) ⟨⟨⟨_, _, _, _, _, _, _, _, _, _, _, _, _, _, _, xl_NotUsable, xv_NotUsable⟩, sa_NotUsable, xe_NotUsable, xt_NotUsable, xk_NotUsable⟩, ⟨_, _, _, _, _, _, _, _, _, _, _, _, _, _, rfl, il_NotUsable, ic_NotUsable, ⟨_, ia_NotUsable, ib_NotUsable⟩, ⟨_, _, _, cl1_NotUsable⟩, _, _, _, _, _, _, cd1_NotUsable, v2_NotUsable, fi_NotUsable⟩, mr_NotUsable, sv_NotUsable, sp_NotUsable, opq, top_, rfl, rfl, rfl, rfl, rfl, by decide +kernel, by decide +kernel⟩ bo_NotUsable (PySem.W.mg_none_of X G zsup) (by decide +kernel) (by decide +kernel) (by decide +kernel) n1_NotUsable n2_NotUsable pl_NotUsable ev_NotUsable (by decide +kernel) (by decide +kernel)⟩
    e_NotUsable := ⟨eg_NotUsable, eh_NotUsable, xe_NotUsable, ed_NotUsable, ea_NotUsable, en_, et_, em_NotUsable⟩, f_NotUsable := ⟨eg_NotUsable, eh_NotUsable, xe_NotUsable, ed_NotUsable⟩
    m_NotUsable_StepError := m_NotUsable_StepError
    kit_NotUsable_InvalidPaper := kit_NotUsable_InvalidPaper
    kit_NotUsable_InvalidRow := kit_NotUsable_InvalidRow
    kit_NotUsable_InvalidText := kit_NotUsable_InvalidText
    kit_NotUsable_NotUsable := kit_NotUsable_NotUsable
    kit_NotUsable_PaperError := kit_NotUsable_PaperError
    kit_NotUsable_ProgramError := kit_NotUsable_ProgramError
    kit_NotUsable_SessionError := kit_NotUsable_SessionError
    kit_NotUsable_TextError := kit_NotUsable_TextError
    fno_NotUsable_at := fno_NotUsable_at
    fno_NotUsable_field := fno_NotUsable_field
    fno_NotUsable_line := fno_NotUsable_line
    fno_NotUsable_word := fno_NotUsable_word
  }
end Yk06
open PySem PySem.W PyProof.Rows in
set_option maxRecDepth 100000 in
set_option maxHeartbeats 0 in
theorem PySem.Challenge.cw_outandover_k06_who_can_call_whom_holds : PySem.Challenge.rw_outandover_k06_who_can_call_whom.Holds := by
  w_on; o_law; k_head; (case hw => w_witness2)
  k_fill
  refine B.lawEnds (l := PySem.Challenge.rw_outandover_k06_who_can_call_whom) (m := Yk06.m_law) (k := 8) (x := "_law_script") rfl (by decide) rfl ⟨rfl, by decide, by decide⟩ (fun w h Y => PySem.W.km_in_of Y) ?F Yk06.main
  case F =>
    intro w mg mb fa h mean KX TT hmg
    letI := B.Gd.no
    refine' (fun (T : Yk06.Txt PySem.Challenge.rw_outandover_k06_who_can_call_whom.prog _ mg) => ?fin) (Yk06.txt_mk KX TT.g ?a0 ?l0 ?c0 ?k0 ?a1 ?l1 ?c1 ?k1 ?a2 ?l2 ?c2 ?k2 ?a3 ?l3 ?c3 ?k3 ?a4 ?l4 ?c4 ?k4 ?a5 ?l5 ?c5 ?k5 ?a6 ?l6 ?c6 ?k6 ?a7 ?l7 ?c7 ?k7 ?a8 ?l8 ?c8 ?k8 ?a9 ?l9 ?c9 ?k9 ?a10 ?l10 ?c10 ?k10 ?a11 ?l11 ?c11 ?k11 ?a12 ?l12 ?c12 ?k12 ?a13 ?l13 ?c13 ?k13 ?lq13 ?vt13 ?ti13 ?tk13 ?a14 ?l14 ?c14 ?k14 ?z_int ?z_isinstance ?z_len ?z_list ?z_range ?z_repr ?z_set ?z_sorted ?z_str ?z_tuple ?g_NO_CALL ?gc_StepError ?gc_PaperError ?gc_ProgramError ?gc_SessionError ?gc_TextError ?gc_InvalidPaper ?gc_NotUsable ?gc_InvalidText ?gc_InvalidRow ?zsup ?opq ?top_ ?xl_NotUsable ?xv_NotUsable ?sa_NotUsable ?xe_NotUsable ?xt_NotUsable ?xk_NotUsable ?xi_NotUsable ?xj_NotUsable ?bo_NotUsable ?il_NotUsable ?ic_NotUsable ?ia_NotUsable ?ib_NotUsable ?cl1_NotUsable ?cd1_NotUsable ?v2_NotUsable ?fi_NotUsable ?mr_NotUsable ?sv_NotUsable ?sp_NotUsable ?n1_NotUsable ?n2_NotUsable ?ev_NotUsable ?eg_NotUsable ?eh_NotUsable ?ed_NotUsable ?ea_NotUsable ?em_NotUsable ?m_NotUsable_StepError ?kit_NotUsable_InvalidPaper ?kit_NotUsable_InvalidRow ?kit_NotUsable_InvalidText ?kit_NotUsable_NotUsable ?kit_NotUsable_PaperError ?kit_NotUsable_ProgramError ?kit_NotUsable_SessionError ?kit_NotUsable_TextError ?fno_NotUsable_at ?fno_NotUsable_field ?fno_NotUsable_line ?fno_NotUsable_word ?en_ ?et_)
    (case a0 => k_is)
    (case l0 => k_is)
    (case c0 => k_is)
    (case k0 => k_is)
    (case a1 => k_is)
    (case l1 => k_is)
    (case c1 => k_is)
    (case k1 => k_is)
    (case a2 => k_is)
    (case l2 => k_is)
    (case c2 => k_is)
    (case k2 => k_is)
    (case a3 => k_is)
    (case l3 => k_is)
    (case c3 => k_is)
    (case k3 => k_is)
    (case a4 => k_is)
    (case l4 => k_is)
    (case c4 => k_is)
    (case k4 => k_is)
    (case a5 => k_is)
    (case l5 => k_is)
    (case c5 => k_is)
    (case k5 => k_is)
    (case a6 => k_is)
    (case l6 => k_is)
    (case c6 => k_is)
    (case k6 => k_is)
    (case a7 => k_is)
    (case l7 => k_is)
    (case c7 => k_is)
    (case k7 => k_is)
    (case a8 => k_is)
    (case l8 => k_is)
    (case c8 => k_is)
    (case k8 => k_is)
    (case a9 => k_is)
    (case l9 => k_is)
    (case c9 => k_is)
    (case k9 => k_is)
    (case a10 => k_is)
    (case l10 => k_is)
    (case c10 => k_is)
    (case k10 => k_is)
    (case a11 => k_is)
    (case l11 => k_is)
    (case c11 => k_is)
    (case k11 => k_is)
    (case a12 => k_is)
    (case l12 => k_is)
    (case c12 => k_is)
    (case k12 => k_is)
    (case a13 => k_is)
    (case l13 => k_is)
    (case c13 => k_is)
    (case k13 => k_is)
    (case lq13 => k_is)
    (case vt13 => rfl)
    (case ti13 => kernel_rfl)
    (case tk13 => kernel_rfl)
    (case a14 => k_is)
    (case l14 => k_is)
    (case c14 => k_is)
    (case k14 => k_is)
    (case z_int => k_is)
    (case z_isinstance => k_is)
    (case z_len => k_is)
    (case z_list => k_is)
    (case z_range => k_is)
    (case z_repr => k_is)
    (case z_set => k_is)
    (case z_sorted => k_is)
    (case z_str => k_is)
    (case z_tuple => k_is)
    (case g_NO_CALL => k_is)
    (case gc_StepError => k_is)
    (case gc_PaperError => k_is)
    (case gc_ProgramError => k_is)
    (case gc_SessionError => k_is)
    (case gc_TextError => k_is)
    (case gc_InvalidPaper => k_is)
    (case gc_NotUsable => k_is)
    (case gc_InvalidText => k_is)
    (case gc_InvalidRow => k_is)
    (case zsup => k_is)
    (case opq => k_is)
    (case top_ => rfl)
    (case xl_NotUsable => k_is)
    (case xv_NotUsable => decide +kernel)
    (case sa_NotUsable => k_is)
    (case xe_NotUsable => k_is)
    (case xt_NotUsable => k_is)
    (case xk_NotUsable => k_is)
    (case xi_NotUsable => k_is)
    (case xj_NotUsable => k_is)
    (case bo_NotUsable => rfl)
    (case il_NotUsable => k_is)
    (case ic_NotUsable => k_is)
    (case ia_NotUsable => rfl)
    (case ib_NotUsable => rfl)
    (case cl1_NotUsable => k_is)
    (case cd1_NotUsable => k_is)
    (case v2_NotUsable => rfl)
    (case fi_NotUsable => decide +kernel)
    (case mr_NotUsable => k_is)
    (case sv_NotUsable => k_is)
    (case sp_NotUsable => kernel_rfl)
    (case n1_NotUsable => k_is)
    (case n2_NotUsable => k_is)
    (case ev_NotUsable => exact fun _ => rfl)
    (case eg_NotUsable => k_is)
    (case eh_NotUsable => k_is)
    (case ed_NotUsable => k_is)
    (case ea_NotUsable => k_is)
    (case em_NotUsable => k_is)
    (case m_NotUsable_StepError => kernel_rfl)
    (case kit_NotUsable_InvalidPaper => kernel_rfl)
    (case kit_NotUsable_InvalidRow => kernel_rfl)
    (case kit_NotUsable_InvalidText => kernel_rfl)
    (case kit_NotUsable_NotUsable => kernel_rfl)
    (case kit_NotUsable_PaperError => kernel_rfl)
    (case kit_NotUsable_ProgramError => kernel_rfl)
    (case kit_NotUsable_SessionError => kernel_rfl)
    (case kit_NotUsable_TextError => kernel_rfl)
    (case fno_NotUsable_at => k_is)
    (case fno_NotUsable_field => k_is)
    (case fno_NotUsable_line => k_is)
    (case fno_NotUsable_word => k_is)
    (case en_ => k_is)
    (case et_ => k_is)
    letI := Yk06.nmOf T
    have e := hmg.symm.trans T.p_law.g
    cases e
    have h__law_right := PySem.W.tab_of (x := "_law_right") TT KX rfl T.ti__law_right
    exact ⟨⟨Yk06.nmOf T, T.d_law, Yk06.csOf T, rfl, (fun p hp => by simp only [Yk06.csOf, List.mem_cons, List.not_mem_nil, or_false] at hp; rcases hp with rfl <;> first | exact h__law_right.2), (fun p hp => by simp only [Yk06.csOf, List.mem_cons, List.not_mem_nil, or_false] at hp; rcases hp with rfl <;> first | exact T.tk__law_right), (fun p hp => by simp only [Yk06.csOf, List.mem_cons, List.not_mem_nil, or_false] at hp; rcases hp with rfl <;> first | exact h__law_right.1), fun s u => B.binds1 T.p_law.F s u, fun base _ _ hB => Yk06.ok_law T hB⟩⟩
